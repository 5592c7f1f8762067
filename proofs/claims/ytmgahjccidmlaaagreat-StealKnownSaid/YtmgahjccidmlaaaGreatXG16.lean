import Derived.Test.YtmgahjccidmlaaaGreatXG15
set_option linter.unusedSimpArgs false
set_option linter.unusedVariables false
section
namespace Go.Am.F06
def memNF(step:MemSt→List AV→Option ((Nat→AV) × MemSt × Nat × List AV)):AFun Ob:=fun args m =>
 match args with
 | .ptr i 0 :: rest=>match m[i]? with
  | some (.abs (.mem s))=>match step s rest with
   | some (mk,s',sz,L)=>some (mk m.length,m.set i (.abs (.mem s'))++[.cells sz false L])
   | none=>none
  | _=>none
 | _=>none
theorem memN_fold{f:AFun Ob} {step:MemSt→List AV→Option ((Nat→AV) × MemSt × Nat × List AV)} (h:∀ (m:MM) (i:Nat) (rest:List AV) (s s':MemSt) (mk:Nat→AV) (sz:Nat) (L:List AV),i < m.length→step s rest=some (mk,s',sz,L) →
  (∀ ρ,AV.renL ρ L=some L)∧∃ v0 mh k1 k2 q,f (.ptr i 0 :: rest) (m.set i (plM (.mem s) i m.length).1++(plM (.mem s) i m.length).2)=some (v0,mh)∧AV.ren (rhoN m.length q) v0=some (mk m.length)∧m.length≤q∧q≠k1∧q≠k2∧mh[q]?=some (.cells sz false L) ∧
   m.length≤mh.length∧(∀ j,j < m.length→j≠i→mh[j]?=m[j]?)∧m.length≤k1∧m.length≤k2∧k1≠k2∧MemAt mh i k1 k2 s') :
  Fold concM (unf 0 plM f) (memNF step):=by
 intro args m v m' hg
 unfold memNF at hg
 split at hg
 case h_2=>cases hg
 rename_i i rest
 split at hg
 case h_2=>cases hg
 rename_i s hs
 split at hg
 case h_2=>cases hg
 rename_i mk s' sz L hst
 simp only[Option.some.injEq,Prod.mk.injEq] at hg
 obtain⟨rfl,rfl⟩:=hg
 have hi:i < m.length:=(List.getElem?_eq_some_iff.1 hs).1
 obtain⟨hL,v0,mh,k1,k2,q,h1,hv,hq,hq1,hq2,hqc,h2,h3,h4,h5,h6,h7⟩:=h m i rest s s' mk sz L hi hst
 exact fold_memN hi (by simp only[unf,List.getElem?_cons_zero,hs];exact h1) hv hq hq1 hq2 hqc hL h3 h4 h5 h6 h7
set_option maxHeartbeats 4000000 in
theorem clone_nil{M:MM} {q o:Nat} {cap:Option Nat}:c_slices_Clone_uint64 [.sl q o 0 cap] M=some (.sl M.length 0 0 (some 0),M++[.cells 1 false []]):=by
 refine Fn_eq (Fn_of rfl ?_)
 have hlit:∀ M:MM,amOp [] (.lit 0 1 [.int .u64 0] []) [] M=some (.sl M.length 0 0 (some 0),M++[.cells 1 false []]):=fun M=>rfl
 have ha:∀ M2:MM,appendA 1 8 (.sl M.length 0 0 (some 0)) (.sl q o 0 cap) M2=some (.sl M.length 0 0 (some 0),M2):=fun M2=>by simp[appendA,lenA,rowOf]
 simp(disch:=first|assumption|omega|(simp only[zl]<;>omega)|(simp only[zn])) only[slices_Clone_uint64,↓zd,zk,seval,reduceIte,List.map,AV.cells,List.all,AV.one,eqV,eqAll,splice,fillA,List.replicate,resAll,resA,hlit,evA,ha]
set_option maxHeartbeats 4000000 in
theorem clone_run{M:MM} {q:Nat} {cap:Option Nat} {xs:List Int} (hq:M[q]?=some (.cells 1 false (uC xs))) (hx:xs≠[]) (hn:xs.length≤65536) :
  c_slices_Clone_uint64 [.sl q 0 xs.length cap] M=some (.sl (M.length+1) 0 xs.length none,M++[.cells 1 false [],.cells 1 false (uC xs)]):=by
 refine Fn_eq (Fn_of rfl ?_)
 have hlit:∀ M:MM,amOp [] (.lit 0 1 [.int .u64 0] []) [] M=some (.sl M.length 0 0 (some 0),M++[.cells 1 false []]):=fun M=>rfl
 have h0:xs.length≠0:=fun h=>hx (List.length_eq_zero_iff.1 h)
 have hul:(uC xs).length=xs.length:=by simp[uC]
 have hone:(uC xs).all AV.one=true:=by simp[uC,AV.one]
 have hq':(M++[Chunk.cells 1 false []])[q]?=some (.cells 1 false (uC xs)):=by rw[List.getElem?_append_left (List.getElem?_eq_some_iff.1 hq).1];exact hq
 have ha:appendA 1 8 (.sl M.length 0 0 (some 0)) (.sl q 0 xs.length cap) (M++[Chunk.cells 1 false []])=some (.sl (M.length+1) 0 xs.length none,M++[.cells 1 false [],.cells 1 false (uC xs)]):=by
  have hrow:rowOf (M++[Chunk.cells 1 false []]) 1 (.sl q 0 xs.length cap)=some (uC xs):=by
   simp only[rowOf,getC,hq']
   rw[if_neg h0,if_pos (by omega),List.drop_zero,List.take_of_length_le (by omega)]
  simp only[appendA,lenA,hrow]
  rw[if_neg h0,if_neg (by omega)]
  simp only[rowOf,if_true,List.nil_append]
  rw[if_pos ⟨by omega,by omega,hone⟩]
  simp
 simp(disch:=first|assumption|omega|(simp only[zl]<;>omega)|(simp only[zn])) only[slices_Clone_uint64,↓zd,zk,seval,reduceIte,List.map,AV.cells,List.all,AV.one,eqV,eqAll,splice,fillA,List.replicate,resAll,resA,hlit,evA,ha]
theorem rhoN_q{n q:Nat} (h:n≤q):rhoN n q q=some n:=by unfold rhoN;rw[if_neg (by omega),if_pos rfl]
def allS(s:MemSt):List AV→Option ((Nat→AV) × MemSt × Nat × List AV)
 | []=>if s.cells.length≤65536 then some (fun n=>if s.cells=[] then .sl n 0 0 (some 0) else .sl n 0 s.cells.length none,s,1,uC s.cells) else none
 | _=>none
set_option maxHeartbeats 4000000 in
theorem all_fold:Fold concM (unf 0 plM c_cell_Mem_All) (memNF allS):=memN_fold fun m i rest s s' mk sz L hi hst=>by
 unfold allS at hst
 split at hst
 case h_2=>cases hst
 split at hst
 case isFalse=>cases hst
 rename_i hn
 simp only[Option.some.injEq,Prod.mk.injEq] at hst
 obtain⟨rfl,rfl,rfl,rfl⟩:=hst
 refine⟨fun ρ=>renL_map (f:=AV.int .u64) (fun _=>rfl) _,?_⟩
 have hr:=ms_root hi (m:=m)
 have hr7:∀ (s:MemSt) lv cv,(rootL s lv cv)[7]?=some cv:=fun _ _ _=>rfl
 have h61:assoc [(61,(c_slices_Clone_uint64:AFun Ob))] 61=some c_slices_Clone_uint64:=rfl
 have hpl1:(plM (.mem s) i m.length).1 = .cells 8 false (rootL s (lvA (m.length+1) s) (cvA i m.length s)):=rfl
 have hp:=pl_len (m:=m) (i:=i) s
 by_cases h0:s.cells=[]
 ·have hcv:cvA i m.length s = .sl i 0 0 (some 0):=if_pos h0
  have hrun:Fn [(61,c_slices_Clone_uint64)] cell_Mem_All [.ptr i 0] (m.set i (plM (.mem s) i m.length).1++(plM (.mem s) i m.length).2) (fun v M=>v = .sl (m.length+2) 0 0 (some 0)∧M=m.set i (plM (.mem s) i m.length).1++((plM (.mem s) i m.length).2++[.cells 1 false []])):=by
   refine Fn_of rfl ?_
   simp(disch:=first|assumption|omega|(simp only[zl]<;>omega)|(simp only[zn])) only[cell_Mem_All,↓zd,zk,seval,reduceIte,List.map,AV.cells,List.all,AV.one,eqV,eqAll,splice,fillA,List.replicate,resAll,resA,hpl1,hr,hr7,hcv,h61,clone_nil]
   simp[hp]
  obtain⟨_,_,h1,rfl,rfl⟩:=hrun
  refine⟨_,_,m.length,m.length+1,m.length+2,h1,by simp[AV.ren,rhoN_q,h0],by omega,by omega,by omega,by rw[ms_mid,h0];rfl,by simp,fun j hj hji=>ms_other hj hji _ _,by omega,by omega,by omega,⟨⟨_,ms_root hi _ _,.inl rfl⟩,fun _=>by rw[ms_mid0];rfl,fun _=>by rw[ms_mid];rfl⟩⟩
 ·have hcv:cvA i m.length s = .sl m.length 0 s.cells.length (if s.ck then some s.cells.length else none):=if_neg h0
  have hcl:=clone_run (M:=m.set i (plM (.mem s) i m.length).1++(plM (.mem s) i m.length).2) (q:=m.length) (cap:=if s.ck then some s.cells.length else none) (xs:=s.cells) (by rw[ms_mid0];rfl) h0 hn
  have hrun:Fn [(61,c_slices_Clone_uint64)] cell_Mem_All [.ptr i 0] (m.set i (plM (.mem s) i m.length).1++(plM (.mem s) i m.length).2) (fun v M=>v = .sl (m.length+3) 0 s.cells.length none∧M=m.set i (plM (.mem s) i m.length).1++((plM (.mem s) i m.length).2++[.cells 1 false [],.cells 1 false (uC s.cells)])):=by
   refine Fn_of rfl ?_
   rw[hpl1,hcv] at hcl
   simp(disch:=first|assumption|omega|(simp only[zl]<;>omega)|(simp only[zn])) only[cell_Mem_All,↓zd,zk,seval,reduceIte,List.map,AV.cells,List.all,AV.one,eqV,eqAll,splice,fillA,List.replicate,resAll,resA,hpl1,hr,hr7,hcv,h61,hcl]
   simp[hp]
  obtain⟨_,_,h1,rfl,rfl⟩:=hrun
  refine⟨_,_,m.length,m.length+1,m.length+3,h1,by simp[AV.ren,rhoN_q,h0],by omega,by omega,by omega,by rw[ms_mid];rfl,by simp,fun j hj hji=>ms_other hj hji _ _,by omega,by omega,by omega,⟨⟨_,ms_root hi _ _,.inl rfl⟩,fun _=>by rw[ms_mid0];rfl,fun _=>by rw[ms_mid];rfl⟩⟩
end Go.Am.F06
end
section
namespace Go.Am.F06
def newSt(n:Int):MemSt:={ cells:=List.replicate (max 0 (min n 65536)).toNat 0,ck:=true,ops:=0,loads:=0,stores:=0,swaps:=0,fails:=0,adds:=0,log:=[],pre:=[] }
def newF:AFun Ob:=fun args m=>match args with
 | [.int .i64 n]=>some (.ptr m.length 0,m++[.abs (.mem (newSt n))])
 | _=>none
set_option maxHeartbeats 4000000 in
theorem new_fold:Fold concM c_cell_New newF:=by
 intro args m v m' hg
 unfold newF at hg
 split at hg
 case h_2=>cases hg
 rename_i n
 simp only[Option.some.injEq,Prod.mk.injEq] at hg
 obtain⟨rfl,rfl⟩:=hg
 have hrun:Fn [] cell_New [.int .i64 n] m (fun v M=>v = .ptr (m.length+1) 0∧M=m++[.cells 1 false (uC (newSt n).cells),.cells 8 false (rootL (newSt n) .nils (.sl m.length 0 (newSt n).cells.length (some (newSt n).cells.length)))]):=by
  refine Fn_of rfl ?_
  have hK:(if (if 65536 < n then 65536 else n) > 0 then if 65536 < n then 65536 else n else 0)=max 0 (min n 65536):=by split<;>split<;>omega
  have hk0:0≤max 0 (min n 65536)∧max 0 (min n 65536)≤65536:=by omega
  have hrep:repeatL (max 0 (min n 65536)).toNat [AV.int .u64 0]=uC (newSt n).cells:=by simp[repeatL,uC,newSt]
  have hcl:(newSt n).cells.length=(max 0 (min n 65536)).toNat:=by simp[newSt]
  have hmk:amOp [] (.make 1 8 [.int .u64 0]) [.int .i64 (max 0 (min n 65536)),.int .i64 (max 0 (min n 65536))] m=some (.sl m.length 0 (max 0 (min n 65536)).toNat (some (max 0 (min n 65536)).toNat),m++[.cells 1 false (uC (newSt n).cells)]):=by
   simp only[amOp,hrep]
   rw[if_pos (by omega)]
  simp(disch:=first|assumption|omega|(simp only[zl]<;>omega)|(simp only[zn])) only[cell_New,↓zd,zk,seval,reduceIte,List.map,AV.cells,List.all,AV.one,eqV,eqAll,splice,fillA,List.replicate,resAll,resA,zm,hK,hmk,hcl,rootL,newSt]
  simp
 obtain⟨_,_,h1,rfl,rfl⟩:=hrun
 refine fold_new (q:=m.length+1) (k1:=m.length) (k2:=m.length+2) h1 (by simp[AV.ren,rhoN_q]) (by omega) (by omega) (by omega) (fun j hj=>List.getElem?_append_left hj) (by omega) (by omega) (by omega) ⟨?_,fun _=>?_,fun h=>absurd rfl h⟩
 ·by_cases h0:(newSt n).cells=[]
  ·refine⟨_,by rw[get_mid];rfl,.inr ⟨h0,m.length,0,?_⟩⟩
   rw[h0];rfl
  ·refine⟨_,by rw[get_mid];rfl,.inl ?_⟩
   rw[cvA,if_neg h0];rfl
 ·rw[get_mid0];rfl
end Go.Am.F06
end
section
namespace Go.Am.F06
end Go.Am.F06
end
section
namespace Go.Am.F06
theorem set_same{m:MM} {i:Nat} {c:Chunk Ob} (h:m[i]?=some c):m.set i c=m:=by
 apply List.ext_getElem?
 intro j
 by_cases hj:i=j
 ·subst hj;rw[List.getElem?_set_self (List.getElem?_eq_some_iff.1 h).1,h]
 ·rw[List.getElem?_set_ne hj]
end Go.Am.F06
end
section
namespace Go.Am.F06
def cellsOf(n:Nat) (es:List Acc):List Int:=es.foldl (fun c e=>c.set e.at'.toNat e.new) (List.replicate n 0)
theorem cellsOf_nil(n:Nat):cellsOf n []=List.replicate n 0:=rfl
theorem cellsOf_len(n:Nat) (es:List Acc):(cellsOf n es).length=n:=by
 have:∀ (es:List Acc) (c:List Int),(es.foldl (fun c e=>c.set e.at'.toNat e.new) c).length=c.length:=by
  intro es
  induction es with
  | nil=>intro c;rfl
  | cons e es ih=>intro c;rw[List.foldl_cons,ih,List.length_set]
 rw[cellsOf,this,List.length_replicate]
section
variable {X:Type}
abbrev SA(m:Mem X) (wr:Bool) (es:List Acc) (v:AV):Prop:=Sl m wr 4 es.length (es.flatMap accC) v
theorem SA.get{m:Mem X} {wr:Bool} {es:List Acc} {v:AV} (h:SA m wr es v) {i:Nat} {e:Acc} (he:es[i]?=some e):∃ q o cap ro L,v = .sl q o es.length cap∧m[q]?=some (.cells 4 ro L)∧(wr=true→ro=false)∧i < es.length∧o+i * 4+4≤L.length ∧
  (L.drop (o+i * 4)).take 4=accC e∧L[o+i * 4]?=some (.int .i64 e.kind)∧L[o+i * 4+1]?=some (.int .i64 e.at')∧L[o+i * 4+2]?=some (.int .u64 e.old)∧L[o+i * 4+3]?=some (.int .u64 e.new):=by
 have hi:i < es.length:=(List.getElem?_eq_some_iff.1 he).1
 obtain⟨q,o,cap,ro,L,rfl,h2,h3,h4,h5⟩:=h.at (by omega)
 have hp:=rows_part (f:=accC) (sz:=4) (fun _=>rfl) he
 have hL:∀ k,k < 4→L[o+i * 4+k]?=(accC e)[k]?:=by
  intro k hk
  rw[Nat.add_assoc,sl_get h3 (by omega),rows_at (f:=accC) (sz:=4) (fun _=>rfl) he hk]
 refine⟨q,o,cap,ro,L,rfl,h2,h5,hi,by omega,?_,hL 0 (by omega),hL 1 (by omega),hL 2 (by omega),hL 3 (by omega)⟩
 apply List.ext_getElem?
 intro k
 by_cases hk:k < 4
 ·rw[List.getElem?_take,if_pos hk,List.getElem?_drop,hL k hk]
 ·rw[List.getElem?_eq_none (by simp;omega),List.getElem?_eq_none (by simp[accC];omega)]
theorem own_keep{m J:Mem X} {sz n:Nat} {l:List AV} {v:AV} (h:Own m (m++J) sz n l v) (K:Mem X):Own m (m++(J++K)) sz n l v:=by
 rcases h with h|⟨q,h1,h2,h3,h4⟩
 ·exact .inl h
 ·refine .inr ⟨q,h1,?_,h3,?_⟩
  ·rw[← List.append_assoc,List.getElem?_append_left h4];exact h2
  ·simp at h4 ⊢;omega
def Nc(v:AV):Prop:=v = .nils∨∃ q o n,v = .sl q o (n+1) none
theorem SA.more{M:Mem X} {wr:Bool} {es:List Acc} {v:AV} (h:SA M wr es v) (hn:es.length≤1000) (e:Acc):∃ r1 M1 r2 M2,appendA 4 32 .nils v M=some (r1,M1)∧Keep M M1 ∧
  appendA 4 32 r1 (.sl M1.length 0 1 (some 1)) (M1++[.cells 4 false (accC e)])=some (r2,M2)∧Keep M M2∧SA M2 true (es++[e]) r2∧Fr M.length r2∧Nc r2:=by
 have h1:∃ r J,appendA 4 32 .nils v M=some (r,M++J)∧Own M (M++J) 4 es.length (es.flatMap accC) r:=by
  rcases Nat.eq_zero_or_pos es.length with h0|h0
  ·have hx0:es=[]:=List.length_eq_zero_iff.1 h0
   subst hx0
   refine⟨.nils,[],?_,own_nil⟩
   rcases h.2 with⟨rfl,_⟩|⟨q,o,cap,rfl,_⟩<;>simp[appendA,lenA,rowOf]
  ·obtain⟨q,o,cap,ro,L,rfl,h2,h3,h4,_⟩:=h.at h0
   have hr:rowOf M 4 (.sl q o es.length cap)=some (es.flatMap accC):=by
    simp only[rowOf,getC,h2]
    rw[if_neg (by omega),if_pos h4,h3]
   refine⟨.sl M.length 0 es.length none,[.cells 4 false (es.flatMap accC)],?_,.inr ⟨M.length,rfl,by simp,Nat.le_refl _,by simp⟩⟩
   simp only[appendA,lenA,hr]
   rw[if_neg (by omega),if_pos ⟨by omega,by omega,accs_one _⟩]
 obtain⟨r,J,h1,h2⟩:=h1
 obtain⟨q',J',h3,h4⟩:=own_app (bytes:=32) (c:=some 1) (own_keep h2 [.cells 4 false (accC e)]) (accs_len es) (accs_one es) (j:=(M++J).length) (sz':=4) (ro:=false) (x:=accC e) (by rw[← List.append_assoc,get_concat]) rfl rfl (by omega) (by omega)
 refine⟨r,M++J,_,_,h1,Keep.app M J,by rw[List.append_assoc];exact h3,Keep.app M J',?_⟩
 have:=h4.sl (by rw[List.length_append,accs_len];simp[accC];omega)
 refine⟨?_,this.2,.inr ⟨_,_,_,rfl⟩⟩
 rw[SA,List.length_append,List.flatMap_append]
 simpa using this.1
def doE(n:Nat) (es:List Acc) (kind a old x:Int):Option Acc :=
 if a < 0∨(n:Int)≤a∨kind < 1∨4 < kind then none
 else some ⟨kind,a,(cellsOf n es).getD a.toNat 0,if kind=2∨(kind=3∧(cellsOf n es).getD a.toNat 0=old) then x else if kind=4 then IntKind.u64.wrap ((cellsOf n es).getD a.toNat 0+x) else(cellsOf n es).getD a.toNat 0⟩
theorem SA.one{m:Mem X} {wr:Bool} {es:List Acc} {v:AV} (h:SA m wr es v):v.one=true:=by
 rcases h.2 with⟨h,_⟩|⟨q,o,cap,h,_⟩<;>rw[h]<;>rfl
theorem Fr.one{n:Nat} {v:AV} (h:Fr n v):v.one=true∧v.cells=[v]:=by
 rcases h with h|⟨q,o,k,cap,h,_⟩<;>rw[h]<;>exact⟨rfl,rfl⟩
def sqN:Nat→AC→AC
 | 0,.seq a _=>a
 | n+1,.seq _ b=>sqN n b
 | _,c=>c
def sqT:Nat→AC→AC
 | 0,c=>c
 | n+1,.seq _ b=>sqT n b
 | _,c=>c
end
end Go.Am.F06
end
section
namespace Go.Am.F06
def KeepB{X:Type} (k:Nat) (m m':Mem X):Prop:=m.length≤m'.length∧∀ i,i < m.length→i≠k→m'[i]?=m[i]?
section
variable {X:Type} {k:Nat}
theorem KeepB.refl(m:Mem X):KeepB k m m:=⟨Nat.le_refl _,fun _ _ _=>rfl⟩
theorem KeepB.trans{m m' m'':Mem X} (h:KeepB k m m') (j:KeepB k m' m''):KeepB k m m'' :=
 ⟨Nat.le_trans h.1 j.1,fun i hi hk=>(j.2 i (Nat.lt_of_lt_of_le hi h.1) hk).trans (h.2 i hi hk)⟩
theorem KeepB.of{m m':Mem X} (h:Keep m m'):KeepB k m m':=⟨h.1,fun i hi _=>h.2 i hi⟩
theorem KeepB.app(m J:Mem X):KeepB k m (m++J):=.of (Keep.app m J)
theorem KeepB.at(m:Mem X) (c:Chunk X):KeepB k m (m.set k c):=⟨by simp,fun i hi hk=>by rw[List.getElem?_set_ne (fun h=>hk h.symm)]⟩
theorem KeepB.set{m m':Mem X} (h:KeepB k m m') {q:Nat} (hq:m.length≤q) (c:Chunk X):KeepB k m (m'.set q c) :=
 ⟨by simpa using h.1,fun i hi hk=>by rw[List.getElem?_set_ne (by omega)];exact h.2 i hi hk⟩
theorem KeepB.get{m m':Mem X} (h:KeepB k m m') {i:Nat} {c:Chunk X} (hi:m[i]?=some c) (hk:i≠k):m'[i]?=some c:=(h.2 i (List.getElem?_eq_some_iff.1 hi).1 hk).trans hi
theorem KeepB.sl{m m':Mem X} (h:KeepB k m m') {x:X} (hk:m[k]?=some (.abs x)) {wr:Bool} {sz n:Nat} {l:List AV} {v:AV} (hs:Sl m wr sz n l v):Sl m' wr sz n l v:=by
 refine⟨hs.1,?_⟩
 rcases hs.2 with h1|⟨q,o,cap,h1,h2⟩
 ·exact .inl h1
 ·refine .inr ⟨q,o,cap,h1,fun h0=>?_⟩
  obtain⟨ro,L,h3,h4⟩:=h2 h0
  refine⟨ro,L,h.get h3 (fun hq=>?_),h4⟩
  rw[hq,hk] at h3;injection h3 with h3;cases h3
end
def cnt(s:MemSt):List Int:=[s.loads,s.stores,s.swaps,s.fails,s.adds]
def stepL(n:Nat) (es:List Acc) (kind a old x:Int):List Acc:=match doE n es kind a old x with
 | none=>es
 | some e=>es++[e]
theorem memF_of{step:MemSt→List AV→Option (AV × MemSt)} {M:MM} {j:Nat} {s s':MemSt} {rest:List AV} {v:AV} (hM:M[j]?=some (.abs (.mem s))) (h:step s rest=some (v,s')):memF step (.ptr j 0 :: rest) M=some (v,M.set j (.abs (.mem s'))):=by
 simp only[memF,hM,h]
end Go.Am.F06
end
section
namespace Go.Am.F06
section
variable {X:Type}
abbrev SU(m:Mem X) (wr:Bool) (xs:List Int) (v:AV):Prop:=Sl m wr 1 xs.length (uC xs) v
theorem uC_len(xs:List Int):(uC xs).length=xs.length:=by simp[uC]
theorem uC_one(xs:List Int):(uC xs).all AV.one=true:=by simp[uC,AV.one]
theorem uC_set(xs:List Int) (i:Nat) (x:Int):(uC xs).set i (.int .u64 x)=uC (xs.set i x):=by simp[uC,List.map_set]
theorem SU.get{m:Mem X} {wr:Bool} {xs:List Int} {v:AV} (h:SU m wr xs v) {i:Nat} {x:Int} (hx:xs[i]?=some x):∃ q o cap ro L,v = .sl q o xs.length cap∧m[q]?=some (.cells 1 ro L)∧(wr=true→ro=false)∧i < xs.length∧o+i < L.length∧L[o+i]?=some (.int .u64 x):=by
 have hi:i < xs.length:=(List.getElem?_eq_some_iff.1 hx).1
 obtain⟨q,o,cap,ro,L,rfl,h2,h3,h4,h5⟩:=h.at (by omega)
 exact⟨q,o,cap,ro,L,rfl,h2,h5,hi,by omega,by rw[sl_get h3 (by omega)];simp[uC,hx]⟩
def Off(q:Nat) (v:AV):Prop:=∀ q' o n cap,v = .sl q' o n cap→0 < n→q'≠q
theorem KeepB.off{k:Nat} {m m':Mem X} (h:KeepB k m m') {wr:Bool} {sz n:Nat} {l:List AV} {v:AV} (ho:Off k v) (hs:Sl m wr sz n l v):Sl m' wr sz n l v:=by
 refine⟨hs.1,?_⟩
 rcases hs.2 with h1|⟨q,o,cap,h1,h2⟩
 ·exact .inl h1
 ·refine .inr ⟨q,o,cap,h1,fun h0=>?_⟩
  obtain⟨ro,L,h3,h4⟩:=h2 h0
  exact⟨ro,L,h.get h3 (ho _ _ _ _ h1 h0),h4⟩
def slq:AV→Nat
 | .sl q _ _ _=>q
 | _=>0
def ScI(M:Mem X) (xs:List Int) (l r:AV) (wr:Bool) (k:Nat) (e:List AV) (m:Mem X):Prop:=∃ (i:Nat) (xs':List Int) (x4 x5 x6:AV),
 e=[l,r,.bool false,.int .i64 i,x4,x5,x6]∧k=xs.length - i∧i≤xs.length∧KeepB (slq l) M m∧SU m true xs' l∧xs'.length=xs.length∧(∀ j,i≤j→xs'[j]?=xs[j]?)∧SU m wr xs r
set_option maxHeartbeats 2000000 in
theorem samecells_run{G:List (Nat × AFun X)} {M:Mem X} {wr:Bool} {xs:List Int} {l r:AV} (hl:SU M true xs l) (hr:SU M wr xs r) (ho:Off (slq l) r) (hx:xs.length≤65536) :
  Fn G docs_SameCells [l,r] M (fun v m'=>v = .bool true∧KeepB (slq l) M m'):=by
 have h1:=hl.len
 have h2:=hr.len
 refine Fn_of rfl ?_
 simp(disch:=first|assumption|omega|(simp only[zl]<;>omega)|(simp only[zn])) only[docs_SameCells,↓zd,zk,seval,reduceIte,List.map,AV.cells,List.all,AV.one,eqV,eqAll,splice,fillA,List.replicate,resAll,resA,ev_len,h1,h2]
 refine W_loop (ScI M xs l r wr) xs.length (by simp only[FUEL];omega) ⟨0,xs,_,_,_,rfl,rfl,by omega,KeepB.refl _,hl,rfl,fun _ _=>rfl,hr⟩ ?_
 rintro k e m' ⟨i,xs',x4,x5,x6,rfl,rfl,hi,hk,sl,hxl,hxe,sr⟩
 simp(disch:=first|assumption|omega|(simp only[zl]<;>omega)|(simp only[zn])) only[↓zd,zk,seval,reduceIte,List.map,AV.cells,List.all,AV.one,eqV,eqAll,splice,fillA,List.replicate,resAll,resA,ev_len,h1]
 refine CW_of (fun h=>?_) (fun h=>?_)
 ·simp only[decide_eq_true_eq] at h
  obtain⟨x,hxi⟩:∃ x,xs[i]?=some x:=⟨_,List.getElem?_eq_getElem (by omega)⟩
  have hxi':xs'[i]?=some x:=by rw[hxe i (Nat.le_refl _)];exact hxi
  obtain⟨q,o,cap,ro,L,rfl,b2,b3,b4,b5,b6⟩:=sl.get hxi'
  have:=b3 rfl;subst this
  obtain⟨q2,o2,cap2,ro2,L2,rfl,c2,c3,c4,c5,c6⟩:=sr.get hxi
  have hne:q2≠q:=ho _ _ _ _ rfl (by omega)
  simp(disch:=first|assumption|omega|(simp only[zl]<;>omega)|(simp only[zn])) only[↓zd,zk,seval,reduceIte,List.map,AV.cells,List.all,AV.one,eqV,eqAll,splice,fillA,List.replicate,resAll,resA,b2,b6,c2,c6]
  refine⟨_,by omega,i+1,xs'.set i (IntKind.u64.wrap (x+77)),_,_,_,rfl,rfl,by omega,hk.trans (KeepB.at _ _),?_,by simp[hxl],fun j hj=>by rw[List.getElem?_set_ne (by omega)];exact hxe j (by omega),(KeepB.at _ _).off ho sr⟩
  obtain⟨hlen,hsl⟩:=sl
  rcases hsl with⟨h,_⟩|⟨q',o',cap',h,h5⟩
  ·cases h
  ·injection h with e1 e2 e3 e4;subst e1;subst e2;subst e4
   obtain⟨ro,L',d1,d2,d3,d4⟩:=h5 (by omega)
   rw[b2] at d1;injection d1 with d1;injection d1 with _ _ d1;subst d1
   refine⟨by simp[uC_len],.inr ⟨q,o,cap,by rw[List.length_set],fun _=>⟨false,_,List.getElem?_set_self (List.getElem?_eq_some_iff.1 b2).1,?_,by simpa using d3,fun _=>rfl⟩⟩⟩
   rw[List.length_set,List.drop_set,if_neg (by omega),List.take_set,d2,← uC_set]
   congr 1;omega
 ·simp only[decide_eq_false_iff_not] at h
  simp(disch:=first|assumption|omega|(simp only[zl]<;>omega)|(simp only[zn])) only[↓zd,zk,seval,reduceIte,List.map,AV.cells,List.all,AV.one,eqV,eqAll,splice,fillA,List.replicate,resAll,resA]
  exact hk
end
theorem sl_off{X:Type} {m:Mem X} {wr:Bool} {sz n:Nat} {l:List AV} {v:AV} (h:Sl m wr sz n l v) {q:Nat} (hq:m.length≤q):Off q v:=by
 intro q' o' n' c' hv h0
 rcases h.2 with⟨h1,_⟩|⟨q2,o2,c2,h1,h2⟩
 ·rw[h1] at hv;cases hv
 ·rw[h1] at hv;injection hv with e1 e2 e3 e4;subst e1;subst e3
  obtain⟨ro,L,h3,_⟩:=h2 h0
  have:=(List.getElem?_eq_some_iff.1 h3).1
  omega
theorem len_of{M:MM} {j:Nat} {s:MemSt} (hM:M[j]?=some (.abs (.mem s))):memF (fun s rest=>(lenAsk s rest).map fun v=>(v,s)) [.ptr j 0] M=some (.int .i64 s.cells.length,M):=by
 simp only[memF,hM,lenAsk,Option.map_some,set_same hM]
theorem ops_of{M:MM} {j:Nat} {s:MemSt} (hM:M[j]?=some (.abs (.mem s))):memF (fun s rest=>(opsAsk s rest).map fun v=>(v,s)) [.ptr j 0] M=some (.int .u64 s.ops,M):=by
 simp only[memF,hM,opsAsk,Option.map_some,set_same hM]
theorem all_of{M:MM} {j:Nat} {s:MemSt} (hM:M[j]?=some (.abs (.mem s))) (hn:s.cells.length≤65536):∃ l,memNF allS [.ptr j 0] M=some (l,M++[.cells 1 false (uC s.cells)])∧SU (M++[.cells 1 false (uC s.cells)]) true s.cells l∧slq l=M.length:=by
 simp only[memNF,hM,allS,if_pos hn,set_same hM]
 refine⟨_,rfl,?_⟩
 by_cases h:s.cells=[]
 ·rw[if_pos h]
  exact⟨⟨by rw[uC_len];omega,.inr ⟨_,_,_,by rw[h];rfl,fun h0=>by rw[h] at h0;cases h0⟩⟩,rfl⟩
 ·rw[if_neg h]
  exact⟨⟨by rw[uC_len];omega,.inr ⟨_,_,_,rfl,fun h0=>⟨false,_,by rw[get_concat],by rw[List.drop_zero,Nat.mul_one,← uC_len,List.take_length],by rw[uC_len];omega,fun _=>rfl⟩⟩⟩,rfl⟩
end Go.Am.F06
end
section
namespace Go.Am.F06
def Cc(m:MM) (i:Nat) (s:MemSt) (M:MM):Prop:=∃ lv L,M=m.set i (.cells 8 false (rootL s lv (cvA i m.length s)))++L∧(∀ R,LogAt m.length (m.set i R++L) lv s)∧L[0]?=some (.cells 1 false (uC s.cells))
theorem logAt_app{m L:MM} {i:Nat} {s:MemSt} {lv:AV} (h:∀ R,LogAt m.length (m.set i R++L) lv s) (K:MM):∀ R,LogAt m.length (m.set i R++(L++K)) lv s:=by
 intro R
 rcases h R with h|⟨k2,h0,h1,h2,h3⟩
 ·exact .inl h
 ·exact .inr ⟨k2,h0,h1,h2,by rw[← List.append_assoc,List.getElem?_append_left (List.getElem?_eq_some_iff.1 h3).1];exact h3⟩
theorem get0_app{α:Type} {L K:List α} {c:α} (h:L[0]?=some c):(L++K)[0]?=some c:=by
 rw[List.getElem?_append_left (List.getElem?_eq_some_iff.1 h).1];exact h
theorem Cc.app{m M:MM} {i:Nat} {s:MemSt} (h:Cc m i s M) (K:MM):Cc m i s (M++K):=by
 obtain⟨lv,L,rfl,h1,h2⟩:=h
 exact⟨lv,L++K,by rw[List.append_assoc],logAt_app h1 K,get0_app h2⟩
def okR(s:MemSt) (e:Acc):Prop:=0≤e.at'∧e.at' < s.cells.length∧s.cells.getD e.at'.toNat 0=e.old∧(e.kind=1→e.new=e.old)∧1≤e.kind∧e.kind≤4
instance (s:MemSt) (e:Acc):Decidable (okR s e):=by unfold okR;infer_instance
theorem Cc.cells{m M:MM} {i:Nat} {s:MemSt} (h:Cc m i s M):M[m.length]?=some (.cells 1 false (uC s.cells)):=by
 obtain⟨lv,L,rfl,h1,h2⟩:=h
 rw[ms_mid0];exact h2
theorem Cc.root{m M:MM} {i:Nat} (hi:i < m.length) {s:MemSt} (h:Cc m i s M):∃ lv,M[i]?=some (.cells 8 false (rootL s lv (cvA i m.length s))):=by
 obtain⟨lv,L,rfl,h1,h2⟩:=h
 exact⟨lv,ms_root hi _ _⟩
theorem Cc.keep{m M:MM} {i:Nat} {s:MemSt} (h:Cc m i s M):KeepB i m M:=by
 obtain⟨lv,L,rfl,h1,h2⟩:=h
 exact(KeepB.at m _).trans (KeepB.app _ _)
end Go.Am.F06
end
section
namespace Go.Am.F06
def badE(n:Nat) (es:List Acc) (e:Acc):Prop:=e.kind < 1∨4 < e.kind∨e.at' < 0∨(n:Int)≤e.at'∨(cellsOf n es).getD e.at'.toNat 0≠e.old∨(e.kind=1∧e.new≠e.old)
instance (n:Nat) (es:List Acc) (e:Acc):Decidable (badE n es e):=by unfold badE;infer_instance
section
variable {X:Type}
end
end Go.Am.F06
end
section
namespace Go.Am.F06
section
variable {X:Type}
def bN(n:Int):Nat:=(max 0 (min n 65536)).toNat
theorem bN_le(n:Int):bN n≤65536:=by unfold bN;omega
end
end Go.Am.F06
end
section
namespace Go.Am.F06
section
variable {X:Type}
theorem slOne{m:Mem X} {wr:Bool} {sz n:Nat} {l:List AV} {v:AV} (h:Sl m wr sz n l v):v.one=true:=by
 rcases h.2 with⟨h,_⟩|⟨q,o,cap,h,_⟩<;>rw[h]<;>rfl
def memC(v:AV) (o:Int):List AV:=[v,.int .u64 o]
theorem SU.clone{M:Mem X} {wr:Bool} {xs:List Int} {v:AV} (h:SU M wr xs v) (hn:xs.length≤65536):∃ r J,appendA 1 8 .nils v M=some (r,M++J)∧SU (M++J) true xs r∧Fr M.length r∧Nc r:=by
 rcases Nat.eq_zero_or_pos xs.length with h0|h0
 ·have hx0:xs=[]:=List.length_eq_zero_iff.1 h0
  subst hx0
  refine⟨.nils,[],?_,Sl.nil,.inl rfl,.inl rfl⟩
  rcases h.2 with⟨rfl,_⟩|⟨q,o,cap,rfl,_⟩<;>simp[appendA,lenA,rowOf]
 ·obtain⟨q,o,cap,ro,L,rfl,h2,h3,h4,_⟩:=h.at h0
  have hr:rowOf M 1 (.sl q o xs.length cap)=some (uC xs):=by
   simp only[rowOf,getC,h2]
   rw[if_neg (by omega),if_pos h4,h3]
  refine⟨.sl M.length 0 xs.length none,[.cells 1 false (uC xs)],?_,⟨by rw[uC_len];omega,.inr ⟨M.length,0,none,rfl,fun _=>⟨false,uC xs,by rw[get_concat],by rw[List.drop_zero,Nat.mul_one,← uC_len,List.take_length],by rw[uC_len];omega,fun _=>rfl⟩⟩⟩,.inr ⟨_,_,_,_,rfl,Nat.le_refl _⟩,.inr ⟨M.length,0,xs.length - 1,by rw[Nat.sub_add_cancel (by omega)]⟩⟩
  simp only[appendA,lenA,hr]
  rw[if_neg (by omega),if_pos ⟨by omega,by omega,uC_one _⟩]
theorem refthere_run{G:List (Nat × AFun X)} {m:Mem X} {wr:Bool} {xs:List Int} {v:AV} (hs:SU m wr xs v) (o a:Int):Fn G ref06_there [.agg (memC v o),.int .i64 a] m (fun r m'=>r = .bool (decide (0≤a) && decide (a < xs.length))∧m'=m++[.cells 2 false (memC v o)]):=by
 have hone:=slOne hs
 simp only[AV.one] at hone
 have hlen:=hs.len
 refine Fn_of rfl ?_
 simp(disch:=first|assumption|omega|(simp only[zl]<;>omega)|(simp only[zn])) only[ref06_there,↓zd,zk,seval,reduceIte,List.map,AV.cells,List.all,AV.one,eqV,eqAll,splice,fillA,List.replicate,resAll,resA,zm,zg,memC,hone]
 repeat' ((first|refine GK_of (fun h=>?_) (fun h=>?_)|refine CW_of (fun h=>?_) (fun h=>?_)|refine GKT_of (fun h=>?_) (fun h=>?_))<;>(try simp only[Bool.not_eq_true',Bool.not_eq_false',decide_eq_true_eq,decide_eq_false_iff_not,Bool.and_eq_true,Bool.or_eq_true,Bool.and_eq_false_iff,Bool.or_eq_false_iff,Decidable.not_not] at h)<;>(try simp(disch:=first|assumption|omega|(simp only[zl]<;>omega)|(simp only[zn])) only[↓zd,zk,seval,reduceIte,List.map,AV.cells,List.all,AV.one,eqV,eqAll,splice,fillA,List.replicate,resAll,resA,zm,zg,memC,ev_len,hlen,h]))
 all_goals (try simp_all)
theorem refnew_run{G:List (Nat × AFun X)} {m:Mem X} (n:Int):Fn G ref06_New [.int .i64 n] m (fun r m'=>∃ v,r = .agg (memC v 0)∧Keep m m'∧SU m' true (cellsOf (bN n) []) v):=by
 have hK:(if (if 65536 < n then 65536 else n) > 0 then if 65536 < n then 65536 else n else 0)=((bN n:Nat):Int):=by unfold bN;split<;>split<;>omega
 have hbn:=bN_le n
 have hmk:∀ M:Mem X,amOp G (.make 1 8 [.int .u64 0]) [.int .i64 (bN n),.int .i64 (bN n)] M=some (.sl M.length 0 (bN n) (some (bN n)),M++[.cells 1 false (uC (cellsOf (bN n) []))]):=fun M=>by
  have hrep:repeatL (bN n) [AV.int .u64 0]=uC (cellsOf (bN n) []):=by simp[repeatL,uC,cellsOf_nil]
  simp only[amOp]
  rw[if_pos (by omega),Int.toNat_natCast,hrep]
 refine Fn_of rfl ?_
 simp(disch:=first|assumption|omega|(simp only[zl]<;>omega)|(simp only[zn])) only[ref06_New,↓zd,zk,seval,reduceIte,List.map,AV.cells,List.all,AV.one,eqV,eqAll,splice,fillA,List.replicate,resAll,resA,zm,zg,memC,hK,hmk]
 refine⟨_,rfl,Keep.app _ _,?_⟩
 have hl:=cellsOf_len (bN n) []
 refine⟨by rw[uC_len];omega,.inr ⟨_,_,_,by rw[hl],fun _=>⟨false,_,by rw[get_mid];rfl,by rw[List.drop_zero,Nat.mul_one,← uC_len,List.take_length],by rw[uC_len];omega,fun _=>rfl⟩⟩⟩
theorem SU.put{m:Mem X} {xs:List Int} {q o n:Nat} {cap:Option Nat} {L:List AV} (h:SU m true xs (.sl q o n cap)) (hq:m[q]?=some (.cells 1 false L)) {i:Nat} (hi:i < xs.length) (x:Int):SU (m.set q (.cells 1 false (L.set (o+i) (.int .u64 x)))) true (xs.set i x) (.sl q o n cap):=by
 obtain⟨hlen,hsl⟩:=h
 rcases hsl with⟨h,_⟩|⟨q',o',cap',h,h5⟩
 ·cases h
 ·injection h with e1 e2 e3 e4;subst e1;subst e2;subst e3;subst e4
  obtain⟨ro,L',d1,d2,d3,d4⟩:=h5 (by omega)
  rw[hq] at d1;injection d1 with d1;injection d1 with _ _ d1;subst d1
  refine⟨by simp[uC_len],.inr ⟨q,o,cap,by rw[List.length_set],fun _=>⟨false,_,List.getElem?_set_self (List.getElem?_eq_some_iff.1 hq).1,?_,by simpa using d3,fun _=>rfl⟩⟩⟩
  rw[List.length_set,List.drop_set,if_neg (by omega),List.take_set,d2,← uC_set]
  congr 1;omega
def RmP(m:Mem X) (xs:List Int) (o:Int) (r:AV) (m':Mem X):Prop:=Keep m m'∧∃ v',r = .agg (memC v' o)∧SU m' false xs v'
set_option maxHeartbeats 4000000 in
theorem refwith_run{G:List (Nat × AFun X)} {m:Mem X} {wr:Bool} {xs:List Int} {v:AV} (hs:SU m wr xs v) (hn:xs.length≤65536) {a:Nat} (ha:a < xs.length) (o x:Int):Fn G ref06_with [.agg (memC v o),.int .i64 a,.int .u64 x] m (RmP m (xs.set a x) (IntKind.u64.wrap (o+1))):=by
 have hone:=slOne hs
 simp only[AV.one] at hone
 obtain⟨r,J,h1,h2,h3,h4⟩:=(SU.clone (hs.keep (Keep.app m [Chunk.cells 2 false [v,.int .u64 o],.cells 2 false [.nils,.int .u64 0]])) hn)
 obtain⟨q,oo,cap,ro,L,rfl,b2,b3,b4,b5⟩:=h2.at (by omega)
 have:=b5 rfl;subst this
 have hqm:m.length+2≤q:=by
  rcases h3 with h|⟨_,_,_,_,h,h'⟩
  ·cases h
  ·injection h with e1;subst e1;simpa using h'
 have g0:(m++[Chunk.cells 2 false [v,.int .u64 o],.cells 2 false [.nils,.int .u64 0]]++J)[m.length]?=some (Chunk.cells 2 false [v,.int .u64 o]):=by rw[List.append_assoc,get_mid0];rfl
 have g1:(m++[Chunk.cells 2 false [v,.int .u64 o],.cells 2 false [.nils,.int .u64 0]]++J)[m.length+1]?=some (.cells 2 false [.nils,.int .u64 0]):=by rw[List.append_assoc,get_mid];rfl
 have hk:Keep m (m++[Chunk.cells 2 false [v,.int .u64 o],.cells 2 false [.nils,.int .u64 0]]++J):=by rw[List.append_assoc];exact Keep.app _ _
 have hp:=SU.put h2 b2 ha x
 refine Fn_of rfl ?_
 simp(disch:=first|assumption|omega|(simp only[zl]<;>omega)|(simp only[zn])) only[ref06_with,↓zd,zk,seval,reduceIte,List.map,AV.cells,List.all,AV.one,eqV,eqAll,splice,fillA,List.replicate,resAll,resA,zm,zg,memC,hone,evA]
 simp only[List.append_assoc,List.cons_append,List.nil_append] at h1
 simp only[List.append_assoc,List.cons_append,List.nil_append] at g0 g1 hk b2 hp
 generalize hM:(m++(Chunk.cells 2 false [v,.int .u64 o] :: .cells 2 false [.nils,.int .u64 0] :: J))=M2 at h1 g0 g1 hk b2 hp
 have hql:q < M2.length:=(List.getElem?_eq_some_iff.1 b2).1
 have hlm:m.length+1 < M2.length:=(List.getElem?_eq_some_iff.1 g1).1
 simp(disch:=first|assumption|omega|(simp only[zl]<;>omega)|(simp only[zn])) only[↓zd,zk,seval,reduceIte,List.map,AV.cells,List.all,AV.one,eqV,eqAll,splice,fillA,List.replicate,resAll,resA,h1,b2,g0,g1,List.getElem?_set_ne,List.getElem?_set_self,List.length_set]
 exact⟨(hk.set (by omega) _).set (by omega) _,_,rfl,((KeepB.at _ _).off (fun q' o' n' c' h h0=>by injection h with e1;omega) hp).ro⟩
theorem su_box{m:Mem X} {wr:Bool} {es:List Int} {v:AV} (h:SU m wr es v) {b:Nat} {ro:Bool} {L:List AV} (hb:m[b]?=some (.cells 2 ro L)):Off b v:=by
 intro q o n c hv h0 hq
 rcases h.2 with⟨h1,_⟩|⟨q2,o2,c2,h1,h2⟩
 ·rw[h1] at hv;cases hv
 ·rw[h1] at hv;injection hv with e1 e2 e3 e4;subst e1;subst e3;subst hq
  obtain⟨ro,L,h3,_⟩:=h2 h0
  rw[hb] at h3;injection h3 with h3;injection h3 with h3;cases h3
def thr(xs:List Int) (a:Int):Prop:=0≤a∧a < xs.length
instance (xs:List Int) (a:Int):Decidable (thr xs a):=by unfold thr;infer_instance
theorem thr_b{xs:List Int} {a:Int}:(decide (0≤a) && decide (a < xs.length))=decide (thr xs a):=by
 by_cases h:thr xs a
 ·have h1:=h.1
  have h2:=h.2
  rw[decide_eq_true h,decide_eq_true h1,decide_eq_true h2];rfl
 ·rw[decide_eq_false h,Bool.and_eq_false_iff,decide_eq_false_iff_not,decide_eq_false_iff_not]
  unfold thr at h;omega
set_option maxHeartbeats 4000000 in
theorem refstore_run{m:Mem X} {wr:Bool} {xs:List Int} {v:AV} (hs:SU m wr xs v) (hn:xs.length≤65536) (o a x:Int):Fn [(72,c_ref06_there),(73,c_ref06_with)] ref06_Store [.agg (memC v o),.int .i64 a,.int .u64 x] m (RmP m (if thr xs a then xs.set a.toNat x else xs) (if thr xs a then IntKind.u64.wrap (o+1) else o)):=by
 have a72:assoc [(72,c_ref06_there (X:=X)),(73,c_ref06_with)] 72=some c_ref06_there:=rfl
 have a73:assoc [(72,c_ref06_there (X:=X)),(73,c_ref06_with)] 73=some c_ref06_with:=rfl
 generalize [(72,c_ref06_there (X:=X)),(73,c_ref06_with)]=G at a72 a73
 have hone:=slOne hs
 simp only[AV.one] at hone
 have ht:=Fn_eq (refthere_run (G:=[]) (hs.keep (Keep.app m [Chunk.cells 2 false [v,.int .u64 o],.cells 2 false [.nils,.int .u64 0]])) o a)
 rw[thr_b] at ht
 simp only[memC,List.append_assoc,List.cons_append,List.nil_append] at ht
 refine Fn_of rfl ?_
 by_cases h:thr xs a
 ·obtain⟨h0,h1⟩:=id h
  obtain⟨k,rfl⟩:∃ k:Nat,a=k:=⟨a.toNat,by omega⟩
  simp only[h,decide_true] at ht
  have hw:=refwith_run (G:=[]) (hs.keep (Keep.app m [Chunk.cells 2 false [v,.int .u64 o],.cells 2 false [.nils,.int .u64 0],.cells 2 false [v,.int .u64 o]])) hn (a:=k) (by omega) o x
  simp(disch:=first|assumption|omega|(simp only[zl]<;>omega)|(simp only[zn])) only[ref06_Store,↓zd,zk,seval,reduceIte,List.map,AV.cells,List.all,AV.one,eqV,eqAll,splice,fillA,List.replicate,resAll,resA,zm,zg,memC,hone,a72,c_ref06_there,ht,a73,c_ref06_with]
  refine OK_fn hw ?_
  rintro _ m1 ⟨k1,v',rfl,s1⟩
  have g1:m1[m.length+1]?=some (.cells 2 false [.nils,.int .u64 0]):=k1.get (by rw[get_mid];rfl)
  have hl1:m.length+1 < m1.length:=(List.getElem?_eq_some_iff.1 g1).1
  have hone':=slOne s1
  simp only[AV.one] at hone'
  simp(disch:=first|assumption|omega|(simp only[zl]<;>omega)|(simp only[zn])) only[↓zd,zk,seval,reduceIte,List.map,AV.cells,List.all,AV.one,eqV,eqAll,splice,fillA,List.replicate,resAll,resA,zm,zg,memC,g1,hone']
  try simp only[if_pos h,Int.toNat_natCast]
  exact⟨((Keep.app m _).trans k1).set (by omega) _,v',rfl,(KeepB.at _ _).off (su_box s1 g1) s1⟩
 ·simp only[h,decide_false] at ht
  simp(disch:=first|assumption|omega|(simp only[zl]<;>omega)|(simp only[zn])) only[ref06_Store,↓zd,zk,seval,reduceIte,List.map,AV.cells,List.all,AV.one,eqV,eqAll,splice,fillA,List.replicate,resAll,resA,zm,zg,memC,hone,a72,c_ref06_there,ht]
  try simp only[if_neg h]
  exact⟨Keep.app _ _,_,rfl,(hs.keep (Keep.app _ _)).ro⟩
end
end Go.Am.F06
end
section
namespace Go.Am.F10
open Go.Am.F06 (SU uC_len uC_set uC_one)
variable {X:Type}
theorem wrap64_b(z:Int):W64 (IntKind.u64.wrap z):=by rw[wrap64];unfold W64;omega
theorem wrap32_b(z:Int):0≤IntKind.u32.wrap z∧IntKind.u32.wrap z < 4294967296:=by rw[wrap32];omega
def orU(a b:Int):Int:=IntKind.u64.wrap ((BitVec.ofInt 64 a ||| BitVec.ofInt 64 b).toNat:Int)
theorem evOr(a b:Int):binI .or .u64 a b=some (.int .u64 (orU a b)):=rfl
theorem stC_u{m:Mem X} {i o:Nat} {n:Int} {xs:List Int} (h:o < xs.length):stC m i o 1 (.int .u64 n) (some (1,false,uC xs))=some (m.set i (.cells 1 false (uC (xs.set o n)))):=by
 rw[stC_int (by rw[uC_len];exact h),uC_set]
structure OkF (c:Cf) (xs:List Int):Prop where
 at':∀ p,thereP c p→sz (xs.getD (addrA c p 0).toNat 0)≤c.q
theorem OkF.setw{c:Cf} {xs:List Int} (h:OkF c xs) {p v:Int} (hp:thereP c p) (hv:sz v≤c.q):OkF c (xs.set (addrA c p 0).toNat v):=by
 refine⟨fun p' hp'=>?_⟩
 by_cases he:(addrA c p 0).toNat=(addrA c p' 0).toNat
 ·rw[← he]
  by_cases hl:(addrA c p 0).toNat < xs.length
  ·rw[List.getD_eq_getElem?_getD,List.getElem?_set_self hl];exact hv
  ·rw[List.getD_eq_getElem?_getD,List.getElem?_eq_none (by rw[List.length_set];omega)]
   have hb:=there_bounds hp
   have:sz 0=0:=by decide
   show sz 0≤c.q
   omega
 ·rw[List.getD_eq_getElem?_getD,List.getElem?_set_ne he,← List.getD_eq_getElem?_getD];exact h.at' p' hp'
theorem addr_ne{c:Cf} {p p' i:Int} (hp:thereP c p) (hp':thereP c p') (h0:1≤i) (h1:i < 6+c.q):(addrA c p i).toNat≠(addrA c p' 0).toNat:=by
 have hb:=there_bounds hp
 have hb':=there_bounds hp'
 have hm:=mul_bounds hb.2.2.2.2.1 hb.2.2.2.2.2 (q:=6+c.q) (by omega) (by omega)
 have hm':=mul_bounds hb'.2.2.2.2.1 hb'.2.2.2.2.2 (q:=6+c.q) (by omega) (by omega)
 unfold addrA;rw[if_pos hp,if_pos hp']
 rcases (show p < p'∨p=p'∨p' < p by omega) with h|h|h
 ·have h2:(p+1) * (6+c.q)≤p' * (6+c.q):=Int.mul_le_mul_of_nonneg_right (by omega) (by omega)
  have h3:(p+1) * (6+c.q)=p * (6+c.q)+(6+c.q):=by rw[Int.add_mul,Int.one_mul]
  omega
 ·subst h;omega
 ·have h2:p' * (6+c.q)≤p * (6+c.q):=Int.mul_le_mul_of_nonneg_right (by omega) (by omega)
  omega
theorem OkF.seta{c:Cf} {xs:List Int} (h:OkF c xs) {p i v:Int} (hp:thereP c p) (h0:1≤i) (h1:i < 6+c.q):OkF c (xs.set (addrA c p i).toNat v):=by
 refine⟨fun p' hp'=>?_⟩
 rw[List.getD_eq_getElem?_getD,List.getElem?_set_ne (addr_ne hp hp' h0 h1),← List.getD_eq_getElem?_getD];exact h.at' p' hp'
theorem OkF.setb{c:Cf} {xs:List Int} (h:OkF c xs) {p i v:Int} (hp:thereP c p) (h0:1≤i) (h1:i≤5):OkF c (xs.set (addrA c p i).toNat v):=h.seta hp h0 (by have:=there_bounds hp;omega)
theorem OkF.sets{c:Cf} {xs:List Int} (h:OkF c xs) {p k v:Int} (hp:thereP c p):OkF c (xs.set (slotA c p k).toNat v):=by
 have hb:=there_bounds hp
 have h0:=Int.emod_nonneg k (b:=c.q) (by omega)
 have h1:=Int.emod_lt_of_pos k (b:=c.q) (by omega)
 unfold slotA;rw[if_pos hp.1]
 exact h.seta hp (by omega) (by omega)
theorem word_sz{h n q:Int} (h0:0≤h) (h1:h < 4294967296) (n0:0≤n) (n1:n≤q) (hq:q≤64):sz (orU (IntKind.u64.wrap (IntKind.u64.wrap h * 4294967296)) (IntKind.u64.wrap (IntKind.u32.wrap (h+n))))≤q:=by
 have e1:IntKind.u64.wrap h=h:=wrapU h0 (by omega)
 have e2:IntKind.u64.wrap (h * 4294967296)=h * 4294967296:=wrapU (by omega) (by omega)
 have e3:IntKind.u32.wrap (h+n)=(h+n) % 4294967296:=wrap32 _
 have e4:IntKind.u64.wrap ((h+n) % 4294967296)=(h+n) % 4294967296:=wrapU (by omega) (by omega)
 have ho:=or_eq h0 h1 (t:=(h+n) % 4294967296) (by omega) (by omega)
 rw[evOr] at ho
 injection ho with ho;injection ho with _ ho
 rw[e1,e2,e3,e4,ho]
 unfold sz hd tl pk;omega
theorem mod_le{b q n:Int} (hb:0≤b) (hq:0≤q) (hq2:q≤64) (hn:n=IntKind.u32.wrap (b.tmod (q+1))):n≤q:=by
 have h0:=Int.emod_nonneg b (b:=q+1) (by omega)
 have h1:=Int.emod_lt_of_pos b (b:=q+1) (by omega)
 rw[hn,Int.tmod_eq_emod_of_nonneg hb,wrap32];omega
structure FS (m0:Mem X) (c:Cf) (q0:Nat) (xs:List Int) (m:Mem X):Prop where
 keep:Keep m0 m
 box:m[m0.length]?=some (.cells 6 false (cfC c))
 out:m[q0]?=some (.cells 1 false (uC xs))
 len:xs.length=cellsN c
 ok:∀ x,x ∈ xs→W64 x
 lt:m0.length < q0
 full:OkF c xs
theorem FS.app{m0 m:Mem X} {c:Cf} {q0:Nat} {xs:List Int} (h:FS m0 c q0 xs m) (K:Mem X):FS m0 c q0 xs (m++K) :=
 ⟨h.keep.trans (Keep.app _ _),(Keep.app m K).get h.box,(Keep.app m K).get h.out,h.len,h.ok,h.lt,h.full⟩
def OkL(c:Cf) (xs:List Int):Prop:=xs.length=cellsN c∧∀ x,x ∈ xs→W64 x
theorem OkL.set{c:Cf} {xs:List Int} (h:OkL c xs) (a:Nat) {v:Int} (hv:W64 v):OkL c (xs.set a v):=by
 refine⟨by rw[List.length_set];exact h.1,fun x hx=>?_⟩
 rcases List.mem_or_eq_of_mem_set hx with hx|rfl
 ·exact h.2 x hx
 ·exact hv
theorem FS.okL{m0 m:Mem X} {c:Cf} {q0:Nat} {xs:List Int} (h:FS m0 c q0 xs m):OkL c xs:=⟨h.len,h.ok⟩
theorem FS.all{m0 m:Mem X} {c:Cf} {q0:Nat} {xs xs':List Int} (h:FS m0 c q0 xs m) (hx:OkL c xs') (hf:OkF c xs') (K:Mem X):FS m0 c q0 xs' (m.set q0 (.cells 1 false (uC xs'))++K):=by
 refine FS.app ⟨h.keep.set (by have:=h.lt;omega) _,?_,List.getElem?_set_self (List.getElem?_eq_some_iff.1 h.out).1,hx.1,hx.2,h.lt,hf⟩ K
 rw[List.getElem?_set_ne (by have:=h.lt;omega)];exact h.box
def FI(m0:Mem X) (c:Cf) (q0:Nat) (bv:AV) (k:Nat) (e:List AV) (m:Mem X):Prop:=∃ (p:Nat) (xs:List Int) (y6 y7 y8 y9 y10 y11 y12:AV),
 e=[.agg (cfC c),bv,.ptr m0.length 0,.nils,.sl q0 0 (cellsN c) (some (cellsN c)),.int .i64 p,y6,y7,y8,y9,y10,y11,y12]∧FS m0 c q0 xs m∧(rightP c→(k:Int)=c.n - p∧(p:Int)≤c.n)∧(¬ rightP c→k=0)
def FI2(m0:Mem X) (c:Cf) (q0:Nat) (bv:AV) (p:Nat) (h n:Int) (y9 y10:AV) (k:Nat) (e:List AV) (m:Mem X):Prop:=∃ (i:Int) (xs:List Int) (y11 y12:AV),
 e=[.agg (cfC c),bv,.ptr m0.length 0,.nils,.sl q0 0 (cellsN c) (some (cellsN c)),.int .i64 p,.int .u32 h,.int .u32 n,.int .u32 i,y9,y10,y11,y12]∧FS m0 c q0 xs m∧(k:Int)=n - i∧0≤i∧i≤n
def Gfill:List (Nat × AFun X):=[(156,c_conf_Config_Cells),(157,c_conf_Config_Right),(158,c_docs_byteAt),(159,c_conf_Config_Word),(160,c_conf_Config_Slot),(161,c_conf_Config_Next),(162,c_conf_Config_Stat),(163,c_conf_Config_Tick),(164,c_conf_Config_Sys),(165,c_conf_Config_Flag)]
set_option maxHeartbeats 16000000 in
theorem filled_runF{m0:Mem X} {c:Cf} {bs:List Int} {bv:AV} (hB:SB m0 bs bv) (hb:∀ x,x ∈ bs→0≤x∧x < 256) :
  Fn Gfill docs_Filled [.agg (cfC c),bv] m0 (fun r m'=>∃ xs,Keep m0 m'∧SU m' true xs r∧xs.length=cellsN c∧(∀ x,x ∈ xs→W64 x)∧OkF c xs):=by
 have a156:assoc (Gfill (X:=X)) 156=some c_conf_Config_Cells:=rfl
 have a157:assoc (Gfill (X:=X)) 157=some c_conf_Config_Right:=rfl
 have a158:assoc (Gfill (X:=X)) 158=some c_docs_byteAt:=rfl
 have a159:assoc (Gfill (X:=X)) 159=some c_conf_Config_Word:=rfl
 have a160:assoc (Gfill (X:=X)) 160=some c_conf_Config_Slot:=rfl
 have a161:assoc (Gfill (X:=X)) 161=some c_conf_Config_Next:=rfl
 have a162:assoc (Gfill (X:=X)) 162=some c_conf_Config_Stat:=rfl
 have a163:assoc (Gfill (X:=X)) 163=some c_conf_Config_Tick:=rfl
 have a164:assoc (Gfill (X:=X)) 164=some c_conf_Config_Sys:=rfl
 have a165:assoc (Gfill (X:=X)) 165=some c_conf_Config_Flag:=rfl
 generalize Gfill (X:=X)=G at a156 a157 a158 a159 a160 a161 a162 a163 a164 a165 ⊢
 obtain⟨J,hcells⟩:=cells_eq (m0++[.cells 6 false (cfC c)]) c
 have hN:=cellsN_le c
 have hmk:∀ M:Mem X,amOp G (.make 1 8 [.int .u64 0]) [.int .i64 (cellsN c),.int .i64 (cellsN c)] M=some (.sl M.length 0 (cellsN c) (some (cellsN c)),M++[.cells 1 false (uC (List.replicate (cellsN c) 0))]):=fun M=>by
  have hrep:repeatL (cellsN c) [AV.int .u64 0]=uC (List.replicate (cellsN c) 0):=by simp[repeatL,uC]
  simp only[amOp]
  rw[if_pos (by omega),Int.toNat_natCast,hrep]
 simp only[cfC,List.append_assoc,List.cons_append,List.nil_append] at hcells
 have e4:∀ p:Nat,(p:Int) < 8→IntKind.i64.wrap (4 * (p:Int))=4 * (p:Int):=fun p hp=>wrapI (by omega) (by omega)
 refine Fn_of rfl ?_
 simp(disch:=first|assumption|omega|(simp only[zl]<;>omega)|(simp only[zn])) only[docs_Filled,↓zd,zk,seval,reduceIte,List.map,AV.cells,List.all,AV.one,eqV,eqAll,splice,fillA,List.replicate,resAll,resA,zm,zg,cfC,a156,hcells,hmk]
 have hF0:FS m0 c (m0.length+(J.length+1)) (List.replicate (cellsN c) 0) (m0++Chunk.cells 6 false (cfC c) :: (J++[Chunk.cells 1 false (uC (List.replicate (cellsN c) 0))])):=by
  refine⟨Keep.app _ _,by rw[get_mid0];rfl,?_,by simp,fun x hx=>?_,by omega,⟨fun p hp=>?_⟩⟩
  ·rw[get_mid,List.getElem?_cons_succ,get_concat]
  ·rw[List.eq_of_mem_replicate hx];unfold W64;omega
  ·have hz:(List.replicate (cellsN c) (0:Int)).getD (addrA c p 0).toNat 0=0:=by
    rw[List.getD_eq_getElem?_getD,List.getElem?_replicate];split<;>rfl
   rw[hz]
   have:sz 0=0:=by decide
   have hb:=there_bounds hp
   omega
 have hRT:∀ m:Mem X,c_conf_Config_Right [.agg [.int .i64 c.n,.int .i64 c.q,.int .i64 c.g,.int .i64 c.m,.int .i64 c.t,.int .i64 c.s]] m=some (.bool (decide (rightP c)),m++[.cells 6 false (cfC c)]):=fun m=>right_eq m c
 refine W_loop (FI m0 c (m0.length+(J.length+1)) bv) (if rightP c then c.n.toNat else 0) ?_ ⟨0,List.replicate (cellsN c) 0,_,_,_,_,_,_,_,rfl,hF0,fun hr=>?_,fun hr=>if_neg hr⟩ ?_
 ·split
  ·rename_i hr;have:=hr.1;simp only[FUEL];omega
  ·simp[FUEL]
 ·rw[if_pos hr];have:=hr.1;omega
 clear hF0 hcells hmk
 generalize m0.length+(J.length+1)=q0
 rintro k e m ⟨p,xs,y6,y7,y8,y9,y10,y11,y12,rfl,hF,hk1,hk2⟩
 have hbox:=hF.box
 have hout:=hF.out
 have hul:(uC xs).length=cellsN c:=by rw[uC_len];exact hF.len
 have hl0:m0.length < m.length:=(List.getElem?_eq_some_iff.1 hbox).1
 have hlq:q0 < m.length:=(List.getElem?_eq_some_iff.1 hout).1
 have fin:∀ K:Mem X,∃ xs,Keep m0 (m++K)∧SU (m++K) true xs (.sl q0 0 (cellsN c) (some (cellsN c)))∧xs.length=cellsN c∧(∀ x,x ∈ xs→W64 x)∧OkF c xs:=fun K=>by
  have hF':=hF.app K
  refine⟨xs,hF'.keep,⟨by rw[uC_len];omega,.inr ⟨_,_,_,by rw[hF.len],fun _=>⟨false,_,hF'.out,by rw[List.drop_zero,Nat.mul_one,← uC_len,List.take_length],by rw[uC_len];omega,fun _=>rfl⟩⟩⟩,hF.len,hF.ok,hF.full⟩
 simp only[cfC] at hbox
 by_cases hr:rightP c
 ·simp only[decide_eq_true hr] at hRT
  obtain⟨hk1,hk1'⟩:=hk1 hr
  by_cases hp:(p:Int) < c.n
  ·have ht:thereP c p:=⟨hr,by omega,hp⟩
   have htb:=there_bounds ht
   have hq0:=hF.lt
   have hbv:=byteV_b hb
   have hby0:∀ i:Int,0≤i→c_docs_byteAt [bv,.int .i64 i] m=some (.int .i64 (byteV bs i),m):=fun i hi=>byte_eq (hB.keep hF.keep) hb hi
   have hby1:∀ (K:Mem X) (i:Int),0≤i→c_docs_byteAt [bv,.int .i64 i] (m++K)=some (.int .i64 (byteV bs i),m++K):=fun K i hi=>byte_eq (hB.keep (hF.keep.trans (Keep.app _ _))) hb hi
   have hA:∀ k:Int,0≤k→k < 8→0≤addrA c p k∧addrA c p k < cellsN c:=fun k h0 h1=>addr_b ht h0 (by omega)
   have hA0:=hA 0 (by omega) (by omega)
   have eq1:IntKind.i64.wrap (c.q+1)=c.q+1:=wrapI (by omega) (by omega)
   have hA1:=hA 1 (by omega) (by omega)
   have hA2:=hA 2 (by omega) (by omega)
   have hA3:=hA 3 (by omega) (by omega)
   have hA4:=hA 4 (by omega) (by omega)
   have hA5:=hA 5 (by omega) (by omega)
   have hs:=fun(M:Mem X) (z:Int)=>slot_eqR M hr (p:Int) (wrap32_b z).1 (wrap32_b z).2
   have hnx:=fun M:Mem X=>next_eq M c (p:Int)
   have hst:=fun M:Mem X=>stat_eq M c (p:Int)
   have htk:=fun M:Mem X=>tick_eq M c (p:Int)
   have hsy:=fun M:Mem X=>sys_eq M c (p:Int)
   have hfl:=fun M:Mem X=>flag_eq M c (p:Int)
   simp only[cfC,List.cons_append,List.nil_append] at hs hnx hst htk hsy hfl
   have hw0:=fun m:Mem X=>word_run (m:=m) c (p:Int)
   simp only[cfC,List.cons_append,List.nil_append] at hw0
   simp(disch:=first|assumption|omega|(simp only[zl]<;>omega)|(simp only[zn])) only[↓zd,zk,seval,reduceIte,List.map,AV.cells,List.all,AV.one,eqV,eqAll,splice,fillA,List.replicate,resAll,resA,zm,zg,cfC,hbox,a157,hRT,a158,hby0,hby1]
   refine CW_of (fun _=>?_) (fun _=>?_)
   all_goals simp(disch:=first|assumption|omega|(simp only[zl]<;>omega)|(simp only[zn])) only[↓zd,zk,seval,reduceIte,List.map,AV.cells,List.all,AV.one,eqV,eqAll,splice,fillA,List.replicate,resAll,resA,zm,zg,cfC,hbox,a157,hRT,a158,hby0,hby1,eq1,a159,hw0,shl_eq,evOr,hout,hul,uC_set]
   ·refine W_loop (FI2 m0 c q0 bv p _ _ _ _) (IntKind.u32.wrap ((byteV bs (4 * (p:Int)+1)).tmod (c.q+1))).toNat (by have:=wrap32_b ((byteV bs (4 * (p:Int)+1)).tmod (c.q+1));simp only[FUEL];omega) ⟨0,_,_,_,rfl,hF.all (hF.okL.set _ (wrap64_b _)) (hF.full.setw ht (word_sz (wrap32_b _).1 (wrap32_b _).2 (wrap32_b _).1 (mod_le (hbv _).1 (by omega) (by omega) rfl) (by omega))) _,by have:=wrap32_b ((byteV bs (4 * (p:Int)+1)).tmod (c.q+1));omega,by omega,(wrap32_b _).1⟩ ?_
    clear hF hout hul hby0 hby1 hl0 hlq fin hbox
    rintro k2 e m2 ⟨i,xs2,y11,y12,rfl,hF,hk,hi0,hi1⟩
    have hbox:=hF.box
    have hout:=hF.out
    have hul:(uC xs2).length=cellsN c:=by rw[uC_len];exact hF.len
    have hl0:m0.length < m2.length:=(List.getElem?_eq_some_iff.1 hbox).1
    have hlq:q0 < m2.length:=(List.getElem?_eq_some_iff.1 hout).1
    simp only[cfC] at hbox
    have hn32:=wrap32_b ((byteV bs (4 * (p:Int)+1)).tmod (c.q+1))
    generalize IntKind.u32.wrap ((byteV bs (4 * (p:Int)+1)).tmod (c.q+1))=n at hk hi1 hn32 ⊢
    have hlx:xs2.length=cellsN c:=hF.len
    simp(disch:=first|assumption|omega|(simp only[zl]<;>omega)|(simp only[zn])) only[↓zd,zk,seval,reduceIte,List.map,AV.cells,List.all,AV.one,eqV,eqAll,splice,fillA,List.replicate,resAll,resA,zm,zg,cfC]
    refine CW_of (fun hlt=>?_) (fun hge=>?_)
    ·simp only[decide_eq_true_eq] at hlt
     have hi1':IntKind.u32.wrap (i+1)=i+1:=by rw[wrap32];omega
     have hsA:=slot_b ht (wrap32_b (IntKind.u32.wrap (IntKind.u32.wrap (0 - IntKind.u32.wrap ((byteV bs (4 * (p:Int))).tmod 7)) - 1)+i)).1
     simp(disch:=first|assumption|omega|(simp only[zl]<;>omega)|(simp only[zn])) only[↓zd,zk,seval,reduceIte,List.map,AV.cells,List.all,AV.one,eqV,eqAll,splice,fillA,List.replicate,resAll,resA,zm,zg,cfC,hbox,a160,hs,hout,hul,uC_set,hi1']
     exact⟨k2 - 1,by omega,i+1,_,_,_,rfl,hF.all (hF.okL.set _ (by unfold W64;omega)) (hF.full.sets ht) _,by omega,by omega,by omega⟩
    ·simp only[decide_eq_false_iff_not] at hge
     have hby0:∀ i:Int,0≤i→c_docs_byteAt [bv,.int .i64 i] m2=some (.int .i64 (byteV bs i),m2):=fun i hi=>byte_eq (hB.keep hF.keep) hb hi
     have hby1:∀ (K:Mem X) (i:Int),0≤i→c_docs_byteAt [bv,.int .i64 i] (m2++K)=some (.int .i64 (byteV bs i),m2++K):=fun K i hi=>byte_eq (hB.keep (hF.keep.trans (Keep.app _ _))) hb hi
     have hby2:∀ (A:Chunk X) (K:Mem X) (i:Int),0≤i→c_docs_byteAt [bv,.int .i64 i] (m2.set q0 A++K)=some (.int .i64 (byteV bs i),m2.set q0 A++K):=fun A K i hi=>byte_eq (hB.keep ((hF.keep.set (by omega) A).trans (Keep.app _ _))) hb hi
     simp(disch:=first|assumption|omega|(simp only[zl]<;>omega)|(simp only[zn])) only[↓zd,zk,seval,reduceIte,List.map,AV.cells,List.all,AV.one,eqV,eqAll,splice,fillA,List.replicate,resAll,resA,zm,zg,cfC,a158,hby0]
     refine CW_of (fun _=>?_) (fun _=>?_)
     all_goals simp(disch:=first|assumption|omega|(simp only[zl]<;>omega)|(simp only[zn])) only[↓zd,zk,seval,reduceIte,List.map,AV.cells,List.all,AV.one,eqV,eqAll,splice,fillA,List.replicate,resAll,resA,zm,zg,cfC,hbox,a158,hby0,hby1,hby2,hout,stC_u,List.set_set,a161,hnx,a162,hst,a163,htk,a164,hsy,a165,hfl]
     all_goals simp only[uC_set]
     all_goals refine⟨k - 1,by omega,p+1,_,_,_,_,_,_,_,_,rfl,hF.all (by(repeat' refine OkL.set ?_ _ (by first|exact wrap64_b _|(unfold W64;omega)));exact hF.okL) (by(repeat' refine OkF.setb ?_ ht (by decide) (by decide));exact hF.full) _,fun _=>⟨by omega,by omega⟩,fun h=>absurd hr h⟩
   ·refine W_loop (FI2 m0 c q0 bv p _ _ _ _) (IntKind.u32.wrap ((byteV bs (4 * (p:Int)+1)).tmod (c.q+1))).toNat (by have:=wrap32_b ((byteV bs (4 * (p:Int)+1)).tmod (c.q+1));simp only[FUEL];omega) ⟨0,_,_,_,rfl,hF.all (hF.okL.set _ (wrap64_b _)) (hF.full.setw ht (word_sz (wrap32_b _).1 (wrap32_b _).2 (wrap32_b _).1 (mod_le (hbv _).1 (by omega) (by omega) rfl) (by omega))) _,by have:=wrap32_b ((byteV bs (4 * (p:Int)+1)).tmod (c.q+1));omega,by omega,(wrap32_b _).1⟩ ?_
    clear hF hout hul hby0 hby1 hl0 hlq fin hbox
    rintro k2 e m2 ⟨i,xs2,y11,y12,rfl,hF,hk,hi0,hi1⟩
    have hbox:=hF.box
    have hout:=hF.out
    have hul:(uC xs2).length=cellsN c:=by rw[uC_len];exact hF.len
    have hl0:m0.length < m2.length:=(List.getElem?_eq_some_iff.1 hbox).1
    have hlq:q0 < m2.length:=(List.getElem?_eq_some_iff.1 hout).1
    simp only[cfC] at hbox
    have hn32:=wrap32_b ((byteV bs (4 * (p:Int)+1)).tmod (c.q+1))
    generalize IntKind.u32.wrap ((byteV bs (4 * (p:Int)+1)).tmod (c.q+1))=n at hk hi1 hn32 ⊢
    have hlx:xs2.length=cellsN c:=hF.len
    simp(disch:=first|assumption|omega|(simp only[zl]<;>omega)|(simp only[zn])) only[↓zd,zk,seval,reduceIte,List.map,AV.cells,List.all,AV.one,eqV,eqAll,splice,fillA,List.replicate,resAll,resA,zm,zg,cfC]
    refine CW_of (fun hlt=>?_) (fun hge=>?_)
    ·simp only[decide_eq_true_eq] at hlt
     have hi1':IntKind.u32.wrap (i+1)=i+1:=by rw[wrap32];omega
     have hsA:=slot_b ht (wrap32_b (IntKind.u32.wrap ((byteV bs (4 * (p:Int))).tmod 7)+i)).1
     simp(disch:=first|assumption|omega|(simp only[zl]<;>omega)|(simp only[zn])) only[↓zd,zk,seval,reduceIte,List.map,AV.cells,List.all,AV.one,eqV,eqAll,splice,fillA,List.replicate,resAll,resA,zm,zg,cfC,hbox,a160,hs,hout,hul,uC_set,hi1']
     exact⟨k2 - 1,by omega,i+1,_,_,_,rfl,hF.all (hF.okL.set _ (by unfold W64;omega)) (hF.full.sets ht) _,by omega,by omega,by omega⟩
    ·simp only[decide_eq_false_iff_not] at hge
     have hby0:∀ i:Int,0≤i→c_docs_byteAt [bv,.int .i64 i] m2=some (.int .i64 (byteV bs i),m2):=fun i hi=>byte_eq (hB.keep hF.keep) hb hi
     have hby1:∀ (K:Mem X) (i:Int),0≤i→c_docs_byteAt [bv,.int .i64 i] (m2++K)=some (.int .i64 (byteV bs i),m2++K):=fun K i hi=>byte_eq (hB.keep (hF.keep.trans (Keep.app _ _))) hb hi
     have hby2:∀ (A:Chunk X) (K:Mem X) (i:Int),0≤i→c_docs_byteAt [bv,.int .i64 i] (m2.set q0 A++K)=some (.int .i64 (byteV bs i),m2.set q0 A++K):=fun A K i hi=>byte_eq (hB.keep ((hF.keep.set (by omega) A).trans (Keep.app _ _))) hb hi
     simp(disch:=first|assumption|omega|(simp only[zl]<;>omega)|(simp only[zn])) only[↓zd,zk,seval,reduceIte,List.map,AV.cells,List.all,AV.one,eqV,eqAll,splice,fillA,List.replicate,resAll,resA,zm,zg,cfC,a158,hby0]
     refine CW_of (fun _=>?_) (fun _=>?_)
     all_goals simp(disch:=first|assumption|omega|(simp only[zl]<;>omega)|(simp only[zn])) only[↓zd,zk,seval,reduceIte,List.map,AV.cells,List.all,AV.one,eqV,eqAll,splice,fillA,List.replicate,resAll,resA,zm,zg,cfC,hbox,a158,hby0,hby1,hby2,hout,stC_u,List.set_set,a161,hnx,a162,hst,a163,htk,a164,hsy,a165,hfl]
     all_goals simp only[uC_set]
     all_goals refine⟨k - 1,by omega,p+1,_,_,_,_,_,_,_,_,rfl,hF.all (by(repeat' refine OkL.set ?_ _ (by first|exact wrap64_b _|(unfold W64;omega)));exact hF.okL) (by(repeat' refine OkF.setb ?_ ht (by decide) (by decide));exact hF.full) _,fun _=>⟨by omega,by omega⟩,fun h=>absurd hr h⟩
  ·simp(disch:=first|assumption|omega|(simp only[zl]<;>omega)|(simp only[zn])) only[↓zd,zk,seval,reduceIte,List.map,AV.cells,List.all,AV.one,eqV,eqAll,splice,fillA,List.replicate,resAll,resA,zm,zg,cfC,hbox]
   have:=fin []
   rwa [List.append_nil] at this
 ·simp only[decide_eq_false hr] at hRT
  by_cases hp:(p:Int) < c.n
  ·simp(disch:=first|assumption|omega|(simp only[zl]<;>omega)|(simp only[zn])) only[↓zd,zk,seval,reduceIte,List.map,AV.cells,List.all,AV.one,eqV,eqAll,splice,fillA,List.replicate,resAll,resA,zm,zg,cfC,hbox,a157,hRT]
   exact fin _
  ·simp(disch:=first|assumption|omega|(simp only[zl]<;>omega)|(simp only[zn])) only[↓zd,zk,seval,reduceIte,List.map,AV.cells,List.all,AV.one,eqV,eqAll,splice,fillA,List.replicate,resAll,resA,zm,zg,cfC,hbox]
   have:=fin []
   rwa [List.append_nil] at this
theorem filled_run{m0:Mem X} {c:Cf} {bs:List Int} {bv:AV} (hB:SB m0 bs bv) (hb:∀ x,x ∈ bs→0≤x∧x < 256) :
  Fn Gfill docs_Filled [.agg (cfC c),bv] m0 (fun r m'=>∃ xs,Keep m0 m'∧SU m' true xs r∧xs.length=cellsN c∧∀ x,x ∈ xs→W64 x):=by
 obtain⟨r,m',h1,xs,h2,h3,h4,h5,_⟩:=filled_runF (c:=c) hB hb
 exact⟨r,m',h1,xs,h2,h3,h4,h5⟩
end Go.Am.F10
end
section
namespace Go.Am.F10
open Go.Am.F06
structure RelM (xs:List Int) (o:Int) (s:MemSt):Prop where
 cells:s.cells=xs
 ops:s.ops=o
 log:s.log.length≤256
theorem RelM.new(n:Int):RelM (List.replicate (bN n) 0) 0 (newSt n):=⟨rfl,rfl,by simp[newSt]⟩
theorem getD_set{xs:List Int} {a:Nat} (h:a < xs.length):xs.set a (xs.getD a 0)=xs:=by
 apply List.ext_getElem?
 intro j
 by_cases hj:a=j
 ·subst hj
  rw[List.getElem?_set_self h,List.getD_eq_getElem?_getD,List.getElem?_eq_getElem h];rfl
 ·rw[List.getElem?_set_ne hj]
theorem RelM.acc{xs:List Int} {o:Int} {s:MemSt} (h:RelM xs o s) {a:Nat} (ha:a < xs.length) (k:Int) (g:Int→Int × Bool) :
  ∃ s',accS k g s a=some (xs.getD a 0,(g (xs.getD a 0)).2,s')∧RelM (xs.set a (g (xs.getD a 0)).1) (IntKind.u64.wrap (o+1)) s':=by
 obtain⟨rfl,rfl,hl⟩:=h
 refine⟨noted { s with cells:=s.cells.set a (g (s.cells.getD a 0)).1 } ⟨k,a,s.cells.getD a 0,(g (s.cells.getD a 0)).1⟩ (g (s.cells.getD a 0)).2,?_,rfl,rfl,?_⟩
 ·unfold accS
  rw[if_pos hl,if_pos (by omega),Int.toNat_natCast]
 ·show (logMore _ _).2.length≤256
  unfold logMore
  split
  ·rename_i h2;simp only[List.length_append,List.length_cons,List.length_nil];simp only at h2;omega
  ·simp only[List.length_append,List.length_drop,List.length_cons,List.length_nil];omega
theorem RelM.load{M:MM} {j:Nat} {xs:List Int} {o:Int} {s:MemSt} (h:RelM xs o s) (hM:M[j]?=some (.abs (.mem s))) {a:Nat} (ha:a < xs.length) :
  ∃ s',memF loadS [.ptr j 0,.int .i64 a] M=some (.int .u64 (xs.getD a 0),M.set j (.abs (.mem s')))∧RelM xs (IntKind.u64.wrap (o+1)) s':=by
 obtain⟨s',h1,h2⟩:=h.acc ha 1 (fun w=>(w,true))
 rw[getD_set ha] at h2
 exact⟨s',by simp only[memF,hM,loadS,h1,Option.map_some],h2⟩
theorem RelM.store{M:MM} {j:Nat} {xs:List Int} {o:Int} {s:MemSt} (h:RelM xs o s) (hM:M[j]?=some (.abs (.mem s))) {a:Nat} (ha:a < xs.length) (x:Int) :
  ∃ s',memF storeS [.ptr j 0,.int .i64 a,.int .u64 x] M=some (.tup [],M.set j (.abs (.mem s')))∧RelM (xs.set a x) (IntKind.u64.wrap (o+1)) s':=by
 obtain⟨s',h1,h2⟩:=h.acc ha 2 (fun w=>(x,true))
 exact⟨s',by simp only[memF,hM,storeS,h1,Option.map_some],h2⟩
def KeepX{X:Type} (j k:Nat) (m m':Mem X):Prop:=m.length≤m'.length∧∀ i,i < m.length→i≠j→i≠k→m'[i]?=m[i]?
section
variable {X:Type} {j k:Nat}
theorem KeepX.refl(m:Mem X):KeepX j k m m:=⟨Nat.le_refl _,fun _ _ _ _=>rfl⟩
theorem KeepX.trans{m m' m'':Mem X} (h:KeepX j k m m') (i:KeepX j k m' m''):KeepX j k m m'' :=
 ⟨Nat.le_trans h.1 i.1,fun a ha h1 h2=>(i.2 a (Nat.lt_of_lt_of_le ha h.1) h1 h2).trans (h.2 a ha h1 h2)⟩
theorem KeepX.of{m m':Mem X} (h:Keep m m'):KeepX j k m m':=⟨h.1,fun i hi _ _=>h.2 i hi⟩
theorem KeepX.setL{m m':Mem X} (h:KeepX j k m m') (c:Chunk X):KeepX j k m (m'.set j c):=⟨by simpa using h.1,fun i hi h1 h2=>by rw[List.getElem?_set_ne (fun h=>h1 h.symm)];exact h.2 i hi h1 h2⟩
theorem KeepX.setR{m m':Mem X} (h:KeepX j k m m') (c:Chunk X):KeepX j k m (m'.set k c):=⟨by simpa using h.1,fun i hi h1 h2=>by rw[List.getElem?_set_ne (fun h=>h2 h.symm)];exact h.2 i hi h1 h2⟩
theorem KeepX.set{m m':Mem X} (h:KeepX j k m m') {q:Nat} (hq:m.length≤q) (c:Chunk X):KeepX j k m (m'.set q c):=⟨by simpa using h.1,fun i hi h1 h2=>by rw[List.getElem?_set_ne (by omega)];exact h.2 i hi h1 h2⟩
theorem KeepX.app{m m':Mem X} (h:KeepX j k m m') (K:Mem X):KeepX j k m (m'++K):=h.trans (.of (Keep.app _ _))
theorem KeepX.get{m m':Mem X} (h:KeepX j k m m') {i:Nat} {c:Chunk X} (hi:m[i]?=some c) (h1:i≠j) (h2:i≠k):m'[i]?=some c:=(h.2 i (List.getElem?_eq_some_iff.1 hi).1 h1 h2).trans hi
theorem KeepX.sl{m m':Mem X} (h:KeepX j k m m') {szj szk:Nat} {wr:Bool} {sz n:Nat} {l:List AV} {v:AV} (hj:∀ ro L,m[j]?≠some (.cells sz ro L)) (hk:∀ ro L,m[k]?≠some (.cells sz ro L)) (hs:Sl m wr sz n l v):Sl m' wr sz n l v:=by
 refine⟨hs.1,?_⟩
 rcases hs.2 with h1|⟨q,o,cap,h1,h2⟩
 ·exact .inl h1
 ·refine .inr ⟨q,o,cap,h1,fun h0=>?_⟩
  obtain⟨ro,L,h3,h4⟩:=h2 h0
  refine⟨ro,L,h.get h3 (fun hq=>?_) (fun hq=>?_),h4⟩
  ·rw[hq] at h3;exact hj _ _ h3
  ·rw[hq] at h3;exact hk _ _ h3
end
theorem take_more{xs:List Int} {i:Nat} {x:Int} (h:xs[i]?=some x) (n:Nat) (hn:n=xs.length):(xs.take i++List.replicate (n - i) 0).set i x=xs.take (i+1)++List.replicate (n - (i+1)) 0:=by
 subst hn
 have hi:i < xs.length:=(List.getElem?_eq_some_iff.1 h).1
 have hl:(xs.take i).length=i:=by rw[List.length_take];omega
 rw[List.set_append_right _ _ (by omega),hl,Nat.sub_self,List.take_add_one,h]
 obtain⟨k,hk⟩:∃ k,xs.length - i=k+1:=⟨xs.length - i - 1,by omega⟩
 rw[hk,List.replicate_succ,List.set_cons_zero,show xs.length - (i+1)=k by omega]
 simp
def Gmem:List (Nat × AFun Ob):=[(21,newF),(63,c_ref06_New),(22,memF storeS),(65,c_ref06_Store)]
def MmI(m0 m1:MM) (xs:List Int) (cv:AV) (k:Nat) (e:List AV) (m:MM):Prop:=∃ (i:Nat) (s:MemSt) (v y6:AV),
 e=[cv,.nilp,.ptr m0.length 0,.ptr (m0.length+1) 0,.ptr m1.length 0,.int .i64 i,y6]∧k=xs.length - i∧i≤xs.length∧Keep m0 m∧m[m0.length]?=some (.cells 2 false [.nils,.int .u64 0])∧m[m0.length+1]?=some (.abs (.mem s))∧m[m1.length]?=some (.cells 2 false (memC v i)) ∧
 RelM (xs.take i++List.replicate (xs.length - i) 0) i s∧SU m false (xs.take i++List.replicate (xs.length - i) 0) v
set_option maxHeartbeats 4000000 in
theorem mem_run{m0:MM} {wr:Bool} {xs:List Int} {cv:AV} (hc:SU m0 wr xs cv) (hn:xs.length≤65536) :
  Fn Gmem docs_Mem [cv] m0 (fun r m'=>∃ s v,r = .tup [.ptr (m0.length+1) 0,.agg (memC v xs.length)]∧Keep m0 m'∧m'[m0.length+1]?=some (.abs (.mem s))∧RelM xs xs.length s∧SU m' false xs v):=by
 have a21:assoc Gmem 21=some newF:=rfl
 have a63:assoc Gmem 63=some c_ref06_New:=rfl
 have a22:assoc Gmem 22=some (memF storeS):=rfl
 have a65:assoc Gmem 65=some c_ref06_Store:=rfl
 generalize Gmem=G at a21 a63 a22 a65 ⊢
 have hlen:=hc.len
 have hbN:bN (xs.length:Int)=xs.length:=by unfold bN;omega
 have hnew:∀ M:MM,newF [.int .i64 xs.length] M=some (.ptr M.length 0,M++[.abs (.mem (newSt xs.length))]):=fun M=>rfl
 refine Fn_of rfl ?_
 simp(disch:=first|assumption|omega|(simp only[zl]<;>omega)|(simp only[zn])) only[docs_Mem,↓zd,zk,seval,reduceIte,List.map,AV.cells,List.all,AV.one,eqV,eqAll,splice,fillA,List.replicate,resAll,resA,zm,zg,ev_len,hlen,a21,hnew,a63,c_ref06_New]
 refine OK_fn (refnew_run _) ?_
 rintro _ m1 ⟨v0,rfl,k1,s1⟩
 have hone:=slOne s1
 simp only[AV.one] at hone
 rw[hbN,cellsOf_nil] at s1
 have hr:=RelM.new (xs.length:Int)
 rw[hbN] at hr
 simp(disch:=first|assumption|omega|(simp only[zl]<;>omega)|(simp only[zn])) only[↓zd,zk,seval,reduceIte,List.map,AV.cells,List.all,AV.one,eqV,eqAll,splice,fillA,List.replicate,resAll,resA,zm,zg,memC,hone]
 have g0:m1[m0.length]?=some (Chunk.cells 2 false [.nils,.int .u64 0]):=k1.get (by rw[get_mid0];rfl)
 have g1:m1[m0.length+1]?=some (.abs (.mem (newSt xs.length))):=k1.get (by rw[get_mid];rfl)
 have l1:m0.length+1 < m1.length:=(List.getElem?_eq_some_iff.1 g1).1
 have kk:Keep m0 m1:=(Keep.app m0 _).trans k1
 refine W_loop (MmI m0 m1 xs cv) xs.length (by simp only[FUEL];omega) ⟨0,newSt xs.length,v0,_,rfl,rfl,by omega,kk.trans (Keep.app _ _),(Keep.app m1 _).get g0,(Keep.app m1 _).get g1,by rw[get_concat];rfl,hr,(s1.keep (Keep.app _ _)).ro⟩ ?_
 rintro k e m ⟨i,s,v,y6,rfl,rfl,hi,hk,b0,b1,b2,hr,sv⟩
 have hl2:m1.length < m.length:=(List.getElem?_eq_some_iff.1 b2).1
 have hone:=slOne sv
 simp only[AV.one] at hone
 have hlen2:=sv.len
 have hll:(xs.take i++List.replicate (xs.length - i) 0).length=xs.length:=by simp only[List.length_append,List.length_take,List.length_replicate];omega
 rw[hll] at hlen2
 simp only[memC] at b2
 simp(disch:=first|assumption|omega|(simp only[zl]<;>omega)|(simp only[zn])) only[↓zd,zk,seval,reduceIte,List.map,AV.cells,List.all,AV.one,eqV,eqAll,splice,fillA,List.replicate,resAll,resA,zm,zg,ev_len,hlen]
 by_cases hi2:i < xs.length
 ·obtain⟨x,hx⟩:∃ x,xs[i]?=some x:=⟨_,List.getElem?_eq_getElem (by omega)⟩
  obtain⟨q,oo,cap,ro,L,rfl,c2,c3,c4,c5,c6⟩:=SU.get (hc.keep hk) hx
  have hqm:q < m.length:=(List.getElem?_eq_some_iff.1 c2).1
  obtain⟨s',f22,r'⟩:=hr.store b1 (a:=i) (by omega) x
  have hmore:=take_more hx _ rfl
  rw[hmore] at r'
  rw[wrapU (by omega) (by omega)] at r'
  have e1:q≠m0.length+1:=fun h=>by rw[h,b1] at c2;cases c2
  have hq1:(m.set (m0.length+1) (.abs (.mem s')))[q]?=some (.cells 1 ro L):=by rw[List.getElem?_set_ne (fun h=>e1 h.symm)];exact c2
  have hsv:SU (m.set (m0.length+1) (.abs (.mem s'))) false (xs.take i++List.replicate (xs.length - i) 0) v:=(KeepB.at m _).sl b1 sv
  have hst:=refstore_run hsv (by omega) i i x
  have ht:thr (xs.take i++List.replicate (xs.length - i) 0) i:=⟨by omega,by omega⟩
  rw[if_pos ht,if_pos ht,Int.toNat_natCast,hmore,wrapU (by omega) (by omega)] at hst
  simp(disch:=first|assumption|omega|(simp only[zl]<;>omega)|(simp only[zn])) only[↓zd,zk,seval,reduceIte,List.map,AV.cells,List.all,AV.one,eqV,eqAll,splice,fillA,List.replicate,resAll,resA,zm,zg,ev_len,hlen,hlen2,b2,c2,c6,a22,f22,hq1,a65,c_ref06_Store]
  refine OK_fn hst ?_
  rintro _ m2 ⟨k2,v',rfl,s2⟩
  have hone':=slOne s2
  simp only[AV.one] at hone'
  have d0:m2[m0.length]?=some (Chunk.cells 2 false [.nils,.int .u64 0]):=k2.get (by rw[List.getElem?_set_ne (by omega)];exact b0)
  have d1:m2[m0.length+1]?=some (.abs (.mem s')):=k2.get (List.getElem?_set_self (by omega))
  have d2:m2[m1.length]?=some (Chunk.cells 2 false [v,.int .u64 i]):=k2.get (by rw[List.getElem?_set_ne (by omega)];exact b2)
  have hl3:m1.length < m2.length:=(List.getElem?_eq_some_iff.1 d2).1
  simp(disch:=first|assumption|omega|(simp only[zl]<;>omega)|(simp only[zn])) only[↓zd,zk,seval,reduceIte,List.map,AV.cells,List.all,AV.one,eqV,eqAll,splice,fillA,List.replicate,resAll,resA,zm,zg,memC,d2,hone']
  refine⟨_,by omega,i+1,s',v',_,rfl,rfl,by omega,((hk.set (by omega) _).trans k2).set (by omega) _,?_,?_,List.getElem?_set_self hl3,r',(KeepB.at _ _).off (su_box s2 d2) s2⟩
  ·rw[List.getElem?_set_ne (by omega)];exact d0
  ·rw[List.getElem?_set_ne (by omega)];exact d1
 ·have hie:i=xs.length:=by omega
  subst hie
  have hz:xs.take xs.length++List.replicate (xs.length - xs.length) 0=xs:=by rw[List.take_length,Nat.sub_self];simp
  rw[hz] at hr sv
  simp(disch:=first|assumption|omega|(simp only[zl]<;>omega)|(simp only[zn])) only[↓zd,zk,seval,reduceIte,List.map,AV.cells,List.all,AV.one,eqV,eqAll,splice,fillA,List.replicate,resAll,resA,zm,zg,ev_len,hlen,b0,b2,hone]
  exact⟨s,v,rfl,hk.set (by omega) _,b1,hr,(KeepB.at _ _).off (su_box sv b0) sv⟩
end Go.Am.F10
end
section
namespace Go.Am.F10
open Go.Am.F06 (memC slOne)
variable {X:Type}
def Rq(q:Int) (k:Nat):Prop:=(q=2∧k=6)∨(q=4∧k=5)∨(q=8∧k=4)∨(q=16∧k=3)∨(q=32∧k=2)∨(q=64∧k=1)∨(q=128∧k=0)
theorem Rq.next{q:Int} {k:Nat} (h:Rq q k):q=128∨(2≤q∧q≤64∧k - 1 < k∧Rq (q * 2) (k - 1)):=by unfold Rq at h ⊢;omega
def RrI(m0:Mem X) (c:Cf) (k:Nat) (e:List AV) (m:Mem X):Prop:=∃ (q:Int) (y5:AV),e=[.agg (cfC c),.ptr m0.length 0,.bool false,.bool (decide (roomP c.q∧c.q < q)),.int .i64 q,y5]∧m=m0++[.cells 6 false (cfC c)]∧Rq q k
theorem room_next{c q:Int} {k:Nat} (h:Rq q k) (h7:¬ q=128):(roomP c∧c < q * 2) ↔ ((roomP c∧c < q)∨c=q):=by
 unfold roomP;unfold Rq at h;omega
set_option maxHeartbeats 8000000 in
theorem rright_run{G:List (Nat × AFun X)} {m0:Mem X} (c:Cf):Fn G ref05_Right [.agg (cfC c)] m0 (fun r m'=>r = .bool (decide (rightP c))∧m'=m0++[.cells 6 false (cfC c)]):=by
 refine Fn_of rfl ?_
 simp(disch:=first|assumption|omega|(simp only[zl]<;>omega)|(simp only[zn])) only[ref05_Right,↓zd,zk,seval,reduceIte,List.map,AV.cells,List.all,AV.one,eqV,eqAll,splice,fillA,List.replicate,resAll,resA,zm,zg,cfC]
 have h0:(roomP c.q∧c.q < 2)=False:=by unfold roomP;simp;omega
 refine W_loop (RrI m0 c) 6 (by simp only[FUEL];omega) ⟨2,_,by simp only[h0,decide_false];rfl,rfl,by unfold Rq;omega⟩ ?_
 rintro k e m ⟨q,y5,rfl,rfl,hq⟩
 have hbox:(m0++[Chunk.cells 6 false (cfC c)])[m0.length]?=some (.cells 6 false (cfC c)):=get_concat
 generalize hM:m0++[Chunk.cells 6 false (cfC c)]=M at hbox ⊢
 simp only[cfC] at hbox hM
 by_cases h7:q=128
 ·subst h7
  have hroom:decide (roomP c.q∧c.q < 128)=decide (roomP c.q):=by
   have:(roomP c.q∧c.q < 128) ↔ roomP c.q:=by unfold roomP;omega
   simp only[this]
  by_cases hr:roomP c.q
  ·simp only[decide_eq_true hr] at hroom
   clear hq
   have hrp:decide ((1≤c.n∧c.n≤8)∧(1≤c.g∧c.g≤256)∧(c.n+1≤c.m∧c.m≤16)∧(2≤c.t∧c.t≤200)∧(0≤c.s∧c.s≤1000))=decide (rightP c):=decide_eq_decide.2 ⟨fun h=>⟨h.1,hr,h.2⟩,fun h=>⟨h.1,h.2.2⟩⟩
   clear hr
   simp(disch:=first|assumption|omega|(simp only[zl]<;>omega)|(simp only[zn])) only[↓zd,zk,seval,reduceIte,List.map,AV.cells,List.all,AV.one,eqV,eqAll,splice,fillA,List.replicate,resAll,resA,zm,zg,hroom,hbox]
   repeat' ((first|refine GK_of (fun h=>?_) (fun h=>?_)|refine CW_of (fun h=>?_) (fun h=>?_)|refine GKT_of (fun h=>?_) (fun h=>?_))<;>(try simp only[Bool.not_eq_true',Bool.not_eq_false',decide_eq_true_eq,decide_eq_false_iff_not,Bool.and_eq_true,Bool.or_eq_true,Bool.and_eq_false_iff,Bool.or_eq_false_iff,Decidable.not_not] at h)<;>(try simp(disch:=first|assumption|omega|(simp only[zl]<;>omega)|(simp only[zn])) only[↓zd,zk,seval,reduceIte,List.map,AV.cells,List.all,AV.one,eqV,eqAll,splice,fillA,List.replicate,resAll,resA,zm,zg,hbox,h]))
   all_goals refine⟨congrArg _ ?_,hM.symm⟩
   all_goals rw[← hrp]
   all_goals first|(rw[decide_eq_true (by omega)];done)|(rw[decide_eq_false (by omega)];done)|(rw[decide_eq_decide];omega)
  ·simp only[decide_eq_false hr] at hroom
   simp(disch:=first|assumption|omega|(simp only[zl]<;>omega)|(simp only[zn])) only[↓zd,zk,seval,reduceIte,List.map,AV.cells,List.all,AV.one,eqV,eqAll,splice,fillA,List.replicate,resAll,resA,zm,zg,hroom,hbox]
   refine⟨?_,hM.symm⟩
   rw[decide_eq_false (fun h=>hr h.2.1)]
 ·have hn:=room_next (c:=c.q) hq h7
  obtain⟨hge,hle,hk1,hq'⟩:=hq.next.resolve_left h7
  have hb3:∀ b:Bool,(b=true ↔ ((roomP c.q∧c.q < q)∨c.q=q))→decide (roomP c.q∧c.q < q * 2)=b:=fun b h=>by rw[Bool.eq_iff_iff,decide_eq_true_eq,hn,h]
  clear hn hq
  by_cases hb:roomP c.q∧c.q < q
  ·have hb2:decide (roomP c.q∧c.q < q)=true:=decide_eq_true hb
   have hb4:=hb3 true ⟨fun _=>.inl hb,fun _=>rfl⟩
   clear hb hb3
   simp(disch:=first|assumption|omega|(simp only[zl]<;>omega)|(simp only[zn])) only[↓zd,zk,seval,reduceIte,List.map,AV.cells,List.all,AV.one,eqV,eqAll,splice,fillA,List.replicate,resAll,resA,zm,zg,hb2,hbox]
   exact⟨k - 1,hk1,q * 2,_,by rw[hb4],hM.symm,hq'⟩
  ·have hb2:decide (roomP c.q∧c.q < q)=false:=decide_eq_false hb
   by_cases hcq:c.q=q
   ·have hb4:=hb3 true ⟨fun _=>.inr hcq,fun _=>rfl⟩
    clear hb hb3
    simp(disch:=first|assumption|omega|(simp only[zl]<;>omega)|(simp only[zn])) only[↓zd,zk,seval,reduceIte,List.map,AV.cells,List.all,AV.one,eqV,eqAll,splice,fillA,List.replicate,resAll,resA,zm,zg,hb2,hbox,hcq]
    exact⟨k - 1,hk1,q * 2,_,by rw[hb4,← hcq],hM.symm,hq'⟩
   ·have hb4:=hb3 false (iff_of_false (by simp) (fun h=>h.elim hb hcq))
    clear hb hb3
    simp(disch:=first|assumption|omega|(simp only[zl]<;>omega)|(simp only[zn])) only[↓zd,zk,seval,reduceIte,List.map,AV.cells,List.all,AV.one,eqV,eqAll,splice,fillA,List.replicate,resAll,resA,zm,zg,hb2,hbox,hcq]
    exact⟨k - 1,hk1,q * 2,_,by rw[hb4],hM.symm,hq'⟩
end Go.Am.F10
end
section
namespace Go.Am.F10
open Go.Am.F06 (memC slOne)
variable {X:Type}
theorem rright_eq(m:Mem X) (c:Cf):c_ref05_Right [.agg (cfC c)] m=some (.bool (decide (rightP c)),m++[.cells 6 false (cfC c)]):=Fn_eq (rright_run (G:=[]) c)
theorem rthere_eq(m:Mem X) (c:Cf) (p:Int):c_ref09_There [.agg (cfC c),.int .i64 p] m=some (.bool (decide (thereP c p)),m++[.cells 6 false (cfC c),.cells 6 false (cfC c)]):=by
 have a181:assoc [(181,c_ref05_Right (X:=X))] 181=some c_ref05_Right:=rfl
 have he:c_ref09_There (X:=X)=amFunc [(181,c_ref05_Right)] ref09_There:=rfl
 rw[he]
 generalize [(181,c_ref05_Right (X:=X))]=G at a181 ⊢
 have hr:=rright_eq (m++[.cells 6 false (cfC c)]) c
 simp only[cfC,List.append_assoc,List.cons_append,List.nil_append] at hr
 refine Fn_eq (Fn_of rfl ?_)
 by_cases h:rightP c
 ·simp only[decide_eq_true h] at hr
  simp(disch:=first|assumption|omega|(simp only[zl]<;>omega)|(simp only[zn])) only[ref09_There,↓zd,zk,seval,reduceIte,List.map,AV.cells,List.all,AV.one,eqV,eqAll,splice,fillA,List.replicate,resAll,resA,zm,zg,cfC,a181,hr]
  repeat' ((first|refine GK_of (fun h=>?_) (fun h=>?_)|refine CW_of (fun h=>?_) (fun h=>?_)|refine GKT_of (fun h=>?_) (fun h=>?_))<;>(try simp only[Bool.not_eq_true',Bool.not_eq_false',decide_eq_true_eq,decide_eq_false_iff_not,Bool.and_eq_true,Bool.or_eq_true,Bool.and_eq_false_iff,Bool.or_eq_false_iff,Decidable.not_not] at h)<;>(try simp(disch:=first|assumption|omega|(simp only[zl]<;>omega)|(simp only[zn])) only[↓zd,zk,seval,reduceIte,List.map,AV.cells,List.all,AV.one,eqV,eqAll,splice,fillA,List.replicate,resAll,resA,zm,zg,cfC,h]))
  all_goals refine congrArg _ ?_
  all_goals rw[← Bool.eq_iff_iff.2 (show decide (0≤p∧p < c.n)=true ↔ decide (thereP c p)=true by simp only[decide_eq_true_eq];exact⟨fun hh=>⟨‹rightP c›,hh⟩,fun hh=>hh.2⟩)]
  all_goals first|(rw[decide_eq_true (by omega)];done)|(rw[decide_eq_false (by omega)];done)|(rw[decide_eq_decide];omega)
 ·simp only[decide_eq_false h] at hr
  simp(disch:=first|assumption|omega|(simp only[zl]<;>omega)|(simp only[zn])) only[ref09_There,↓zd,zk,seval,reduceIte,List.map,AV.cells,List.all,AV.one,eqV,eqAll,splice,fillA,List.replicate,resAll,resA,zm,zg,cfC,a181,hr]
  rw[decide_eq_false (fun hc=>h hc.1)]
theorem config_eq(m:Mem X) (c:Cf):c_docs_Config [.agg (cfC c)] m=some (.agg (cfC c),m++[.cells 6 false (cfC c),.cells 6 false (cfC c)]):=by
 have he:c_docs_Config (X:=X)=amFunc [] docs_Config:=rfl
 rw[he]
 refine Fn_eq (Fn_of rfl ?_)
 simp(disch:=first|assumption|omega|(simp only[zl]<;>omega)|(simp only[zn])) only[docs_Config,↓zd,zk,seval,reduceIte,List.map,AV.cells,List.all,AV.one,eqV,eqAll,splice,fillA,List.replicate,resAll,resA,zm,zg,cfC]
end Go.Am.F10
end
section
namespace Go.Am.F06
set_option maxHeartbeats 4000000 in
theorem rload_eq{m:MM} {wr:Bool} {xs:List Int} {v:AV} (hs:SU m wr xs v) (o:Int) {a:Nat} (ha:a < xs.length):c_ref06_Load [.agg (memC v o),.int .i64 a] m=some (.tup [.agg (memC v (IntKind.u64.wrap (o+1))),.int .u64 (xs.getD a 0)],m++[.cells 2 false (memC v o),.cells 2 false (memC v (IntKind.u64.wrap (o+1))),.cells 2 false (memC v o)]):=by
 have he:c_ref06_Load (X:=Ob)=amFunc [(72,c_ref06_there)] ref06_Load:=rfl
 rw[he]
 have a72:assoc [(72,c_ref06_there (X:=Ob))] 72=some c_ref06_there:=rfl
 generalize [(72,c_ref06_there (X:=Ob))]=G at a72
 have hone:=slOne hs
 simp only[AV.one] at hone
 have ht:=Fn_eq (refthere_run (G:=[]) (hs.keep (Keep.app m [Chunk.cells 2 false [v,.int .u64 o],.cells 2 false [.nils,.int .u64 0]])) o a)
 rw[thr_b] at ht
 simp only[memC,List.append_assoc,List.cons_append,List.nil_append] at ht
 have h:thr xs a:=⟨by omega,by omega⟩
 obtain⟨x,hx⟩:∃ x,xs[a]?=some x:=⟨_,List.getElem?_eq_getElem (by omega)⟩
 have hd:xs.getD a 0=x:=by rw[List.getD_eq_getElem?_getD,hx];rfl
 obtain⟨q,oo,cap,ro,L,rfl,b2,b3,b4,b5,b6⟩:=SU.get hs hx
 have hqm:q < m.length:=(List.getElem?_eq_some_iff.1 b2).1
 simp only[h,decide_true] at ht
 rw[hd]
 refine Fn_eq (Fn_of rfl ?_)
 simp(disch:=first|assumption|omega|(simp only[zl]<;>omega)|(simp only[zn])) only[ref06_Load,↓zd,zk,seval,reduceIte,List.map,AV.cells,List.all,AV.one,eqV,eqAll,splice,fillA,List.replicate,resAll,resA,zm,zg,memC,hone,a72,c_ref06_there,ht,b2,b6]
def RcP(m:MM) (xs:List Int) (o a old x:Int) (r:AV) (m':MM):Prop:=Keep m m'∧∃ v',r = .tup [.agg (memC v' o),.bool (decide (xs.getD a.toNat 0=old))]∧SU m' false (if xs.getD a.toNat 0=old then xs.set a.toNat x else xs) v'
set_option maxHeartbeats 4000000 in
theorem rcas_run{m:MM} {wr:Bool} {xs:List Int} {v:AV} (hs:SU m wr xs v) (hn:xs.length≤65536) (o:Int) {a:Int} (ha:thr xs a) (old x:Int):Fn [(72,c_ref06_there),(73,c_ref06_with)] ref06_CAS [.agg (memC v o),.int .i64 a,.int .u64 old,.int .u64 x] m (RcP m xs (IntKind.u64.wrap (o+1)) a old x):=by
 have a72:assoc [(72,c_ref06_there (X:=Ob)),(73,c_ref06_with)] 72=some c_ref06_there:=rfl
 have a73:assoc [(72,c_ref06_there (X:=Ob)),(73,c_ref06_with)] 73=some c_ref06_with:=rfl
 generalize [(72,c_ref06_there (X:=Ob)),(73,c_ref06_with)]=G at a72 a73
 have hone:=slOne hs
 simp only[AV.one] at hone
 have ht:=Fn_eq (refthere_run (G:=[]) (hs.keep (Keep.app m [Chunk.cells 2 false [v,.int .u64 o],.cells 2 false [.nils,.int .u64 0]])) o a)
 rw[thr_b] at ht
 simp only[memC,List.append_assoc,List.cons_append,List.nil_append] at ht
 refine Fn_of rfl ?_
 obtain⟨h0,h1⟩:=id ha
 obtain⟨k,rfl⟩:∃ k:Nat,a=k:=⟨a.toNat,by omega⟩
 obtain⟨w,hw⟩:∃ w,xs[k]?=some w:=⟨_,List.getElem?_eq_getElem (by omega)⟩
 obtain⟨q,oo,cap,ro,L,rfl,b2,b3,b4,b5,b6⟩:=SU.get hs hw
 have hqm:q < m.length:=(List.getElem?_eq_some_iff.1 b2).1
 have hgd:xs.getD k 0=w:=by rw[List.getD_eq_getElem?_getD,hw];rfl
 simp only[ha,decide_true] at ht
 have hw:=refwith_run (G:=[]) (hs.keep (Keep.app m [Chunk.cells 2 false [.sl q oo xs.length cap,.int .u64 o],.cells 2 false [.nils,.int .u64 0],.cells 2 false [.sl q oo xs.length cap,.int .u64 o]])) hn (a:=k) (by omega) o x
 by_cases hwo:w=old
 ·subst hwo
  simp(disch:=first|assumption|omega|(simp only[zl]<;>omega)|(simp only[zn])) only[ref06_CAS,↓zd,zk,seval,reduceIte,List.map,AV.cells,List.all,AV.one,eqV,eqAll,splice,fillA,List.replicate,resAll,resA,zm,zg,memC,hone,a72,c_ref06_there,ht,a73,c_ref06_with,b2,b6]
  refine OK_fn hw ?_
  rintro _ m1 ⟨k1,v',rfl,s1⟩
  have g1:m1[m.length+1]?=some (.cells 2 false [.nils,.int .u64 0]):=k1.get (by rw[get_mid];rfl)
  have hl1:m.length+1 < m1.length:=(List.getElem?_eq_some_iff.1 g1).1
  have hone':=slOne s1
  simp only[AV.one] at hone'
  simp(disch:=first|assumption|omega|(simp only[zl]<;>omega)|(simp only[zn])) only[↓zd,zk,seval,reduceIte,List.map,AV.cells,List.all,AV.one,eqV,eqAll,splice,fillA,List.replicate,resAll,resA,zm,zg,memC,g1,hone']
  refine⟨((Keep.app m _).trans k1).set (by omega) _,v',?_,?_⟩
  ·rw[Int.toNat_natCast,hgd,decide_eq_true rfl];rfl
  ·rw[Int.toNat_natCast,hgd,if_pos rfl];exact(KeepB.at _ _).off (su_box s1 g1) s1
 ·simp(disch:=first|assumption|omega|(simp only[zl]<;>omega)|(simp only[zn])) only[ref06_CAS,↓zd,zk,seval,reduceIte,List.map,AV.cells,List.all,AV.one,eqV,eqAll,splice,fillA,List.replicate,resAll,resA,zm,zg,memC,hone,a72,c_ref06_there,ht,b2,b6]
  refine⟨Keep.app _ _,.sl q oo xs.length cap,?_,?_⟩
  ·rw[Int.toNat_natCast,hgd,decide_eq_false hwo];rfl
  ·rw[Int.toNat_natCast,hgd,if_neg hwo];exact(hs.keep (Keep.app _ _)).ro
end Go.Am.F06
namespace Go.Am.F10
open Go.Am.F06
theorem word_at{c:Cf} {p:Int} (h:thereP c p):wordA c p=addrA c p 0:=by unfold addrA wordA;rw[if_pos h,Int.add_zero]
theorem slot_at{c:Cf} {p:Int} (h:thereP c p) (i:Int):wordA c p+6+i % c.q=slotA c p i:=by unfold slotA;rw[if_pos h.1];unfold addrA wordA;rw[if_pos h];omega
theorem rslot_eq{X:Type} (m:Mem X) {c:Cf} {p:Int} (h:thereP c p) {i:Int} (hi:0≤i) (hi2:i < 4294967296):c_ref09_Slot [.agg (cfC c),.int .i64 p,.int .u32 i] m=some (.int .i64 (slotA c p i),m++[.cells 6 false (cfC c),.cells 6 false (cfC c)]):=by
 have a172:assoc [(172,c_ref09_Word (X:=X))] 172=some c_ref09_Word:=rfl
 have he:c_ref09_Slot (X:=X)=amFunc [(172,c_ref09_Word)] ref09_Slot:=rfl
 rw[he]
 generalize [(172,c_ref09_Word (X:=X))]=G at a172 ⊢
 have hb:=there_bounds h
 have hw:=fun m:Mem X=>rword_eq m h
 have hwa:=addr_b h (i:=0) (by omega) (by omega)
 rw[← word_at h] at hwa
 have hcn:=cellsN_le c
 have h0:=Int.emod_nonneg i (b:=c.q) (by omega)
 have h1:=Int.emod_lt_of_pos i (b:=c.q) (by omega)
 have e0:IntKind.u32.wrap c.q=c.q:=by rw[wrap32];omega
 have e1:i.tmod c.q=i % c.q:=Int.tmod_eq_emod_of_nonneg hi
 have e2:IntKind.i64.wrap (i % c.q)=i % c.q:=wrapI (by omega) (by omega)
 have e3:IntKind.i64.wrap (wordA c p+6)=wordA c p+6:=wrapI (by omega) (by omega)
 have e4:IntKind.i64.wrap (wordA c p+6+i % c.q)=slotA c p i:=by rw[wrapI (by omega) (by omega)];exact slot_at h i
 have e5:¬ (c.q=0):=by omega
 simp only[cfC] at hw
 refine Fn_eq (Fn_of rfl ?_)
 simp(disch:=first|assumption|omega|(simp only[zl]<;>omega)|(simp only[zn])) only[ref09_Slot,↓zd,zk,seval,reduceIte,List.map,AV.cells,List.all,AV.one,eqV,eqAll,splice,fillA,List.replicate,resAll,resA,zm,zg,cfC,a172,hw,e0,e5,e1,e2,e3,e4]
structure SUN (lo hi:Nat) (m:MM) (wr:Bool) (xs:List Int) (v:AV):Prop where
 su:SU m wr xs v
 no:∀ b,lo≤b→b < hi→∀ ro L,m[b]?≠some (.cells 1 ro L)
theorem SUN.set{lo hi:Nat} {m:MM} {wr:Bool} {xs:List Int} {v:AV} (h:SUN lo hi m wr xs v) {a:Nat} (h1:lo≤a) (h2:a < hi) {C:Chunk Ob} (hC:∀ ro L,C ≠ .cells 1 ro L):SUN lo hi (m.set a C) wr xs v:=by
 refine⟨(KeepB.at _ _).off (fun q o n c hv h0 hq=>?_) h.su,fun b b1 b2 ro L hb=>?_⟩
 ·rcases h.su.2 with⟨h3,_⟩|⟨q2,o2,c2,h3,h4⟩
  ·rw[h3] at hv;cases hv
  ·rw[h3] at hv;injection hv with e1 e2 e3 e4;subst e1;subst e3;subst hq
   obtain⟨ro,L,h5,_⟩:=h4 h0
   exact h.no _ h1 h2 _ _ h5
 ·by_cases hab:a=b
  ·subst hab
   by_cases hl:a < m.length
   ·rw[List.getElem?_set_self hl] at hb;injection hb with hb;exact hC _ _ hb
   ·rw[List.getElem?_eq_none (by rw[List.length_set];omega)] at hb;cases hb
  ·rw[List.getElem?_set_ne hab] at hb;exact h.no b b1 b2 _ _ hb
structure GS where
 a:Int
 w:Int
 seen:Int
 has:Bool
 tries:Int
def gC(c:Cf) (p:Int) (s:GS):List AV:=getC c p s.a s.w s.seen s.has s.tries
structure GOk (c:Cf) (p:Int) (s:GS):Prop where
 w:W64 s.w
 a:s.a=0∨(thereP c p∧(s.a=1∨s.a=2∨s.a=3))
 has:s.has=true→s.a=0
def wrdN(c:Cf) (p:Int):Nat:=(addrA c p 0).toNat
def sltN(c:Cf) (p w:Int):Nat:=(slotA c p (hd w)).toNat
def stepG(c:Cf) (p:Int) (xs:List Int) (s:GS):GS × List Int :=
 if s.a=1 then({ s with w:=xs.getD (wrdN c p) 0,a:=if sz (xs.getD (wrdN c p) 0)=0∨c.q < sz (xs.getD (wrdN c p) 0) then 0 else 2 },xs)
 else if s.a=2 then({ s with seen:=IntKind.i64.wrap (xs.getD (sltN c p s.w) 0),a:=3 },xs)
 else if s.a=3 then if xs.getD (wrdN c p) 0=s.w then({ s with has:=true,a:=0 },xs.set (wrdN c p) (gainW s.w)) else({ s with tries:=IntKind.i64.wrap (s.tries+1),a:=1 },xs)
 else(s,xs)
def opsG(s:GS) (o:Int):Int:=if s.a=0 then o else IntKind.u64.wrap (o+1)
theorem getD_64{xs:List Int} (h:∀ x,x ∈ xs→W64 x) (i:Nat):W64 (xs.getD i 0):=by
 rw[List.getD_eq_getElem?_getD]
 cases hx:xs[i]? with
 | none=>unfold W64;simp
 | some x=>exact h x (List.mem_of_getElem? hx)
theorem stepG_zero{c:Cf} {p:Int} {s:GS} (h:s.a=0) (xs:List Int):stepG c p xs s=(s,xs):=by
 unfold stepG;rw[if_neg (by omega),if_neg (by omega),if_neg (by omega)]
theorem GOk.step{c:Cf} {p:Int} {s:GS} {xs:List Int} (h:GOk c p s) (hx:s.a=0∨OkL c xs):GOk c p (stepG c p xs s).1:=by
 rcases hx with h0|hx
 ·rw[stepG_zero h0];exact h
 obtain⟨h1,h2,h3⟩:=h
 have hg:=getD_64 hx.2 (wrdN c p)
 unfold stepG
 split
 ·refine⟨hg,?_,fun hh=>?_⟩
  ·by_cases hz:sz (xs.getD (wrdN c p) 0)=0∨c.q < sz (xs.getD (wrdN c p) 0)
   ·exact .inl (if_pos hz)
   ·refine .inr ⟨?_,.inr (.inl (if_neg hz))⟩
    rcases h2 with h2|h2
    ·omega
    ·exact h2.1
  ·have:=h3 hh;omega
 ·split
  ·refine⟨h1,.inr ⟨?_,.inr (.inr rfl)⟩,fun hh=>?_⟩
   ·rcases h2 with h2|h2
    ·omega
    ·exact h2.1
   ·have:=h3 hh;omega
  ·split
   ·split
    ·exact⟨h1,.inl rfl,fun _=>rfl⟩
    ·refine⟨h1,.inr ⟨?_,.inl rfl⟩,fun hh=>?_⟩
     ·rcases h2 with h2|h2
      ·omega
      ·exact h2.1
     ·have:=h3 hh;omega
   ·exact⟨h1,h2,h3⟩
end Go.Am.F10
end
section
namespace Go.Am.F10
open Go.Am.F06
theorem memF_app{step:MemSt→List AV→Option (AV × MemSt)} {M:MM} {j:Nat} {s s':MemSt} {rest:List AV} {v:AV} (h:memF step (.ptr j 0 :: rest) M=some (v,M.set j (.abs (.mem s')))) (hs:M[j]?=some (.abs (.mem s))) (hst:step s rest=some (v,s')) (K:MM):memF step (.ptr j 0 :: rest) (M++K)=some (v,M.set j (.abs (.mem s'))++K):=by
 have lj:j < M.length:=(List.getElem?_eq_some_iff.1 hs).1
 simp only[memF]
 rw[List.getElem?_append_left lj,hs]
 simp only[hst,List.set_append_left _ _ lj]
theorem RelM.loadE{xs:List Int} {o:Int} {s:MemSt} (h:RelM xs o s) {a:Int} (ha:thr xs a) :
  ∃ s',RelM xs (IntKind.u64.wrap (o+1)) s'∧loadS s [.int .i64 a]=some (.int .u64 (xs.getD a.toNat 0),s')∧(∀ (M K:MM) (j:Nat),M[j]?=some (.abs (.mem s))→memF loadS [.ptr j 0,.int .i64 a] (M++K)=some (.int .u64 (xs.getD a.toNat 0),M.set j (.abs (.mem s'))++K))∧∀ (M:MM) (j:Nat),M[j]?=some (.abs (.mem s))→memF loadS [.ptr j 0,.int .i64 a] M=some (.int .u64 (xs.getD a.toNat 0),M.set j (.abs (.mem s'))):=by
 obtain⟨k,rfl⟩:∃ k:Nat,a=k:=⟨a.toNat,by have:=ha.1;omega⟩
 have ha':k < xs.length:=by have:=ha.2;omega
 obtain⟨s',h1,h2⟩:=h.acc ha' 1 (fun w=>(w,true))
 rw[getD_set ha'] at h2
 have hs:loadS s [.int .i64 k]=some (.int .u64 (xs.getD k 0),s'):=by simp only[loadS,h1,Option.map_some]
 exact⟨s',h2,hs,fun M K j hM=>memF_app (memF_of hM hs) hM hs K,fun M j hM=>memF_of hM hs⟩
theorem RelM.storeE{xs:List Int} {o:Int} {s:MemSt} (h:RelM xs o s) {a:Int} (ha:thr xs a) (x:Int) :
  ∃ s',RelM (xs.set a.toNat x) (IntKind.u64.wrap (o+1)) s'∧storeS s [.int .i64 a,.int .u64 x]=some (.tup [],s')∧(∀ (M K:MM) (j:Nat),M[j]?=some (.abs (.mem s))→memF storeS [.ptr j 0,.int .i64 a,.int .u64 x] (M++K)=some (.tup [],M.set j (.abs (.mem s'))++K))∧∀ (M:MM) (j:Nat),M[j]?=some (.abs (.mem s))→memF storeS [.ptr j 0,.int .i64 a,.int .u64 x] M=some (.tup [],M.set j (.abs (.mem s'))):=by
 obtain⟨k,rfl⟩:∃ k:Nat,a=k:=⟨a.toNat,by have:=ha.1;omega⟩
 have ha':k < xs.length:=by have:=ha.2;omega
 obtain⟨s',h1,h2⟩:=h.acc ha' 2 (fun w=>(x,true))
 have hs:storeS s [.int .i64 k,.int .u64 x]=some (.tup [],s'):=by simp only[storeS,h1,Option.map_some]
 exact⟨s',h2,hs,fun M K j hM=>memF_app (memF_of hM hs) hM hs K,fun M j hM=>memF_of hM hs⟩
theorem RelM.casE{xs:List Int} {o:Int} {s:MemSt} (h:RelM xs o s) {a:Int} (ha:thr xs a) (x y:Int) :
  ∃ s',RelM (if xs.getD a.toNat 0=x then xs.set a.toNat y else xs) (IntKind.u64.wrap (o+1)) s'∧casS s [.int .i64 a,.int .u64 x,.int .u64 y]=some (.bool (decide (xs.getD a.toNat 0=x)),s')∧(∀ (M K:MM) (j:Nat),M[j]?=some (.abs (.mem s))→memF casS [.ptr j 0,.int .i64 a,.int .u64 x,.int .u64 y] (M++K)=some (.bool (decide (xs.getD a.toNat 0=x)),M.set j (.abs (.mem s'))++K))∧∀ (M:MM) (j:Nat),M[j]?=some (.abs (.mem s))→memF casS [.ptr j 0,.int .i64 a,.int .u64 x,.int .u64 y] M=some (.bool (decide (xs.getD a.toNat 0=x)),M.set j (.abs (.mem s'))):=by
 obtain⟨k,rfl⟩:∃ k:Nat,a=k:=⟨a.toNat,by have:=ha.1;omega⟩
 have ha':k < xs.length:=by have:=ha.2;omega
 obtain⟨s',h1,h2⟩:=h.acc ha' 3 (fun w=>if w=x then(y,true) else(w,false))
 have hs:casS s [.int .i64 k,.int .u64 x,.int .u64 y]=some (.bool (decide (xs.getD k 0=x)),s'):=by
  simp only[casS,h1,Option.map_some]
  by_cases hx:xs.getD k 0=x
  ·simp only[if_pos hx,decide_eq_true hx]
  ·simp only[if_neg hx,decide_eq_false hx]
 refine⟨s',?_,hs,fun M K j hM=>memF_app (memF_of hM hs) hM hs K,fun M j hM=>memF_of hM hs⟩
 rw[Int.toNat_natCast]
 by_cases hx:xs.getD k 0=x
 ·simp only[if_pos hx] at h2 ⊢;exact h2
 ·simp only[if_neg hx,getD_set ha'] at h2 ⊢;exact h2
def GsQ(m:MM) (c:Cf) (p:Int) (j i:Nat) (x:GS × List Int) (o a0:Int) (r:AV) (m':MM):Prop:=KeepX j i m m'∧r = .int .i64 x.1.a∧m'[j]?=some (.cells 12 false (gC c p { x.1 with a:=a0 }))∧∃ st',m'[i]?=some (.abs (.mem st'))∧RelM x.2 o st'
theorem GsQ.of{m:MM} {c:Cf} {p:Int} {j i:Nat} {x:GS × List Int} {o a0:Int} {st':MemSt} {r:AV} {C:List AV} (hij:j≠i) (li:i < m.length) (lj:j < m.length) (hr:RelM x.2 o st') (hC:C=gC c p { x.1 with a:=a0 }) (hv:r = .int .i64 x.1.a) (K:MM) :
  GsQ m c p j i x o a0 r ((m.set i (.abs (.mem st'))).set j (.cells 12 false C)++K):=by
 subst hC
 refine⟨(((KeepX.refl m).setR _).setL _).app K,hv,?_,st',?_,hr⟩
 ·rw[List.getElem?_append_left (by simpa using lj),List.getElem?_set_self (by simpa using lj)]
 ·rw[List.getElem?_append_left (by simpa using li),List.getElem?_set_ne hij,List.getElem?_set_self li]
end Go.Am.F10
end
