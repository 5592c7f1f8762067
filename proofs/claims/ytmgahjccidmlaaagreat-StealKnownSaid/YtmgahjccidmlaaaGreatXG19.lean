import Derived.Test.YtmgahjccidmlaaaGreatXG18
set_option linter.unusedSimpArgs false
set_option linter.unusedVariables false
section
namespace Go.Am.F09
open Go.Am.F06 Go.Am.F10
def Cl2(m:MM) (xs:List Int) (r:AV) (m':MM):Prop:=Keep m m'∧((xs=[]∧lenA r=some 0∧(r = .nils∨∃ q o c,r = .sl q o 0 c∧m.length≤q))∨∃ q,r = .sl q 0 xs.length none∧m.length≤q∧m'[q]?=some (.cells 1 false (iC xs)))
theorem clone_run2{m:MM} {wr:Bool} {xs:List Int} {v:AV} (h:SI m wr xs v) (hn:xs.length≤100000):Fn [] slices_Clone_int [v] m (Cl2 m xs):=by
 refine Fn_of rfl ?_
 rcases Nat.eq_zero_or_pos xs.length with h0|h0
 ·have hx0:xs=[]:=List.length_eq_zero_iff.1 h0
  subst hx0
  rcases h.2 with⟨rfl,_⟩|⟨q,o,cap,rfl,_⟩
  ·simp(disch:=first|assumption|omega|(simp only[zl]<;>omega)|(simp only[zn])) only[slices_Clone_int,↓zd,zk,seval,reduceIte,List.map,AV.cells,List.all,AV.one,eqV,eqAll,splice,fillA,List.replicate,resAll,resA,zm,zg]
   exact⟨.refl _,.inl ⟨rfl,rfl,.inl rfl⟩⟩
  ·have happ:appendA 1 8 (.sl m.length 0 0 (some 0)) (.sl q o 0 cap) (m++[.cells 1 false []])=some (.sl m.length 0 0 (some 0),m++[.cells 1 false []]):=rfl
   simp(disch:=first|assumption|omega|(simp only[zl]<;>omega)|(simp only[zn])) only[slices_Clone_int,↓zd,zk,seval,reduceIte,List.map,AV.cells,List.all,AV.one,eqV,eqAll,splice,fillA,List.replicate,resAll,resA,zm,zg,evA,fillA,repeatL,List.flatten_nil,happ,List.length_nil]
   exact⟨.app _ _,.inl ⟨rfl,rfl,.inr ⟨_,_,_,rfl,Nat.le_refl _⟩⟩⟩
 ·obtain⟨q,o,cap,ro,L,rfl,h2,h3,h4,h5⟩:=h.at h0
  have hq:q < m.length:=(List.getElem?_eq_some_iff.1 h2).1
  have hrow:rowOf (m++[Chunk.cells 1 false []]) 1 (.sl q o xs.length cap)=some (iC xs):=by
   simp only[rowOf,Am.getC]
   rw[List.getElem?_append_left hq,h2]
   simp only
   rw[if_neg (by omega),if_pos h4,h3]
  have hz:rowOf (m++[Chunk.cells 1 false []]) 1 (.sl m.length 0 0 (some 0))=some []:=rfl
  have happ:appendA 1 8 (.sl m.length 0 0 (some 0)) (.sl q o xs.length cap) (m++[.cells 1 false []])=some (.sl (m.length+1) 0 xs.length none,m++[.cells 1 false [],.cells 1 false (iC xs)]):=by
   simp only[appendA,lenA,hrow,hz]
   rw[if_neg (by omega),if_neg (by omega),if_pos ⟨by omega,by omega,iC_one _⟩]
   simp
  simp(disch:=first|assumption|omega|(simp only[zl]<;>omega)|(simp only[zn])) only[slices_Clone_int,↓zd,zk,seval,reduceIte,List.map,AV.cells,List.all,AV.one,eqV,eqAll,splice,fillA,List.replicate,resAll,resA,zm,zg,evA,fillA,repeatL,List.flatten_nil,happ]
  exact⟨.app _ _,.inr ⟨_,rfl,by omega,by rw[get_mid];rfl⟩⟩
def newL(c:Cf) (p:Int) (xs:List Int):LS:=if thereP c p then⟨1,0,0,0,posL xs⟩ else⟨0,0,0,0,[]⟩
theorem newL_ok(c:Cf) (p:Int) {xs:List Int} (h:xs.length≤100):LOk c p (newL c p xs):=by
 have:=pos_len xs
 unfold newL;split
 ·rename_i hp
  exact⟨by unfold W64;simp,.inr ⟨hp,.inl rfl⟩,by simp only;omega⟩
 ·exact⟨by unfold W64;simp,.inl rfl,by simp⟩
def NlP(m:MM) (c:Cf) (p:Int) (xs:List Int) (r:AV) (m':MM):Prop:=∃ xj lv,r = .ptr xj 0∧m.length≤xj∧Keep m m'∧LM m' xj c p (newL c p xs) lv∧Fr m.length lv
def Gnl:List (Nat × AFun Ob):=[(206,c_put_from),(208,c_slices_Clone_int),(95,amFunc Gdf slices_DeleteFunc_int)]
set_option maxHeartbeats 8000000 in
theorem newlay_run{m:MM} {wr:Bool} {c:Cf} {p:Int} {xs:List Int} {v:AV} (hv:SI m wr xs v) (hn:xs.length≤1000):Fn Gnl put_NewLay [.agg (cfC c),.int .i64 p,v] m (NlP m c p xs):=by
 have a206:assoc Gnl 206=some c_put_from:=rfl
 have a208:assoc Gnl 208=some c_slices_Clone_int:=rfl
 have a95:assoc Gnl 95=some (amFunc Gdf slices_DeleteFunc_int):=rfl
 have he:c_slices_Clone_int (X:=Ob)=amFunc [] slices_Clone_int:=rfl
 generalize Gnl=G at a206 a208 a95 ⊢
 have hfr:=from_eq (m++[.cells 6 false (cfC c)]) c p
 by_cases h1:thereP c p
 ·have hnl:newL c p xs=⟨1,0,0,0,posL xs⟩:=if_pos h1
  unfold NlP
  rw[hnl]
  rw[fromA,if_pos h1] at hfr
  simp only[rgC,cfC,List.cons_append,List.nil_append,List.append_assoc] at hfr
  refine Fn_of rfl ?_
  simp(disch:=first|assumption|omega|(simp only[zl]<;>omega)|(simp only[zn])) only[put_NewLay,↓zd,zk,seval,reduceIte,List.map,AV.cells,List.all,AV.one,eqV,eqAll,splice,fillA,List.replicate,resAll,resA,zm,zg,cfC,a206,hfr,List.set_set,List.drop_succ_cons,List.drop_zero,List.drop_nil,List.append_nil,a208,he]
  have hcl:=fun K:MM=>clone_run2 (hv.keep (Keep.app m K)) (by omega)
  refine OK_fn (hcl _) ?_
  rintro w m1 ⟨k1,hw⟩
  have km:Keep m m1:=(Keep.app m _).trans k1
  have g7:=k1.get (i:=m.length+7) (c:=.cells 12 false (layC c p ⟨1,0,0,0,[]⟩ .nils)) (by rw[get_mid];rfl)
  have l7:m.length+7 < m1.length:=(List.getElem?_eq_some_iff.1 g7).1
  simp only[List.length_append,List.length_cons,List.length_nil] at hw
  rcases hw with⟨rfl,hl0,hw⟩|⟨q,rfl,hq,hq1⟩
  ·simp(disch:=first|assumption|omega|(simp only[zl]<;>omega)|(simp only[zn])) only[↓zd,zk,seval,reduceIte,List.map,AV.cells,List.all,AV.one,eqV,eqAll,splice,fillA,List.replicate,resAll,resA,zm,zg,a95]
   refine OK_fn (delete_nil hl0) ?_
   rintro w2 m2 ⟨hw2,rfl⟩
   rw[hw2]
   clear hw2
   have hx:∃ q o cc,w = .nils∨(w = .sl q o 0 cc∧m.length≤q):=by
    rcases hw with h|⟨q,o,cc,h,h'⟩
    ·exact⟨0,0,none,.inl h⟩
    ·exact⟨q,o,cc,.inr ⟨h,by omega⟩⟩
   have hp0:posL []=[]:=rfl
   rw[hp0]
   simp only[layC,rgC,cfC,List.cons_append,List.nil_append] at g7
   obtain⟨q,o,cc,rfl|⟨rfl,hqm⟩⟩:=hx
   ·simp(disch:=first|assumption|omega|(simp only[zl]<;>omega)|(simp only[zn])) only[↓zd,zk,seval,reduceIte,List.map,AV.cells,List.all,AV.one,eqV,eqAll,splice,fillA,List.replicate,resAll,resA,zm,zg,g7]
    exact⟨_,.nils,rfl,by omega,km.set (by omega) _,⟨by rw[List.getElem?_set_self l7];rfl,Sl.nil,fun h=>by simp at h⟩,.inl rfl⟩
   ·simp(disch:=first|assumption|omega|(simp only[zl]<;>omega)|(simp only[zn])) only[↓zd,zk,seval,reduceIte,List.map,AV.cells,List.all,AV.one,eqV,eqAll,splice,fillA,List.replicate,resAll,resA,zm,zg,g7]
    exact⟨_,.sl q o 0 cc,rfl,by omega,km.set (by omega) _,⟨by rw[List.getElem?_set_self l7];rfl,⟨rfl,.inr ⟨_,_,_,rfl,fun h=>absurd h (Nat.lt_irrefl _)⟩⟩,fun h=>by simp at h⟩,.inr ⟨_,_,_,_,rfl,hqm⟩⟩
  ·simp(disch:=first|assumption|omega|(simp only[zl]<;>omega)|(simp only[zn])) only[↓zd,zk,seval,reduceIte,List.map,AV.cells,List.all,AV.one,eqV,eqAll,splice,fillA,List.replicate,resAll,resA,zm,zg,a95]
   have hkq:Keep (m1.take (m.length+8)) m1:=⟨by rw[List.length_take];omega,fun i hi=>by
    rw[List.length_take] at hi
    rw[List.getElem?_take,if_pos (by omega)]⟩
   refine OK_fn (delete_run hkq (by rw[List.length_take];omega) hq1 hn) ?_
   rintro w2 m2 ⟨k2,sl2,fr2,nx2⟩
   have hlt:(m1.take (m.length+8)).length=m.length+8:=by rw[List.length_take];omega
   have hg2:m2[m.length+7]?=some (.cells 12 false (layC c p ⟨1,0,0,0,[]⟩ .nils)):=by
    rw[k2.2 _ (by omega),List.getElem?_take,if_pos (by omega)];exact g7
   have l2:m.length+7 < m2.length:=(List.getElem?_eq_some_iff.1 hg2).1
   have km2:Keep m m2:=⟨by have:=k2.1;omega,fun i hi=>by rw[k2.2 i (by omega),List.getElem?_take,if_pos (by omega),km.2 i hi]⟩
   have nb:∀ ro L,m2[m.length+7]?≠some (.cells 1 ro L):=fun ro L h=>by rw[hg2] at h;cases h
   rw[hlt] at fr2
   have hw2:w2 = .nils∨∃ q o nn,w2 = .sl q o nn none:=by
    rcases nx2 with h|⟨q,o,nn,l,h,_⟩
    ·exact .inl h
    ·exact .inr ⟨q,o,nn,h⟩
   have hfr2:Fr m.length w2:=by
    rcases fr2 with h|⟨q,o,nn,cc,h,h'⟩
    ·exact .inl h
    ·exact .inr ⟨q,o,nn,cc,h,by omega⟩
   have hsl:=Sl.put sl2.ro nb
   have hnx:=fun C=>Nx.put nx2 nb C
   simp only[layC,rgC,cfC,List.cons_append,List.nil_append] at hg2
   rcases hw2 with rfl|⟨q2,o2,nn2,rfl⟩
   ·simp(disch:=first|assumption|omega|(simp only[zl]<;>omega)|(simp only[zn])) only[↓zd,zk,seval,reduceIte,List.map,AV.cells,List.all,AV.one,eqV,eqAll,splice,fillA,List.replicate,resAll,resA,zm,zg,hg2]
    exact⟨_,_,rfl,by omega,km2.set (by omega) _,⟨by rw[List.getElem?_set_self l2];rfl,hsl _,fun _=>hnx _⟩,hfr2⟩
   ·simp(disch:=first|assumption|omega|(simp only[zl]<;>omega)|(simp only[zn])) only[↓zd,zk,seval,reduceIte,List.map,AV.cells,List.all,AV.one,eqV,eqAll,splice,fillA,List.replicate,resAll,resA,zm,zg,hg2]
    exact⟨_,_,rfl,by omega,km2.set (by omega) _,⟨by rw[List.getElem?_set_self l2];rfl,hsl _,fun _=>hnx _⟩,hfr2⟩
 ·have hnl:newL c p xs=⟨0,0,0,0,[]⟩:=if_neg h1
  unfold NlP
  rw[hnl]
  rw[fromA,if_neg h1] at hfr
  simp only[rgC,cfC,List.cons_append,List.nil_append,List.append_assoc] at hfr
  refine Fn_of rfl ?_
  simp(disch:=first|assumption|omega|(simp only[zl]<;>omega)|(simp only[zn])) only[put_NewLay,↓zd,zk,seval,reduceIte,List.map,AV.cells,List.all,AV.one,eqV,eqAll,splice,fillA,List.replicate,resAll,resA,zm,zg,cfC,a206,hfr,List.set_set,List.drop_succ_cons,List.drop_zero,List.drop_nil,List.append_nil]
  exact⟨_,.nils,rfl,by omega,.app _ _,⟨by rw[get_mid];rfl,Sl.nil,fun h=>by simp at h⟩,.inl rfl⟩
theorem lhands_run{m:MM} {xj:Nat} {c:Cf} {p:Int} {s:LS} {lv:AV} (hx:LM m xj c p s lv) (hl:s.ls.length≤100000):Fn Gpo put_Lay_Hands [.ptr xj 0] m (ClP m s.ls):=by
 have a208:assoc Gpo 208=some c_slices_Clone_int:=rfl
 have he:c_slices_Clone_int (X:=Ob)=amFunc [] slices_Clone_int:=rfl
 generalize Gpo=G at a208 ⊢
 have hg:=hx.get
 simp only[layC,rgC,cfC,List.cons_append,List.nil_append] at hg
 refine Fn_of rfl ?_
 simp(disch:=first|assumption|omega|(simp only[zl]<;>omega)|(simp only[zn])) only[put_Lay_Hands,↓zd,zk,seval,reduceIte,List.map,AV.cells,List.all,AV.one,eqV,eqAll,splice,fillA,List.replicate,resAll,resA,zm,zg,hg,a208,he]
 refine OK_fn (clone_run hx.l hl) ?_
 intro r m1 hc
 simp(disch:=first|assumption|omega|(simp only[zl]<;>omega)|(simp only[zn])) only[↓zd,zk,seval,reduceIte,List.map,AV.cells,List.all,AV.one,eqV,eqAll,splice,fillA,List.replicate,resAll,resA,zm,zg]
 exact hc
end Go.Am.F09
end
section
namespace Go.Am.F11
open Go.Am.F06 Go.Am.F10 Go.Am.F09
def stC(c:Cf) (p v a w:Int) (ly b:AV) (k:Int):List AV:=cfC c++[ly,.int .i64 p,.int .i64 v,.int .i64 a,.int .u64 w,b,.int .i64 k]
def thereS(c:Cf) (p v:Int):Prop:=thereP c p∧thereP c v∧p≠v
instance (c:Cf) (p v:Int):Decidable (thereS c p v):=by unfold thereS;infer_instance
variable {X:Type}
theorem word_ge{c:Cf} {p:Int}:(0≤addrA c p 0) ↔ thereP c p:=by
 unfold addrA
 split
 ·rename_i h
  have:=there_bounds h
  have:0≤p * (6+c.q):=Int.mul_nonneg (by omega) (by omega)
  exact⟨fun _=>h,fun _=>by omega⟩
 ·rename_i h
  exact⟨fun h'=>by omega,fun h'=>absurd h' h⟩
set_option maxHeartbeats 4000000 in
theorem snew_run{m:Mem X} (c:Cf) (p v:Int):Fn [(159,F10.c_conf_Config_Word)] steal_New [.agg (cfC c),.int .i64 p,.int .i64 v] m
  (fun r m'=>Keep m m'∧∃ xj,r = .ptr xj 0∧m.length≤xj∧m'[xj]?=some (.cells 13 false (stC c p v (if thereS c p v then 1 else 0) 0 .nilp .nils 0))):=by
 have a159:assoc [(159,F10.c_conf_Config_Word (X:=X))] 159=some F10.c_conf_Config_Word:=rfl
 generalize [(159,F10.c_conf_Config_Word (X:=X))]=G at a159 ⊢
 have hw:=fun(m:Mem X) (p:Int)=>word_run (m:=m) c p
 have h1:=word_ge (c:=c) (p:=p)
 have h2:=word_ge (c:=c) (p:=v)
 simp only[cfC,List.cons_append,List.nil_append] at hw
 refine Fn_of rfl ?_
 by_cases t1:thereP c p
 ·have g1:=h1.2 t1
  by_cases t2:thereP c v
  ·have g2:=h2.2 t2
   by_cases t3:p=v
   ·have hn:¬ thereS c p v:=fun h=>h.2.2 t3
    rw[if_neg hn]
    subst t3
    simp(disch:=first|assumption|omega|(simp only[zl]<;>omega)|(simp only[zn])) only[steal_New,↓zd,zk,seval,reduceIte,List.map,AV.cells,List.all,AV.one,eqV,eqAll,splice,fillA,List.replicate,resAll,resA,zm,zg,cfC,stC,a159,hw,g1]
    refine⟨.app _ _,m.length+1,rfl,by omega,?_⟩
    rw[get_mid];rfl
   ·have hn:thereS c p v:=⟨t1,t2,t3⟩
    rw[if_pos hn]
    simp(disch:=first|assumption|omega|(simp only[zl]<;>omega)|(simp only[zn])) only[steal_New,↓zd,zk,seval,reduceIte,List.map,AV.cells,List.all,AV.one,eqV,eqAll,splice,fillA,List.replicate,resAll,resA,zm,zg,cfC,stC,a159,hw,g1,g2,t3]
    refine⟨.app _ _,m.length+1,rfl,by omega,?_⟩
    rw[get_mid];rfl
  ·have g2:¬ (0≤addrA c v 0):=fun h=>t2 (h2.1 h)
   have hn:¬ thereS c p v:=fun h=>t2 h.2.1
   rw[if_neg hn]
   simp(disch:=first|assumption|omega|(simp only[zl]<;>omega)|(simp only[zn])) only[steal_New,↓zd,zk,seval,reduceIte,List.map,AV.cells,List.all,AV.one,eqV,eqAll,splice,fillA,List.replicate,resAll,resA,zm,zg,cfC,stC,a159,hw,g1,g2]
   refine⟨.app _ _,m.length+1,rfl,by omega,?_⟩
   rw[get_mid];rfl
 ·have g1:¬ (0≤addrA c p 0):=fun h=>t1 (h1.1 h)
  have hn:¬ thereS c p v:=fun h=>t1 h.1
  rw[if_neg hn]
  simp(disch:=first|assumption|omega|(simp only[zl]<;>omega)|(simp only[zn])) only[steal_New,↓zd,zk,seval,reduceIte,List.map,AV.cells,List.all,AV.one,eqV,eqAll,splice,fillA,List.replicate,resAll,resA,zm,zg,cfC,stC,a159,hw,g1]
  refine⟨.app _ _,m.length+1,rfl,by omega,?_⟩
  rw[get_mid];rfl
theorem sdone_nil(m:Mem X):c_steal_Steal_Done [.nilp] m=some (.bool true,m):=Fn_eq (Fn_of rfl (by simp(disch:=first|assumption|omega|(simp only[zl]<;>omega)|(simp only[zn])) only[steal_Steal_Done,↓zd,zk,seval,reduceIte,List.map,AV.cells,List.all,AV.one,eqV,eqAll,splice,fillA,List.replicate,resAll,resA,zm,zg]))
theorem sdone_eq{m:Mem X} {xj:Nat} {c:Cf} {p v a w k:Int} {ly b:AV} (hx:m[xj]?=some (.cells 13 false (stC c p v a w ly b k))):c_steal_Steal_Done [.ptr xj 0] m=some (.bool (decide (a=0)),m):=by
 refine Fn_eq (Fn_of rfl ?_)
 simp(disch:=first|assumption|omega|(simp only[zl]<;>omega)|(simp only[zn])) only[steal_Steal_Done,↓zd,zk,seval,reduceIte,List.map,AV.cells,List.all,AV.one,eqV,eqAll,splice,fillA,List.replicate,resAll,resA,zm,zg,hx,stC,cfC]
theorem smany_nil(m:Mem X):c_steal_Steal_Many [.nilp] m=some (.int .i64 0,m):=Fn_eq (Fn_of rfl (by simp(disch:=first|assumption|omega|(simp only[zl]<;>omega)|(simp only[zn])) only[steal_Steal_Many,↓zd,zk,seval,reduceIte,List.map,AV.cells,List.all,AV.one,eqV,eqAll,splice,fillA,List.replicate,resAll,resA,zm,zg]))
theorem smany_eq{m:Mem X} {xj:Nat} {c:Cf} {p v a w k:Int} {ly b:AV} (hx:m[xj]?=some (.cells 13 false (stC c p v a w ly b k))):c_steal_Steal_Many [.ptr xj 0] m=some (.int .i64 k,m):=by
 refine Fn_eq (Fn_of rfl ?_)
 simp(disch:=first|assumption|omega|(simp only[zl]<;>omega)|(simp only[zn])) only[steal_Steal_Many,↓zd,zk,seval,reduceIte,List.map,AV.cells,List.all,AV.one,eqV,eqAll,splice,fillA,List.replicate,resAll,resA,zm,zg,hx,stC,cfC]
def Dn(m:Mem X) (x:AV):Prop:=x = .nilp∨∃ xj c p v w ly b,x = .ptr xj 0∧m[xj]?=some (.cells 13 false (stC c p v 0 w ly b 0))
theorem Dn.done{m:Mem X} {x:AV} (h:Dn m x):c_steal_Steal_Done [x] m=some (.bool true,m):=by
 rcases h with rfl|⟨xj,c,p,v,w,ly,b,rfl,h⟩
 ·exact sdone_nil m
 ·rw[sdone_eq h];rfl
theorem Dn.many{m:Mem X} {x:AV} (h:Dn m x):c_steal_Steal_Many [x] m=some (.int .i64 0,m):=by
 rcases h with rfl|⟨xj,c,p,v,w,ly,b,rfl,h⟩
 ·exact smany_nil m
 ·exact smany_eq h
theorem got_no{G:List (Nat × AFun X)} (a277:assoc G 277=some c_steal_Steal_Done) (a275:assoc G 275=some c_steal_Steal_Many) {m:Mem X} {x:AV} (h1:∃ d,c_steal_Steal_Done [x] m=some (.bool d,m)) (h2:c_steal_Steal_Many [x] m=some (.int .i64 0,m)):amFunc G steal_Steal_Got [x] m=some (.tup [.int .i64 0,.bool false],m):=by
 obtain⟨d,h1⟩:=h1
 refine Fn_eq (Fn_of rfl ?_)
 cases d
 all_goals simp(disch:=first|assumption|omega|(simp only[zl]<;>omega)|(simp only[zn])) only[steal_Steal_Got,↓zd,zk,seval,reduceIte,List.map,AV.cells,List.all,AV.one,eqV,eqAll,splice,fillA,List.replicate,resAll,resA,zm,zg,a277,h1,a275,h2]
theorem left_no{G:List (Nat × AFun X)} (a277:assoc G 277=some c_steal_Steal_Done) (a275:assoc G 275=some c_steal_Steal_Many) {m:Mem X} {x:AV} (h1:∃ d,c_steal_Steal_Done [x] m=some (.bool d,m)) (h2:c_steal_Steal_Many [x] m=some (.int .i64 0,m)):amFunc G steal_Steal_Left [x] m=some (.nils,m):=by
 obtain⟨d,h1⟩:=h1
 refine Fn_eq (Fn_of rfl ?_)
 cases d
 all_goals simp(disch:=first|assumption|omega|(simp only[zl]<;>omega)|(simp only[zn])) only[steal_Steal_Left,↓zd,zk,seval,reduceIte,List.map,AV.cells,List.all,AV.one,eqV,eqAll,splice,fillA,List.replicate,resAll,resA,zm,zg,a277,h1,a275,h2]
theorem hands_no{G:List (Nat × AFun X)} (a275:assoc G 275=some c_steal_Steal_Many) {m:Mem X} {x:AV} (h2:c_steal_Steal_Many [x] m=some (.int .i64 0,m)):amFunc G steal_Steal_Hands [x] m=some (.nils,m):=by
 refine Fn_eq (Fn_of rfl ?_)
 simp(disch:=first|assumption|omega|(simp only[zl]<;>omega)|(simp only[zn])) only[steal_Steal_Hands,↓zd,zk,seval,reduceIte,List.map,AV.cells,List.all,AV.one,eqV,eqAll,splice,fillA,List.replicate,resAll,resA,zm,zg,a275,h2]
theorem step_no{G:List (Nat × AFun X)} (a277:assoc G 277=some c_steal_Steal_Done) {m:Mem X} {x u:AV} (h1:c_steal_Steal_Done [x] m=some (.bool true,m)):amFunc G steal_Steal_Step [x,u] m=some (.bool true,m):=by
 refine Fn_eq (Fn_of rfl ?_)
 simp(disch:=first|assumption|omega|(simp only[zl]<;>omega)|(simp only[zn])) only[steal_Steal_Step,↓zd,zk,seval,reduceIte,List.map,AV.cells,List.all,AV.one,eqV,eqAll,splice,fillA,List.replicate,resAll,resA,zm,zg,a277,h1]
theorem Dn.keep{m m':Mem X} {x:AV} (h:Dn m x) (k:Keep m m'):Dn m' x:=by
 rcases h with rfl|⟨xj,c,p,v,w,ly,b,rfl,h⟩
 ·exact .inl rfl
 ·exact .inr ⟨xj,c,p,v,w,ly,b,rfl,k.get h⟩
theorem Dn.one{m:Mem X} {x:AV} (h:Dn m x):x.one=true:=by
 rcases h with rfl|⟨xj,c,p,v,w,ly,b,rfl,h⟩<;>rfl
def Gnone:List (Nat × AFun X):=[(21,F09.c_cell_New),(270,c_steal_New),(278,c_steal_Steal_Got),(277,c_steal_Steal_Done),(274,c_steal_Steal_Step),(275,c_steal_Steal_Many),(279,c_steal_Steal_Left),(276,c_steal_Steal_Hands),(46,F09.c_cell_Mem_Ops),(268,pureF worksG)]
def NoI(M:Mem X) (c:Cf) (p:Int) (b z o l:Nat) (k:Nat) (e:List AV) (m:Mem X):Prop:=∃ (i:Nat) (y9 y10 y11 y12:AV),e=[.agg (cfC c),.int .i64 p,.ptr b 0,.bool false,.nilp,.ptr z 0,.ptr o 0,.sl l 0 5 (some 5),.int .i64 i,y9,y10,y11,y12]∧m=M∧k=5 - i∧i≤5
theorem new30_eq(m:Mem X):F09.c_cell_New [.int .i64 30] m=some (.ptr (m.length+1) 0,m++[.cells 1 false (repeatL 30 [.int .u64 0]),.cells 8 false (rootN m.length 30)]):=by
 have hmk:amOp [] (.make 1 8 [.int .u64 0]) [.int .i64 30,.int .i64 30] m=some (.sl m.length 0 30 (some 30),m++[.cells 1 false (repeatL 30 [.int .u64 0])]):=rfl
 refine Fn_eq (Fn_of rfl ?_)
 simp(disch:=first|assumption|omega|(simp only[zl]<;>omega)|(simp only[zn])) only[F09.cell_New,↓zd,zk,seval,reduceIte,List.map,AV.cells,List.all,AV.one,eqV,eqAll,splice,fillA,List.replicate,resAll,resA,zm,hmk,rootN]
set_option maxHeartbeats 8000000 in
theorem none_run(m:Mem X) (c:Cf) (p:Int):Fn Gnone law11_StealNone [.agg (cfC c),.int .i64 p] m (fun r m'=>r = .bool true∧Keep m m'):=by
 have a21:assoc (Gnone (X:=X)) 21=some F09.c_cell_New:=rfl
 have a270:assoc (Gnone (X:=X)) 270=some (amFunc [(159,F10.c_conf_Config_Word)] steal_New):=rfl
 have a278:assoc (Gnone (X:=X)) 278=some c_steal_Steal_Got:=rfl
 have a277:assoc (Gnone (X:=X)) 277=some c_steal_Steal_Done:=rfl
 have a274:assoc (Gnone (X:=X)) 274=some c_steal_Steal_Step:=rfl
 have a275:assoc (Gnone (X:=X)) 275=some c_steal_Steal_Many:=rfl
 have a279:assoc (Gnone (X:=X)) 279=some c_steal_Steal_Left:=rfl
 have a276:assoc (Gnone (X:=X)) 276=some c_steal_Steal_Hands:=rfl
 have a46:assoc (Gnone (X:=X)) 46=some F09.c_cell_Mem_Ops:=rfl
 have a268:assoc (Gnone (X:=X)) 268=some (pureF worksG):=rfl
 generalize Gnone (X:=X)=G at a21 a270 a278 a277 a274 a275 a279 a276 a46 a268 ⊢
 have h1:=fun(M:Mem X)=>snew_run (m:=M) c p p
 have h2:=fun(M:Mem X)=>snew_run (m:=M) c (-1) 0
 have h3:=fun(M:Mem X)=>snew_run (m:=M) zeroC 0 1
 have n1:¬ thereS c p p:=fun h=>h.2.2 rfl
 have n2:¬ thereS c (-1) 0:=fun h=>by have:=h.1.2.1;omega
 have n3:¬ thereS zeroC 0 1:=fun h=>by have:=h.1.1.1.1;simp[zeroC] at this
 simp only[if_neg n1] at h1
 simp only[if_neg n2] at h2
 simp only[if_neg n3] at h3
 simp only[cfC,zeroC,List.cons_append,List.nil_append] at h1 h2 h3
 refine Fn_of rfl ?_
 simp(disch:=first|assumption|omega|(simp only[zl]<;>omega)|(simp only[zn])) only[law11_StealNone,↓zd,zk,seval,reduceIte,List.map,AV.cells,List.all,AV.one,eqV,eqAll,splice,fillA,List.replicate,resAll,resA,zm,zg,cfC,a21,new30_eq,a270]
 have g0:∀ M,Keep (m++[Chunk.cells 6 false (cfC c),.cells 13 false (stC zeroC 0 0 0 0 .nilp .nils 0),.cells 1 false (repeatL 30 [.int .u64 0]),.cells 8 false (rootN (m.length+2) 30)]) M→M[m.length]?=some (.cells 6 false (cfC c)):=fun M h=>h.get (by rw[get_mid0];rfl)
 have gz:∀ M,Keep (m++[Chunk.cells 6 false (cfC c),.cells 13 false (stC zeroC 0 0 0 0 .nilp .nils 0),.cells 1 false (repeatL 30 [.int .u64 0]),.cells 8 false (rootN (m.length+2) 30)]) M→M[m.length+1]?=some (.cells 13 false (stC zeroC 0 0 0 0 .nilp .nils 0)):=fun M h=>h.get (by rw[get_mid];rfl)
 have go:∀ M,Keep (m++[Chunk.cells 6 false (cfC c),.cells 13 false (stC zeroC 0 0 0 0 .nilp .nils 0),.cells 1 false (repeatL 30 [.int .u64 0]),.cells 8 false (rootN (m.length+2) 30)]) M→M[m.length+3]?=some (.cells 8 false (rootN (m.length+2) 30)):=fun M h=>h.get (by rw[get_mid];rfl)
 have hk:Keep m (m++[Chunk.cells 6 false (cfC c),.cells 13 false (stC zeroC 0 0 0 0 .nilp .nils 0),.cells 1 false (repeatL 30 [.int .u64 0]),.cells 8 false (rootN (m.length+2) 30)]):=.app _ _
 simp only[cfC,stC,zeroC,rootN,List.cons_append,List.nil_append] at g0 gz go hk
 refine OKT_fn (h1 _) ?_
 rintro _ m1 ⟨k1,x1,rfl,l1,g1⟩
 have e1:=g0 m1 k1
 simp(disch:=first|assumption|omega|(simp only[zl]<;>omega)|(simp only[zn])) only[↓zd,zk,seval,reduceIte,List.map,AV.cells,List.all,AV.one,eqV,eqAll,splice,fillA,List.replicate,resAll,resA,zm,zg,e1,a270]
 refine OKT_fn (h2 _) ?_
 rintro _ m2 ⟨k2,x2,rfl,l2,g2⟩
 simp(disch:=first|assumption|omega|(simp only[zl]<;>omega)|(simp only[zn])) only[↓zd,zk,seval,reduceIte,List.map,AV.cells,List.all,AV.one,eqV,eqAll,splice,fillA,List.replicate,resAll,resA,zm,zg,fillA,a270]
 refine OKT_fn (h3 _) ?_
 rintro _ m3 ⟨k3,x3,rfl,l3,g3⟩
 have k13:=(k1.trans k2).trans k3
 simp(disch:=first|assumption|omega|(simp only[zl]<;>omega)|(simp only[zn])) only[↓zd,zk,seval,reduceIte,List.map,AV.cells,List.all,AV.one,eqV,eqAll,splice,fillA,List.replicate,resAll,resA,zm,zg,evA,fillA,repeatL,List.flatten_cons,List.flatten_nil]
 have kM:Keep m3 (m3++[Chunk.cells 1 false [.nilp,.ptr (m.length+1) 0,.ptr x1 0,.ptr x2 0,.ptr x3 0]]):=.app _ _
 have gl:(m3++[Chunk.cells 1 false [.nilp,.ptr (m.length+1) 0,.ptr x1 0,.ptr x2 0,.ptr x3 0]])[m3.length]?=some (.cells 1 false [.nilp,.ptr (m.length+1) 0,.ptr x1 0,.ptr x2 0,.ptr x3 0]):=get_concat
 generalize m3++[Chunk.cells 1 false [.nilp,.ptr (m.length+1) 0,.ptr x1 0,.ptr x2 0,.ptr x3 0]]=M at kM gl ⊢
 have k13M:=k13.trans kM
 have hD:∀ i,i < 5→∃ x,[AV.nilp,.ptr (m.length+1) 0,.ptr x1 0,.ptr x2 0,.ptr x3 0][i]?=some x∧Dn M x:=by
  intro i hi
  rcases (show i=0∨i=1∨i=2∨i=3∨i=4 by omega) with rfl|rfl|rfl|rfl|rfl
  ·exact⟨_,rfl,.inl rfl⟩
  ·exact⟨_,rfl,.inr ⟨_,zeroC,0,0,0,.nilp,.nils,rfl,gz _ k13M⟩⟩
  ·exact⟨_,rfl,.inr ⟨_,c,p,p,0,.nilp,.nils,rfl,((k2.trans k3).trans kM).get g1⟩⟩
  ·exact⟨_,rfl,.inr ⟨_,c,-1,0,0,.nilp,.nils,rfl,(k3.trans kM).get g2⟩⟩
  ·exact⟨_,rfl,.inr ⟨_,zeroC,0,1,0,.nilp,.nils,rfl,kM.get g3⟩⟩
 have fo:=go _ k13M
 have hkM:=hk.trans k13M
 have hlen:[AV.nilp,.ptr (m.length+1) 0,.ptr x1 0,.ptr x2 0,.ptr x3 0].length=5:=rfl
 generalize [AV.nilp,.ptr (m.length+1) 0,.ptr x1 0,.ptr x2 0,.ptr x3 0]=L at gl hD hlen
 clear g0 gz go hk k1 k2 k3 k13 kM g1 g2 g3 e1 k13M h1 h2 h3 n1 n2 n3
 refine W_loop (NoI M c p m.length (m.length+1) (m.length+2+1) m3.length) 5 (by simp[FUEL]) ⟨0,_,_,_,_,rfl,rfl,rfl,by omega⟩ ?_
 rintro k e m' ⟨i,y9,y10,y11,y12,rfl,rfl,rfl,hi⟩
 rcases Nat.lt_or_ge i 5 with hi5|hi5
 ·obtain⟨x,hx,hd⟩:=hD i hi5
  have d1:=hd.done
  have d2:=hd.many
  have f278:c_steal_Steal_Got [x] m'=some (.tup [.int .i64 0,.bool false],m'):=got_no (G:=[(277,c_steal_Steal_Done),(275,c_steal_Steal_Many)]) rfl rfl ⟨_,d1⟩ d2
  have f274:∀ u,c_steal_Steal_Step [x,u] m'=some (.bool true,m'):=fun u=>step_no (by rfl) d1
  have f279:c_steal_Steal_Left [x] m'=some (.nils,m'):=left_no (by rfl) (by rfl) ⟨_,d1⟩ d2
  have f276:c_steal_Steal_Hands [x] m'=some (.nils,m'):=hands_no (by rfl) d2
  simp(disch:=first|assumption|omega|(simp only[zl]<;>omega)|(simp only[zn])) only[↓zd,zk,seval,reduceIte,List.map,AV.cells,List.all,AV.one,eqV,eqAll,splice,fillA,List.replicate,resAll,resA,zm,zg,cfC,gl,hlen,hx,a278,f278,a277,d1,a274,f274,a275,d2,a279,f279,a276,f276]
  exact⟨_,by omega,i+1,_,_,_,_,rfl,rfl,rfl,by omega⟩
 ·have f46:F09.c_cell_Mem_Ops [.ptr (m.length+2+1) 0] m'=some (.int .u64 0,m'):=F09.ops_eq fo
  simp(disch:=first|assumption|omega|(simp only[zl]<;>omega)|(simp only[zn])) only[↓zd,zk,seval,reduceIte,List.map,AV.cells,List.all,AV.one,eqV,eqAll,splice,fillA,List.replicate,resAll,resA,zm,zg,cfC,a46,f46,a268,pureF,worksG]
  exact hkM
end Go.Am.F11
end
section
namespace Go.Am.F09
open Go.Am.F06 Go.Am.F10
theorem LOk.step{c:Cf} {p:Int} {s:LS} {xs:List Int} (h:LOk c p s) (hx:s.a=0∨OkL c xs):LOk c p (stepL c p xs s).1:=by
 obtain⟨h1,h2,h3⟩:=h
 rcases hx with h0|hx
 ·have:stepL c p xs s=(s,xs):=if_pos h0
  rw[this];exact⟨h1,h2,h3⟩
 have hg:=getD_64 hx.2 (wrdN c p)
 obtain⟨a,w,k,n,ls⟩:=s
 simp only at h1 h2 h3
 by_cases h0:a=0
 ·have:stepL c p xs ⟨a,w,k,n,ls⟩=(⟨a,w,k,n,ls⟩,xs):=if_pos h0
  rw[this];exact⟨h1,h2,h3⟩
 by_cases hz:ls.length=0
 ·have:stepL c p xs ⟨a,w,k,n,ls⟩=(⟨0,w,k,n,ls⟩,xs):=by simp only[stepL,if_neg h0,if_pos hz]
  rw[this];exact⟨h1,.inl rfl,h3⟩
 rcases h2 with h2|⟨hp,h2⟩
 ·exact absurd h2 h0
 have hrb:=room_b (c:=c) (w:=xs.getD (wrdN c p) 0) (len:=ls.length)
 rcases h2 with rfl|⟨rfl,k0,k1,k2⟩|⟨rfl,n0,n1⟩
 ·have:stepL c p xs ⟨1,w,k,n,ls⟩=(⟨if roomN c (xs.getD (wrdN c p) 0) ls.length=0 then 0 else 2,xs.getD (wrdN c p) 0,0,roomN c (xs.getD (wrdN c p) 0) ls.length,ls⟩,xs):=by simp only[stepL,if_neg h0,if_neg hz,if_true]
  rw[this]
  by_cases hr:roomN c (xs.getD (wrdN c p) 0) ls.length=0
  ·rw[if_pos hr];exact⟨hg,.inl rfl,h3⟩
  ·rw[if_neg hr];exact⟨hg,.inr ⟨hp,.inr (.inl ⟨rfl,by simp,by simp only;omega,hrb.2⟩)⟩,h3⟩
 ·have:stepL c p xs ⟨2,w,k,n,ls⟩=(⟨if k+1=n then 3 else 2,w,k+1,n,ls⟩,xs.set (pslA c p w k).toNat (IntKind.u64.wrap (ls.getD k.toNat 0))):=by simp only[stepL,if_neg h0,if_neg hz,if_neg (show ¬ ((2:Int)=1) by decide),if_true]
  rw[this]
  by_cases hr:k+1=n
  ·rw[if_pos hr];exact⟨h1,.inr ⟨hp,.inr (.inr ⟨rfl,by simp only;omega,k2⟩)⟩,h3⟩
  ·rw[if_neg hr];exact⟨h1,.inr ⟨hp,.inr (.inl ⟨rfl,by simp only;omega,by simp only;omega,k2⟩)⟩,h3⟩
 ·by_cases heq:xs.getD (wrdN c p) 0=w
  ·have:stepL c p xs ⟨3,w,k,n,ls⟩=(⟨0,w,k,n,ls.drop n.toNat⟩,xs.set (wrdN c p) (growW w n)):=by simp only[stepL,if_neg h0,if_neg hz,if_neg (show ¬ ((3:Int)=1) by decide),if_neg (show ¬ ((3:Int)=2) by decide),if_pos heq]
   rw[this];exact⟨h1,.inl rfl,by simp only[List.length_drop];omega⟩
  ·have:stepL c p xs ⟨3,w,k,n,ls⟩=(⟨1,w,k,n,ls⟩,xs):=by simp only[stepL,if_neg h0,if_neg hz,if_neg (show ¬ ((3:Int)=1) by decide),if_neg (show ¬ ((3:Int)=2) by decide),if_neg heq]
   rw[this];exact⟨h1,.inr ⟨hp,.inl rfl⟩,h3⟩
structure LI (c:Cf) (p w0:Int) (own:List Int) (t:Nat) (s:LS) (xs:List Int):Prop where
 ok:OkL c xs
 w:xs.getD (wrdN c p) 0=w0
 ls:s.ls=own
 st:(t=0∧s.a=1)∨(∃ i:Nat,t=i+1∧s.w=w0∧s.n=own.length∧s.k=i∧(∀ k,k < i→slV c p w0 xs k=own.getD k 0)∧((s.a=2∧i < own.length)∨(s.a=3∧i=own.length)))
theorem LI.ne{c:Cf} {p w0:Int} {own:List Int} {t:Nat} {s:LS} {xs:List Int} (h:LI c p w0 own t s xs):s.a≠0∧t≤own.length+1:=by
 rcases h.st with⟨h1,h2⟩|⟨i,h1,_,_,_,_,h2|h2⟩<;>omega
theorem wrap_id{x:Int} (h0:0≤x) (h1:x < 9223372036854775808):IntKind.i64.wrap (IntKind.u64.wrap x)=x:=by
 rw[wrapU h0 (by omega)];exact wrapI (by omega) (by omega)
theorem LI.step{c:Cf} {p h:Int} {own:List Int} {t:Nat} {s:LS} {xs:List Int} (hI:LI c p (pk h h) own t s xs) (hp:thereP c p) (h0:0≤h) (h1:h < 4294967296) (hpos:0 < own.length) (hq:(own.length:Int)≤c.q) (hown:∀ x,x ∈ own→0≤x∧x < 9223372036854775808) :
  ((stepL c p xs s).1.a≠0∧LI c p (pk h h) own (t+1) (stepL c p xs s).1 (stepL c p xs s).2) ∨
  ((stepL c p xs s).1.a=0∧t=own.length+1∧(stepL c p xs s).1.ls=[]∧OkL c (stepL c p xs s).2∧ringL c p (stepL c p xs s).2=own):=by
 have hb:=there_bounds hp
 have hroom:roomP c.q:=hp.1.2.1
 have hsz:sz (pk h h)=0:=by unfold sz;rw[hd_pk h0 h1,tl_pk h0 h1];omega
 have hw64:W64 (pk h h):=by unfold W64 pk;omega
 obtain⟨ok,hw,hls,hst⟩:=hI
 have hxl:=ok.1
 have hwb:=addr_b hp (i:=0) (by omega) (by omega)
 have hwl:wrdN c p < xs.length:=by unfold wrdN;omega
 obtain⟨a,w,k,n,ls⟩:=s
 simp only at hls
 subst hls
 have hz:¬ (ls.length=0):=by omega
 rcases hst with⟨rfl,ha⟩|⟨i,rfl,e1,e2,e3,e4,e5⟩
 ·simp only at ha
  subst ha
  have hrm:roomN c (pk h h) ls.length=ls.length:=by unfold roomN;rw[hsz,if_neg (by omega)];split<;>omega
  have:stepL c p xs ⟨1,w,k,n,ls⟩=(⟨2,pk h h,0,ls.length,ls⟩,xs):=by simp only[stepL,if_neg (show ¬ ((1:Int)=0) by decide),if_neg hz,if_true,hw,hrm,if_neg (show ¬ ((ls.length:Int)=0) by omega)]
  rw[this]
  exact .inl ⟨by simp,ok,hw,rfl,.inr ⟨0,rfl,rfl,rfl,rfl,fun k hk=>by omega,.inl ⟨rfl,hpos⟩⟩⟩
 ·simp only at e1 e2 e3 e5
  subst e1;subst e2;subst e3
  rcases e5 with⟨rfl,hi⟩|⟨rfl,hi⟩
  ·obtain⟨x,hx⟩:∃ x,ls[i]?=some x:=⟨_,List.getElem?_eq_getElem hi⟩
   have hxb:=hown x (List.mem_of_getElem? hx)
   have hgd:ls.getD i 0=x:=by rw[List.getD_eq_getElem?_getD,hx];rfl
   have hps:pslA c p (pk h h) i=slotA c p ((hd (pk h h)+(i:Int)) % 4294967296):=by unfold pslA;rw[tl_pk h0 h1,hd_pk h0 h1]
   have hsb:=slot_b (i:=(hd (pk h h)+(i:Int)) % 4294967296) hp (by omega)
   have:stepL c p xs ⟨2,pk h h,i,ls.length,ls⟩=(⟨if (i:Int)+1=ls.length then 3 else 2,pk h h,i+1,ls.length,ls⟩,xs.set (slotA c p ((hd (pk h h)+(i:Int)) % 4294967296)).toNat (IntKind.u64.wrap x)):=by
    simp only[stepL,if_neg (show ¬ ((2:Int)=0) by decide),if_neg hz,if_neg (show ¬ ((2:Int)=1) by decide),if_true,hps,Int.toNat_natCast,hgd]
   rw[this]
   refine .inl ⟨by simp only;split<;>omega,ok.set _ (wrap64_b _),by rw[getD_set_ne (slot_word hp)];exact hw,rfl,.inr ⟨i+1,rfl,rfl,rfl,by simp,fun k hk=>?_,?_⟩⟩
   ·unfold slV
    by_cases hki:k=i
    ·subst hki
     rw[getD_set_self (by omega),wrap_id hxb.1 hxb.2,hgd]
    ·rw[getD_set_ne (slot_ne hp (by omega) (by omega) (fun hh=>room_mod (a:=hd (pk h h)) (k:=k) (n:=i) hroom (by omega) (by omega) hh.symm))]
     exact e4 k (by omega)
   ·by_cases hq2:(i:Int)+1=ls.length
    ·simp only[if_pos hq2];exact .inr ⟨trivial,by omega⟩
    ·simp only[if_neg hq2];exact .inl ⟨trivial,by omega⟩
  ·have:stepL c p xs ⟨3,pk h h,i,ls.length,ls⟩=(⟨0,pk h h,i,ls.length,ls.drop ls.length⟩,xs.set (wrdN c p) (growW (pk h h) ls.length)):=by
    simp only[stepL,if_neg (show ¬ ((3:Int)=0) by decide),if_neg hz,if_neg (show ¬ ((3:Int)=1) by decide),if_neg (show ¬ ((3:Int)=2) by decide),if_pos hw,Int.toNat_natCast]
   rw[this]
   have hg:growW (pk h h) ls.length=pk h ((h+ls.length) % 4294967296):=by unfold growW;rw[hd_pk h0 h1,tl_pk h0 h1]
   have hgs:sz (growW (pk h h) ls.length)=ls.length:=by
    rw[hg];unfold sz;rw[hd_pk (by omega) (by omega),tl_pk (by omega) (by omega)];omega
   refine .inr ⟨rfl,by omega,by simp,ok.set _ (grow_64 hw64 _),?_⟩
   refine ringL_eq hp (getD_set_self hwl) (by rw[hgs];omega) (by rw[hgs]) fun k hk=>?_
   have:=e4 k (by omega)
   unfold slV at this
   rw[hd_pk h0 h1] at this
   rw[ringAt,hg,hd_pk (by omega) (by omega),getD_set_ne (slot_word hp).symm,this]
end Go.Am.F09
end
section
namespace Go.Am.F09
open Go.Am.F06 Go.Am.F10
end Go.Am.F09
end
section
namespace Go.Am.F09
open Go.Am.F06 Go.Am.F10
def rlC(c:Cf) (p:Int) (s:LS) (lv:AV):List AV:=cfC c++[.int .i64 p,lv,.int .i64 s.a,.int .u64 s.w,.int .i64 s.n,.int .i64 s.k]
structure LNx (lo hi:Nat) (m:MM) (ls:List Int) (lv:AV):Prop where
 sl:SI m false ls lv
 nx:0 < ls.length→Nx m lv
 no:∀ b,lo≤b→b < hi→∀ ro L,m[b]?≠some (.cells 1 ro L)
theorem LNx.set{lo hi:Nat} {m:MM} {ls:List Int} {lv:AV} (h:LNx lo hi m ls lv) {a:Nat} (h1:lo≤a) (h2:a < hi) {C:Chunk Ob} (hC:∀ ro L,C ≠ .cells 1 ro L):LNx lo hi (m.set a C) ls lv :=
 ⟨Sl.put h.sl (h.no a h1 h2) C,fun h0=>(h.nx h0).put (h.no a h1 h2) C,(SLN.set (wr:=false) (n:=ls.length) (l:=iC ls) (v:=lv) ⟨h.sl,h.no⟩ h1 h2 hC).no⟩
def RyP(m:MM) (c:Cf) (p:Int) (x:LS × List Int) (o:Int) (r:AV) (m':MM):Prop:=Keep m m'∧∃ lv' v',r = .tup [.agg (rlC c p x.1 lv'),.agg (memC v' o)]∧SI m' false x.1.ls lv'∧(0 < x.1.ls.length→Nx m' lv')∧SU m' false x.2 v'
def Grl2:List (Nat × AFun Ob):=[(170,F10.c_ref09_Head),(171,F10.c_ref09_Tail),(172,F10.c_ref09_Word),(64,F06.c_ref06_Load),(173,F10.c_ref09_Size),(174,F10.c_ref09_Slot),(65,F06.c_ref06_Store),(175,F10.c_ref09_Pack),(66,F06.c_ref06_CAS)]
set_option maxHeartbeats 16000000 in
theorem rlstep1{m:MM} {wr:Bool} {c:Cf} {p o:Int} {s:LS} {xs:List Int} {v lv:AV} (hs:SU m wr xs v) (hl:SI m false s.ls lv) (hnx:0 < s.ls.length→Nx m lv) (hok:LOk c p s) (hx:OkL c xs) (ha:s.a=1) (h0:0 < s.ls.length) :
  Fn Grl2 ref09_StepLay [.agg (rlC c p s lv),.agg (memC v o)] m (RyP m c p (stepL c p xs s) (IntKind.u64.wrap (o+1))):=by
 have a172:assoc Grl2 172=some F10.c_ref09_Word:=rfl
 have a64:assoc Grl2 64=some F06.c_ref06_Load:=rfl
 have a173:assoc Grl2 173=some F10.c_ref09_Size:=rfl
 generalize Grl2=G at a172 a64 a173 ⊢
 have hone:=slOne hs
 have hone2:=slOne hl
 simp only[AV.one] at hone hone2
 obtain⟨a,w,k,n,ls⟩:=s
 simp only at ha hl hnx h0
 subst ha
 have hp:thereP c p:=hok.a.elim (fun h=>by simp at h) (·.1)
 have hll:=hok.l
 simp only at hll
 have hb:=there_bounds hp
 have hcn:=cellsN_le c
 have hxl:=hx.1
 have hlen:=hl.len
 have ha0:=addr_b hp (i:=0) (by omega) (by omega)
 have hrw:=fun m:MM=>rword_eq m hp
 simp only[word_at hp,cfC] at hrw
 have hwn:((wrdN c p:Nat):Int)=addrA c p 0:=by unfold wrdN;omega
 have hrl:=fun K:MM=>rload_eq (hs.keep (Keep.app m K)) o (a:=wrdN c p) (by omega)
 rw[hwn] at hrl
 have hg:=getD_64 hx.2 (wrdN c p)
 have hlz:¬ ((ls.length:Int)=0):=by omega
 have hs1:stepL c p xs ⟨1,w,k,n,ls⟩=(⟨if roomN c (xs.getD (wrdN c p) 0) ls.length=0 then 0 else 2,xs.getD (wrdN c p) 0,0,roomN c (xs.getD (wrdN c p) 0) ls.length,ls⟩,xs):=by
  simp only[stepL,if_neg (show ¬ ((1:Int)=0) by decide),if_neg (show ¬ (ls.length=0) by omega),if_true]
 rw[hs1]
 generalize xs.getD (wrdN c p) 0=w' at hg hrl
 simp only[memC,List.append_assoc,List.cons_append,List.nil_append] at hrl
 have hz:=fun m:MM=>rsize_eq m hg
 have e0:IntKind.u32.wrap c.q=c.q:=by rw[wrap32];omega
 have hz0:0≤sz w'∧sz w' < 4294967296:=by unfold sz;omega
 have e1:IntKind.i64.wrap (sz w')=sz w':=wrapI (by omega) (by omega)
 have e2:IntKind.i64.wrap (c.q - sz w')=c.q - sz w':=wrapI (by omega) (by omega)
 have hl':=fun K:MM=>hl.keep (Keep.app m K)
 have hnx':=fun(K:MM) h=>(hnx h).keep (Keep.app m K)
 refine Fn_of rfl ?_
 rcases (show c.q≤sz w'∨(sz w' < c.q∧c.q - sz w' < (ls.length:Int))∨(sz w' < c.q∧(ls.length:Int)≤c.q - sz w') by omega) with h|⟨h,h'⟩|⟨h,h'⟩
 ·have hroom:roomN c w' ls.length=0:=if_pos h
  rw[hroom,if_pos rfl]
  simp(disch:=first|assumption|omega|(simp only[zl]<;>omega)|(simp only[zn])) only[ref09_StepLay,↓zd,zk,seval,reduceIte,List.map,AV.cells,List.all,AV.one,eqV,eqAll,splice,fillA,List.replicate,resAll,resA,zm,zg,rlC,cfC,memC,hone,hone2,ev_len,hlen,hlz,a172,hrw,a64,hrl,a173,hz,e0,h]
  exact⟨Keep.app _ _,lv,v,rfl,hl' _,hnx' _,(hs.keep (.app _ _)).ro⟩
 ·have hroom:roomN c w' ls.length=c.q - sz w':=by unfold roomN;rw[if_neg (by omega),if_neg (by omega)]
  rw[hroom,if_neg (by omega)]
  simp(disch:=first|assumption|omega|(simp only[zl]<;>omega)|(simp only[zn])) only[ref09_StepLay,↓zd,zk,seval,reduceIte,List.map,AV.cells,List.all,AV.one,eqV,eqAll,splice,fillA,List.replicate,resAll,resA,zm,zg,rlC,cfC,memC,hone,hone2,ev_len,hlen,hlz,a172,hrw,a64,hrl,a173,hz,e0,e1,e2,h,h']
  exact⟨Keep.app _ _,lv,v,rfl,hl' _,hnx' _,(hs.keep (.app _ _)).ro⟩
 ·have hroom:roomN c w' ls.length=ls.length:=by unfold roomN;rw[if_neg (by omega)];split<;>omega
  rw[hroom,if_neg (by omega)]
  simp(disch:=first|assumption|omega|(simp only[zl]<;>omega)|(simp only[zn])) only[ref09_StepLay,↓zd,zk,seval,reduceIte,List.map,AV.cells,List.all,AV.one,eqV,eqAll,splice,fillA,List.replicate,resAll,resA,zm,zg,rlC,cfC,memC,hone,hone2,ev_len,hlen,hlz,a172,hrw,a64,hrl,a173,hz,e0,e1,e2,h,h']
  exact⟨Keep.app _ _,lv,v,rfl,hl' _,hnx' _,(hs.keep (.app _ _)).ro⟩
set_option maxHeartbeats 16000000 in
theorem rlstep2{m:MM} {wr:Bool} {c:Cf} {p o:Int} {s:LS} {xs:List Int} {v lv:AV} (hs:SU m wr xs v) (hl:SI m false s.ls lv) (hnx:0 < s.ls.length→Nx m lv) (hok:LOk c p s) (hx:OkL c xs) (ha:s.a=2) (h0:0 < s.ls.length) :
  Fn Grl2 ref09_StepLay [.agg (rlC c p s lv),.agg (memC v o)] m (RyP m c p (stepL c p xs s) (IntKind.u64.wrap (o+1))):=by
 have a171:assoc Grl2 171=some F10.c_ref09_Tail:=rfl
 have a174:assoc Grl2 174=some F10.c_ref09_Slot:=rfl
 have a65:assoc Grl2 65=some F06.c_ref06_Store:=rfl
 generalize Grl2=G at a171 a174 a65 ⊢
 have hone:=slOne hs
 have hone2:=slOne hl
 simp only[AV.one] at hone hone2
 obtain⟨a,w,k,n,ls⟩:=s
 simp only at ha hl hnx h0
 subst ha
 have hpl:thereP c p∧0≤k∧k < n∧n≤ls.length:=hok.a.elim (fun h=>by simp at h) (fun h=>⟨h.1,by have:=h.2;simp only at this;omega⟩)
 obtain⟨hp,hk0,hkn,hnl⟩:=hpl
 have hw:=hok.w
 have hll:=hok.l
 simp only at hw hll
 have hb:=there_bounds hp
 have hcn:=cellsN_le c
 have hxl:=hx.1
 have hlen:=hl.len
 have htb:=tl_b w
 have htl:=fun m:MM=>rtail_eq m hw
 have hlz:¬ ((ls.length:Int)=0):=by omega
 obtain⟨kN,rfl⟩:∃ kN:Nat,k=kN:=⟨k.toNat,by omega⟩
 obtain⟨x,hxk⟩:∃ x,ls[kN]?=some x:=⟨_,List.getElem?_eq_getElem (by omega)⟩
 have e1:IntKind.u32.wrap (tl w+IntKind.u32.wrap (kN:Int))=(tl w+kN) % 4294967296:=by rw[wrap32,wrap32];omega
 have hsl:=fun m:MM=>rslot_eq m hp (i:=(tl w+kN) % 4294967296) (by omega) (by omega)
 have hps:slotA c p ((tl w+(kN:Int)) % 4294967296)=pslA c p w kN:=rfl
 rw[hps] at hsl
 have hsb:=psl_b (c:=c) (p:=p) (w:=w) (i:=kN) hp
 have hthr:thr xs (pslA c p w kN):=⟨by omega,by omega⟩
 have hs1:stepL c p xs ⟨2,w,kN,n,ls⟩=(⟨if (kN:Int)+1=n then 3 else 2,w,kN+1,n,ls⟩,xs.set (pslA c p w kN).toNat (IntKind.u64.wrap x)):=by
  have:ls.getD kN 0=x:=by rw[List.getD_eq_getElem?_getD,hxk];rfl
  simp only[stepL,if_neg (show ¬ ((2:Int)=0) by decide),if_neg (show ¬ ((2:Int)=1) by decide),if_neg (show ¬ (ls.length=0) by omega),if_true,Int.toNat_natCast,this]
 rw[hs1]
 simp only[cfC] at hsl
 obtain⟨q,oo,cap,ro,L,rfl,b2,b3,b4,b5⟩:=hl.val h0
 have b6:=b5 kN x hxk
 have b2':=fun K:MM=>(Keep.app m K).get b2
 have e3:IntKind.i64.wrap ((kN:Int)+1)=kN+1:=wrapI (by omega) (by omega)
 refine Fn_of rfl ?_
 simp(disch:=first|assumption|omega|(simp only[zl]<;>omega)|(simp only[zn])) only[ref09_StepLay,↓zd,zk,seval,reduceIte,List.map,AV.cells,List.all,AV.one,eqV,eqAll,splice,fillA,List.replicate,resAll,resA,zm,zg,rlC,cfC,memC,hone,ev_len,hlen,hlz,a171,htl,e1,a174,hsl,b2,b2',b6,a65,F06.c_ref06_Store]
 have hst:=fun K:MM=>refstore_run (hs.keep (Keep.app m K)) (by omega) o (pslA c p w kN) (IntKind.u64.wrap x)
 simp only[memC] at hst
 refine OKT_fn (hst _) ?_
 rintro _ m1 ⟨k1,v',rfl,s1⟩
 rw[if_pos hthr] at s1
 simp only[if_pos hthr]
 have km:Keep m m1:=(Keep.app m _).trans k1
 have g0:=k1.get (i:=m.length) (by rw[get_mid0];rfl)
 have g1:=k1.get (i:=m.length+1) (by rw[get_mid];rfl)
 have g2:=k1.get (i:=m.length+2) (by rw[get_mid];rfl)
 have g3:=k1.get (i:=m.length+3) (by rw[get_mid];rfl)
 have hl1:m.length+3 < m1.length:=(List.getElem?_eq_some_iff.1 g3).1
 have hone':=slOne s1
 simp only[AV.one] at hone'
 have hno:∀ b,m.length≤b→b < m.length+4→∀ ro L,m1[b]?≠some (.cells 1 ro L):=by
  intro b b1 b2 ro L hb
  rcases (show b=m.length∨b=m.length+1∨b=m.length+2∨b=m.length+3 by omega) with rfl|rfl|rfl|rfl
  ·rw[g0] at hb;cases hb
  ·rw[g1] at hb;cases hb
  ·rw[g2] at hb;cases hb
  ·rw[g3] at hb;cases hb
 have hb0:LNx m.length (m.length+4) m1 ls (.sl q oo ls.length cap):=⟨hl.keep km,fun h=>(hnx h).keep km,hno⟩
 by_cases hq:(kN:Int)+1=n
 ·rw[if_pos hq]
  have hkn':decide ((kN:Int)+1=n)=true:=decide_eq_true hq
  simp(disch:=first|assumption|omega|(simp only[zl]<;>omega)|(simp only[zn])) only[↓zd,zk,seval,reduceIte,List.map,AV.cells,List.all,AV.one,eqV,eqAll,splice,fillA,List.replicate,resAll,resA,zm,zg,memC,g0,g1,g2,g3,hone',e3,hkn',b2',b6]
  refine⟨?_,.sl q oo ls.length cap,v',rfl,LNx.sl (lo:=m.length) (hi:=m.length+4) ?_,LNx.nx (lo:=m.length) (hi:=m.length+4) ?_,SLN.sl (lo:=m.length) (hi:=m.length+4) ?_⟩
  ·repeat' first|exact km|refine Keep.set ?_ (by omega) _
  ·repeat' first|exact hb0|refine LNx.set ?_ (by omega) (by omega) (by intro _ _ h;cases h)
  ·repeat' first|exact hb0|refine LNx.set ?_ (by omega) (by omega) (by intro _ _ h;cases h)
  ·repeat' first|exact⟨s1,hno⟩|refine SLN.set ?_ (by omega) (by omega) (by intro _ _ h;cases h)
 ·rw[if_neg hq]
  have hkn':decide ((kN:Int)+1=n)=false:=decide_eq_false hq
  simp(disch:=first|assumption|omega|(simp only[zl]<;>omega)|(simp only[zn])) only[↓zd,zk,seval,reduceIte,List.map,AV.cells,List.all,AV.one,eqV,eqAll,splice,fillA,List.replicate,resAll,resA,zm,zg,memC,g0,g1,g2,g3,hone',e3,hkn',b2',b6]
  refine⟨?_,.sl q oo ls.length cap,v',rfl,LNx.sl (lo:=m.length) (hi:=m.length+4) ?_,LNx.nx (lo:=m.length) (hi:=m.length+4) ?_,SLN.sl (lo:=m.length) (hi:=m.length+4) ?_⟩
  ·repeat' first|exact km|refine Keep.set ?_ (by omega) _
  ·repeat' first|exact hb0|refine LNx.set ?_ (by omega) (by omega) (by intro _ _ h;cases h)
  ·repeat' first|exact hb0|refine LNx.set ?_ (by omega) (by omega) (by intro _ _ h;cases h)
  ·repeat' first|exact⟨s1,hno⟩|refine SLN.set ?_ (by omega) (by omega) (by intro _ _ h;cases h)
set_option maxHeartbeats 16000000 in
theorem rlstep3{m:MM} {wr:Bool} {c:Cf} {p o:Int} {s:LS} {xs:List Int} {v lv:AV} (hs:SU m wr xs v) (hl:SI m false s.ls lv) (hnx:0 < s.ls.length→Nx m lv) (hok:LOk c p s) (hx:OkL c xs) (ha:s.a=3) (h0:0 < s.ls.length) :
  Fn Grl2 ref09_StepLay [.agg (rlC c p s lv),.agg (memC v o)] m (RyP m c p (stepL c p xs s) (IntKind.u64.wrap (o+1))):=by
 have a170:assoc Grl2 170=some F10.c_ref09_Head:=rfl
 have a171:assoc Grl2 171=some F10.c_ref09_Tail:=rfl
 have a172:assoc Grl2 172=some F10.c_ref09_Word:=rfl
 have a175:assoc Grl2 175=some F10.c_ref09_Pack:=rfl
 have a66:assoc Grl2 66=some F06.c_ref06_CAS:=rfl
 generalize Grl2=G at a170 a171 a172 a175 a66 ⊢
 have hone:=slOne hs
 have hone2:=slOne hl
 simp only[AV.one] at hone hone2
 obtain⟨a,w,k,n,ls⟩:=s
 simp only at ha hl hnx h0
 subst ha
 have hpl:thereP c p∧0≤n∧n≤ls.length:=hok.a.elim (fun h=>by simp at h) (fun h=>⟨h.1,by have:=h.2;simp only at this;omega⟩)
 obtain⟨hp,hn0,hnl⟩:=hpl
 have hw:=hok.w
 have hll:=hok.l
 simp only at hw hll
 have hb:=there_bounds hp
 have hcn:=cellsN_le c
 have hxl:=hx.1
 have hlen:=hl.len
 have htb:=tl_b w
 have hhb:=hd_b hw
 have ha0:=addr_b hp (i:=0) (by omega) (by omega)
 have htl:=fun m:MM=>rtail_eq m hw
 have hhd:=fun m:MM=>rhead_eq m hw
 have hrw:=fun m:MM=>rword_eq m hp
 simp only[word_at hp,cfC] at hrw
 have hwt:(addrA c p 0).toNat=wrdN c p:=rfl
 have hthr:thr xs (addrA c p 0):=⟨by omega,by omega⟩
 have hlz:¬ ((ls.length:Int)=0):=by omega
 have e1:IntKind.u32.wrap (tl w+IntKind.u32.wrap n)=(tl w+n) % 4294967296:=by rw[wrap32,wrap32];omega
 have hpk:=fun m:MM=>rpack_eq m (h:=hd w) (t:=(tl w+n) % 4294967296) hhb.1 hhb.2 (by omega) (by omega)
 have hgw:pk (hd w) ((tl w+n) % 4294967296)=growW w n:=rfl
 have hs1:stepL c p xs ⟨3,w,k,n,ls⟩=(if xs.getD (wrdN c p) 0=w then(⟨0,w,k,n,ls.drop n.toNat⟩,xs.set (wrdN c p) (growW w n)) else(⟨1,w,k,n,ls⟩,xs)):=by
  simp only[stepL,if_neg (show ¬ ((3:Int)=0) by decide),if_neg (show ¬ ((3:Int)=1) by decide),if_neg (show ¬ ((3:Int)=2) by decide),if_neg (show ¬ (ls.length=0) by omega)]
 rw[hs1]
 obtain⟨q,oo,nn,L,rfl,hq1⟩:∃ q oo nn L,lv = .sl q oo nn none∧m[q]?=some (.cells 1 false L):=by
  rcases hnx h0 with h|⟨q,oo,nn,L,h1,h2⟩
  ·rw[h] at hlen;simp only[lenA,Option.some.injEq] at hlen;omega
  ·exact⟨q,oo,nn,L,h1,h2⟩
 refine Fn_of rfl ?_
 simp(disch:=first|assumption|omega|(simp only[zl]<;>omega)|(simp only[zn])) only[ref09_StepLay,↓zd,zk,seval,reduceIte,List.map,AV.cells,List.all,AV.one,eqV,eqAll,splice,fillA,List.replicate,resAll,resA,zm,zg,rlC,cfC,memC,hone,ev_len,hlen,hlz,a170,hhd,a171,htl,a172,hrw,e1,a175,hpk,hgw,a66,F06.c_ref06_CAS]
 have hcas:=fun K:MM=>rcas_run (hs.keep (Keep.app m K)) (by omega) o hthr w (growW w n)
 simp only[memC] at hcas
 refine OKT_fn (hcas _) ?_
 rintro _ m1 ⟨k1,v',rfl,s1⟩
 rw[hwt] at s1
 have km:Keep m m1:=(Keep.app m _).trans k1
 have g0:=k1.get (i:=m.length) (by rw[get_mid0];rfl)
 have g1:=k1.get (i:=m.length+1) (by rw[get_mid];rfl)
 have g2:=k1.get (i:=m.length+2) (by rw[get_mid];rfl)
 have g3:=k1.get (i:=m.length+3) (by rw[get_mid];rfl)
 have hl1:m.length+3 < m1.length:=(List.getElem?_eq_some_iff.1 g3).1
 have hone':=slOne s1
 simp only[AV.one] at hone'
 have hno:∀ b,m.length≤b→b < m.length+4→∀ ro L,m1[b]?≠some (.cells 1 ro L):=by
  intro b b1 b2 ro L hb
  rcases (show b=m.length∨b=m.length+1∨b=m.length+2∨b=m.length+3 by omega) with rfl|rfl|rfl|rfl
  ·rw[g0] at hb;cases hb
  ·rw[g1] at hb;cases hb
  ·rw[g2] at hb;cases hb
  ·rw[g3] at hb;cases hb
 have hb0:LNx m.length (m.length+4) m1 ls (.sl q oo nn none):=⟨hl.keep km,fun h=>(hnx h).keep km,hno⟩
 by_cases heq:xs.getD (wrdN c p) 0=w
 ·have hd:decide (xs.getD (addrA c p 0).toNat 0=w)=true:=by rw[hwt];exact decide_eq_true heq
  rw[if_pos heq] at s1 ⊢
  obtain⟨nN,rfl⟩:∃ nN:Nat,n=nN:=⟨n.toNat,by omega⟩
  have hnn:nn=ls.length:=by simpa only[lenA,Option.some.injEq] using hlen
  subst hnn
  have hq2:=km.get hq1
  have hql:=(List.getElem?_eq_some_iff.1 hq1).1
  simp(disch:=first|assumption|omega|(simp only[zl]<;>omega)|(simp only[zn])) only[↓zd,zk,seval,reduceIte,List.map,AV.cells,List.all,AV.one,eqV,eqAll,splice,fillA,List.replicate,resAll,resA,zm,zg,memC,hd,g0,g1,g2,g3,hone',evA,sliceA,getC_gcO,Option.getD_none,Option.getD_some,hq2,Int.toNat_natCast,Nat.mul_one]
  have hfin:=fun(M:MM) (h:LNx m.length (m.length+4) M ls (.sl q oo ls.length none))=>(si_drop (k:=nN) h.sl (h.nx h0) (by omega)).2
  refine⟨?_,.sl q (oo+nN) (ls.length - nN) none,v',rfl,hfin _ ?_,fun _=>.inr ⟨q,_,_,L,rfl,?_⟩,SLN.sl (lo:=m.length) (hi:=m.length+4) ?_⟩
  ·repeat' first|exact km|refine Keep.set ?_ (by omega) _
  ·repeat' first|exact hb0|refine LNx.set ?_ (by omega) (by omega) (by intro _ _ h;cases h)
  ·repeat' first|exact hq2|rw[List.getElem?_set_ne (by omega)]
  ·repeat' first|exact⟨s1,hno⟩|refine SLN.set ?_ (by omega) (by omega) (by intro _ _ h;cases h)
 ·have hd:decide (xs.getD (addrA c p 0).toNat 0=w)=false:=by rw[hwt];exact decide_eq_false heq
  rw[if_neg heq] at s1 ⊢
  simp(disch:=first|assumption|omega|(simp only[zl]<;>omega)|(simp only[zn])) only[↓zd,zk,seval,reduceIte,List.map,AV.cells,List.all,AV.one,eqV,eqAll,splice,fillA,List.replicate,resAll,resA,zm,zg,memC,hd,g0,g1,g2,g3,hone']
  refine⟨?_,.sl q oo nn none,v',rfl,LNx.sl (lo:=m.length) (hi:=m.length+4) ?_,LNx.nx (lo:=m.length) (hi:=m.length+4) ?_,SLN.sl (lo:=m.length) (hi:=m.length+4) ?_⟩
  ·repeat' first|exact km|refine Keep.set ?_ (by omega) _
  ·repeat' first|exact hb0|refine LNx.set ?_ (by omega) (by omega) (by intro _ _ h;cases h)
  ·repeat' first|exact hb0|refine LNx.set ?_ (by omega) (by omega) (by intro _ _ h;cases h)
  ·repeat' first|exact⟨s1,hno⟩|refine SLN.set ?_ (by omega) (by omega) (by intro _ _ h;cases h)
end Go.Am.F09
end
section
namespace Go.Am.F09
open Go.Am.F06 Go.Am.F10
set_option maxHeartbeats 16000000 in
theorem rlstep_run{m:MM} {wr:Bool} {c:Cf} {p o:Int} {s:LS} {xs:List Int} {v lv:AV} (hs:SU m wr xs v) (hl:SI m false s.ls lv) (hnx:0 < s.ls.length→Nx m lv) (hok:LOk c p s) (hx:s.a=0∨OkL c xs) :
  Fn Grl2 ref09_StepLay [.agg (rlC c p s lv),.agg (memC v o)] m (RyP m c p (stepL c p xs s) (opsL s o)):=by
 have hone:=slOne hs
 have hone2:=slOne hl
 simp only[AV.one] at hone hone2
 have hlen:=hl.len
 have hl':=fun K:MM=>hl.keep (Keep.app m K)
 have hnx':=fun(K:MM) h=>(hnx h).keep (Keep.app m K)
 by_cases h0:s.a=0
 ·have e1:stepL c p xs s=(s,xs):=if_pos h0
  have e2:opsL s o=o:=if_pos h0
  rw[e1,e2]
  generalize Grl2=G
  refine Fn_of rfl ?_
  simp(disch:=first|assumption|omega|(simp only[zl]<;>omega)|(simp only[zn])) only[ref09_StepLay,↓zd,zk,seval,reduceIte,List.map,AV.cells,List.all,AV.one,eqV,eqAll,splice,fillA,List.replicate,resAll,resA,zm,zg,rlC,cfC,memC,hone,hone2,h0]
  exact⟨Keep.app _ _,lv,v,by rw[rlC,cfC,h0];rfl,hl' _,hnx' _,(hs.keep (.app _ _)).ro⟩
 by_cases hz:s.ls.length=0
 ·have e1:stepL c p xs s=({ s with a:=0 },xs):=by simp only[stepL,if_neg h0,if_pos hz]
  have e2:opsL s o=o:=by simp only[opsL,if_neg h0,if_pos hz]
  rw[e1,e2]
  generalize Grl2=G
  refine Fn_of rfl ?_
  rw[hz] at hlen
  simp(disch:=first|assumption|omega|(simp only[zl]<;>omega)|(simp only[zn])) only[ref09_StepLay,↓zd,zk,seval,reduceIte,List.map,AV.cells,List.all,AV.one,eqV,eqAll,splice,fillA,List.replicate,resAll,resA,zm,zg,rlC,cfC,memC,hone,hone2,h0,ev_len,hlen,Int.ofNat_zero]
  exact⟨Keep.app _ _,lv,v,rfl,hl' _,hnx' _,(hs.keep (.app _ _)).ro⟩
 have e2:opsL s o=IntKind.u64.wrap (o+1):=by simp only[opsL,if_neg h0,if_neg hz]
 rw[e2]
 have hx':=hx.resolve_left h0
 rcases hok.a.resolve_left h0 with⟨_,h|h|h⟩
 ·exact rlstep1 hs hl hnx hok hx' h (by omega)
 ·exact rlstep2 hs hl hnx hok hx' h.1 (by omega)
 ·exact rlstep3 hs hl hnx hok hx' h.1 (by omega)
def lcC(c:Cf) (p:Int):Cf:=if thereP c p then c else zeroC
def lcP(c:Cf) (p:Int):Int:=if thereP c p then p else 0
def RlnP(m:MM) (c:Cf) (p:Int) (xs:List Int) (r:AV) (m':MM):Prop:=Keep m m'∧∃ lv,r = .agg (rlC (lcC c p) (lcP c p) (newL c p xs) lv)∧SI m' false (newL c p xs).ls lv∧(0 < (newL c p xs).ls.length→Nx m' lv)∧Fr m.length lv
def RnI(M0:MM) (c:Cf) (p:Int) (xs:List Int) (ys:AV) (b:Nat) (k:Nat) (e:List AV) (m:MM):Prop:=∃ (i:Nat) (lv z7 z8 z9:AV),
 e=[.agg (cfC c),.int .i64 p,ys,.ptr b 0,.ptr (b+1) 0,.ptr (b+4) 0,.int .i64 i,z7,z8,z9]∧k=xs.length - i∧i≤xs.length∧KeepB (b+4) M0 m∧m[b+4]?=some (.cells 12 false (rlC c p ⟨1,0,0,0,[]⟩ lv))∧Own M0 m 1 (posL (xs.take i)).length (iC (posL (xs.take i))) lv
set_option maxHeartbeats 16000000 in
theorem rlnew_run{m:MM} {wr:Bool} {c:Cf} {p:Int} {xs:List Int} {ys:AV} (hy:SI m wr xs ys) (hn:xs.length≤1000):Fn [(169,F10.c_ref09_There)] ref09_NewLay [.agg (cfC c),.int .i64 p,ys] m (RlnP m c p xs):=by
 have a169:assoc [(169,F10.c_ref09_There (X:=Ob))] 169=some F10.c_ref09_There:=rfl
 generalize [(169,F10.c_ref09_There (X:=Ob))]=G at a169 ⊢
 have hr:=fun K:MM=>rthere_eq (m++K) c p
 simp only[cfC,List.append_assoc,List.cons_append,List.nil_append] at hr
 have hlen:=hy.len
 refine Fn_of rfl ?_
 by_cases h:thereP c p
 ·have hnl:newL c p xs=⟨1,0,0,0,posL xs⟩:=if_pos h
  unfold RlnP lcC lcP
  rw[hnl,if_pos h,if_pos h]
  simp only[decide_eq_true h] at hr
  simp(disch:=first|assumption|omega|(simp only[zl]<;>omega)|(simp only[zn])) only[ref09_NewLay,↓zd,zk,seval,reduceIte,List.map,AV.cells,List.all,AV.one,eqV,eqAll,splice,fillA,List.replicate,resAll,resA,zm,zg,cfC,a169,hr]
  obtain⟨M0,hM0⟩:∃ M0:MM,M0=m++[Chunk.cells 6 false (cfC c),.cells 12 false (rlC zeroC 0 ⟨0,0,0,0,[]⟩ .nils),.cells 6 false (cfC c),.cells 6 false (cfC c),.cells 12 false (rlC c p ⟨1,0,0,0,[]⟩ .nils)]:=⟨_,rfl⟩
  have kM:Keep m M0:=by rw[hM0];exact .app _ _
  have g1:M0[m.length+1]?=some (.cells 12 false (rlC zeroC 0 ⟨0,0,0,0,[]⟩ .nils)):=by rw[hM0,get_mid];rfl
  have g4:M0[m.length+4]?=some (.cells 12 false (rlC c p ⟨1,0,0,0,[]⟩ .nils)):=by rw[hM0,get_mid];rfl
  have lM:M0.length=m.length+5:=by rw[hM0];simp
  have hyM:=hy.keep kM
  simp only[rlC,cfC,zeroC,List.cons_append,List.nil_append] at hM0
  rw[← hM0]
  clear hM0 hr hy
  have hmb:m.length=m.length:=rfl
  generalize hb:m.length=b at g1 g4 lM hmb ⊢
  refine W_loop (RnI M0 c p xs ys b) xs.length (by simp only[FUEL];omega) ⟨0,_,_,_,_,rfl,rfl,by omega,.refl _,g4,own_nil⟩ ?_
  rintro k e m3 ⟨i,lv,z7,z8,z9,rfl,rfl,hi,hk,gx,hown⟩
  have gx':=fun K:MM=>(Keep.app m3 K).get gx
  have hy3:SI m3 wr xs ys:=Sl.stay hyM fun q o cap hq h0=>by
   obtain⟨h1,ro,L,h2⟩:=Sl.lt hyM hq h0
   exact hk.2 q h1 fun hh=>by rw[hh,g4] at h2;cases h2
  have hpl:=pos_len (xs.take i)
  rw[List.length_take] at hpl
  have hone:=hown.val1
  simp only[AV.one] at hone
  by_cases hil:i < xs.length
  ·obtain⟨x,hx⟩:∃ x,xs[i]?=some x:=⟨_,List.getElem?_eq_getElem hil⟩
   obtain⟨q,oo,cap,ro,L,rfl,b2,b3,b4,b5⟩:=SI.val hy3 (by omega)
   have b6:=b5 i x hx
   have b2':=fun K:MM=>(Keep.app m3 K).get b2
   have hsn:=pos_snoc hx
   simp only[rlC,cfC,List.cons_append,List.nil_append] at gx gx'
   by_cases hx0:x < 0
   ·rw[if_pos hx0] at hsn
    have hge:decide (0≤x)=false:=decide_eq_false (by omega)
    simp(disch:=first|assumption|omega|(simp only[zl]<;>omega)|(simp only[zn])) only[↓zd,zk,seval,reduceIte,List.map,AV.cells,List.all,AV.one,eqV,eqAll,splice,fillA,List.replicate,resAll,resA,zm,zg,ev_len,hlen,b2,b6,hge]
    exact⟨_,by omega,i+1,lv,_,_,_,rfl,rfl,by omega,hk,gx,by rw[hsn];exact hown⟩
   ·rw[if_neg hx0] at hsn
    have hge:decide (0≤x)=true:=decide_eq_true (by omega)
    obtain⟨ow',m4,hap,how,hl4,hs4⟩:=own_push2 hown x (by omega) hk.1
    have gx4:m4[b+4]?=m3[b+4]?:=hs4 _ (List.getElem?_eq_some_iff.1 gx).1 (.inr (by omega))
    rw[gx] at gx4
    have l4:=(List.getElem?_eq_some_iff.1 gx4).1
    obtain⟨q2,rfl⟩:∃ q2,ow' = .sl q2 0 ((posL (xs.take i)).length+1) none:=by
     rcases how with⟨h,_⟩|⟨q2,h,_⟩
     ·simp at h
     ·exact⟨q2,by rw[h];simp⟩
    simp(disch:=first|assumption|omega|(simp only[zl]<;>omega)|(simp only[zn])) only[↓zd,zk,seval,reduceIte,List.map,AV.cells,List.all,AV.one,eqV,eqAll,splice,fillA,List.replicate,resAll,resA,zm,zg,ev_len,hlen,b2,b2',b6,hge,gx,gx',gx4,evA,repeatL,List.flatten_cons,List.flatten_nil,hap,hone]
    refine⟨_,by omega,i+1,_,_,_,_,rfl,rfl,by omega,⟨by simp only[List.length_set];have:=hk.1;omega,fun a ha hne=>?_⟩,List.getElem?_set_self l4,?_⟩
    ·rw[List.getElem?_set_ne (fun h=>hne h.symm),hs4 a (by have:=hk.1;omega) (.inr ha),hk.2 a ha hne]
    ·rw[hsn]
     exact how.keep fun q C hq1 hq=>(List.getElem?_set_ne (show b+4≠q by omega)).trans hq
  ·have hin:i=xs.length:=by omega
   rw[hin,List.take_length] at hown
   have hk1:=hk.1
   have g13:=(hk.2 (b+1) (by omega) (by omega)).trans g1
   simp only[rlC,zeroC,cfC,List.cons_append,List.nil_append] at gx g13
   simp(disch:=first|assumption|omega|(simp only[zl]<;>omega)|(simp only[zn])) only[↓zd,zk,seval,reduceIte,List.map,AV.cells,List.all,AV.one,eqV,eqAll,splice,fillA,List.replicate,resAll,resA,zm,zg,ev_len,hlen,gx,g13,hone]
   refine⟨⟨by simp only[List.length_set];have:=hk.1;omega,fun a ha=>?_⟩,lv,rfl,?_,?_,?_⟩
   ·rw[List.getElem?_set_ne (by omega),hk.2 a (by omega) (by omega),kM.2 a ha]
   ·exact Sl.put hown.si.1.ro (fun ro L h=>by rw[g13] at h;cases h) _
   ·exact fun _=>hown.nx.put (fun ro L h=>by rw[g13] at h;cases h) _
   ·rcases hown with⟨_,_,h⟩|⟨q,h,_,h2,_⟩
    ·exact .inl h
    ·exact .inr ⟨q,_,_,_,h,by omega⟩
 ·have hnl:newL c p xs=⟨0,0,0,0,[]⟩:=if_neg h
  unfold RlnP lcC lcP
  rw[hnl,if_neg h,if_neg h]
  simp only[decide_eq_false h] at hr
  simp(disch:=first|assumption|omega|(simp only[zl]<;>omega)|(simp only[zn])) only[ref09_NewLay,↓zd,zk,seval,reduceIte,List.map,AV.cells,List.all,AV.one,eqV,eqAll,splice,fillA,List.replicate,resAll,resA,zm,zg,cfC,a169,hr]
  exact⟨.app _ _,.nils,rfl,Sl.nil,fun h=>by simp at h,.inl rfl⟩
end Go.Am.F09
end
section
namespace Go.Am.F09
open Go.Am.F06 Go.Am.F10
end Go.Am.F09
end
section
namespace Go.Am.F09
open Go.Am.F06 Go.Am.F10
structure LyS (m0:MM) (c c':Cf) (p p':Int) (j rb xj yb:Nat) (ps:List Pk) (lv:AV) (s:LS) (xs:List Int) (o:Int) (lx ly v:AV) (m:MM):Prop where
 k0:Keep m0 m
 lm:LM m xj c p s lx
 mem:∃ st,m[j]?=some (.abs (.mem st))∧RelM xs o st
 ref:m[rb]?=some (.cells 2 false (memC v o))
 su:SU m false xs v
 y:m[yb]?=some (.cells 12 false (rlC c' p' s ly))
 yl:SI m false s.ls ly
 yn:0 < s.ls.length→Nx m ly
 ne:xj≠yb
 ok:LOk c p s
 okL:OkL c xs
 cc:s.a=0∨(c'=c∧p'=p)
 ps:SPk m false ps lv
theorem LyS.mv{m0 m m':MM} {c c':Cf} {p p':Int} {j rb xj yb:Nat} {ps:List Pk} {lv:AV} {s:LS} {xs:List Int} {o:Int} {lx ly v:AV} {q:Nat} {L:List Int} (h:LyS m0 c c' p p' j rb xj yb ps lv s xs o lx ly v m) (hk:KeepB q m m') (hq:m[q]?=some (.cells 1 false (iC L))) (h0:m0.length≤q) (hx:Off q lx) (hy:Off q ly):LyS m0 c c' p p' j rb xj yb ps lv s xs o lx ly v m':=by
 obtain⟨st,hj,hr⟩:=h.mem
 have g:∀ {i:Nat} {C:Chunk Ob},m[i]?=some C→C ≠ .cells 1 false (iC L)→m'[i]?=some C:=fun hi hC=>hk.get hi fun hh=>by rw[hh,hq] at hi;injection hi with hi;exact hC hi.symm
 have nx:∀ {w:AV},Off q w→Nx m w→0 < s.ls.length→lenA w=some s.ls.length→Nx m' w:=fun {w} ho hn hp hl=>by
  rcases hn with h1|⟨q2,oo,n,l,h1,h2⟩
  ·exact .inl h1
  ·rw[h1] at hl;simp only[lenA,Option.some.injEq] at hl
   exact .inr ⟨q2,oo,n,l,h1,hk.get h2 (ho _ _ _ _ h1 (by omega))⟩
 have hl0:=h.k0.1
 refine⟨⟨by have:=hk.1;omega,fun i hi=>(hk.2 i (by omega) (by omega)).trans (h.k0.2 i hi)⟩,⟨g h.lm.get (by simp),hk.off hx h.lm.l,fun hp=>nx hx (h.lm.nx hp) hp h.lm.l.len⟩,⟨st,g hj (by simp),hr⟩,g h.ref (by simp),hk.off (su_off h.su hq) h.su,g h.y (by simp),hk.off hy h.yl,fun hp=>nx hy (h.yn hp) hp h.yl.len,h.ne,h.ok,h.okL,h.cc,?_⟩
 refine Sl.stay h.ps fun q2 oo cap hw hp=>?_
 obtain⟨h1,ro,l,h2⟩:=Sl.lt h.ps hw hp
 exact hk.2 q2 h1 fun hh=>by rw[hh,hq] at h2;cases h2
theorem LyS.keep{m0 m m':MM} {c c':Cf} {p p':Int} {j rb xj yb:Nat} {ps:List Pk} {lv:AV} {s:LS} {xs:List Int} {o:Int} {lx ly v:AV} (h:LyS m0 c c' p p' j rb xj yb ps lv s xs o lx ly v m) (k:Keep m m'):LyS m0 c c' p p' j rb xj yb ps lv s xs o lx ly v m':=by
 obtain⟨st,hj,hr⟩:=h.mem
 exact⟨h.k0.trans k,⟨k.get h.lm.get,h.lm.l.keep k,fun hp=>(h.lm.nx hp).keep k⟩,⟨st,k.get hj,hr⟩,k.get h.ref,h.su.keep k,k.get h.y,h.yl.keep k,fun hp=>(h.yn hp).keep k,h.ne,h.ok,h.okL,h.cc,h.ps.keep k⟩
structure LyB (m0:MM) (c:Cf) (p:Int) (j xj:Nat) (ps:List Pk) (lv:AV) (s:LS) (xs:List Int) (o:Int) (lx:AV) (m:MM):Prop where
 k0:Keep m0 m
 lm:LM m xj c p s lx
 mem:∃ st,m[j]?=some (.abs (.mem st))∧RelM xs o st
 ps:SPk m false ps lv
theorem LyS.b{m0 m:MM} {c c':Cf} {p p':Int} {j rb xj yb:Nat} {ps:List Pk} {lv:AV} {s:LS} {xs:List Int} {o:Int} {lx ly v:AV} (h:LyS m0 c c' p p' j rb xj yb ps lv s xs o lx ly v m):LyB m0 c p j xj ps lv s xs o lx m:=⟨h.k0,h.lm,h.mem,h.ps⟩
theorem LyB.keep{m0 m m':MM} {c:Cf} {p:Int} {j xj:Nat} {ps:List Pk} {lv:AV} {s:LS} {xs:List Int} {o:Int} {lx:AV} (h:LyB m0 c p j xj ps lv s xs o lx m) (k:Keep m m'):LyB m0 c p j xj ps lv s xs o lx m':=by
 obtain⟨st,hj,hr⟩:=h.mem
 exact⟨h.k0.trans k,⟨k.get h.lm.get,h.lm.l.keep k,fun hp=>(h.lm.nx hp).keep k⟩,⟨st,k.get hj,hr⟩,h.ps.keep k⟩
theorem LyB.setb{m0 m:MM} {c:Cf} {p:Int} {j xj:Nat} {ps:List Pk} {lv:AV} {s:LS} {xs:List Int} {o:Int} {lx:AV} (h:LyB m0 c p j xj ps lv s xs o lx m) {b sz:Nat} {L:List AV} (hb:m[b]?=some (.cells sz false L)) (h1:sz≠1) (h3:sz≠3) (hx:b≠xj) (h0:m0.length≤b) (C:Chunk Ob):LyB m0 c p j xj ps lv s xs o lx (m.set b C):=by
 obtain⟨st,hj,hr⟩:=h.mem
 have e2:b≠j:=fun hh=>by rw[hh,hj] at hb;cases hb
 have hn:∀ z,z≠sz→∀ ro L,m[b]?≠some (.cells z ro L):=fun z hz ro L hh=>by rw[hb] at hh;injection hh with hh;injection hh with hh;exact hz hh.symm
 exact⟨h.k0.set h0 _,⟨by rw[List.getElem?_set_ne hx];exact h.lm.get,Sl.put h.lm.l (hn 1 (fun hh=>h1 hh.symm)) _,fun hp=>(h.lm.nx hp).put (hn 1 (fun hh=>h1 hh.symm)) _⟩,⟨st,by rw[List.getElem?_set_ne e2];exact hj,hr⟩,Sl.put h.ps (hn 3 (fun hh=>h3 hh.symm)) _⟩
theorem LyB.step{m0 m m':MM} {c c':Cf} {p p':Int} {j rb xj yb:Nat} {ps:List Pk} {lv:AV} {s s':LS} {xs xs':List Int} {o o':Int} {lx:AV} (h:LyB m0 c p j xj ps lv s xs o lx m)
  (hx0:m0.length≤xj) (hj0:m0.length≤j) {ly' v':AV} (hy:m[yb]?=some (.cells 12 false (rlC c' p' s' ly'))) (hyl:SI m false s'.ls ly') (hyn:0 < s'.ls.length→Nx m ly') (hne:xj≠yb) (hv':SU m false xs' v') (hrb:m[rb]?=some (.cells 2 false (memC v' o'))) (hok:LOk c p s') (hokL:OkL c xs') (hcc:s'.a=0∨(c'=c∧p'=p)) {r:AV} (hP:LsP m c p xj j (s',xs') o' r m') :
  r = .bool (decide (s'.a=0))∧∃ lx2,LyS m0 c c' p p' j rb xj yb ps lv s' xs' o' lx2 ly' v' m':=by
 obtain⟨rfl,k1,⟨lx2,hlm⟩,st',hj',hr'⟩:=hP
 obtain⟨st,hj,hr⟩:=h.mem
 have hnx:∀ sz,sz≠12→∀ ro L,m[xj]?≠some (.cells sz ro L):=fun sz hsz ro L hh=>by rw[h.lm.get] at hh;injection hh with hh;injection hh with hh;exact hsz hh.symm
 have hnj:∀ sz ro L,m[j]?≠some (.cells sz ro L):=fun sz ro L hh=>by rw[hj] at hh;cases hh
 have e2:rb≠xj:=fun hh=>hnx 2 (by decide) _ _ (by rw[← hh];exact hrb)
 have e3:rb≠j:=fun hh=>hnj 2 _ _ (by rw[← hh];exact hrb)
 have e4:yb≠j:=fun hh=>hnj 12 _ _ (by rw[← hh];exact hy)
 have hk0:=h.k0.1
 obtain⟨f1,f2⟩:=LM.mv (s:=s') (c:=c) (p:=p) hyl hyn (hnx 1 (by decide)) (hnj 1) k1
 exact⟨rfl,lx2,⟨by have:=k1.1;omega,fun i hi=>(k1.2 i (by omega) (by omega) (by omega)).trans (h.k0.2 i hi)⟩,hlm,⟨st',hj',hr'⟩,k1.get hrb e2 e3,k1.sl (szj:=0) (szk:=0) (hnx 1 (by decide)) (hnj 1) hv',k1.get hy (fun hh=>hne hh.symm) e4,f1,f2,hne,hok,hokL,hcc,k1.sl (szj:=0) (szk:=0) (hnx 3 (by decide)) (hnj 3) h.ps⟩
theorem LyS.poke{m0 m m':MM} {c c':Cf} {p p':Int} {j rb xj yb:Nat} {ps:List Pk} {lv:AV} {s:LS} {xs xs':List Int} {o o':Int} {lx ly v v':AV} (h:LyS m0 c c' p p' j rb xj yb ps lv s xs o lx ly v m) (hj0:m0.length≤j) (hr0:m0.length≤rb) (k:KeepB j m m') {st':MemSt} (hj':m'[j]?=some (.abs (.mem st'))) (hr':RelM xs' o' st') (hsu:SU m' false xs' v') (hokL:OkL c xs') :
  LyS m0 c c' p p' j rb xj yb ps lv s xs' o' lx ly v' (m'.set rb (.cells 2 false (memC v' o'))):=by
 obtain⟨st,hj,hr⟩:=h.mem
 have hl:=k.1
 have hk0:=h.k0.1
 have lr:rb < m.length:=(List.getElem?_eq_some_iff.1 h.ref).1
 have nj:∀ sz ro L,m[j]?≠some (.cells sz ro L):=fun sz ro L hh=>by rw[hj] at hh;cases hh
 have n2:rb≠j:=fun hh=>nj 2 _ _ (by rw[← hh];exact h.ref)
 have n1:xj≠rb:=fun hh=>by have h1:=h.lm.get;rw[hh,h.ref] at h1;cases h1
 have n3:yb≠rb:=fun hh=>by have h1:=h.y;rw[hh,h.ref] at h1;cases h1
 have n4:xj≠j:=fun hh=>nj 12 _ _ (by rw[← hh];exact h.lm.get)
 have n5:yb≠j:=fun hh=>nj 12 _ _ (by rw[← hh];exact h.y)
 have lx':xj < m.length:=(List.getElem?_eq_some_iff.1 h.lm.get).1
 have ly':yb < m.length:=(List.getElem?_eq_some_iff.1 h.y).1
 have hrb':m'[rb]?=some (.cells 2 false (memC v o)):=by rw[k.2 rb lr n2];exact h.ref
 have nb:∀ sz,sz≠2→∀ ro L,m'[rb]?≠some (.cells sz ro L):=fun sz hsz ro L hh=>by rw[hrb'] at hh;injection hh with hh;injection hh with hh;exact hsz hh.symm
 have row:∀ {wr:Bool} {sz n:Nat} {l:List AV} {w:AV},sz≠2→Sl m wr sz n l w→Sl (m'.set rb (.cells 2 false (memC v' o'))) wr sz n l w:=fun hsz hs =>
  Sl.put (Sl.stay hs fun q oo cap hw h0=>by
   obtain⟨h1,ro,L,h2⟩:=Sl.lt hs hw h0
   exact k.2 q h1 fun hh=>nj _ ro L (by rw[← hh];exact h2)) (nb _ hsz) _
 have nxr:∀ {w:AV},Nx m w→Nx (m'.set rb (.cells 2 false (memC v' o'))) w:=fun {w} hn=>by
  rcases hn with h1|⟨q2,oo,n,l,h1,h2⟩
  ·exact .inl h1
  ·exact Nx.put (v:=w) (.inr ⟨q2,oo,n,l,h1,k.get h2 fun hh=>nj 1 _ _ (by rw[← hh];exact h2)⟩) (nb 1 (by decide)) _
 have hg:∀ i,i < m.length→i≠j→i≠rb→(m'.set rb (.cells 2 false (memC v' o')))[i]?=m[i]?:=fun i hi h1 h2=>by
  rw[List.getElem?_set_ne (fun hh=>h2 hh.symm),k.2 i hi h1]
 exact⟨⟨by simp only[List.length_set];omega,fun i hi=>by rw[hg i (by omega) (by omega) (by omega),h.k0.2 i hi]⟩,⟨by rw[hg xj lx' n4 n1];exact h.lm.get,row (by decide) h.lm.l,fun hp=>nxr (h.lm.nx hp)⟩,⟨st',by rw[List.getElem?_set_ne n2];exact hj',hr'⟩,List.getElem?_set_self (by omega),Sl.put hsu (nb 1 (by decide)) _,by rw[hg yb ly' n5 n3];exact h.y,row (by decide) h.yl,fun hp=>nxr (h.yn hp),h.ne,h.ok,hokL,h.cc,row (by decide) h.ps⟩
end Go.Am.F09
end
section
namespace Go.Am.F09
open Go.Am.F06 Go.Am.F10
theorem stepL_ok{c:Cf} {p:Int} {s:LS} {xs:List Int} (h:OkL c xs) (hw:s.a=0∨W64 s.w):OkL c (stepL c p xs s).2:=by
 unfold stepL
 split
 ·exact h
 rename_i h0
 have hw:=hw.resolve_left h0
 split
 ·exact h
 split
 ·exact h
 split
 ·exact h.set _ (wrap64_b _)
 split
 ·exact h.set _ (grow_64 hw _)
 ·exact h
end Go.Am.F09
end
section
namespace Go.Am.F11
open Go.Am.F06 Go.Am.F10 Go.Am.F09
variable {X:Type}
def gainN(w n:Int):Int:=pk ((hd w+n) % 4294967296) (tl w)
theorem gainN_64(w n:Int):W64 (gainN w n):=by
 have:=tl_b w
 unfold gainN pk W64;omega
theorem gainN_eq(m:Mem X) {w n:Int} (h:W64 w):c_word_Gain [.int .u64 w,.int .u32 n] m=some (.int .u64 (gainN w n),m):=by
 have a179:assoc [(179,F10.c_word_Head (X:=X)),(182,F10.c_word_Tail),(183,F10.c_word_Pack)] 179=some F10.c_word_Head:=rfl
 have a182:assoc [(179,F10.c_word_Head (X:=X)),(182,F10.c_word_Tail),(183,F10.c_word_Pack)] 182=some F10.c_word_Tail:=rfl
 have a183:assoc [(179,F10.c_word_Head (X:=X)),(182,F10.c_word_Tail),(183,F10.c_word_Pack)] 183=some F10.c_word_Pack:=rfl
 have he:c_word_Gain (X:=X)=amFunc [(179,F10.c_word_Head),(182,F10.c_word_Tail),(183,F10.c_word_Pack)] word_Gain:=rfl
 rw[he]
 generalize [(179,F10.c_word_Head (X:=X)),(182,F10.c_word_Tail),(183,F10.c_word_Pack)]=G at a179 a182 a183 ⊢
 have h1:=head_eq m h
 have h2:=tail_eq m w
 have hw:IntKind.u32.wrap (hd w+n)=(hd w+n) % 4294967296:=wrap32 _
 have ht:=tl_b w
 have h3:=pack_eq m (h:=(hd w+n) % 4294967296) (t:=tl w) (by omega) (by omega) ht.1 ht.2
 refine Fn_eq (Fn_of rfl ?_)
 simp(disch:=first|assumption|omega|(simp only[zl]<;>omega)|(simp only[zn])) only[word_Gain,↓zd,zk,seval,reduceIte,List.map,AV.cells,List.all,AV.one,eqV,eqAll,splice,fillA,List.replicate,resAll,resA,zm,zg,a182,a179,h1,h2,hw,a183,h3,gainN]
theorem sz_b(w:Int):0≤sz w∧sz w < 4294967296:=by unfold sz;omega
def halfI(w:Int):Int:=sz w - sz w / 2
theorem half_b(w:Int):0≤halfI w∧halfI w≤sz w∧(0 < sz w→0 < halfI w):=by
 have:=sz_b w
 unfold halfI;omega
theorem older_eq(m:Mem X) {n:Int} (h0:0≤n) (h1:n < 4294967296):c_word_Older [.int .u32 n] m=some (.int .u32 (n - n / 2),m):=by
 have e1:n.tdiv 2=n / 2:=Int.tdiv_eq_ediv_of_nonneg h0
 have e2:IntKind.u32.wrap (n / 2)=n / 2:=by rw[wrap32];omega
 have e3:IntKind.u32.wrap (n - n / 2)=n - n / 2:=by rw[wrap32];omega
 refine Fn_eq (Fn_of rfl ?_)
 simp(disch:=first|assumption|omega|(simp only[zl]<;>omega)|(simp only[zn])) only[word_Older,↓zd,zk,seval,reduceIte,List.map,AV.cells,List.all,AV.one,eqV,eqAll,splice,fillA,List.replicate,resAll,resA,zm,zg,e1,e2,e3]
theorem half_eq{m:Mem X} {xj:Nat} {c:Cf} {p v a w k:Int} {ly b:AV} (hx:m[xj]?=some (.cells 13 false (stC c p v a w ly b k))) (hw:W64 w):c_steal_Steal_half [.ptr xj 0] m=some (.int .i64 (halfI w),m):=by
 have a178:assoc [(178,F10.c_word_Len (X:=X)),(289,c_word_Older)] 178=some F10.c_word_Len:=rfl
 have a289:assoc [(178,F10.c_word_Len (X:=X)),(289,c_word_Older)] 289=some c_word_Older:=rfl
 have he:c_steal_Steal_half (X:=X)=amFunc [(178,F10.c_word_Len),(289,c_word_Older)] steal_Steal_half:=rfl
 rw[he]
 generalize [(178,F10.c_word_Len (X:=X)),(289,c_word_Older)]=G at a178 a289 ⊢
 have hs:=sz_b w
 have h1:=len_eq m hw
 have h2:=older_eq m hs.1 hs.2
 have hh:=half_b w
 have e1:sz w - sz w / 2=halfI w:=rfl
 rw[e1] at h2
 have e2:IntKind.i64.wrap (halfI w)=halfI w:=wrapI (by omega) (by omega)
 refine Fn_eq (Fn_of rfl ?_)
 simp(disch:=first|assumption|omega|(simp only[zl]<;>omega)|(simp only[zn])) only[steal_Steal_half,↓zd,zk,seval,reduceIte,List.map,AV.cells,List.all,AV.one,eqV,eqAll,splice,fillA,List.replicate,resAll,resA,zm,zg,hx,stC,cfC,a178,h1,a289,h2,e2]
structure TS where
 a:Int
 w:Int
 bl:List Int
 k:Int
 ly:LS
def sslN(c:Cf) (v w:Int) (k:Nat):Nat:=(slotA c v ((hd w+k) % 4294967296)).toNat
def stepT(c:Cf) (p v:Int) (xs:List Int) (s:TS):TS × List Int :=
 if s.a=0 then(s,xs)
 else if s.a=1 then({ s with w:=xs.getD (wrdN c v) 0,bl:=[],a:=if sz (xs.getD (wrdN c v) 0)=0∨c.q < sz (xs.getD (wrdN c v) 0) then 0 else 2 },xs)
 else if s.a=2 then({ s with bl:=s.bl++[IntKind.i64.wrap (xs.getD (sslN c v s.w s.bl.length) 0)],a:=if ((s.bl.length:Int)+1)=halfI s.w then 3 else 2 },xs)
 else if s.a=3 then
  if xs.getD (wrdN c v) 0=s.w then({ s with k:=s.bl.length,ly:=newL c p s.bl.tail,a:=if s.bl.length=1 then 0 else 4 },xs.set (wrdN c v) (gainN s.w (halfI s.w)))
  else({ s with a:=1,bl:=[] },xs)
 else({ s with ly:=(stepL c p xs s.ly).1,a:=if (stepL c p xs s.ly).1.a=0 then 0 else 4 },(stepL c p xs s.ly).2)
def opsT(s:TS) (o:Int):Int:=if s.a=0 then o else if s.a=4 then opsL s.ly o else IntKind.u64.wrap (o+1)
structure TOk (c:Cf) (p v:Int) (s:TS):Prop where
 w:W64 s.w
 a:s.a=0∨(thereS c p v∧(s.a=1∨(s.a=2∧sz s.w≤c.q∧(s.bl.length:Int) < halfI s.w)∨(s.a=3∧sz s.w≤c.q∧(s.bl.length:Int)=halfI s.w∧0 < s.bl.length)∨(s.a=4∧0 < s.k)))
 k:(s.k=0∧s.a≠4)∨(0 < s.k∧s.k=s.bl.length∧thereS c p v∧LOk c p s.ly∧(s.a=0∨s.a=4))
 b:s.bl.length≤64
theorem newL_bl{c:Cf} {p:Int} {xs:List Int} (h:xs.length≤100):LOk c p (newL c p xs):=newL_ok c p h
theorem TOk.step{c:Cf} {p v:Int} {s:TS} {xs:List Int} (h:TOk c p v s) (hx:s.a=0∨OkL c xs):TOk c p v (stepT c p v xs s).1:=by
 obtain⟨hw,ha,hk,hb⟩:=h
 by_cases h0:s.a=0
 ·rw[stepT,if_pos h0];exact⟨hw,ha,hk,hb⟩
 have hx:=hx.resolve_left h0
 obtain⟨ht,ha⟩:=ha.resolve_left h0
 have hq:=there_bounds ht.1
 rcases ha with h1|⟨h1,h2,h3⟩|⟨h1,h2,h3,h4⟩|⟨h1,h2⟩
 ·have hg:=getD_64 hx.2 (wrdN c v)
  have hk0:s.k=0:=by rcases hk with hk|hk<;>omega
  rw[stepT,if_neg h0,if_pos h1]
  refine⟨hg,?_,.inl ⟨hk0,?_⟩,by simp⟩
  ·simp only
   split
   ·exact .inl rfl
   ·rename_i hz
    have:=sz_b (xs.getD (wrdN c v) 0)
    have:=half_b (xs.getD (wrdN c v) 0)
    exact .inr ⟨ht,.inr (.inl ⟨rfl,by omega,by show ((0:Nat):Int) < halfI (xs.getD (wrdN c v) 0);omega⟩)⟩
  ·simp only;split<;>decide
 ·have hk0:s.k=0:=by rcases hk with hk|hk<;>omega
  rw[stepT,if_neg h0,if_neg (by omega),if_pos h1]
  have hh:=half_b s.w
  refine⟨hw,?_,.inl ⟨hk0,?_⟩,by simp;omega⟩
  ·simp only[List.length_append,List.length_cons,List.length_nil]
   split
   ·exact .inr ⟨ht,.inr (.inr (.inl ⟨rfl,h2,by omega,by omega⟩))⟩
   ·exact .inr ⟨ht,.inr (.inl ⟨rfl,h2,by omega⟩)⟩
  ·simp only;split<;>decide
 ·have hk0:s.k=0:=by rcases hk with hk|hk<;>omega
  rw[stepT,if_neg h0,if_neg (by omega),if_neg (by omega),if_pos h1]
  have hh:=half_b s.w
  split
  ·refine⟨hw,?_,.inr ⟨by show (0:Int) < (s.bl.length:Int);omega,rfl,ht,newL_bl (by simp;omega),?_⟩,hb⟩
   ·simp only
    split
    ·exact .inl rfl
    ·exact .inr ⟨ht,.inr (.inr (.inr ⟨rfl,by show (0:Int) < (s.bl.length:Int);omega⟩))⟩
   ·show (if s.bl.length=1 then(0:Int) else 4)=0∨(if s.bl.length=1 then(0:Int) else 4)=4
    split
    ·exact .inl rfl
    ·exact .inr rfl
  ·exact⟨hw,.inr ⟨ht,.inl rfl⟩,.inl ⟨hk0,show ¬ ((1:Int)=4) by decide⟩,by simp⟩
 ·rw[stepT,if_neg h0,if_neg (by omega),if_neg (by omega),if_neg (by omega)]
  obtain⟨k1,k2,k3,k4,k5⟩:=hk.resolve_left (by omega)
  refine⟨hw,?_,.inr ⟨k1,k2,k3,k4.step (.inr hx),?_⟩,hb⟩
  ·simp only
   split
   ·exact .inl rfl
   ·exact .inr ⟨ht,.inr (.inr (.inr ⟨rfl,h2⟩))⟩
  ·simp only;split
   ·exact .inl rfl
   ·exact .inr rfl
theorem stepT_ok{c:Cf} {p v:Int} {s:TS} {xs:List Int} (hO:OkL c xs) (h:TOk c p v s):OkL c (stepT c p v xs s).2:=by
 unfold stepT
 split
 ·exact hO
 ·split
  ·exact hO
  ·split
   ·exact hO
   ·split
    ·split
     ·exact hO.set _ (gainN_64 _ _)
     ·exact hO
    ·rename_i h0 h1 h2 h3
     refine F09.stepL_ok hO ?_
     rcases h.k with hk|hk
     ·rcases h.a with ha|⟨_,ha⟩<;>omega
     ·exact .inr hk.2.2.2.1.w
def KeepP(P:Nat→Prop) (j:Nat) (m m':MM):Prop:=m.length≤m'.length∧∀ i,i < m.length→i≠j→¬ P i→m'[i]?=m[i]?
def KeepN(P:Nat→Prop) (m m':MM):Prop:=m.length≤m'.length∧∀ i,i < m.length→(P i∨∃ ro L,m[i]?=some (.cells 1 ro L))→m'[i]?=m[i]?
def OffP(P:Nat→Prop) (v:AV):Prop:=∀ q o n cap,v = .sl q o n cap→0 < n→¬ P q
def NewP(P:Nat→Prop) (m m':MM):Nat→Prop:=fun i=>P i∨(m.length≤i∧i < m'.length)
theorem KeepP.refl{P:Nat→Prop} {j:Nat} (m:MM):KeepP P j m m:=⟨Nat.le_refl _,fun _ _ _ _=>rfl⟩
theorem KeepP.of{P:Nat→Prop} {j:Nat} {m m':MM} (k:Keep m m'):KeepP P j m m':=⟨k.1,fun i hi _ _=>k.2 i hi⟩
theorem KeepP.trans{P:Nat→Prop} {j:Nat} {m m' m'':MM} (h:KeepP P j m m') (k:KeepP (NewP P m m') j m' m''):KeepP P j m m'' :=
 ⟨Nat.le_trans h.1 k.1,fun i hi hj hp=>(k.2 i (Nat.lt_of_lt_of_le hi h.1) hj (fun h=>h.elim hp fun h=>by omega)).trans (h.2 i hi hj hp)⟩
theorem KeepN.of{P:Nat→Prop} {m m':MM} (k:Keep m m'):KeepN P m m':=⟨k.1,fun i hi _=>k.2 i hi⟩
theorem KeepN.trans{P:Nat→Prop} {m m' m'':MM} (h:KeepN P m m') (k:KeepN P m' m''):KeepN P m m'' :=
 ⟨Nat.le_trans h.1 k.1,fun i hi hp=>by
  have h1:=h.2 i hi hp
  refine(k.2 i (Nat.lt_of_lt_of_le hi h.1) (hp.imp id fun⟨ro,L,h2⟩=>⟨ro,L,by rw[h1];exact h2⟩)).trans h1⟩
theorem KeepN.set{P:Nat→Prop} {m m':MM} (h:KeepN P m m') {q:Nat} (hq:¬ P q) (h1:∀ ro L,m[q]?≠some (.cells 1 ro L)) (C:Chunk Ob):KeepN P m (m'.set q C) :=
 ⟨by simpa using h.1,fun i hi hp=>by
  rw[List.getElem?_set_ne (fun hh=>by
   rcases hp with hp|⟨ro,L,hp⟩
   ·exact hq (by rw[hh];exact hp)
   ·exact h1 ro L (by rw[hh];exact hp))]
  exact h.2 i hi hp⟩
theorem KeepN.get{P:Nat→Prop} {m m':MM} (h:KeepN P m m') {i:Nat} {C:Chunk Ob} (hi:m[i]?=some C) (hp:P i):m'[i]?=some C:=(h.2 i (List.getElem?_eq_some_iff.1 hi).1 (.inl hp)).trans hi
theorem KeepN.sl{P:Nat→Prop} {m m':MM} {wr:Bool} {n:Nat} {l:List AV} {v:AV} (k:KeepN P m m') (h:Sl m wr 1 n l v):Sl m' wr 1 n l v :=
 Sl.stay h fun q o cap hv h0=>by
  obtain⟨h1,ro,L,h2⟩:=Sl.lt h hv h0
  exact k.2 q h1 (.inr ⟨ro,L,h2⟩)
theorem KeepN.nx{P:Nat→Prop} {m m':MM} {v:AV} (k:KeepN P m m') (h:Nx m v):Nx m' v:=by
 rcases h with h|⟨q,o,n,l,h1,h2⟩
 ·exact .inl h
 ·exact .inr ⟨q,o,n,l,h1,(k.2 q (List.getElem?_eq_some_iff.1 h2).1 (.inr ⟨_,_,h2⟩)).trans h2⟩
theorem KeepP.get{P:Nat→Prop} {j:Nat} {m m':MM} (h:KeepP P j m m') {i:Nat} {C:Chunk Ob} (hi:m[i]?=some C) (hj:i≠j) (hp:¬ P i):m'[i]?=some C:=(h.2 i (List.getElem?_eq_some_iff.1 hi).1 hj hp).trans hi
theorem KeepP.set{P:Nat→Prop} {j:Nat} {m m':MM} (h:KeepP P j m m') {q:Nat} (hq:P q∨m.length≤q∨q=j) (C:Chunk Ob):KeepP P j m (m'.set q C) :=
 ⟨by simpa using h.1,fun i hi h1 h2=>by
  rw[List.getElem?_set_ne (fun hh=>by
   rcases hq with hq|hq|hq
   ·exact h2 (by rw[← hh];exact hq)
   ·omega
   ·exact h1 (by rw[← hh];exact hq))]
  exact h.2 i hi h1 h2⟩
theorem Sl.off{P:Nat→Prop} {j:Nat} {m m':MM} {wr:Bool} {sz n:Nat} {l:List AV} {v:AV} (h:Sl m wr sz n l v) (k:KeepP P j m m') (hj:∀ ro L,m[j]?≠some (.cells sz ro L)) (ho:OffP P v):Sl m' wr sz n l v :=
 Sl.stay h fun q o cap hv h0=>by
  obtain⟨h1,ro,L,h2⟩:=Sl.lt h hv h0
  exact k.2 q h1 (fun hh=>hj ro L (by rw[← hh];exact h2)) (ho q o n cap hv h0)
theorem OffP.new{P:Nat→Prop} {m m':MM} {wr:Bool} {sz n:Nat} {l:List AV} {v:AV} (ho:OffP P v) (hs:Sl m wr sz n l v):OffP (NewP P m m') v:=fun q o k cap hv h0 hh=>by
 have hlen:=hs.len
 rw[hv] at hlen;simp only[lenA,Option.some.injEq] at hlen;subst hlen
 have h1:=(Sl.lt hs hv h0).1
 rcases hh with hh|hh
 ·exact ho q o k cap hv h0 hh
 ·omega
def RowsK(m m':MM):Prop:=∀ (q:Nat) (ro:Bool) (L:List AV),m[q]?=some (Chunk.cells 1 ro L)→m'[q]?=some (Chunk.cells 1 ro L)
def Bt(m:MM) (P:Nat→Prop) (cap:Nat) (bl:List Int) (bv:AV):Prop:=∃ qb L,P qb∧bv = .sl qb 0 bl.length (some cap)∧m[qb]?=some (.cells 1 false L)∧bl.length≤cap∧cap≤L.length∧L.take bl.length=iC bl∧∃ l':List Int,L=iC l'
def BtO(m:MM) (P:Nat→Prop) (c:Cf) (s:TS) (bv:AV):Prop:=(bv = .nils∧s.bl=[]∧s.a≠2∧s.a≠3∧s.k=0)∨∃ cap,Bt m P cap s.bl bv∧(s.a=2→(cap:Int)=c.q)
def LyO(m:MM) (P Q:Nat→Prop) (c:Cf) (p:Int) (s:TS) (lyv:AV):Prop:=(s.k=0∧lyv = .nilp)∨(0 < s.k∧∃ lb lxv,lyv = .ptr lb 0∧P lb∧LM m lb c p s.ly lxv∧∀ q o n cap,lxv = .sl q o n cap→0 < n→Q q)
structure TQ (m:MM) (P Q:Nat→Prop) (c:Cf) (p v:Int) (xj:Nat) (s:TS):Prop where
 own:P xj
 get:∃ lyv bv,m[xj]?=some (.cells 13 false (stC c p v s.a s.w lyv bv s.k))∧BtO m P c s bv∧LyO m P Q c p s lyv
abbrev TM(m:MM) (P:Nat→Prop) (c:Cf) (p v:Int) (xj:Nat) (s:TS):Prop:=TQ m P (fun _=>True) c p v xj s
theorem Bt.others{m m':MM} {P:Nat→Prop} {cap:Nat} {bl:List Int} {bv:AV} (h:Bt m P cap bl bv) (k:KeepN P m m'):Bt m' P cap bl bv:=by
 obtain⟨qb,L,h1,h2,h3,h4⟩:=h
 exact⟨qb,L,h1,h2,k.get h3 h1,h4⟩
theorem LM.others{m m':MM} {P:Nat→Prop} {lb:Nat} {c:Cf} {p:Int} {s:LS} {lv:AV} (h:LM m lb c p s lv) (hp:P lb) (k:KeepN P m m'):LM m' lb c p s lv :=
 ⟨k.get h.get hp,k.sl h.l,fun h0=>k.nx (h.nx h0)⟩
theorem TQ.others{m m':MM} {P Q:Nat→Prop} {c:Cf} {p v:Int} {xj:Nat} {s:TS} (h:TQ m P Q c p v xj s) (k:KeepN P m m'):TQ m' P Q c p v xj s:=by
 obtain⟨h0,lyv,bv,h1,h2,h3⟩:=h
 refine⟨h0,lyv,bv,k.get h1 h0,?_,?_⟩
 ·rcases h2 with h2|⟨cap,h2,h4⟩
  ·exact .inl h2
  ·exact .inr ⟨cap,h2.others k,h4⟩
 ·rcases h3 with h3|⟨h4,lb,lxv,h5,h6,h7⟩
  ·exact .inl h3
  ·exact .inr ⟨h4,lb,lxv,h5,h6,LM.others h7.1 h6 k,h7.2⟩
theorem TM.others{m m':MM} {P:Nat→Prop} {c:Cf} {p v:Int} {xj:Nat} {s:TS} (h:TM m P c p v xj s) (k:KeepN P m m'):TM m' P c p v xj s:=TQ.others h k
theorem TQ.tm{m:MM} {P Q:Nat→Prop} {c:Cf} {p v:Int} {xj:Nat} {s:TS} (h:TQ m P Q c p v xj s):TM m P c p v xj s:=by
 obtain⟨h0,lyv,bv,h1,h2,h3⟩:=h
 refine⟨h0,lyv,bv,h1,h2,?_⟩
 rcases h3 with h3|⟨h4,lb,lxv,h5,h6,h7,_⟩
 ·exact .inl h3
 ·exact .inr ⟨h4,lb,lxv,h5,h6,h7,fun _ _ _ _ _ _=>trivial⟩
theorem Bt.si{m:MM} {P:Nat→Prop} {cap:Nat} {bl:List Int} {bv:AV} (h:Bt m P cap bl bv):SI m true bl bv:=by
 obtain⟨qb,L,h1,h2,h3,h4,h5,h6,_⟩:=h
 exact⟨by rw[iC_len];omega,.inr ⟨qb,0,some cap,h2,fun _=>⟨false,L,h3,by rw[List.drop_zero,Nat.mul_one];exact h6,by omega,fun _=>rfl⟩⟩⟩
end Go.Am.F11
end
