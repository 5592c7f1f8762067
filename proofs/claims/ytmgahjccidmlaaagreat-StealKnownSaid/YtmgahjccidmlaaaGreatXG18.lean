import Derived.Test.YtmgahjccidmlaaaGreatXG17
set_option linter.unusedSimpArgs false
set_option linter.unusedVariables false
section
namespace Go.Am.F09
open Go.Am.F06 Go.Am.F10
def Gpct:List (Nat × AFun Ob):=[(220,c_put_Put_half),(221,c_word_Drop),(212,amFunc Gch put_ring_change)]
set_option maxHeartbeats 16000000 in
theorem pcut_run{m:MM} {c:Cf} {p g o:Int} {s:PS} {qt xj j:Nat} {tv hv:AV} {xs:List Int} {st:MemSt} (hx:PM m xj c p g s qt tv hv) (hj:m[j]?=some (.abs (.mem st))) (hr:RelM xs o st) (hO:OkL c xs) (hk:POk c p s) (ha:s.a=5) :
  Fn Gpct put_Put_cut [.ptr xj 0,.ptr j 0] m (PfP m c p g xj j qt hv (stepP c p g xs s) (IntKind.u64.wrap (o+1))):=by
 have a220:assoc Gpct 220=some c_put_Put_half:=rfl
 have a221:assoc Gpct 221=some c_word_Drop:=rfl
 have a212:assoc Gpct 212=some (amFunc Gch put_ring_change):=rfl
 generalize Gpct=G at a220 a221 a212 ⊢
 obtain⟨a,w,tk,hs⟩:=s
 simp only at ha
 subst ha
 obtain⟨hx,ht,h1,hh,hoff⟩:=hx
 have hij:xj≠j:=fun h=>by rw[h,hj] at hx;cases hx
 have lx:xj < m.length:=(List.getElem?_eq_some_iff.1 hx).1
 have hpl:thereP c p∧(tk.length:Int)=c.q / 2:=hk.a.elim (fun h=>by simp at h) (fun h=>⟨h.1,by have:=h.2;simp only at this;omega⟩)
 obtain⟨hp,hlt⟩:=hpl
 have hb:=there_bounds hp
 have hw:=hk.w
 simp only at hw
 have hg:=fun m:MM=>drop_eq m (n:=c.q / 2) hw
 have hhalf0:=half_eq hx (by omega) (by omega)
 have hrun:=change_run (next:=dropW w (c.q / 2)) hx hj hr hO hp
 have hnx:∀ ro L,m[xj]?≠some (.cells 1 ro L):=fun ro L h=>by rw[hx] at h;cases h
 have hnj:∀ ro L,m[j]?≠some (.cells 1 ro L):=fun ro L h=>by rw[hj] at h;cases h
 have hrw:=ht (.inr rfl)
 simp only at hrw
 have hpos:0 < tk.length:=by omega
 have hql:=hrw.lt hpos
 have hqm:∃ L,m[qt]?=some (.cells 1 false L):=by
  rcases hrw with⟨h,_⟩|⟨_,_,h⟩
  ·omega
  ·exact⟨_,h⟩
 obtain⟨Lq,hqm⟩:=hqm
 have hqx:qt≠xj:=fun h=>hnx false Lq (by rw[← h];exact hqm)
 have hqj:qt≠j:=fun h=>hnj false Lq (by rw[← h];exact hqm)
 have hs1:stepP c p g xs ⟨5,w,tk,hs⟩=(if xs.getD (wrdN c p) 0=w then(⟨0,w,tk,tk++[g]⟩,xs.set (wrdN c p) (dropW w (c.q / 2))) else(⟨1,w,tk,hs⟩,xs)):=rfl
 rw[hs1]
 simp only[putC,rgC,cfC,List.cons_append,List.nil_append] at hx
 refine Fn_of rfl ?_
 simp(disch:=first|assumption|omega|(simp only[zl]<;>omega)|(simp only[zn])) only[put_Put_cut,↓zd,zk,seval,reduceIte,List.map,AV.cells,List.all,AV.one,eqV,eqAll,splice,fillA,List.replicate,resAll,resA,zm,zg,hx,a220,hhalf0,a221,hg,a212]
 refine OKT_fn hrun ?_
 rintro _ m1 ⟨rfl,k1,x1,st',j1,r1⟩
 have lx1:xj < m1.length:=(List.getElem?_eq_some_iff.1 x1).1
 have hh1:SI m1 false hs hv:=(KeepX.t (qt:=m.length) k1).si hnx hnj hh (si_lt hh (Nat.le_refl _))
 have nb:∀ ro L,m1[xj]?≠some (.cells 1 ro L):=fun ro L h=>by rw[x1] at h;cases h
 by_cases heq:xs.getD (wrdN c p) 0=w
 ·rw[if_pos heq] at x1 r1 ⊢
  have hd:decide (xs.getD (wrdN c p) 0=w)=true:=decide_eq_true heq
  have hrw1:=hrw.keep (m':=m1) (fun _=>k1.2 qt hql hqx hqj)
  obtain⟨hv',m2,hap,rw2,hl2,hf2⟩:=hrw1.push (x:=[.int .i64 g]) (bytes:=8) (by rw[iC_len];omega) rfl (iC_one _) rfl (by omega) (by omega)
  have x2:=hf2 xj lx1 (.inr hqx.symm)
  rw[x1] at x2
  have j2:=hf2 j (List.getElem?_eq_some_iff.1 j1).1 (.inr hqj.symm)
  rw[j1] at j2
  have lx2:xj < m2.length:=(List.getElem?_eq_some_iff.1 x2).1
  have hl1:=k1.1
  have htv:hv' = .sl (m1.length+1) 0 (tk.length+1) none:=by
   rcases rw2 with⟨h,_⟩|⟨_,h,_⟩
   ·omega
   ·exact h
  subst htv
  have hx1':=fun K:MM=>(Keep.app m1 K).get x1
  simp only[rgC,cfC,List.cons_append,List.nil_append] at x1 x2 hx1'
  have hone:=h1
  simp only[AV.one] at hone
  simp(disch:=first|assumption|omega|(simp only[zl]<;>omega)|(simp only[zn])) only[↓zd,zk,seval,reduceIte,List.map,AV.cells,List.all,AV.one,eqV,eqAll,splice,fillA,List.replicate,resAll,resA,zm,zg,hd,hx,x1,x2,hx1',evA,fillA,repeatL,List.flatten_cons,List.flatten_nil,hap,hone]
  have kT:∀ C,KeepT xj j qt m (m2.set xj C):=fun C=>⟨by simp only[List.length_set];omega,fun i hi h1 h2 h3=>by rw[List.getElem?_set_ne (fun h=>h1 h.symm),hf2 i (by omega) (.inr h3),k1.2 i hi h1 h2]⟩
  refine⟨rfl,kT _,tv,.sl (m1.length+1) 0 (tk.length+1) none,xj,⟨by rw[List.getElem?_set_self lx2];rfl,fun h=>by simp at h,h1,?_,fun q o n cc hq _=>?_⟩,.inl rfl,.inr (.inr ⟨_,_,_,_,rfl,by omega⟩),st',by rw[List.getElem?_set_ne hij];exact j2,r1⟩
  ·have:=(rw2.keep (m':=m2.set xj (.cells 13 false (putC c p g ⟨0,w,tk,tk++[g]⟩ tv (.sl (m1.length+1) 0 (tk.length+1) none)))) (fun _=>by rw[List.getElem?_set_ne (by omega)])).sl (by simp[iC])
   show Sl _ false 1 (tk++[g]).length (iC (tk++[g])) _
   rw[iC_app,List.length_append]
   exact this
  ·injection hq with hq;omega
 ·rw[if_neg heq] at x1 r1 ⊢
  have hd:decide (xs.getD (wrdN c p) 0=w)=false:=decide_eq_false heq
  simp(disch:=first|assumption|omega|(simp only[zl]<;>omega)|(simp only[zn])) only[↓zd,zk,seval,reduceIte,List.map,AV.cells,List.all,AV.one,eqV,eqAll,splice,fillA,List.replicate,resAll,resA,zm,zg,hd,hx]
  exact⟨rfl,KeepX.t k1,tv,hv,xj,⟨x1,fun h=>by simp at h,h1,hh1,si_box hh1 nb⟩,.inl rfl,.inl rfl,st',j1,r1⟩
theorem ev_index{X:Type} (G:List (Nat × AFun X)) (len sz:Nat) (cs:List AV) (k:IntKind) (n:Int) (m:Mem X):amOp G (.index len sz none) [.agg cs,.int k n] m=if 0≤n∧n < len then(match cs[n.toNat * sz]? with|some v=>some (v,m)|none=>none) else none:=rfl
theorem ways_eq{X:Type} (m:Mem X):c_put_ways [] m=some (.agg [.nilf,.fn 214 [] [],.fn 215 [] [],.fn 216 [] [],.fn 217 [] [],.fn 218 [] []],m++[.cells 6 false [.nilf,.fn 214 [] [],.fn 215 [] [],.fn 216 [] [],.fn 217 [] [],.fn 218 [] []]]):=by
 have he:c_put_ways (X:=X)=amFunc [(214,c_put_Put_look),(215,c_put_Put_lay),(216,c_put_Put_swing),(217,c_put_Put_take),(218,c_put_Put_cut)] put_ways:=rfl
 rw[he]
 generalize [(214,c_put_Put_look (X:=X)),(215,c_put_Put_lay),(216,c_put_Put_swing),(217,c_put_Put_take),(218,c_put_Put_cut)]=G
 exact Fn_eq (Fn_of rfl (by simp(disch:=first|assumption|omega|(simp only[zl]<;>omega)|(simp only[zn])) only[put_ways,↓zd,zk,seval,reduceIte,List.map,AV.cells,List.all,AV.one,eqV,eqAll,splice,fillA,List.replicate,resAll,resA,zm,zg]))
theorem pdone_eq{X:Type} {m:Mem X} {xj:Nat} {c:Cf} {p g:Int} {s:PS} {tv hv:AV} (hx:m[xj]?=some (.cells 13 false (putC c p g s tv hv))):c_put_Put_Done [.ptr xj 0] m=some (.bool (decide (s.a=0)),m):=by
 simp only[putC,rgC,cfC,List.cons_append,List.nil_append] at hx
 exact Fn_eq (Fn_of rfl (by simp(disch:=first|assumption|omega|(simp only[zl]<;>omega)|(simp only[zn])) only[put_Put_Done,↓zd,zk,seval,reduceIte,List.map,AV.cells,List.all,AV.one,eqV,eqAll,splice,fillA,List.replicate,resAll,resA,zm,zg,hx]))
def Gpst:List (Nat × AFun Ob):=[(191,c_put_Put_Done),(207,c_put_ways),(214,amFunc Gplk put_Put_look),(215,amFunc Gply put_Put_lay),(216,amFunc Gpsw put_Put_swing),(217,amFunc Gptk put_Put_take),(218,amFunc Gpct put_Put_cut)]
def PsP(m:MM) (c:Cf) (p g:Int) (xj j qt:Nat) (hv:AV) (x:PS × List Int) (o:Int) (r:AV) (m':MM):Prop:=r = .bool (decide (x.1.a=0))∧KeepT xj j qt m m'∧∃ tv' hv' qt',PM m' xj c p g x.1 qt' tv' hv'∧(qt'=xj∨(m.length≤qt'∧qt' < m'.length)∨qt'=qt)∧(hv'=hv∨Fr m.length hv')∧∃ st',m'[j]?=some (.abs (.mem st'))∧RelM x.2 o st'
theorem stepP_zero{c:Cf} {p g:Int} {s:PS} (h:s.a=0) (xs:List Int):stepP c p g xs s=(s,xs):=by
 unfold stepP;rw[if_neg (by omega),if_neg (by omega),if_neg (by omega),if_neg (by omega),if_neg (by omega)]
theorem PM.more{m:MM} {xj:Nat} {c:Cf} {p g:Int} {s:PS} {qt:Nat} {tv hv:AV} (h:PM m xj c p g s qt tv hv) (K:MM):PM (m++K) xj c p g s qt tv hv :=
 ⟨(Keep.app m K).get h.get,fun ha=>(h.t ha).keep (fun hn=>List.getElem?_append_left ((h.t ha).lt hn)),h.one,h.h.keep (.app _ _),h.off⟩
set_option maxHeartbeats 16000000 in
theorem pstep_run{m:MM} {c:Cf} {p g o:Int} {s:PS} {qt xj j:Nat} {tv hv:AV} {xs:List Int} {st:MemSt} (hx:PM m xj c p g s qt tv hv) (hj:m[j]?=some (.abs (.mem st))) (hr:RelM xs o st) (hO:s.a=0∨OkL c xs) (hk:POk c p s) :
  Fn Gpst put_Put_Step [.ptr xj 0,.ptr j 0] m (PsP m c p g xj j qt hv (stepP c p g xs s) (opsP s o)):=by
 have a191:assoc Gpst 191=some c_put_Put_Done:=rfl
 have a207:assoc Gpst 207=some c_put_ways:=rfl
 have a214:assoc Gpst 214=some (amFunc Gplk put_Put_look):=rfl
 have a215:assoc Gpst 215=some (amFunc Gply put_Put_lay):=rfl
 have a216:assoc Gpst 216=some (amFunc Gpsw put_Put_swing):=rfl
 have a217:assoc Gpst 217=some (amFunc Gptk put_Put_take):=rfl
 have a218:assoc Gpst 218=some (amFunc Gpct put_Put_cut):=rfl
 generalize Gpst=G at a191 a207 a214 a215 a216 a217 a218 ⊢
 have hd:=pdone_eq hx.get
 refine Fn_of rfl ?_
 by_cases h0:s.a=0
 ·rw[decide_eq_true h0] at hd
  rw[stepP_zero h0,opsP,if_pos h0]
  simp(disch:=first|assumption|omega|(simp only[zl]<;>omega)|(simp only[zn])) only[put_Put_Step,↓zd,zk,seval,reduceIte,List.map,AV.cells,List.all,AV.one,eqV,eqAll,splice,fillA,List.replicate,resAll,resA,zm,zg,a191,hd]
  exact⟨by rw[decide_eq_true h0],⟨Nat.le_refl _,fun _ _ _ _ _=>rfl⟩,tv,hv,qt,hx,.inr (.inr rfl),.inl rfl,st,hj,hr⟩
 ·have hO':=hO.resolve_left h0
  rw[decide_eq_false h0] at hd
  rw[opsP,if_neg h0]
  have hway:=ways_eq m
  have hM:=hx.more [.cells 6 false [.nilf,.fn 214 [] [],.fn 215 [] [],.fn 216 [] [],.fn 217 [] [],.fn 218 [] []]]
  have hMj:=(Keep.app m [.cells 6 false [.nilf,.fn 214 [] [],.fn 215 [] [],.fn 216 [] [],.fn 217 [] [],.fn 218 [] []]]).get hj
  have hget:=hM.get
  have hget0:=hx.get
  simp only[putC,rgC,cfC,List.cons_append,List.nil_append] at hget hget0
  have key:∀ (r:AV) (m':MM),PfP (m++[.cells 6 false [.nilf,.fn 214 [] [],.fn 215 [] [],.fn 216 [] [],.fn 217 [] [],.fn 218 [] []]]) c p g xj j qt hv (stepP c p g xs s) (IntKind.u64.wrap (o+1)) r m'→PsP m c p g xj j qt hv (stepP c p g xs s) (IntKind.u64.wrap (o+1)) (.bool (decide ((stepP c p g xs s).1.a=0))) m':=by
   rintro r m' ⟨_,hk,tv',hv',qt',hpm,hq,hh,hst⟩
   refine⟨rfl,⟨by have:=hk.1;simp at this;omega,fun i hi h1 h2 h3=>by rw[hk.2 i (by simp;omega) h1 h2 h3,List.getElem?_append_left hi]⟩,tv',hv',qt',hpm,?_,?_,hst⟩
   ·rcases hq with h|h|h
    ·exact .inl h
    ·exact .inr (.inl ⟨by have:=h.1;simp at this;omega,h.2⟩)
    ·exact .inr (.inr h)
   ·rcases hh with h|h|⟨q,o,n,cp,h,h'⟩
    ·exact .inl h
    ·exact .inr (.inl h)
    ·exact .inr (.inr ⟨q,o,n,cp,h,by simp at h';omega⟩)
  have hka:=hk.a
  have ha:s.a=1∨s.a=2∨s.a=3∨s.a=4∨s.a=5:=by omega
  rcases ha with ha|ha|ha|ha|ha
  ·simp(disch:=first|assumption|omega|(simp only[zl]<;>omega)|(simp only[zn])) only[put_Put_Step,↓zd,zk,seval,reduceIte,List.map,AV.cells,List.all,AV.one,eqV,eqAll,splice,fillA,List.replicate,resAll,resA,zm,zg,a191,hd,a207,hway,hget,ha,ev_index,Int.reduceToNat,List.getElem?_cons_succ,List.getElem?_cons_zero,List.append_nil,a214]
   refine OKT_fn (plook_run hM hMj hr hO' hk ha) ?_
   intro r m1 hpf
   have hpf':=hpf
   obtain⟨rfl,_,tv',hv',qt',hpm,_⟩:=hpf'
   have hd2:=pdone_eq hpm.get
   simp(disch:=first|assumption|omega|(simp only[zl]<;>omega)|(simp only[zn])) only[↓zd,zk,seval,reduceIte,List.map,AV.cells,List.all,AV.one,eqV,eqAll,splice,fillA,List.replicate,resAll,resA,zm,zg,hget0,ha,a191,hd2]
   exact key _ _ hpf
  ·simp(disch:=first|assumption|omega|(simp only[zl]<;>omega)|(simp only[zn])) only[put_Put_Step,↓zd,zk,seval,reduceIte,List.map,AV.cells,List.all,AV.one,eqV,eqAll,splice,fillA,List.replicate,resAll,resA,zm,zg,a191,hd,a207,hway,hget,ha,ev_index,Int.reduceToNat,List.getElem?_cons_succ,List.getElem?_cons_zero,List.append_nil,a215]
   refine OKT_fn (play_run hM hMj hr hO' hk ha) ?_
   intro r m1 hpf
   have hpf':=hpf
   obtain⟨rfl,_,tv',hv',qt',hpm,_⟩:=hpf'
   have hd2:=pdone_eq hpm.get
   simp(disch:=first|assumption|omega|(simp only[zl]<;>omega)|(simp only[zn])) only[↓zd,zk,seval,reduceIte,List.map,AV.cells,List.all,AV.one,eqV,eqAll,splice,fillA,List.replicate,resAll,resA,zm,zg,hget0,ha,a191,hd2]
   exact key _ _ hpf
  ·simp(disch:=first|assumption|omega|(simp only[zl]<;>omega)|(simp only[zn])) only[put_Put_Step,↓zd,zk,seval,reduceIte,List.map,AV.cells,List.all,AV.one,eqV,eqAll,splice,fillA,List.replicate,resAll,resA,zm,zg,a191,hd,a207,hway,hget,ha,ev_index,Int.reduceToNat,List.getElem?_cons_succ,List.getElem?_cons_zero,List.append_nil,a216]
   refine OKT_fn (pswing_run hM hMj hr hO' hk ha) ?_
   intro r m1 hpf
   have hpf':=hpf
   obtain⟨rfl,_,tv',hv',qt',hpm,_⟩:=hpf'
   have hd2:=pdone_eq hpm.get
   simp(disch:=first|assumption|omega|(simp only[zl]<;>omega)|(simp only[zn])) only[↓zd,zk,seval,reduceIte,List.map,AV.cells,List.all,AV.one,eqV,eqAll,splice,fillA,List.replicate,resAll,resA,zm,zg,hget0,ha,a191,hd2]
   exact key _ _ hpf
  ·simp(disch:=first|assumption|omega|(simp only[zl]<;>omega)|(simp only[zn])) only[put_Put_Step,↓zd,zk,seval,reduceIte,List.map,AV.cells,List.all,AV.one,eqV,eqAll,splice,fillA,List.replicate,resAll,resA,zm,zg,a191,hd,a207,hway,hget,ha,ev_index,Int.reduceToNat,List.getElem?_cons_succ,List.getElem?_cons_zero,List.append_nil,a217]
   refine OKT_fn (ptake_run hM hMj hr hO' hk ha) ?_
   intro r m1 hpf
   have hpf':=hpf
   obtain⟨rfl,_,tv',hv',qt',hpm,_⟩:=hpf'
   have hd2:=pdone_eq hpm.get
   simp(disch:=first|assumption|omega|(simp only[zl]<;>omega)|(simp only[zn])) only[↓zd,zk,seval,reduceIte,List.map,AV.cells,List.all,AV.one,eqV,eqAll,splice,fillA,List.replicate,resAll,resA,zm,zg,hget0,ha,a191,hd2]
   exact key _ _ hpf
  ·simp(disch:=first|assumption|omega|(simp only[zl]<;>omega)|(simp only[zn])) only[put_Put_Step,↓zd,zk,seval,reduceIte,List.map,AV.cells,List.all,AV.one,eqV,eqAll,splice,fillA,List.replicate,resAll,resA,zm,zg,a191,hd,a207,hway,hget,ha,ev_index,Int.reduceToNat,List.getElem?_cons_succ,List.getElem?_cons_zero,List.append_nil,a218]
   refine OKT_fn (pcut_run hM hMj hr hO' hk ha) ?_
   intro r m1 hpf
   have hpf':=hpf
   obtain⟨rfl,_,tv',hv',qt',hpm,_⟩:=hpf'
   have hd2:=pdone_eq hpm.get
   simp(disch:=first|assumption|omega|(simp only[zl]<;>omega)|(simp only[zn])) only[↓zd,zk,seval,reduceIte,List.map,AV.cells,List.all,AV.one,eqV,eqAll,splice,fillA,List.replicate,resAll,resA,zm,zg,hget0,ha,a191,hd2]
   exact key _ _ hpf
end Go.Am.F09
end
section
namespace Go.Am.F09
open Go.Am.F06 Go.Am.F10
def fromA(c:Cf) (p:Int):Int:=if thereP c p then 1 else 0
set_option maxHeartbeats 4000000 in
theorem from_eq{X:Type} (m:Mem X) (c:Cf) (p:Int):c_put_from [.agg (cfC c),.int .i64 p] m=some (.agg (rgC c p (fromA c p) 0 0 []),m++[.cells 6 false (cfC c),.cells 10 false (rgC c p (fromA c p) 0 0 []),.cells 10 false (rgC c p (fromA c p) 0 0 []),.cells 6 false (cfC c),.cells 7 false (cfC c++[.int .i64 p]),.cells 6 false (cfC c)]):=by
 have a159:assoc [(159,F10.c_conf_Config_Word (X:=X))] 159=some F10.c_conf_Config_Word:=rfl
 have he:c_put_from (X:=X)=amFunc [(159,F10.c_conf_Config_Word)] put_from:=rfl
 rw[he]
 generalize [(159,F10.c_conf_Config_Word (X:=X))]=G at a159 ⊢
 have hwr:=fun m:Mem X=>word_run (m:=m) c p
 simp only[cfC,List.cons_append,List.nil_append] at hwr
 refine Fn_eq (Fn_of rfl ?_)
 by_cases h:thereP c p
 ·have hb:=there_bounds h
  have ha:=addr_b h (i:=0) (by omega) (by omega)
  have ha0:=ha.1
  rw[fromA,if_pos h]
  simp(disch:=first|assumption|omega|(simp only[zl]<;>omega)|(simp only[zn])) only[put_from,↓zd,zk,seval,reduceIte,List.map,AV.cells,List.all,AV.one,eqV,eqAll,splice,fillA,List.replicate,resAll,resA,zm,zg,cfC,a159,hwr,rgC,List.set_set]
 ·have ha:addrA c p 0=-1:=if_neg h
  rw[fromA,if_neg h]
  simp(disch:=first|assumption|omega|(simp only[zl]<;>omega)|(simp only[zn])) only[put_from,↓zd,zk,seval,reduceIte,List.map,AV.cells,List.all,AV.one,eqV,eqAll,splice,fillA,List.replicate,resAll,resA,zm,zg,cfC,a159,hwr,rgC,ha,List.set_set]
def newS(c:Cf) (p g:Int):PS:=if thereP c p∧0≤g then⟨1,0,[],[g]⟩ else⟨0,0,[],[]⟩
theorem newS_ok(c:Cf) (p g:Int):POk c p (newS c p g):=by
 unfold newS;split
 ·rename_i h
  exact⟨by unfold W64;simp,.inr ⟨h.1,.inl rfl⟩,by simp⟩
 ·exact⟨by unfold W64;simp,.inl rfl,by simp⟩
def PnP(m:MM) (c:Cf) (p g:Int) (r:AV) (m':MM):Prop:=∃ xj hv,r = .ptr xj 0∧m.length≤xj∧Keep m m'∧PM m' xj c p g (newS c p g) xj .nils hv∧Fr m.length hv
set_option maxHeartbeats 8000000 in
theorem pnew_run{m:MM} {c:Cf} {p g:Int}:Fn [(206,c_put_from)] put_New [.agg (cfC c),.int .i64 p,.int .i64 g] m (PnP m c p g):=by
 have a206:assoc [(206,c_put_from (X:=Ob))] 206=some c_put_from:=rfl
 generalize [(206,c_put_from (X:=Ob))]=G at a206 ⊢
 have hfr:=from_eq (m++[.cells 6 false (cfC c)]) c p
 by_cases h:thereP c p∧0≤g
 ·obtain⟨h1,h2⟩:=h
  have hn:newS c p g=⟨1,0,[],[g]⟩:=if_pos ⟨h1,h2⟩
  unfold PnP
  rw[hn]
  rw[fromA,if_pos h1] at hfr
  simp only[rgC,cfC,List.cons_append,List.nil_append,List.append_assoc] at hfr
  refine Fn_of rfl ?_
  simp(disch:=first|assumption|omega|(simp only[zl]<;>omega)|(simp only[zn])) only[put_New,↓zd,zk,seval,reduceIte,List.map,AV.cells,List.all,AV.one,eqV,eqAll,splice,fillA,List.replicate,resAll,resA,zm,zg,cfC,a206,hfr,List.set_set,evA,fillA,repeatL,List.flatten_cons,List.flatten_nil,List.drop_succ_cons,List.drop_zero,List.drop_nil,List.append_nil]
  refine⟨_,.sl (m.length+8) 0 1 (some 1),rfl,by omega,.app _ _,⟨by rw[get_mid];rfl,fun h=>by simp at h,rfl,⟨rfl,.inr ⟨_,_,_,rfl,fun _=>⟨false,_,by rw[get_mid];rfl,rfl,by simp,fun h=>by cases h⟩⟩⟩,fun q o n cc hq _=>?_⟩,.inr ⟨_,_,_,_,rfl,by omega⟩⟩
  injection hq with hq;omega
 ·have hn:newS c p g=⟨0,0,[],[]⟩:=if_neg h
  unfold PnP
  rw[hn]
  by_cases h1:thereP c p
  ·have h2:g < 0:=by
    rcases Int.lt_or_le g 0 with h3|h3
    ·exact h3
    ·exact absurd ⟨h1,h3⟩ h
   rw[fromA,if_pos h1] at hfr
   simp only[rgC,cfC,List.cons_append,List.nil_append,List.append_assoc] at hfr
   refine Fn_of rfl ?_
   simp(disch:=first|assumption|omega|(simp only[zl]<;>omega)|(simp only[zn])) only[put_New,↓zd,zk,seval,reduceIte,List.map,AV.cells,List.all,AV.one,eqV,eqAll,splice,fillA,List.replicate,resAll,resA,zm,zg,cfC,a206,hfr,List.set_set,List.drop_succ_cons,List.drop_zero,List.drop_nil,List.append_nil]
   exact⟨_,.nils,rfl,by omega,.app _ _,⟨by rw[get_mid];rfl,fun h=>by simp at h,rfl,Sl.nil,fun q o n cc hq=>by cases hq⟩,.inl rfl⟩
  ·rw[fromA,if_neg h1] at hfr
   simp only[rgC,cfC,List.cons_append,List.nil_append,List.append_assoc] at hfr
   refine Fn_of rfl ?_
   by_cases h2:g < 0
   ·simp(disch:=first|assumption|omega|(simp only[zl]<;>omega)|(simp only[zn])) only[put_New,↓zd,zk,seval,reduceIte,List.map,AV.cells,List.all,AV.one,eqV,eqAll,splice,fillA,List.replicate,resAll,resA,zm,zg,cfC,a206,hfr,h2,List.set_set,List.drop_succ_cons,List.drop_zero,List.drop_nil,List.append_nil]
    exact⟨_,.nils,rfl,by omega,.app _ _,⟨by rw[get_mid];rfl,fun h=>by simp at h,rfl,Sl.nil,fun q o n cc hq=>by cases hq⟩,.inl rfl⟩
   ·simp(disch:=first|assumption|omega|(simp only[zl]<;>omega)|(simp only[zn])) only[put_New,↓zd,zk,seval,reduceIte,List.map,AV.cells,List.all,AV.one,eqV,eqAll,splice,fillA,List.replicate,resAll,resA,zm,zg,cfC,a206,hfr,h2,List.set_set,List.drop_succ_cons,List.drop_zero,List.drop_nil,List.append_nil]
    exact⟨_,.nils,rfl,by omega,.app _ _,⟨by rw[get_mid];rfl,fun h=>by simp at h,rfl,Sl.nil,fun q o n cc hq=>by cases hq⟩,.inl rfl⟩
def ClP(m:MM) (xs:List Int) (r:AV) (m':MM):Prop:=Keep m m'∧SI m' true xs r∧Fr m.length r
theorem clone_run{m:MM} {wr:Bool} {xs:List Int} {v:AV} (h:SI m wr xs v) (hn:xs.length≤100000):Fn [] slices_Clone_int [v] m (ClP m xs):=by
 refine Fn_of rfl ?_
 rcases Nat.eq_zero_or_pos xs.length with h0|h0
 ·have hx0:xs=[]:=List.length_eq_zero_iff.1 h0
  subst hx0
  rcases h.2 with⟨rfl,_⟩|⟨q,o,cap,rfl,_⟩
  ·simp(disch:=first|assumption|omega|(simp only[zl]<;>omega)|(simp only[zn])) only[slices_Clone_int,↓zd,zk,seval,reduceIte,List.map,AV.cells,List.all,AV.one,eqV,eqAll,splice,fillA,List.replicate,resAll,resA,zm,zg]
   exact⟨.refl _,Sl.nil,.inl rfl⟩
  ·have happ:appendA 1 8 (.sl m.length 0 0 (some 0)) (.sl q o 0 cap) (m++[.cells 1 false []])=some (.sl m.length 0 0 (some 0),m++[.cells 1 false []]):=rfl
   simp(disch:=first|assumption|omega|(simp only[zl]<;>omega)|(simp only[zn])) only[slices_Clone_int,↓zd,zk,seval,reduceIte,List.map,AV.cells,List.all,AV.one,eqV,eqAll,splice,fillA,List.replicate,resAll,resA,zm,zg,evA,fillA,repeatL,List.flatten_nil,happ,List.length_nil]
   exact⟨.app _ _,⟨rfl,.inr ⟨_,_,_,rfl,fun h=>absurd h (Nat.lt_irrefl _)⟩⟩,.inr ⟨_,_,_,_,rfl,Nat.le_refl _⟩⟩
 ·obtain⟨q,o,cap,ro,L,rfl,h2,h3,h4,h5⟩:=h.at h0
  have hq:q < m.length:=(List.getElem?_eq_some_iff.1 h2).1
  have hrow:rowOf (m++[Chunk.cells 1 false []]) 1 (.sl q o xs.length cap)=some (iC xs):=by
   simp only[rowOf,Am.getC]
   rw[List.getElem?_append_left hq,h2]
   simp only
   rw[if_neg (by omega),if_pos h4,h3]
  have hz:rowOf (m++[Chunk.cells 1 false []]) 1 (.sl m.length 0 0 (some 0))=some []:=rfl
  have happ:appendA 1 8 (.sl m.length 0 0 (some 0)) (.sl q o xs.length cap) (m++[.cells 1 false []])=some (.sl (m.length+1) 0 xs.length none,m++[.cells 1 false [],.cells 1 false (iC xs)]):=by
   simp only[appendA,lenA,hrow,hz]
   rw[if_neg (by omega),if_neg (by omega),if_pos ⟨by omega,by omega,iC_one _⟩]
   simp
  simp(disch:=first|assumption|omega|(simp only[zl]<;>omega)|(simp only[zn])) only[slices_Clone_int,↓zd,zk,seval,reduceIte,List.map,AV.cells,List.all,AV.one,eqV,eqAll,splice,fillA,List.replicate,resAll,resA,zm,zg,evA,fillA,repeatL,List.flatten_nil,happ]
  exact⟨.app _ _,⟨by rw[iC_len];omega,.inr ⟨_,_,_,rfl,fun _=>⟨false,iC xs,by rw[get_mid];rfl,by rw[List.drop_zero,Nat.mul_one,List.take_of_length_le (by rw[iC_len];omega)],by rw[iC_len];omega,fun _=>rfl⟩⟩⟩,.inr ⟨_,_,_,_,rfl,by omega⟩⟩
def Gpo:List (Nat × AFun Ob):=[(208,c_slices_Clone_int)]
theorem pover_run{m:MM} {xj:Nat} {c:Cf} {p g:Int} {s:PS} {qt:Nat} {tv hv:AV} (hx:PM m xj c p g s qt tv hv) (hl:s.hs.length≤100000):Fn Gpo put_Put_Over [.ptr xj 0] m (ClP m (if s.a=0 then s.hs else [])):=by
 have a208:assoc Gpo 208=some c_slices_Clone_int:=rfl
 have he:c_slices_Clone_int (X:=Ob)=amFunc [] slices_Clone_int:=rfl
 generalize Gpo=G at a208 ⊢
 have hg:=hx.get
 simp only[putC,rgC,cfC,List.cons_append,List.nil_append] at hg
 refine Fn_of rfl ?_
 by_cases h0:s.a=0
 ·rw[if_pos h0]
  simp(disch:=first|assumption|omega|(simp only[zl]<;>omega)|(simp only[zn])) only[put_Put_Over,↓zd,zk,seval,reduceIte,List.map,AV.cells,List.all,AV.one,eqV,eqAll,splice,fillA,List.replicate,resAll,resA,zm,zg,hg,h0,a208,he]
  refine OK_fn (clone_run hx.h hl) ?_
  intro r m1 hc
  simp(disch:=first|assumption|omega|(simp only[zl]<;>omega)|(simp only[zn])) only[↓zd,zk,seval,reduceIte,List.map,AV.cells,List.all,AV.one,eqV,eqAll,splice,fillA,List.replicate,resAll,resA,zm,zg]
  exact hc
 ·rw[if_neg h0]
  simp(disch:=first|assumption|omega|(simp only[zl]<;>omega)|(simp only[zn])) only[put_Put_Over,↓zd,zk,seval,reduceIte,List.map,AV.cells,List.all,AV.one,eqV,eqAll,splice,fillA,List.replicate,resAll,resA,zm,zg,hg,h0]
  exact⟨.refl _,Sl.nil,.inl rfl⟩
end Go.Am.F09
end
section
namespace Go.Am.F09
open Go.Am.F06 Go.Am.F10
theorem POk.step{c:Cf} {p g:Int} {s:PS} {xs:List Int} (h:POk c p s) (hx:s.a=0∨OkL c xs):POk c p (stepP c p g xs s).1:=by
 rcases hx with h0|hx
 ·rw[stepP_zero h0];exact h
 obtain⟨h1,h2,h3⟩:=h
 have hg:=getD_64 hx.2 (wrdN c p)
 obtain⟨a,w,tk,hs⟩:=s
 simp only at h1 h2 h3
 rcases h2 with h2|⟨hp,h2⟩
 ·subst h2;rw[stepP_zero rfl];exact⟨h1,.inl rfl,h3⟩
 have hb:=there_bounds hp
 rcases h2 with rfl|rfl|rfl|⟨rfl,h2⟩|⟨rfl,h2⟩
 ·refine⟨hg,.inr ⟨hp,?_⟩,h3⟩
  simp only[stepP,if_true]
  by_cases hq:c.q≤sz (xs.getD (wrdN c p) 0)
  ·simp only[if_pos hq,List.length_nil];exact .inr (.inr (.inr (.inl ⟨trivial,by omega⟩)))
  ·simp only[if_neg hq];exact .inr (.inl trivial)
 ·exact⟨h1,.inr ⟨hp,by simp[stepP]⟩,h3⟩
 ·by_cases heq:xs.getD (wrdN c p) 0=w
  ·have:stepP c p g xs ⟨3,w,tk,hs⟩=(⟨0,w,tk,[]⟩,xs.set (wrdN c p) (growW w 1)):=if_pos heq
   rw[this];exact⟨h1,.inl rfl,by simp⟩
  ·have:stepP c p g xs ⟨3,w,tk,hs⟩=(⟨1,w,tk,hs⟩,xs):=if_neg heq
   rw[this];exact⟨h1,.inr ⟨hp,.inl rfl⟩,h3⟩
 ·refine⟨h1,.inr ⟨hp,?_⟩,h3⟩
  simp only[stepP,List.length_append,List.length_cons,List.length_nil]
  by_cases hq:(tk.length:Int)+1=c.q / 2
  ·simp[hq]
  ·simp[hq];omega
 ·by_cases heq:xs.getD (wrdN c p) 0=w
  ·have:stepP c p g xs ⟨5,w,tk,hs⟩=(⟨0,w,tk,tk++[g]⟩,xs.set (wrdN c p) (dropW w (c.q / 2))):=if_pos heq
   rw[this];exact⟨h1,.inl rfl,by simp<;>omega⟩
  ·have:stepP c p g xs ⟨5,w,tk,hs⟩=(⟨1,w,tk,hs⟩,xs):=if_neg heq
   rw[this];exact⟨h1,.inr ⟨hp,.inl rfl⟩,h3⟩
theorem ringL_eq{c:Cf} {p v:Int} {xs L:List Int} (hp:thereP c p) (hw:xs.getD (wrdN c p) 0=v) (hl:sz v≤c.q) (hn:(L.length:Int)=sz v) (hv:∀ i,i < L.length→ringAt c p xs v i=L.getD i 0):ringL c p xs=L:=by
 rw[ringL_there hp,hw]
 have hN:ringN c v=L.length:=by unfold ringN;rw[if_pos hl];omega
 rw[hN]
 refine List.ext_getElem? fun i=>?_
 by_cases hi:i < L.length
 ·rw[ringW_get _ _ _ _ hi,hv i hi,List.getD_eq_getElem?_getD,List.getElem?_eq_getElem hi];rfl
 ·rw[List.getElem?_eq_none (by rw[ringW_len];omega),List.getElem?_eq_none (by omega)]
theorem slot_ne{c:Cf} {p x y:Int} (h:thereP c p) (hx:0≤x) (hy:0≤y) (hne:x % c.q≠y % c.q):(slotA c p x).toNat≠(slotA c p y).toNat:=by
 have hb:=there_bounds h
 have h0:=Int.emod_nonneg x (b:=c.q) (by omega)
 have h1:=Int.emod_nonneg y (b:=c.q) (by omega)
 have hm:=mul_bounds hb.2.2.2.2.1 hb.2.2.2.2.2 (q:=6+c.q) (by omega) (by omega)
 unfold slotA;rw[if_pos h.1,if_pos h.1];unfold addrA;rw[if_pos h,if_pos h]
 omega
theorem slot_word{c:Cf} {p x:Int} (h:thereP c p):(slotA c p x).toNat≠wrdN c p:=by
 have hb:=there_bounds h
 have h0:=Int.emod_nonneg x (b:=c.q) (by omega)
 have h1:=Int.emod_lt_of_pos x (b:=c.q) (by omega)
 unfold slotA;rw[if_pos h.1]
 exact addr_ne h h (by omega) (by omega)
theorem room_mod{q a k n:Int} (hq:roomP q) (h0:0 < n - k) (h1:n - k < q):(a+k) % 4294967296 % q≠(a+n) % 4294967296 % q:=by
 rcases hq with rfl|rfl|rfl|rfl|rfl|rfl<;>omega
theorem getD_set_ne{xs:List Int} {a b:Nat} {v:Int} (h:a≠b):(xs.set a v).getD b 0=xs.getD b 0:=by
 rw[List.getD_eq_getElem?_getD,List.getElem?_set_ne h,← List.getD_eq_getElem?_getD]
theorem getD_set_self{xs:List Int} {a:Nat} {v:Int} (h:a < xs.length):(xs.set a v).getD a 0=v:=by
 rw[List.getD_eq_getElem?_getD,List.getElem?_set_self h];rfl
def slV(c:Cf) (p w0:Int) (xs:List Int) (k:Nat):Int:=IntKind.i64.wrap (xs.getD (slotA c p ((hd w0+k) % 4294967296)).toNat 0)
structure KV (c:Cf) (p w0:Int) (A:List Int) (i d:Nat) (s:PS) (xs:List Int):Prop where
 ok:OkL c xs
 w:xs.getD (wrdN c p) 0=dW w0 d
 dl:d≤A.length
 sl:∀ k,d≤k→k < A.length→slV c p w0 xs k=A.getD k 0
 hs:s.hs=[999]
 st:(s.a=1∧i≤6 * d)∨((s.a=2∨s.a=3)∧∃ e,e≤d∧s.w=dW w0 e∧(A.length:Int) - e < c.q∧(i:Int)≤6 * e+(s.a - 1)∧(s.a=3→slV c p w0 xs A.length=999)) ∨
  ((s.a=4∨s.a=5)∧s.w=dW w0 0∧(A.length:Int)=c.q∧(∀ k,k < A.length→slV c p w0 xs k=A.getD k 0)∧s.tk=(A.drop (A.length - (c.q / 2).toNat)).take s.tk.length∧(s.a=4→(s.tk.length:Int) < c.q / 2)∧(s.a=5→(s.tk.length:Int)=c.q / 2)∧i≤1+s.tk.length)
theorem KV.lt{c:Cf} {p w0:Int} {A:List Int} {i d:Nat} {s:PS} {xs:List Int} (h:KV c p w0 A i d s xs) (hl:A.length≤8) (hq:c.q≤8):i < 60:=by
 obtain⟨_,_,hd,_,_,h⟩:=h
 rcases h with⟨_,h⟩|⟨ha,e,he,_,_,h,_⟩|⟨ha,_,_,_,_,h4,h5,h⟩
 ·omega
 ·omega
 ·rcases ha with ha|ha
  ·have:=h4 ha;omega
  ·have:=h5 ha;omega
theorem KV.ring{c:Cf} {p w0:Int} {A:List Int} {i d:Nat} {s:PS} {xs:List Int} (h:KV c p w0 A i d s xs) (hp:thereP c p) (hA:(A.length:Int)=sz w0) (hq:sz w0≤c.q):ringL c p xs=A.drop d:=by
 have hdl:=h.dl
 refine ringL_eq hp h.w ?_ ?_ fun i hi=>?_
 ·rw[dW_sz (by omega)];omega
 ·rw[dW_sz (by omega),List.length_drop];omega
 ·rw[List.length_drop] at hi
  have:=h.sl (d+i) (by omega) (by omega)
  unfold slV at this
  have e:(hd (dW w0 d)+(i:Int)) % 4294967296=(hd w0+((d+i:Nat):Int)) % 4294967296:=by rw[hd_dW];omega
  rw[ringAt,e,this,List.getD_eq_getElem?_getD,List.getD_eq_getElem?_getD,List.getElem?_drop]
theorem KV.thief{c:Cf} {p w0:Int} {A:List Int} {i d:Nat} {s:PS} {xs:List Int} (h:KV c p w0 A i d s xs) (hp:thereP c p) {n:Nat} (hn:d+n≤A.length):KV c p w0 A i (d+n) s (dX c p xs n):=by
 have hsl:∀ k,slV c p w0 (dX c p xs n) k=slV c p w0 xs k:=fun k=>by
  unfold slV;rw[dX_slot hp n (by omega)]
 obtain⟨h1,h2,h3,h4,h5,h6⟩:=h
 refine⟨dX_ok h1 n,by rw[dX_word h1 hp,h2,dW_add],hn,fun k k1 k2=>by rw[hsl];exact h4 k (by omega) k2,h5,?_⟩
 rcases h6 with⟨ha,h⟩|⟨ha,e,he,hw,h7,h,h8⟩|⟨ha,hw,h7,h8,h9⟩
 ·exact .inl ⟨ha,by omega⟩
 ·exact .inr (.inl ⟨ha,e,by omega,hw,h7,h,fun hh=>by rw[hsl];exact h8 hh⟩)
 ·exact .inr (.inr ⟨ha,hw,h7,fun k hk=>by rw[hsl];exact h8 k hk,h9⟩)
theorem tl_at{w0:Int} {A:List Int} (hA:(A.length:Int)=sz w0) (j:Int):(tl w0+j) % 4294967296=(hd w0+(A.length+j)) % 4294967296:=by
 have:=tl_b w0
 unfold sz at hA;omega
theorem KV.step{c:Cf} {p w0:Int} {A:List Int} {i d:Nat} {s:PS} {xs:List Int} (h:KV c p w0 A i d s xs) (hp:thereP c p) (hA:(A.length:Int)=sz w0) (hq:sz w0≤c.q) (hq8:c.q≤8) (hw0:W64 w0) (ha:s.a≠0) :
  ((stepP c p 999 xs s).1.a≠0∧KV c p w0 A (i+1) d (stepP c p 999 xs s).1 (stepP c p 999 xs s).2) ∨
  ((stepP c p 999 xs s).1.a=0∧(stepP c p 999 xs s).1.hs=[]∧OkL c (stepP c p 999 xs s).2∧ringL c p (stepP c p 999 xs s).2=A.drop d++[999]∧(A.length:Int) - d < c.q∧d≤A.length) ∨
  ((stepP c p 999 xs s).1.a=0∧d=0∧(A.length:Int)=c.q∧(stepP c p 999 xs s).1.hs=A.drop (A.length - (c.q / 2).toNat)++[999]∧OkL c (stepP c p 999 xs s).2∧ringL c p (stepP c p 999 xs s).2=A.take (A.length - (c.q / 2).toNat)):=by
 have hb:=there_bounds hp
 have hroom:roomP c.q:=hp.1.2.1
 have heven:c.q / 2+c.q / 2=c.q:=by rcases hroom with h|h|h|h|h|h<;>rw[h]<;>rfl
 have htb:=tl_b w0
 have hhb:=hd_b hw0
 obtain⟨h1,h2,h3,h4,h5,h6⟩:=h
 have hxl:=h1.1
 have hwb:=addr_b hp (i:=0) (by omega) (by omega)
 have hwl:wrdN c p < xs.length:=by unfold wrdN;omega
 obtain⟨a,w,tk,hs⟩:=s
 simp only at ha h5 h6
 rcases h6 with⟨rfl,h7⟩|⟨h7|h7,e,h8,h9,h10,h11,h12⟩|⟨h7|h7,h8,h9,h10,h11,h12,h13,h14⟩
 ·have hs1:stepP c p 999 xs ⟨1,w,tk,hs⟩=(⟨if c.q≤sz (dW w0 d) then 4 else 2,dW w0 d,[],hs⟩,xs):=by simp only[stepP,if_true,h2]
  have hz:=dW_sz (w:=w0) (i:=d) (by omega)
  rw[hs1,hz]
  by_cases hfull:c.q≤sz w0 - d
  ·have hd0:d=0:=by omega
   rw[if_pos hfull]
   refine .inl ⟨by simp,h1,h2,h3,h4,h5,.inr (.inr ⟨.inl rfl,by rw[hd0],by omega,fun k hk=>h4 k (by omega) hk,by simp,fun _=>by simp only[List.length_nil];omega,fun hh=>by simp at hh,by simp;omega⟩)⟩
  ·rw[if_neg hfull]
   exact .inl ⟨by simp,h1,h2,h3,h4,h5,.inr (.inl ⟨.inl rfl,d,Nat.le_refl _,rfl,by omega,by simp only;omega,fun hh=>by simp at hh⟩)⟩
 ·subst h7
  have hsl:pslA c p w 0=slotA c p ((hd w0+A.length) % 4294967296):=by
   unfold pslA;rw[h9,tl_dW,tl_at hA,Int.add_zero]
  have hs1:stepP c p 999 xs ⟨2,w,tk,hs⟩=(⟨3,w,tk,hs⟩,xs.set (slotA c p ((hd w0+A.length) % 4294967296)).toNat 999):=by
   have:IntKind.u64.wrap 999=999:=by decide
   simp only[stepP,if_neg (show ¬ ((2:Int)=1) by decide),if_true,hsl,this]
  rw[hs1]
  have hsb:=slot_b (i:=(hd w0+A.length) % 4294967296) hp (by omega)
  refine .inl ⟨by simp,h1.set _ (by unfold W64;omega),?_,h3,fun k k1 k2=>?_,h5,.inr (.inl ⟨.inr rfl,e,h8,h9,h10,by simp only;omega,fun _=>?_⟩)⟩
  ·rw[getD_set_ne (slot_word hp)];exact h2
  ·unfold slV
   rw[getD_set_ne (slot_ne hp (by omega) (by omega) (fun hh=>room_mod (a:=hd w0) (k:=k) (n:=A.length) hroom (by omega) (by omega) hh.symm))]
   exact h4 k k1 k2
  ·unfold slV
   rw[getD_set_self (by omega)];decide
 ·subst h7
  by_cases heq:d=e
  ·have hw:xs.getD (wrdN c p) 0=w:=by rw[h2,h9,heq]
   have hs1:stepP c p 999 xs ⟨3,w,tk,hs⟩=(⟨0,w,tk,[]⟩,xs.set (wrdN c p) (growW w 1)):=if_pos hw
   rw[hs1]
   have hg:growW w 1=pk ((hd w0+e) % 4294967296) ((tl w0+1) % 4294967296):=by unfold growW;rw[h9,hd_dW,tl_dW]
   refine .inr (.inl ⟨rfl,rfl,h1.set _ (grow_64 (by rw[h9];exact dW_64 _ _) _),?_,by omega,h3⟩)
   have hsz:sz (growW w 1)=A.length - e+1:=by
    rw[hg];unfold sz;rw[hd_pk (by omega) (by omega),tl_pk (by omega) (by omega)]
    unfold sz at hA;omega
   refine ringL_eq hp (getD_set_self hwl) (by rw[hsz];omega) (by rw[hsz,List.length_append,List.length_drop,List.length_singleton];omega) fun k hk=>?_
   rw[List.length_append,List.length_drop,List.length_singleton] at hk
   have hpos:(hd (growW w 1)+(k:Int)) % 4294967296=(hd w0+((d+k:Nat):Int)) % 4294967296:=by
    rw[hg,hd_pk (by omega) (by omega)];omega
   rw[ringAt,hpos,getD_set_ne (slot_word hp).symm]
   by_cases hk2:d+k < A.length
   ·have:=h4 (d+k) (by omega) hk2
    unfold slV at this
    rw[this,List.getD_eq_getElem?_getD,List.getD_eq_getElem?_getD,List.getElem?_append_left (by rw[List.length_drop];omega),List.getElem?_drop]
   ·have hk3:d+k=A.length:=by omega
    have:=h12 rfl
    unfold slV at this
    rw[hk3,this,List.getD_eq_getElem?_getD,List.getElem?_append_right (by rw[List.length_drop];omega),List.length_drop,show k - (A.length - d)=0 by omega];rfl
  ·have hw:¬ xs.getD (wrdN c p) 0=w:=fun hh=>heq (dW_inj (w:=w0) (by omega) (by omega) (by rw[← h2,hh,h9]))
   have hs1:stepP c p 999 xs ⟨3,w,tk,hs⟩=(⟨1,w,tk,hs⟩,xs):=if_neg hw
   rw[hs1]
   exact .inl ⟨by simp,h1,h2,h3,h4,h5,.inl ⟨rfl,by omega⟩⟩
 ·subst h7
  have hlt:=h12 rfl
  have hsl:pslA c p w (tk.length - c.q / 2)=slotA c p ((hd w0+((A.length - (c.q / 2).toNat+tk.length:Nat):Int)) % 4294967296):=by
   unfold pslA;rw[h8,tl_dW,tl_at hA];congr 2;omega
  have hv:=h10 (A.length - (c.q / 2).toNat+tk.length) (by omega)
  unfold slV at hv
  have hs1:stepP c p 999 xs ⟨4,w,tk,hs⟩=(⟨if (tk.length:Int)+1=c.q / 2 then 5 else 4,w,tk++[A.getD (A.length - (c.q / 2).toNat+tk.length) 0],hs⟩,xs):=by
   simp only[stepP,if_neg (show ¬ ((4:Int)=1) by decide),if_neg (show ¬ ((4:Int)=2) by decide),if_neg (show ¬ ((4:Int)=3) by decide),if_true,hsl,hv]
  rw[hs1]
  have htk:tk++[A.getD (A.length - (c.q / 2).toNat+tk.length) 0]=(A.drop (A.length - (c.q / 2).toNat)).take (tk.length+1):=by
   have hg:(A.drop (A.length - (c.q / 2).toNat))[tk.length]?=some (A.getD (A.length - (c.q / 2).toNat+tk.length) 0):=by
    rw[List.getElem?_drop,List.getD_eq_getElem?_getD,List.getElem?_eq_getElem (by omega)];rfl
   rw[List.take_add_one,hg,← h11];rfl
  refine .inl ⟨by simp only;split<;>omega,h1,h2,h3,h4,h5,.inr (.inr ⟨?_,h8,h9,h10,?_,fun hh=>?_,fun hh=>?_,?_⟩)⟩
  ·simp only;split<;>simp
  ·simp only[List.length_append,List.length_singleton];exact htk
  ·simp only[List.length_append,List.length_singleton] at hh ⊢
   by_cases hq2:(tk.length:Int)+1=c.q / 2
   ·rw[if_pos hq2] at hh;simp at hh
   ·omega
  ·simp only[List.length_append,List.length_singleton] at hh ⊢
   by_cases hq2:(tk.length:Int)+1=c.q / 2
   ·omega
   ·rw[if_neg hq2] at hh;simp at hh
  ·simp only[List.length_append,List.length_singleton];omega
 ·subst h7
  have hlt:=h13 rfl
  by_cases heq:d=0
  ·have hw:xs.getD (wrdN c p) 0=w:=by rw[h2,h8,heq]
   have hs1:stepP c p 999 xs ⟨5,w,tk,hs⟩=(⟨0,w,tk,tk++[999]⟩,xs.set (wrdN c p) (dropW w (c.q / 2))):=if_pos hw
   rw[hs1]
   have hg:dropW w (c.q / 2)=pk ((hd w0+(0:Nat)) % 4294967296) ((tl w0 - c.q / 2) % 4294967296):=by unfold dropW;rw[h8,hd_dW,tl_dW]
   have hsz:sz (dropW w (c.q / 2))=A.length - c.q / 2:=by
    rw[hg];unfold sz;rw[hd_pk (by omega) (by omega),tl_pk (by omega) (by omega)]
    unfold sz at hA;omega
   refine .inr (.inr ⟨rfl,heq,h9,?_,h1.set _ (drop_64 (by rw[h8];exact dW_64 _ _) _),?_⟩)
   ·have:(A.drop (A.length - (c.q / 2).toNat)).take tk.length=A.drop (A.length - (c.q / 2).toNat):=List.take_of_length_le (by rw[List.length_drop];omega)
    rw[this] at h11
    simp only;rw[← h11]
   ·refine ringL_eq hp (getD_set_self hwl) (by rw[hsz];omega) (by rw[hsz,List.length_take];omega) fun k hk=>?_
    rw[List.length_take] at hk
    have hpos:(hd (dropW w (c.q / 2))+(k:Int)) % 4294967296=(hd w0+(k:Int)) % 4294967296:=by
     rw[hg,hd_pk (by omega) (by omega)];omega
    rw[ringAt,hpos,getD_set_ne (slot_word hp).symm]
    have:=h10 k (by omega)
    unfold slV at this
    rw[this,List.getD_eq_getElem?_getD,List.getD_eq_getElem?_getD,List.getElem?_take,if_pos (by omega)]
  ·have hw:¬ xs.getD (wrdN c p) 0=w:=fun hh=>heq (dW_inj (w:=w0) (by omega) (by omega) (by rw[← h2,hh,h8]))
   have hs1:stepP c p 999 xs ⟨5,w,tk,hs⟩=(⟨1,w,tk,hs⟩,xs):=if_neg hw
   rw[hs1]
   exact .inl ⟨by simp,h1,h2,h3,h4,h5,.inl ⟨rfl,by omega⟩⟩
end Go.Am.F09
end
section
namespace Go.Am.F09
open Go.Am.F06 Go.Am.F10
theorem _root_.Go.Am.F10.Rw.pushs{m:MM} {q:Nat} {wr:Bool} {xs ys:List Int} {v y:AV} (h:Rw m q xs.length 1 (iC xs) v) (hy:SI m wr ys y) (hl:xs.length≤1000) (hl2:ys.length≤1000) :
  ∃ v' m' q',appendA 1 8 v y m=some (v',m')∧Rw m' q' (xs++ys).length 1 (iC (xs++ys)) v'∧m.length≤m'.length∧((ys.length=0∧q'=q)∨m.length≤q')∧∀ i,i < m.length→(0 < xs.length→i≠q)→m'[i]?=m[i]?:=by
 have hr:=si_row hy
 have hlen:=hy.len
 by_cases h0:ys.length=0
 ·have hx:ys=[]:=List.length_eq_zero_iff.1 h0
  subst hx
  rw[List.append_nil]
  refine⟨v,m,q,?_,h,Nat.le_refl _,.inl ⟨rfl,rfl⟩,fun i _ _=>rfl⟩
  rcases h with⟨h1,h2,rfl⟩|⟨h1,rfl,h2⟩<;>simp only[appendA,hlen,hr,List.length_nil,if_true]
 rcases h with⟨h1,h2,rfl⟩|⟨h1,rfl,hq⟩
 ·have hxs:xs=[]:=List.length_eq_zero_iff.1 h1
  subst hxs
  refine⟨.sl m.length 0 ys.length none,m++[.cells 1 false (iC ys)],m.length,?_,.inr ⟨by rw[List.nil_append];omega,by rw[List.nil_append],by rw[List.nil_append];exact get_concat⟩,by simp,.inr (Nat.le_refl _),fun i hi _=>List.getElem?_append_left hi⟩
  simp only[appendA,hlen,hr]
  rw[if_neg h0,if_pos ⟨by omega,by omega,iC_one _⟩]
 ·have hql:q < m.length:=(List.getElem?_eq_some_iff.1 hq).1
  refine⟨.sl m.length 0 (xs.length+ys.length) none,m.set q .dead++[.cells 1 false (iC xs++iC ys)],m.length,?_,.inr ⟨by rw[List.length_append];omega,by rw[List.length_append],?_⟩,by simp,.inr (Nat.le_refl _),fun i hi ho=>?_⟩
  ·simp only[appendA,hlen,hr,Am.getC,hq]
   rw[if_neg h0,if_pos]
   ·rw[List.drop_zero,Nat.mul_one,List.take_of_length_le (by rw[iC_len];omega)]
   ·refine⟨trivial,by rw[iC_len];omega,by omega,by omega,?_⟩
    rw[List.drop_zero,Nat.mul_one,List.take_of_length_le (by rw[iC_len];omega),List.all_append,iC_one,iC_one];rfl
  ·rw[show m.length=(m.set q .dead).length by simp,get_concat];simp[iC]
  ·have hqi:q≠i:=fun h=>ho h1 h.symm
   rw[List.getElem?_append_left (by simpa using hi),List.getElem?_set_ne hqi]
theorem _root_.Go.Am.F10.Rw.si{m:MM} {q:Nat} {xs:List Int} {v:AV} (h:Rw m q xs.length 1 (iC xs) v):SI m false xs v:=h.sl (by rw[iC_len];omega)
theorem _root_.Go.Am.F10.Rw.box{m:MM} {q n sz:Nat} {l:List AV} {v:AV} (h:Rw m q n sz l v) (h0:0 < n):m[q]?=some (.cells sz false l):=by
 rcases h with⟨h1,_⟩|⟨_,_,h⟩
 ·omega
 ·exact h
theorem SI.stayb{m m':MM} {wr:Bool} {xs:List Int} {v:AV} (h:SI m wr xs v) {b:Nat} (hk:∀ i,i < m.length→i≠b→m'[i]?=m[i]?) (ho:Off b v):SI m' wr xs v:=Sl.stay h fun q o cap hv h0=>hk q (Sl.lt h hv h0).1 (ho q o _ cap hv h0)
theorem PM.stay{m m':MM} {xj:Nat} {c:Cf} {p g:Int} {s:PS} {qt:Nat} {tv hv:AV} (h:PM m xj c p g s qt tv hv) {b:Nat} (hk:∀ i,i < m.length→i≠b→m'[i]?=m[i]?) (h1:xj≠b) (h2:qt≠b) (h3:Off b hv):PM m' xj c p g s qt tv hv :=
 ⟨by rw[hk _ (List.getElem?_eq_some_iff.1 h.get).1 h1];exact h.get,fun ha=>(h.t ha).keep fun h0=>hk qt ((h.t ha).lt h0) h2,h.one,SI.stayb h.h hk h3,h.off⟩
structure KpS (M0:MM) (c:Cf) (p:Int) (j xj:Nat) (A:List Int) (d:Nat) (s:PS) (gone:AV) (qg qt:Nat) (tv hv:AV) (xs:List Int) (m:MM):Prop where
 keep:KeepX xj j M0 m
 pm:PM m xj c p 999 s qt tv hv
 mem:∃ st o,m[j]?=some (.abs (.mem st))∧RelM xs o st
 rg:Rw m qg (A.take d).length 1 (iC (A.take d)) gone
 nq:0 < (A.take d).length→qg≠qt
 bq:0 < (A.take d).length→M0.length≤qg
 bt:qt=xj∨(M0.length≤qt∧qt < m.length)
 oh:0 < (A.take d).length→Off qg hv
 ok:POk c p s
theorem KpS.step{M0 m m':MM} {c:Cf} {p:Int} {j xj:Nat} {A:List Int} {d:Nat} {s:PS} {gone:AV} {qg qt:Nat} {tv hv:AV} {xs:List Int} (h:KpS M0 c p j xj A d s gone qg qt tv hv xs m) {x:PS × List Int} {o:Int} {r:AV} (hok:POk c p x.1) (hP:PsP m c p 999 xj j qt hv x o r m') :
  r = .bool (decide (x.1.a=0))∧∃ qt' tv' hv',KpS M0 c p j xj A d x.1 gone qg qt' tv' hv' x.2 m':=by
 obtain⟨rfl,k1,tv',hv',qt',hpm,hq,hh,st',j',r'⟩:=hP
 obtain⟨hk,pm,⟨st,o1,hj,_⟩,rg,nq,bq,bt,oh,_⟩:=h
 have hM:=hk.1
 have hqx:0 < (A.take d).length→qg≠xj:=fun h0 hq=>by have:=rg.box h0;rw[hq,pm.get] at this;cases this
 have hqj:0 < (A.take d).length→qg≠j:=fun h0 hq=>by have:=rg.box h0;rw[hq,hj] at this;cases this
 have lx:xj < m.length:=(List.getElem?_eq_some_iff.1 pm.get).1
 have lx':xj < m'.length:=(List.getElem?_eq_some_iff.1 hpm.get).1
 have hl1:=k1.1
 refine⟨rfl,qt',tv',hv',⟨Nat.le_trans hM hl1,fun i hi h1 h2=>?_⟩,hpm,⟨st',o,j',r'⟩,rg.keep fun h0=>?_,fun h0=>?_,bq,?_,fun h0=>?_,hok⟩
 ·have hne:i≠qt:=by rcases bt with h|h<;>omega
  rw[k1.2 i (by omega) h1 h2 hne,hk.2 i hi h1 h2]
 ·exact k1.2 qg (rg.lt h0) (hqx h0) (hqj h0) (nq h0)
 ·have:=rg.lt h0
  have:=hqx h0
  have:=nq h0
  rcases hq with h|h|h<;>omega
 ·rcases hq with h|h|h
  ·exact .inl h
  ·exact .inr ⟨by omega,h.2⟩
  ·rcases bt with h'|h'
   ·exact .inl (by omega)
   ·exact .inr ⟨by omega,by omega⟩
 ·have:=rg.lt h0
  rcases hh with h|h|⟨q,oo,n,cp,h,h'⟩
  ·rw[h];exact oh h0
  ·rw[h];intro q o n cc hq;cases hq
  ·rw[h];intro q2 o2 n2 cc hq2 _
   injection hq2 with hq2;omega
theorem KpS.thief{M0 m m':MM} {c:Cf} {p:Int} {j xj:Nat} {A:List Int} {d:Nat} {s:PS} {gone:AV} {qg qt:Nat} {tv hv:AV} {xs xs':List Int} (h:KpS M0 c p j xj A d s gone qg qt tv hv xs m) (hk:KeepB j m m') {st':MemSt} {o':Int} (hj':m'[j]?=some (.abs (.mem st'))) (hr':RelM xs' o' st') :
  KpS M0 c p j xj A d s gone qg qt tv hv xs' m':=by
 obtain⟨hk0,pm,⟨st,o1,hj,_⟩,rg,nq,bq,bt,oh,hok⟩:=h
 have hM:=hk0.1
 have hl:=hk.1
 have hqj:0 < (A.take d).length→qg≠j:=fun h0 hq=>by have:=rg.box h0;rw[hq,hj] at this;cases this
 have hxj:xj≠j:=fun h=>by have:=pm.get;rw[h,hj] at this;cases this
 have hqt:∀ n l tv,Rw m qt n 1 l tv→0 < n→qt≠j:=fun n l tv h h0 hq=>by have:=h.box h0;rw[hq,hj] at this;cases this
 refine⟨⟨Nat.le_trans hM hl,fun i hi h1 h2=>by rw[hk.2 i (by omega) h2,hk0.2 i hi h1 h2]⟩,⟨by rw[hk.2 _ (List.getElem?_eq_some_iff.1 pm.get).1 hxj];exact pm.get,fun ha=>(pm.t ha).keep fun h0=>hk.2 qt ((pm.t ha).lt h0) (hqt _ _ _ (pm.t ha) h0),pm.one,SI.stayb pm.h hk.2 (si_box pm.h fun ro L h=>by rw[hj] at h;cases h),pm.off⟩,⟨st',o',hj',hr'⟩,rg.keep fun h0=>hk.2 qg (rg.lt h0) (hqj h0),nq,bq,?_,oh,hok⟩
 rcases bt with h|h
 ·exact .inl h
 ·exact .inr ⟨h.1,by omega⟩
theorem PM.keep{m m':MM} {xj:Nat} {c:Cf} {p g:Int} {s:PS} {qt:Nat} {tv hv:AV} (h:PM m xj c p g s qt tv hv) (k:Keep m m'):PM m' xj c p g s qt tv hv :=
 ⟨k.get h.get,fun ha=>(h.t ha).keep fun h0=>k.2 qt ((h.t ha).lt h0),h.one,h.h.keep k,h.off⟩
theorem KpS.more{M0 m m':MM} {c:Cf} {p:Int} {j xj:Nat} {A:List Int} {d:Nat} {s:PS} {gone:AV} {qg qt:Nat} {tv hv:AV} {xs:List Int} (h:KpS M0 c p j xj A d s gone qg qt tv hv xs m) (k:Keep m m'):KpS M0 c p j xj A d s gone qg qt tv hv xs m':=by
 obtain⟨hk0,pm,⟨st,o1,hj,hr⟩,rg,nq,bq,bt,oh,hok⟩:=h
 refine⟨hk0.trans (.of k),PM.keep pm k,⟨st,o1,k.get hj,hr⟩,rg.keep fun h0=>k.2 qg (rg.lt h0),nq,bq,?_,oh,hok⟩
 rcases bt with h|h
 ·exact .inl h
 ·exact .inr ⟨h.1,Nat.lt_of_lt_of_le h.2 k.1⟩
end Go.Am.F09
end
section
namespace Go.Am.F09
open Go.Am.F06 Go.Am.F10
def rpC(c:Cf) (p g:Int) (s:PS) (tv hv:AV):List AV:=cfC c++[.int .i64 p,.int .i64 g,.int .i64 s.a,.int .u64 s.w,tv,hv]
theorem _root_.Go.Am.Sl.setb{m:MM} {wr:Bool} {sz n:Nat} {l:List AV} {v:AV} (h:Sl m wr sz n l v) {b:Nat} {C:Chunk Ob} (hb:∀ ro L,m[b]?≠some (.cells sz ro L)):Sl (m.set b C) wr sz n l v:=h.put hb C
structure SLN (lo hi:Nat) (m:MM) (wr:Bool) (n:Nat) (l:List AV) (v:AV):Prop where
 sl:Sl m wr 1 n l v
 no:∀ b,lo≤b→b < hi→∀ ro L,m[b]?≠some (.cells 1 ro L)
theorem SLN.set{lo hi:Nat} {m:MM} {wr:Bool} {n:Nat} {l:List AV} {v:AV} (h:SLN lo hi m wr n l v) {a:Nat} (h1:lo≤a) (h2:a < hi) {C:Chunk Ob} (hC:∀ ro L,C ≠ .cells 1 ro L):SLN lo hi (m.set a C) wr n l v:=by
 refine⟨Sl.put h.sl (h.no a h1 h2) C,fun b b1 b2 ro L hb=>?_⟩
 by_cases hab:a=b
 ·subst hab
  by_cases hl:a < m.length
  ·rw[List.getElem?_set_self hl] at hb;injection hb with hb;exact hC _ _ hb
  ·rw[List.getElem?_eq_none (by rw[List.length_set];omega)] at hb;cases hb
 ·rw[List.getElem?_set_ne hab] at hb;exact h.no b b1 b2 _ _ hb
theorem SLN.app{lo hi:Nat} {m:MM} {wr:Bool} {n:Nat} {l:List AV} {v:AV} (h:SLN lo hi m wr n l v) (hh:hi≤m.length) (K:MM):SLN lo hi (m++K) wr n l v :=
 ⟨h.sl.keep (.app _ _),fun b b1 b2 ro L hb=>h.no b b1 b2 ro L (by rwa [List.getElem?_append_left (by omega)] at hb)⟩
end Go.Am.F09
end
section
namespace Go.Am.F09
open Go.Am.F06 Go.Am.F10
end Go.Am.F09
end
section
namespace Go.Am.F09
open Go.Am.F06 Go.Am.F10
def okN(c:Cf) (p g:Int):Prop:=thereP c p∧0≤g
instance (c:Cf) (p g:Int):Decidable (okN c p g):=by unfold okN;infer_instance
theorem si_put{m:MM} {xs:List Int} {q o n:Nat} {cap:Option Nat} {L:List AV} (h:SI m true xs (.sl q o n cap)) (hq:m[q]?=some (.cells 1 false L)) {i:Nat} (hi:i < xs.length) (x:Int):SI (m.set q (.cells 1 false (L.set (o+i) (.int .i64 x)))) true (xs.set i x) (.sl q o n cap):=by
 obtain⟨hlen,hsl⟩:=h
 rcases hsl with⟨h,_⟩|⟨q',o',cap',h,h5⟩
 ·cases h
 ·injection h with e1 e2 e3 e4;subst e1;subst e2;subst e3;subst e4
  obtain⟨ro,L',d1,d2,d3,d4⟩:=h5 (by omega)
  rw[hq] at d1;injection d1 with d1;injection d1 with _ _ d1;subst d1
  refine⟨by simp[iC_len],.inr ⟨q,o,cap,by rw[List.length_set],fun _=>⟨false,_,List.getElem?_set_self (List.getElem?_eq_some_iff.1 hq).1,?_,by simpa using d3,fun _=>rfl⟩⟩⟩
  rw[List.length_set,List.drop_set,if_neg (by omega),List.take_set,d2,iC,iC,List.map_set]
  congr 1;omega
end Go.Am.F09
end
section
namespace Go.Am.F09
open Go.Am.F06 Go.Am.F10
structure Fl (mm M:MM) (n:Nat) (h:AV) (B:Nat):Prop where
 keep:Keep mm M
 row:∃ ys:List Int,ys.length=n∧SI M true ys h
 lo:Fr mm.length h
 hi:∀ q o cap,h = .sl q o n cap→0 < n→q < B
 len:lenA h=some n
theorem Fl.put{mm M:MM} {n:Nat} {h:AV} {B k:Nat} (hf:Fl mm M n h B) (hk:k < n) (x:Int):∃ q o cap L,h = .sl q o n cap∧M[q]?=some (.cells 1 false L)∧o+k < L.length∧mm.length≤q∧q < B∧Fl mm (M.set q (.cells 1 false (L.set (o+k) (.int .i64 x)))) n h B:=by
 obtain⟨hk0,⟨ys,rfl,hs⟩,hlo,hhi,hln⟩:=hf
 obtain⟨q,o,cap,ro,L,rfl,h2,h3,h4,h5⟩:=hs.at (by omega)
 have:=h5 rfl
 subst this
 have hq:mm.length≤q:=by
  rcases hlo with h|⟨_,_,_,_,h,h'⟩
  ·cases h
  ·injection h with e1;omega
 exact⟨q,o,cap,L,rfl,h2,by omega,hq,hhi _ _ _ rfl (by omega),hk0.set hq _,⟨ys.set k x,by simp,si_put hs h2 hk x⟩,hlo,hhi,hln⟩
end Go.Am.F09
end
section
namespace Go.Am.F09
open Go.Am.F06 Go.Am.F10
theorem PM.norm{m:MM} {xj:Nat} {c:Cf} {p g:Int} {s:PS} {qt:Nat} {tv hv:AV} (h:PM m xj c p g s qt tv hv):∃ qt',PM m xj c p g s qt' tv hv∧(qt'=xj∨(qt'=qt∧∃ l,m[qt]?=some (.cells 1 false (iC l)))):=by
 have hx:∀ ro L,m[xj]?≠some (.cells 1 ro L):=fun ro L hh=>by rw[h.get] at hh;cases hh
 by_cases ha:s.a=4∨s.a=5
 ·rcases h.t ha with ht|⟨h0,h1,h2⟩
  ·exact⟨xj,⟨h.get,fun _=>.inl ht,h.one,h.h,si_box h.h hx⟩,.inl rfl⟩
  ·exact⟨qt,h,.inr ⟨rfl,_,h2⟩⟩
 ·exact⟨xj,⟨h.get,fun hh=>absurd hh ha,h.one,h.h,si_box h.h hx⟩,.inl rfl⟩
theorem su_off{m:MM} {wr:Bool} {xs:List Int} {v:AV} (hs:SU m wr xs v) {b:Nat} {l:List Int} (hb:m[b]?=some (.cells 1 false (iC l))):Off b v:=by
 intro q o n c hv h0 hq
 rcases hs.2 with⟨h1,_⟩|⟨q2,o2,c2,h1,h2⟩
 ·rw[h1] at hv;cases hv
 ·rw[h1] at hv;injection hv with e1 e2 e3 e4;subst e1;subst e3;subst hq
  obtain⟨ro,L,h3,h4⟩:=h2 h0
  rw[hb] at h3;injection h3 with h3;injection h3 with _ _ h3
  subst h3
  have h5:=sl_get h4.1 (j:=0) (by omega)
  rw[iC,uC,List.getElem?_map,List.getElem?_map] at h5
  obtain⟨x,hx⟩:∃ x,xs[0]?=some x:=⟨_,List.getElem?_eq_getElem h0⟩
  rw[hx] at h5
  cases hy:l[o2+0]? with
  | none=>rw[hy] at h5;cases h5
  | some y=>rw[hy] at h5;cases h5
theorem su_box2{m:MM} {wr:Bool} {xs:List Int} {v:AV} (hs:SU m wr xs v) {b:Nat} (hb:∀ ro L,m[b]?≠some (.cells 1 ro L)):Off b v:=by
 intro q o n c hv h0 hq
 obtain⟨_,ro,L,h⟩:=Sl.lt (n:=xs.length) hs (by rw[hv];congr 1;have:=hs.len;rw[hv] at this;simpa [lenA] using this) (by
  have:=hs.len;rw[hv] at this;simp only[lenA,Option.some.injEq] at this;omega) (q:=q) (o:=o) (cap:=c)
 exact hb ro L (by rw[← hq];exact h)
structure PyS (m0:MM) (c0 c c':Cf) (p p' g g':Int) (cb j rb xj yb:Nat) (ps:List Pk) (lv:AV) (s:PS) (xs:List Int) (o:Int) (tv hv ytv yhv v:AV) (qt:Nat) (m:MM):Prop where
 k0:Keep m0 m
 pm:PM m xj c p g s qt tv hv
 qr:qt=xj∨∃ l,m[qt]?=some (.cells 1 false (iC l))
 bq:m0.length≤qt
 mem:∃ st,m[j]?=some (.abs (.mem st))∧RelM xs o st
 ref:m[rb]?=some (.cells 2 false (memC v o))
 su:SU m false xs v
 y:m[yb]?=some (.cells 12 false (rpC c' p' g' s ytv yhv))
 yt:SI m false s.tk ytv
 yh:SI m false s.hs yhv
 ot:Off qt ytv
 oh:Off qt yhv
 ok:POk c p s
 okL:OkL c xs
 cc:s.a=0∨(c'=c∧p'=p∧g'=g)
 ps:SPk m false ps lv
theorem PyS.keep{m0 m m':MM} {c0 c c':Cf} {p p' g g':Int} {cb j rb xj yb:Nat} {ps:List Pk} {lv:AV} {s:PS} {xs:List Int} {o:Int} {tv hv ytv yhv v:AV} {qt:Nat} (h:PyS m0 c0 c c' p p' g g' cb j rb xj yb ps lv s xs o tv hv ytv yhv v qt m) (k:Keep m m'):PyS m0 c0 c c' p p' g g' cb j rb xj yb ps lv s xs o tv hv ytv yhv v qt m':=by
 obtain⟨st,hj,hr⟩:=h.mem
 exact⟨h.k0.trans k,PM.keep h.pm k,h.qr.imp id (fun⟨l,hl⟩=>⟨l,k.get hl⟩),h.bq,⟨st,k.get hj,hr⟩,k.get h.ref,h.su.keep k,k.get h.y,h.yt.keep k,h.yh.keep k,h.ot,h.oh,h.ok,h.okL,h.cc,h.ps.keep k⟩
structure PyB (m0:MM) (c:Cf) (p g:Int) (j xj:Nat) (ps:List Pk) (lv:AV) (s:PS) (xs:List Int) (o:Int) (tv hv:AV) (qt:Nat) (m:MM):Prop where
 k0:Keep m0 m
 pm:PM m xj c p g s qt tv hv
 qr:qt=xj∨∃ l,m[qt]?=some (.cells 1 false (iC l))
 bq:m0.length≤qt
 mem:∃ st,m[j]?=some (.abs (.mem st))∧RelM xs o st
 ok:POk c p s
 okL:OkL c xs
 ps:SPk m false ps lv
theorem PyS.b{m0 m:MM} {c0 c c':Cf} {p p' g g':Int} {cb j rb xj yb:Nat} {ps:List Pk} {lv:AV} {s:PS} {xs:List Int} {o:Int} {tv hv ytv yhv v:AV} {qt:Nat} (h:PyS m0 c0 c c' p p' g g' cb j rb xj yb ps lv s xs o tv hv ytv yhv v qt m):PyB m0 c p g j xj ps lv s xs o tv hv qt m:=⟨h.k0,h.pm,h.qr,h.bq,h.mem,h.ok,h.okL,h.ps⟩
theorem PyB.ne{m0 m:MM} {c:Cf} {p g:Int} {j xj:Nat} {ps:List Pk} {lv:AV} {s:PS} {xs:List Int} {o:Int} {tv hv:AV} {qt:Nat} (h:PyB m0 c p g j xj ps lv s xs o tv hv qt m) {b sz:Nat} {L:List AV} (hb:m[b]?=some (.cells sz false L)) (h1:sz≠1) (h2:sz≠13):b≠xj∧b≠j∧b≠qt:=by
 obtain⟨st,hj,_⟩:=h.mem
 refine⟨fun hh=>?_,fun hh=>?_,fun hh=>?_⟩
 ·rw[hh,h.pm.get] at hb;injection hb with hb;injection hb with hb;exact h2 hb.symm
 ·rw[hh,hj] at hb;cases hb
 ·rcases h.qr with hq|⟨l,hl⟩
  ·rw[hh,hq,h.pm.get] at hb;injection hb with hb;injection hb with hb;exact h2 hb.symm
  ·rw[hh,hl] at hb;injection hb with hb;injection hb with hb;exact h1 hb.symm
theorem PyS.ne{m0 m:MM} {c0 c c':Cf} {p p' g g':Int} {cb j rb xj yb:Nat} {ps:List Pk} {lv:AV} {s:PS} {xs:List Int} {o:Int} {tv hv ytv yhv v:AV} {qt:Nat} (h:PyS m0 c0 c c' p p' g g' cb j rb xj yb ps lv s xs o tv hv ytv yhv v qt m) {b sz:Nat} {L:List AV} (hb:m[b]?=some (.cells sz false L)) (h1:sz≠1) (h2:sz≠13):b≠xj∧b≠j∧b≠qt:=h.b.ne hb h1 h2
theorem PyB.keep{m0 m m':MM} {c:Cf} {p g:Int} {j xj:Nat} {ps:List Pk} {lv:AV} {s:PS} {xs:List Int} {o:Int} {tv hv:AV} {qt:Nat} (h:PyB m0 c p g j xj ps lv s xs o tv hv qt m) (k:Keep m m'):PyB m0 c p g j xj ps lv s xs o tv hv qt m':=by
 obtain⟨st,hj,hr⟩:=h.mem
 exact⟨h.k0.trans k,PM.keep h.pm k,h.qr.imp id (fun⟨l,hl⟩=>⟨l,k.get hl⟩),h.bq,⟨st,k.get hj,hr⟩,h.ok,h.okL,h.ps.keep k⟩
theorem PyB.setb{m0 m:MM} {c:Cf} {p g:Int} {j xj:Nat} {ps:List Pk} {lv:AV} {s:PS} {xs:List Int} {o:Int} {tv hv:AV} {qt:Nat} (h:PyB m0 c p g j xj ps lv s xs o tv hv qt m) {b sz:Nat} {L:List AV} (hb:m[b]?=some (.cells sz false L)) (h1:sz≠1) (h2:sz≠13) (h3:sz≠3) (h0:m0.length≤b) (C:Chunk Ob):PyB m0 c p g j xj ps lv s xs o tv hv qt (m.set b C):=by
 obtain⟨e1,e2,e3⟩:=h.ne hb h1 h2
 obtain⟨st,hj,hr⟩:=h.mem
 have hn:∀ z,z≠sz→∀ ro L,m[b]?≠some (.cells z ro L):=fun z hz ro L hh=>by rw[hb] at hh;injection hh with hh;injection hh with hh;exact hz hh.symm
 exact⟨h.k0.set h0 _,PM.stay h.pm (fun i _ hi=>List.getElem?_set_ne (fun hh=>hi hh.symm)) (fun hh=>e1 hh.symm) (fun hh=>e3 hh.symm) (si_box h.pm.h (hn 1 (fun hh=>h1 hh.symm))),h.qr.imp id (fun⟨l,hl⟩=>⟨l,by rw[List.getElem?_set_ne e3];exact hl⟩),h.bq,⟨st,by rw[List.getElem?_set_ne e2];exact hj,hr⟩,h.ok,h.okL,Sl.put h.ps (hn 3 (fun hh=>h3 hh.symm)) _⟩
theorem PyB.step{m0 m m':MM} {c0 c c':Cf} {p p' g g':Int} {cb j rb xj yb:Nat} {ps:List Pk} {lv:AV} {s s':PS} {xs xs':List Int} {o o':Int} {tv hv:AV} {qt:Nat} (h:PyB m0 c p g j xj ps lv s xs o tv hv qt m)
  (hx0:m0.length≤xj) (hj0:m0.length≤j) {ytv' yhv' v':AV} (hy:m[yb]?=some (.cells 12 false (rpC c' p' g' s' ytv' yhv'))) (hyt:SI m false s'.tk ytv') (hyh:SI m false s'.hs yhv') (hot:Off qt ytv') (hoh:Off qt yhv') (hv':SU m false xs' v') (hrb:m[rb]?=some (.cells 2 false (memC v' o'))) (hok:POk c p s') (hokL:OkL c xs') (hcc:s'.a=0∨(c'=c∧p'=p∧g'=g)) {r:AV} (hP:PsP m c p g xj j qt hv (s',xs') o' r m') :
  r = .bool (decide (s'.a=0))∧∃ tv2 hv2 qt2,PyS m0 c0 c c' p p' g g' cb j rb xj yb ps lv s' xs' o' tv2 hv2 ytv' yhv' v' qt2 m':=by
 obtain⟨rfl,k1,tv2,hv2,qt',hpm,hq,hh,st',hj',hr'⟩:=hP
 obtain⟨st,hj,hr⟩:=h.mem
 obtain⟨qt2,hpm2,hq2⟩:=PM.norm hpm
 have hnx:∀ ro L,m[xj]?≠some (.cells 1 ro L):=fun ro L hh=>by rw[h.pm.get] at hh;cases hh
 have hnj:∀ ro L,m[j]?≠some (.cells 1 ro L):=fun ro L hh=>by rw[hj] at hh;cases hh
 have hl:=k1.1
 have hk0:=h.k0.1
 have hbox:∀ {b sz:Nat} {L:List AV},m[b]?=some (.cells sz false L)→sz≠1→sz≠13→m'[b]?=some (.cells sz false L):=fun hb h1 h2=>by
  obtain⟨e1,e2,e3⟩:=h.ne hb h1 h2
  rw[k1.2 _ (List.getElem?_eq_some_iff.1 hb).1 e1 e2 e3];exact hb
 have hsoff:Off qt v':=by
  rcases h.qr with hq|⟨l,hl⟩
  ·rw[hq];exact su_box2 hv' hnx
  ·exact su_off hv' hl
 have hqt2:qt2=xj∨(m.length≤qt2∧qt2 < m'.length)∨qt2=qt:=by
  rcases hq2 with h1|⟨h1,_⟩
  ·exact .inl h1
  ·rw[h1];exact hq
 have hoff2:∀ {w:AV} {n:Nat} {l:List AV},Sl m false 1 n l w→Off qt w→Off qt2 w:=fun {w n l} hs ho=>by
  have hlen:=hs.len
  have hlt:∀ q o k cap,w = .sl q o k cap→0 < k→q < m.length∧∃ ro L,m[q]?=some (.cells 1 ro L):=fun q o k cap hw hk=>by
   rw[hw] at hlen;simp only[lenA,Option.some.injEq] at hlen;subst hlen
   exact Sl.lt hs hw hk
  rcases hqt2 with e|⟨e,_⟩|e
  ·rw[e];intro q o k cap hw hk hh
   obtain⟨_,ro,L,h3⟩:=hlt q o k cap hw hk
   exact hnx ro L (by rw[← hh];exact h3)
  ·intro q o k cap hw hk hh
   have:=(hlt q o k cap hw hk).1
   omega
  ·rw[e];exact ho
 refine⟨rfl,tv2,hv2,qt2,⟨⟨by omega,fun i hi=>?_⟩,hpm2,?_,?_,⟨st',hj',hr'⟩,hbox hrb (by decide) (by decide),k1.si hnx hnj hv' hsoff,hbox hy (by decide) (by decide),k1.si hnx hnj hyt hot,k1.si hnx hnj hyh hoh,hoff2 hyt hot,hoff2 hyh hoh,hok,hokL,hcc,?_⟩⟩
 ·have:=h.bq
  rw[k1.2 i (by omega) (by omega) (by omega) (by omega),h.k0.2 i hi]
 ·rcases hq2 with h1|⟨h1,l,h2⟩
  ·exact .inl h1
  ·exact .inr ⟨l,by rw[h1];exact h2⟩
 ·have:=h.bq
  rcases hqt2 with e|⟨e,_⟩|e<;>omega
 ·refine Sl.stay h.ps fun q o cap hw h0=>?_
  obtain⟨h1,ro,L,h2⟩:=Sl.lt h.ps hw h0
  have e1:q≠xj:=fun hh=>by rw[hh,h.pm.get] at h2;cases h2
  have e2:q≠j:=fun hh=>by rw[hh,hj] at h2;cases h2
  have e3:q≠qt:=fun hh=>by
   rcases h.qr with hq|⟨l,hl⟩
   ·exact e1 (by rw[hh,hq])
   ·rw[hh,hl] at h2;cases h2
  exact k1.2 q h1 e1 e2 e3
end Go.Am.F09
end
section
namespace Go.Am.F10
open Go.Am.F06
variable {X:Type}
end Go.Am.F10
end
section
namespace Go.Am.F09
open Go.Am.F06 Go.Am.F10
theorem PyS.poke{m0 m m':MM} {c0 c c':Cf} {p p' g g':Int} {cb j rb xj yb:Nat} {ps:List Pk} {lv:AV} {s:PS} {xs xs':List Int} {o o':Int} {tv hv ytv yhv v v':AV} {qt:Nat} (h:PyS m0 c0 c c' p p' g g' cb j rb xj yb ps lv s xs o tv hv ytv yhv v qt m) (hj0:m0.length≤j) (hr0:m0.length≤rb) (k:KeepB j m m') {st':MemSt} (hj':m'[j]?=some (.abs (.mem st'))) (hr':RelM xs' o' st') (hsu:SU m' false xs' v') (hokL:OkL c xs') :
  PyS m0 c0 c c' p p' g g' cb j rb xj yb ps lv s xs' o' tv hv ytv yhv v' qt (m'.set rb (.cells 2 false (memC v' o'))):=by
 obtain⟨st,hj,hr⟩:=h.mem
 have hl:=k.1
 have hk0:=h.k0.1
 have lr:rb < m.length:=(List.getElem?_eq_some_iff.1 h.ref).1
 obtain⟨n1,n2,n3⟩:=h.ne h.ref (by decide) (by decide)
 obtain⟨y1,y2,y3⟩:=h.ne h.y (by decide) (by decide)
 have hyr:yb≠rb:=fun hh=>by have h1:=h.y;rw[hh,h.ref] at h1;cases h1
 have lx:xj < m.length:=(List.getElem?_eq_some_iff.1 h.pm.get).1
 have ly:yb < m.length:=(List.getElem?_eq_some_iff.1 h.y).1
 have hxj:xj≠j:=fun hh=>by have h1:=h.pm.get;rw[hh,hj] at h1;cases h1
 have hrb':m'[rb]?=some (.cells 2 false (memC v o)):=by rw[k.2 rb lr n2];exact h.ref
 have nb:∀ sz,sz≠2→∀ ro L,m'[rb]?≠some (.cells sz ro L):=fun sz hsz ro L hh=>by rw[hrb'] at hh;injection hh with hh;injection hh with hh;exact hsz hh.symm
 have nj:∀ sz ro L,m[j]?≠some (.cells sz ro L):=fun sz ro L hh=>by rw[hj] at hh;cases hh
 have row:∀ {wr:Bool} {sz n:Nat} {l:List AV} {w:AV},sz≠2→Sl m wr sz n l w→Sl (m'.set rb (.cells 2 false (memC v' o'))) wr sz n l w:=fun hsz hs =>
  Sl.put (Sl.stay hs fun q oo cap hw h0=>by
   obtain⟨h1,ro,L,h2⟩:=Sl.lt hs hw h0
   exact k.2 q h1 fun hh=>nj _ ro L (by rw[← hh];exact h2)) (nb _ hsz) _
 have hg:∀ i,i < m.length→i≠j→i≠rb→(m'.set rb (.cells 2 false (memC v' o')))[i]?=m[i]?:=fun i hi h1 h2=>by
  rw[List.getElem?_set_ne (fun hh=>h2 hh.symm),k.2 i hi h1]
 have hqj:∀ l,m[qt]?=some (.cells 1 false (iC l))→qt < m.length∧qt≠j∧qt≠rb:=fun l hl=>⟨(List.getElem?_eq_some_iff.1 hl).1,fun hh=>nj _ _ _ (by rw[← hh];exact hl),fun hh=>by rw[hh,h.ref] at hl;cases hl⟩
 refine⟨⟨by simp only[List.length_set];omega,fun i hi=>by rw[hg i (by omega) (by omega) (by omega),h.k0.2 i hi]⟩,⟨by rw[hg xj lx hxj (fun hh=>n1 hh.symm)];exact h.pm.get,fun ha=>?_,h.pm.one,row (by decide) h.pm.h,h.pm.off⟩,?_,h.bq,⟨st',by rw[List.getElem?_set_ne n2];exact hj',hr'⟩,List.getElem?_set_self (by omega),Sl.put hsu (nb 1 (by decide)) _,by rw[hg yb ly y2 hyr];exact h.y,row (by decide) h.yt,row (by decide) h.yh,h.ot,h.oh,h.ok,hokL,h.cc,row (by decide) h.ps⟩
 ·refine(h.pm.t ha).keep fun h0=>?_
  obtain⟨q1,q2,q3⟩:=hqj _ ((h.pm.t ha).box h0)
  exact hg qt q1 q2 q3
 ·rcases h.qr with hq|⟨l,hl⟩
  ·exact .inl hq
  ·obtain⟨q1,q2,q3⟩:=hqj l hl
   exact .inr ⟨l,by rw[hg qt q1 q2 q3];exact hl⟩
end Go.Am.F09
end
section
namespace Go.Am.F09
open Go.Am.F06 Go.Am.F10
theorem neg_eq{X:Type} (m:Mem X) (x:Int):c_put_NewLay_1 [.int .i64 x] m=some (.bool (decide (x < 0)),m):=by
 have he:c_put_NewLay_1 (X:=X)=amFunc [] put_NewLay_1:=rfl
 rw[he]
 exact Fn_eq (Fn_of rfl (by simp(disch:=first|assumption|omega|(simp only[zl]<;>omega)|(simp only[zn])) only[put_NewLay_1,↓zd,zk,seval,reduceIte,List.map,AV.cells,List.all,AV.one,eqV,eqAll,splice,fillA,List.replicate,resAll,resA,zm,zg]))
def Gif:List (Nat × AFun Ob):=[(213,c_put_NewLay_1)]
def Gdf:List (Nat × AFun Ob):=[(97,amFunc Gif slices_IndexFunc_int),(213,c_put_NewLay_1)]
def PInv(q n:Nat) (xs:List Int) (m0:MM) (k:Nat) (e:List AV) (m:MM):Prop:=∃ (i:Nat) (x3 x6 x7:AV),
 e=[.sl q 0 n none,.fn 213 [] [],.int .i64 0,x3,.int .i64 n,.int .i64 i,x6,x7]∧m=m0∧k=n - i∧i≤n∧∀ j x,j < i→xs[j]?=some x→¬ x < 0
theorem indexf_run{m:MM} {xs:List Int} {q:Nat} (hq:m[q]?=some (.cells 1 false (iC xs))) (hx:xs.length≤1000) :
  ∃ r:Int,((0≤r∧(∃ x,xs[r.toNat]?=some x∧x < 0)∧∀ j x,j < r.toNat→xs[j]?=some x→¬ x < 0)∨(r=-1∧∀ x,x ∈ xs→¬ x < 0))∧amFunc Gif slices_IndexFunc_int [.sl q 0 xs.length none,.fn 213 [] []] m=some (.int .i64 r,m):=by
 have:Fn Gif slices_IndexFunc_int [.sl q 0 xs.length none,.fn 213 [] []] m (fun v m'=>∃ r:Int,((0≤r∧(∃ x,xs[r.toNat]?=some x∧x < 0)∧∀ j x,j < r.toNat→xs[j]?=some x→¬ x < 0)∨(r=-1∧∀ x,x ∈ xs→¬ x < 0))∧v = .int .i64 r∧m'=m):=by
  have a213:assoc Gif 213=some c_put_NewLay_1:=rfl
  generalize Gif=G at a213 ⊢
  refine Fn_of rfl ?_
  simp(disch:=first|assumption|omega|(simp only[zl]<;>omega)|(simp only[zn])) only[slices_IndexFunc_int,↓zd,zk,seval,reduceIte,List.map,AV.cells,List.all,AV.one,eqV,eqAll,splice,fillA,List.replicate,resAll,resA]
  refine W_loop (PInv q xs.length xs m) xs.length (by simp only[FUEL];omega) ⟨0,_,_,_,rfl,rfl,rfl,Nat.zero_le _,fun j x hj=>by omega⟩ ?_
  rintro k e m' ⟨i,x3,x6,x7,rfl,rfl,rfl,hi,hne⟩
  simp(disch:=first|assumption|omega|(simp only[zl]<;>omega)|(simp only[zn])) only[↓zd,zk,seval,reduceIte,List.map,AV.cells,List.all,AV.one,eqV,eqAll,splice,fillA,List.replicate,resAll,resA]
  refine CW_of (fun h=>?_) (fun h=>?_)
  ·simp only[decide_eq_true_eq] at h
   obtain⟨y,hyi⟩:∃ y,xs[i]?=some y:=⟨_,List.getElem?_eq_getElem (by omega)⟩
   have hp:=fun m:MM=>neg_eq m y
   by_cases hy:y < 0
   ·simp(disch:=first|assumption|omega|(simp only[zl]<;>omega)|(simp only[zn])) only[↓zd,zk,seval,reduceIte,List.map,AV.cells,List.all,AV.one,eqV,eqAll,splice,fillA,List.replicate,resAll,resA,hq,iC_at hyi,a213,hp,hy,List.append_nil]
    exact⟨i,.inl ⟨by omega,⟨y,hyi,hy⟩,hne⟩,rfl⟩
   ·simp(disch:=first|assumption|omega|(simp only[zl]<;>omega)|(simp only[zn])) only[↓zd,zk,seval,reduceIte,List.map,AV.cells,List.all,AV.one,eqV,eqAll,splice,fillA,List.replicate,resAll,resA,hq,iC_at hyi,a213,hp,hy,List.append_nil]
    refine⟨_,by omega,i+1,_,_,_,rfl,rfl,rfl,by omega,fun j x hj hjx=>?_⟩
    by_cases hji:j=i
    ·subst hji;rw[hyi] at hjx;injection hjx with hjx;subst hjx;exact hy
    ·exact hne j x (by omega) hjx
  ·simp only[decide_eq_false_iff_not] at h
   simp(disch:=first|assumption|omega|(simp only[zl]<;>omega)|(simp only[zn])) only[↓zd,zk,seval,reduceIte,List.map,AV.cells,List.all,AV.one,eqV,eqAll,splice,fillA,List.replicate,resAll,resA]
   refine⟨-1,.inr ⟨rfl,fun x hx=>?_⟩,rfl⟩
   obtain⟨j,hj⟩:=List.mem_iff_getElem?.1 hx
   exact hne j x (by have:=(List.getElem?_eq_some_iff.1 hj).1;omega) hj
 obtain⟨v,m',h1,r,h2,rfl,rfl⟩:=this
 exact⟨r,h2,h1⟩
def posL(xs:List Int):List Int:=xs.filter fun x=>decide (¬ x < 0)
theorem pos_len(xs:List Int):(posL xs).length≤xs.length:=List.length_filter_le _ _
theorem pos_snoc{xs:List Int} {j:Nat} {x:Int} (h:xs[j]?=some x):posL (xs.take (j+1))=if x < 0 then posL (xs.take j) else posL (xs.take j)++[x]:=by
 rw[List.take_add_one,h,posL,List.filter_append,← posL]
 by_cases hx:x < 0
 ·simp[hx]
 ·simp[hx];omega
theorem pos_all{xs:List Int} (h:∀ x,x ∈ xs→¬ x < 0):posL xs=xs:=List.filter_eq_self.2 fun x hx=>by simpa using h x hx
def BInv(q:Nat) (xs:List Int) (m0:MM) (k:Nat) (e:List AV) (m:MM):Prop:=∃ (j cnt:Nat) (L:List AV) (x5 x6 x7 x8:AV),
 e=[.sl q 0 xs.length none,.fn 213 [] [],.nils,.int .i64 cnt,.int .i64 j,x5,x6,x7,x8]∧m=m0.set q (.cells 1 false L)∧k=xs.length - j∧j≤xs.length∧cnt < j∧cnt=(posL (xs.take j)).length ∧
 L.length=xs.length∧L.take cnt=iC (posL (xs.take j))∧(∀ k x,j≤k→xs[k]?=some x→L[k]?=some (.int .i64 x))∧L.all AV.one=true
theorem rep_len(n:Nat):(repeatL n [AV.int .i64 0]).length=n:=by simp[repeatL]
theorem rep_one(n:Nat):(repeatL n [AV.int .i64 0]).all AV.one=true:=by
 simp only[repeatL,List.all_eq_true,List.mem_flatten]
 rintro x ⟨l,hl,hx⟩
 rw[List.mem_replicate] at hl
 obtain⟨_,rfl⟩:=hl
 simp at hx;subst hx;rfl
set_option maxHeartbeats 4000000 in
theorem delete_run{M m:MM} {xs:List Int} {q:Nat} (hk:Keep M m) (hqM:M.length≤q) (hq:m[q]?=some (.cells 1 false (iC xs))) (hx:xs.length≤1000) :
  Fn Gdf slices_DeleteFunc_int [.sl q 0 xs.length none,.fn 213 [] []] m (fun r m'=>Keep M m'∧SI m' true (posL xs) r∧Fr M.length r∧Nx m' r):=by
 have a97:assoc Gdf 97=some (amFunc Gif slices_IndexFunc_int):=rfl
 have a213:assoc Gdf 213=some c_put_NewLay_1:=rfl
 generalize Gdf=G at a97 a213 ⊢
 refine Fn_of rfl ?_
 obtain⟨r,hr,hrun⟩:=indexf_run hq hx
 have hql:q < m.length:=(List.getElem?_eq_some_iff.1 hq).1
 rcases hr with⟨hr0,⟨x0,hx0i,hx0w⟩,hr2⟩|⟨rfl,hr1⟩
 ·obtain⟨i0,rfl⟩:∃ i0:Nat,r=i0:=⟨r.toNat,by omega⟩
  simp only[Int.toNat_natCast] at hx0i hr2
  have hi0:i0 < xs.length:=(List.getElem?_eq_some_iff.1 hx0i).1
  have hsq:∀ c,(m.set q c)[q]?=some c:=fun c=>List.getElem?_set_self hql
  have hne:¬ ((i0:Int)=-1):=by omega
  simp(disch:=first|assumption|omega|(simp only[zl]<;>omega)|(simp only[zn])) only[slices_DeleteFunc_int,↓zd,zk,seval,reduceIte,List.map,AV.cells,List.all,AV.one,eqV,eqAll,splice,fillA,List.replicate,resAll,resA,a97,hrun]
  have hl0:posL (xs.take (i0+1))=xs.take i0:=by
   rw[pos_snoc hx0i,if_pos hx0w]
   exact pos_all fun x hx=>by
    obtain⟨j,hj⟩:=List.mem_iff_getElem?.1 hx
    rw[List.getElem?_take] at hj
    split at hj
    ·exact hr2 j x ‹_› hj
    ·cases hj
  refine W_loop (BInv q xs m) (xs.length - (i0+1)) (by simp only[FUEL];omega) ⟨i0+1,i0,iC xs,_,_,_,_,rfl,?_,rfl,by omega,by omega,?_,iC_len _,?_,fun k x _ h=>iC_at h,iC_one _⟩ ?_
  ·refine(List.ext_getElem? fun j=>?_)
   by_cases hj:q=j
   ·subst hj;rw[hsq,hq]
   ·rw[List.getElem?_set_ne hj]
  ·rw[hl0,List.length_take];omega
  ·rw[hl0];simp[iC,List.map_take]
  rintro k e m' ⟨j,cnt,L,x5,x6,x7,x8,rfl,rfl,rfl,hj,hcj,hcnt,hL,hLt,hLr,hLo⟩
  simp(disch:=first|assumption|omega|(simp only[zl]<;>omega)|(simp only[zn])) only[↓zd,zk,seval,reduceIte,List.map,AV.cells,List.all,AV.one,eqV,eqAll,splice,fillA,List.replicate,resAll,resA]
  refine CW_of (fun h=>?_) (fun h=>?_)
  ·simp only[decide_eq_true_eq] at h
   obtain⟨y,hyj⟩:∃ y,xs[j]?=some y:=⟨_,List.getElem?_eq_getElem (by omega)⟩
   have hLy:=hLr j y (Nat.le_refl _) hyj
   have hp:=fun m:MM=>neg_eq m y
   have hsn:=pos_snoc hyj
   by_cases hy:y < 0
   ·rw[if_pos hy] at hsn
    simp(disch:=first|assumption|omega|(simp only[zl]<;>omega)|(simp only[zn])) only[↓zd,zk,seval,reduceIte,List.map,AV.cells,List.all,AV.one,eqV,eqAll,splice,fillA,List.replicate,resAll,resA,hsq,hLy,a213,hp,hy,List.append_nil]
    exact⟨_,by omega,j+1,cnt,L,_,_,_,_,rfl,rfl,rfl,by omega,by omega,by rw[hsn];exact hcnt,hL,by rw[hsn];exact hLt,fun k x h1 h2=>hLr k x (by omega) h2,hLo⟩
   ·rw[if_neg hy] at hsn
    simp(disch:=first|assumption|omega|(simp only[zl]<;>omega)|(simp only[zn])) only[↓zd,zk,seval,reduceIte,List.map,AV.cells,List.all,AV.one,eqV,eqAll,splice,fillA,List.replicate,resAll,resA,hsq,hLy,a213,hp,hy,List.set_set,List.append_nil]
    refine⟨_,by omega,j+1,cnt+1,L.set cnt (.int .i64 y),_,_,_,_,rfl,rfl,rfl,by omega,by omega,by rw[hsn];simp[hcnt],by simp[hL],?_,fun k x h1 h2=>?_,?_⟩
    ·have hcl:cnt < L.length:=by omega
     rw[hsn,List.take_add_one,List.getElem?_set_self hcl]
     have:(L.set cnt (AV.int .i64 y)).take cnt=L.take cnt:=by rw[List.take_set_of_le (Nat.le_refl _)]
     rw[this,hLt];simp[iC]
    ·rw[List.getElem?_set_ne (by omega)];exact hLr k x (by omega) h2
    ·simp only[List.all_eq_true] at hLo ⊢
     intro a ha
     rcases List.mem_or_eq_of_mem_set ha with h|h
     ·exact hLo a h
     ·subst h;rfl
  ·simp only[decide_eq_false_iff_not] at h
   have hjn:j=xs.length:=by omega
   rw[hjn,List.take_length] at hcnt hLt
   have hz1:=rep_len (xs.length - cnt)
   have hz2:=rep_one (xs.length - cnt)
   have hnz:¬ (xs.length - cnt=0):=by omega
   simp(disch:=first|assumption|omega|(simp only[zl]<;>omega)|(simp only[zn])) only[↓zd,zk,seval,reduceIte,List.map,AV.cells,List.all,AV.one,eqV,eqAll,splice,fillA,List.replicate,resAll,resA,evA,sliceA,Option.getD_none,Option.getD_some,hsq,clearA,stC_agg,hz1,hz2,hL,List.set_set,Nat.sub_zero]
   have hk':∀ c,Keep M (m.set q c):=fun c=>hk.set hqM c
   rw[hcnt]
   refine⟨hk' _,⟨by rw[iC_len];omega,.inr ⟨q,0,none,rfl,fun _=>⟨false,_,hsq _,?_,?_,fun _=>rfl⟩⟩⟩,.inr ⟨q,0,_,none,rfl,hqM⟩,.inr ⟨q,0,_,_,rfl,hsq _⟩⟩
   ·rw[List.drop_zero,Nat.mul_one,← hcnt,List.append_assoc,List.take_append_of_le_length (by rw[List.length_take];omega),List.take_take,Nat.min_self,hLt]
   ·simp only[List.length_append,List.length_take,List.length_drop,hz1];omega
 ·simp(disch:=first|assumption|omega|(simp only[zl]<;>omega)|(simp only[zn])) only[slices_DeleteFunc_int,↓zd,zk,seval,reduceIte,List.map,AV.cells,List.all,AV.one,eqV,eqAll,splice,fillA,List.replicate,resAll,resA,a97,hrun]
  rw[pos_all hr1]
  exact⟨hk,⟨by rw[iC_len];omega,.inr ⟨q,0,none,rfl,fun _=>⟨false,iC xs,hq,by rw[List.drop_zero,Nat.mul_one,← iC_len,List.take_length],by rw[iC_len];omega,fun _=>rfl⟩⟩⟩,.inr ⟨q,0,_,none,rfl,hqM⟩,.inr ⟨q,0,_,_,rfl,hq⟩⟩
theorem delete_nil{m:MM} {v:AV} (hv:lenA v=some 0):Fn Gdf slices_DeleteFunc_int [v,.fn 213 [] []] m (fun r m'=>r=v∧m'=m):=by
 have a97:assoc Gdf 97=some (amFunc Gif slices_IndexFunc_int):=rfl
 have hi:amFunc Gif slices_IndexFunc_int [v,.fn 213 [] []] m=some (.int .i64 (-1),m):=by
  generalize Gif=G
  refine Fn_eq (Fn_of rfl ?_)
  simp(disch:=first|assumption|omega|(simp only[zl]<;>omega)|(simp only[zn])) only[slices_IndexFunc_int,↓zd,zk,seval,reduceIte,List.map,AV.cells,List.all,AV.one,eqV,eqAll,splice,fillA,List.replicate,resAll,resA,ev_len,hv,Int.ofNat_zero]
  refine W_loop (fun k e m'=>∃ x3 x6 x7:AV,e=[v,.fn 213 [] [],.int .i64 0,x3,.int .i64 0,.int .i64 0,x6,x7]∧m'=m) 0 (by simp[FUEL]) ⟨_,_,_,rfl,rfl⟩ ?_
  rintro k e m' ⟨x3,x6,x7,rfl,rfl⟩
  simp(disch:=first|assumption|omega|(simp only[zl]<;>omega)|(simp only[zn])) only[↓zd,zk,seval,reduceIte,List.map,AV.cells,List.all,AV.one,eqV,eqAll,splice,fillA,List.replicate,resAll,resA]
 generalize Gdf=G at a97 ⊢
 refine Fn_of rfl ?_
 simp(disch:=first|assumption|omega|(simp only[zl]<;>omega)|(simp only[zn])) only[slices_DeleteFunc_int,↓zd,zk,seval,reduceIte,List.map,AV.cells,List.all,AV.one,eqV,eqAll,splice,fillA,List.replicate,resAll,resA,a97,hi]
end Go.Am.F09
end
section
namespace Go.Am.F09
open Go.Am.F06 Go.Am.F10
structure LS where
 a:Int
 w:Int
 k:Int
 n:Int
 ls:List Int
def layC(c:Cf) (p:Int) (s:LS) (lv:AV):List AV:=rgC c p s.a s.w s.k [.int .u32 s.n,lv]
def roomN(c:Cf) (w:Int) (len:Nat):Int:=if c.q≤sz w then 0 else if (len:Int) < c.q - sz w then len else c.q - sz w
def stepL(c:Cf) (p:Int) (xs:List Int) (s:LS):LS × List Int :=
 if s.a=0 then(s,xs)
 else if s.ls.length=0 then({ s with a:=0 },xs)
 else if s.a=1 then({ s with w:=xs.getD (wrdN c p) 0,k:=0,n:=roomN c (xs.getD (wrdN c p) 0) s.ls.length,a:=if roomN c (xs.getD (wrdN c p) 0) s.ls.length=0 then 0 else 2 },xs)
 else if s.a=2 then({ s with k:=s.k+1,a:=if s.k+1=s.n then 3 else 2 },xs.set (pslA c p s.w s.k).toNat (IntKind.u64.wrap (s.ls.getD s.k.toNat 0)))
 else if xs.getD (wrdN c p) 0=s.w then({ s with a:=0,ls:=s.ls.drop s.n.toNat },xs.set (wrdN c p) (growW s.w s.n)) else({ s with a:=1 },xs)
def opsL(s:LS) (o:Int):Int:=if s.a=0 then o else if s.ls.length=0 then o else IntKind.u64.wrap (o+1)
structure LOk (c:Cf) (p:Int) (s:LS):Prop where
 w:W64 s.w
 a:s.a=0∨(thereP c p∧(s.a=1∨(s.a=2∧0≤s.k∧s.k < s.n∧s.n≤s.ls.length)∨(s.a=3∧0≤s.n∧s.n≤s.ls.length)))
 l:s.ls.length≤100
theorem room_b{c:Cf} {w:Int} {len:Nat}:0≤roomN c w len∧roomN c w len≤len:=by
 have:0≤sz w:=by unfold sz;omega
 unfold roomN;split
 ·omega
 ·split<;>omega
structure LM (m:MM) (xj:Nat) (c:Cf) (p:Int) (s:LS) (lv:AV):Prop where
 get:m[xj]?=some (.cells 12 false (layC c p s lv))
 l:SI m false s.ls lv
 nx:0 < s.ls.length→Nx m lv
theorem ldone_eq{X:Type} {m:Mem X} {xj:Nat} {c:Cf} {p:Int} {s:LS} {lv:AV} (hx:m[xj]?=some (.cells 12 false (layC c p s lv))):c_put_Lay_Done [.ptr xj 0] m=some (.bool (decide (s.a=0)),m):=by
 simp only[layC,rgC,cfC,List.cons_append,List.nil_append] at hx
 exact Fn_eq (Fn_of rfl (by simp(disch:=first|assumption|omega|(simp only[zl]<;>omega)|(simp only[zn])) only[put_Lay_Done,↓zd,zk,seval,reduceIte,List.map,AV.cells,List.all,AV.one,eqV,eqAll,splice,fillA,List.replicate,resAll,resA,zm,zg,hx]))
def Glk:List (Nat × AFun Ob):=[(219,amFunc Grl put_ring_load)]
def LkP(m:MM) (xj j:Nat) (c:Cf) (p:Int) (x:LS × List Int) (lv:AV) (o:Int) (r:AV) (m':MM):Prop:=r = .tup []∧KeepX xj j m m'∧m'[xj]?=some (.cells 12 false (layC c p x.1 lv))∧∃ st',m'[j]?=some (.abs (.mem st'))∧RelM x.2 o st'
set_option maxHeartbeats 8000000 in
theorem llook_run{m:MM} {c:Cf} {p o:Int} {s:LS} {xj j:Nat} {lv:AV} {xs:List Int} {st:MemSt} (hx:LM m xj c p s lv) (hj:m[j]?=some (.abs (.mem st))) (hr:RelM xs o st) (hO:OkL c xs) (hk:LOk c p s) (ha:s.a=1) (hl:0 < s.ls.length) :
  Fn Glk put_Lay_look [.ptr xj 0,.ptr j 0] m (LkP m xj j c p (stepL c p xs s) lv (IntKind.u64.wrap (o+1))):=by
 have a219:assoc Glk 219=some (amFunc Grl put_ring_load):=rfl
 generalize Glk=G at a219 ⊢
 obtain⟨a,w,k,n,ls⟩:=s
 simp only at ha hl
 subst ha
 obtain⟨hx,hls,hnx⟩:=hx
 simp only at hls
 have hij:xj≠j:=fun h=>by rw[h,hj] at hx;cases hx
 have hp:thereP c p:=hk.a.elim (fun h=>by simp at h) (·.1)
 have hb:=there_bounds hp
 have hlk:=hk.l
 simp only at hlk
 have hlen:=hls.len
 have hone:=slOne hls
 simp only[AV.one] at hone
 have e0:IntKind.u32.wrap c.q=c.q:=by rw[wrap32];omega
 have hs1:stepL c p xs ⟨1,w,k,n,ls⟩=(⟨if roomN c (xs.getD (wrdN c p) 0) ls.length=0 then 0 else 2,xs.getD (wrdN c p) 0,0,roomN c (xs.getD (wrdN c p) 0) ls.length,ls⟩,xs):=by
  simp only[stepL,if_neg (show ¬ ((1:Int)=0) by decide),if_neg (show ¬ (ls.length=0) by omega),if_true]
 rw[hs1]
 have hrun:=rload_run hx hj hr hO hp
 refine Fn_of rfl ?_
 simp only[layC,rgC,cfC,List.cons_append,List.nil_append] at hx
 simp(disch:=first|assumption|omega|(simp only[zl]<;>omega)|(simp only[zn])) only[put_Lay_look,↓zd,zk,seval,reduceIte,List.map,AV.cells,List.all,AV.one,eqV,eqAll,splice,fillA,List.replicate,resAll,resA,zm,zg,hx,a219]
 refine OK_fn hrun ?_
 rintro _ m1 ⟨rfl,k1,x1,st',j1,r1⟩
 have lx1:xj < m1.length:=(List.getElem?_eq_some_iff.1 x1).1
 generalize xs.getD (wrdN c p) 0=w' at x1
 have hz0:0≤sz w'∧sz w' < 4294967296:=by unfold sz;omega
 have hrb:=room_b (c:=c) (w:=w') (len:=ls.length)
 have hput:∀ C,KeepX xj j m (m1.set xj C):=fun C=>k1.setL C
 simp only[rgC,cfC,List.cons_append,List.nil_append] at x1
 have fin:∀ a n:Int,LkP m xj j c p (⟨a,w',0,n,ls⟩,xs) lv (IntKind.u64.wrap (o+1)) (.tup []) (m1.set xj (.cells 12 false (layC c p ⟨a,w',0,n,ls⟩ lv))):=fun a n =>
  ⟨rfl,hput _,List.getElem?_set_self lx1,st',by rw[List.getElem?_set_ne hij];exact j1,r1⟩
 have e4:IntKind.u32.wrap (ls.length:Int)=ls.length:=by rw[wrap32];omega
 have e5:c.q - sz w'≤64→0 < c.q - sz w'→IntKind.u32.wrap (c.q - sz w')=c.q - sz w':=fun h1 h2=>by rw[wrap32];omega
 simp only[layC,rgC,cfC,List.cons_append,List.nil_append] at fin
 have hw00:IntKind.u32.wrap 0=0:=by decide
 rcases (show c.q < sz w'∨c.q=sz w'∨(sz w' < c.q∧(ls.length:Int)≤c.q - sz w')∨(sz w' < c.q∧c.q - sz w' < (ls.length:Int)) by omega) with h|h|⟨h,h'⟩|⟨h,h'⟩
 ·have hroom:roomN c w' ls.length=0:=if_pos (by omega)
  rw[hroom,if_pos rfl]
  clear hroom hrb
  simp(disch:=first|assumption|omega|(simp only[zl]<;>omega)|(simp only[zn])) only[↓zd,zk,seval,reduceIte,List.map,AV.cells,List.all,AV.one,eqV,eqAll,splice,fillA,List.replicate,resAll,resA,zm,zg,x1,ev_len,hlen,e0,h,Int.sub_self,hw00,List.set_set]
  exact fin _ _
 ·have hroom:roomN c w' ls.length=0:=if_pos (by omega)
  rw[hroom,if_pos rfl]
  clear hroom hrb
  have hh:sz w'=c.q:=h.symm
  simp(disch:=first|assumption|omega|(simp only[zl]<;>omega)|(simp only[zn])) only[↓zd,zk,seval,reduceIte,List.map,AV.cells,List.all,AV.one,eqV,eqAll,splice,fillA,List.replicate,resAll,resA,zm,zg,x1,ev_len,hlen,e0,hh,Int.sub_self,hw00,List.set_set]
  exact fin _ _
 ·have hroom:roomN c w' ls.length=ls.length:=by unfold roomN;rw[if_neg (by omega)];split<;>omega
  rw[hroom,if_neg (by omega)]
  clear hroom hrb
  simp(disch:=first|assumption|omega|(simp only[zl]<;>omega)|(simp only[zn])) only[↓zd,zk,seval,reduceIte,List.map,AV.cells,List.all,AV.one,eqV,eqAll,splice,fillA,List.replicate,resAll,resA,zm,zg,x1,ev_len,hlen,e0,e4,h,h',List.set_set]
  exact fin _ _
 ·have hroom:roomN c w' ls.length=c.q - sz w':=by unfold roomN;rw[if_neg (by omega),if_neg (by omega)]
  rw[hroom,if_neg (by omega)]
  clear hroom hrb
  simp(disch:=first|assumption|omega|(simp only[zl]<;>omega)|(simp only[zn])) only[↓zd,zk,seval,reduceIte,List.map,AV.cells,List.all,AV.one,eqV,eqAll,splice,fillA,List.replicate,resAll,resA,zm,zg,x1,ev_len,hlen,e0,e5,h,h',List.set_set]
  exact fin _ _
end Go.Am.F09
end
section
namespace Go.Am.F09
open Go.Am.F06 Go.Am.F10
def Glst:List (Nat × AFun Ob):=[(196,c_put_Lay_Done),(209,amFunc Glk put_Lay_look),(210,c_put_ring_slot),(22,memF storeS),(211,c_word_Grow),(212,amFunc Gch put_ring_change)]
def LsP(m:MM) (c:Cf) (p:Int) (xj j:Nat) (x:LS × List Int) (o:Int) (r:AV) (m':MM):Prop:=r = .bool (decide (x.1.a=0))∧KeepX xj j m m'∧(∃ lv',LM m' xj c p x.1 lv')∧∃ st',m'[j]?=some (.abs (.mem st'))∧RelM x.2 o st'
def SubV(v v':AV):Prop:=∀ Q:Nat→Prop,(∀ q o n cap,v = .sl q o n cap→0 < n→Q q)→∀ q o n cap,v' = .sl q o n cap→0 < n→Q q
theorem SubV.refl(v:AV):SubV v v:=fun _ h=>h
theorem SubV.drop(q o n k:Nat):SubV (.sl q o n none) (.sl q (o+k) (n - k) none):=fun Q h q' o' n' cap hv h0=>by
 injection hv with e1 e2 e3 e4;subst e1
 exact h q o n none rfl (by omega)
def LsQ(m:MM) (lv:AV) (c:Cf) (p:Int) (xj j:Nat) (x:LS × List Int) (o:Int) (r:AV) (m':MM):Prop:=r = .bool (decide (x.1.a=0))∧KeepX xj j m m'∧(∃ lv',LM m' xj c p x.1 lv'∧SubV lv lv')∧∃ st',m'[j]?=some (.abs (.mem st'))∧RelM x.2 o st'
theorem LM.mv{m m':MM} {xj j:Nat} {c:Cf} {p:Int} {s:LS} {lv:AV} (hl:SI m false s.ls lv) (hn:0 < s.ls.length→Nx m lv) (hnx:∀ ro L,m[xj]?≠some (.cells 1 ro L)) (hnj:∀ ro L,m[j]?≠some (.cells 1 ro L)) (k:KeepX xj j m m'):SI m' false s.ls lv∧(0 < s.ls.length→Nx m' lv):=by
 refine⟨k.sl (szj:=0) (szk:=0) hnx hnj hl,fun h0=>?_⟩
 rcases hn h0 with h|⟨q,o,n,l,h1,h2⟩
 ·exact .inl h
 ·exact .inr ⟨q,o,n,l,h1,k.get h2 (fun h=>hnx false l (by rw[← h];exact h2)) (fun h=>hnj false l (by rw[← h];exact h2))⟩
set_option maxHeartbeats 16000000 in
theorem lstep_runQ{m:MM} {c:Cf} {p o:Int} {s:LS} {xj j:Nat} {lv:AV} {xs:List Int} {st:MemSt} (hx:LM m xj c p s lv) (hj:m[j]?=some (.abs (.mem st))) (hr:RelM xs o st) (hO:s.a=0∨OkL c xs) (hk:LOk c p s) :
  Fn Glst put_Lay_Step [.ptr xj 0,.ptr j 0] m (LsQ m lv c p xj j (stepL c p xs s) (opsL s o)):=by
 have a196:assoc Glst 196=some c_put_Lay_Done:=rfl
 have a209:assoc Glst 209=some (amFunc Glk put_Lay_look):=rfl
 have a210:assoc Glst 210=some c_put_ring_slot:=rfl
 have a22:assoc Glst 22=some (memF storeS):=rfl
 have a211:assoc Glst 211=some c_word_Grow:=rfl
 have a212:assoc Glst 212=some (amFunc Gch put_ring_change):=rfl
 generalize Glst=G at a196 a209 a210 a22 a211 a212 ⊢
 have hd:=ldone_eq hx.get
 have hx0:=hx
 obtain⟨hg,hls,hnx⟩:=hx
 have hij:xj≠j:=fun h=>by rw[h,hj] at hg;cases hg
 have lx:xj < m.length:=(List.getElem?_eq_some_iff.1 hg).1
 have lj:j < m.length:=(List.getElem?_eq_some_iff.1 hj).1
 have nx:∀ ro L,m[xj]?≠some (.cells 1 ro L):=fun ro L h=>by rw[hg] at h;cases h
 have nj:∀ ro L,m[j]?≠some (.cells 1 ro L):=fun ro L h=>by rw[hj] at h;cases h
 have hlen:=hls.len
 refine Fn_of rfl ?_
 by_cases h0:s.a=0
 ·have e1:stepL c p xs s=(s,xs):=if_pos h0
  have e2:opsL s o=o:=if_pos h0
  rw[decide_eq_true h0] at hd
  rw[e1,e2]
  simp(disch:=first|assumption|omega|(simp only[zl]<;>omega)|(simp only[zn])) only[put_Lay_Step,↓zd,zk,seval,reduceIte,List.map,AV.cells,List.all,AV.one,eqV,eqAll,splice,fillA,List.replicate,resAll,resA,zm,zg,a196,hd]
  exact⟨by rw[decide_eq_true h0],.refl _,⟨lv,⟨hg,hls,hnx⟩,.refl _⟩,st,hj,hr⟩
 rw[decide_eq_false h0] at hd
 have hO':=hO.resolve_left h0
 obtain⟨a,w,k,n,ls⟩:=s
 simp only at h0 hls hnx hlen
 have hw:=hk.w
 have hll:=hk.l
 have hka:=hk.a
 simp only at hw hll hka
 have hp:thereP c p:=hka.elim (fun h=>absurd h h0) (·.1)
 have hb:=there_bounds hp
 by_cases hz:ls.length=0
 ·have e1:stepL c p xs ⟨a,w,k,n,ls⟩=(⟨0,w,k,n,ls⟩,xs):=by simp only[stepL,if_neg h0,if_pos hz]
  have e2:opsL ⟨a,w,k,n,ls⟩ o=o:=by simp only[opsL,if_neg h0,if_pos hz]
  rw[e1,e2]
  simp only[layC,rgC,cfC,List.cons_append,List.nil_append] at hg
  rw[hz] at hlen
  simp(disch:=first|assumption|omega|(simp only[zl]<;>omega)|(simp only[zn])) only[put_Lay_Step,↓zd,zk,seval,reduceIte,List.map,AV.cells,List.all,AV.one,eqV,eqAll,splice,fillA,List.replicate,resAll,resA,zm,zg,a196,hd,hg,ev_len,hlen,Int.ofNat_zero]
  have hk1:KeepX xj j m (m.set xj (.cells 12 false (layC c p ⟨0,w,k,n,ls⟩ lv))):=(KeepX.refl m).setL _
  obtain⟨e3,e4⟩:=LM.mv (s:=⟨0,w,k,n,ls⟩) (c:=c) (p:=p) hls hnx nx nj hk1
  exact⟨rfl,hk1,⟨lv,⟨List.getElem?_set_self lx,e3,e4⟩,.refl _⟩,st,by rw[List.getElem?_set_ne hij];exact hj,hr⟩
 have e2:opsL ⟨a,w,k,n,ls⟩ o=IntKind.u64.wrap (o+1):=by simp only[opsL,if_neg h0,if_neg hz]
 rw[e2]
 have hlz:¬ ((ls.length:Int)=0):=by omega
 rcases (show a=1∨(a=2∧0≤k∧k < n∧n≤ls.length)∨(a=3∧0≤n∧n≤ls.length) by rcases hka with h|⟨_,h⟩;exact absurd h h0;exact h) with rfl|⟨rfl,hk0,hkn,hnl⟩|⟨rfl,hn0,hnl⟩
 ·have hrun:=llook_run hx0 hj hr hO' hk rfl (by simp only;omega)
  simp only[layC,rgC,cfC,List.cons_append,List.nil_append] at hg
  simp(disch:=first|assumption|omega|(simp only[zl]<;>omega)|(simp only[zn])) only[put_Lay_Step,↓zd,zk,seval,reduceIte,List.map,AV.cells,List.all,AV.one,eqV,eqAll,splice,fillA,List.replicate,resAll,resA,zm,zg,a196,hd,hg,ev_len,hlen,hlz,a209]
  refine OK_fn hrun ?_
  rintro _ m1 ⟨rfl,k1,x1,st',j1,r1⟩
  have hsl:(stepL c p xs ⟨1,w,k,n,ls⟩).1.ls=ls:=by simp only[stepL,if_neg (show ¬ ((1:Int)=0) by decide),if_neg hz,if_true]
  obtain⟨e3,e4⟩:=LM.mv (s:=⟨1,w,k,n,ls⟩) (c:=c) (p:=p) hls hnx nx nj k1
  have hlm:LM m1 xj c p (stepL c p xs ⟨1,w,k,n,ls⟩).1 lv:=⟨x1,by rw[hsl];exact e3,by rw[hsl];exact e4⟩
  generalize stepL c p xs ⟨1,w,k,n,ls⟩=sx at x1 r1 hlm ⊢
  simp only[layC,rgC,cfC,List.cons_append,List.nil_append] at x1
  simp(disch:=first|assumption|omega|(simp only[zl]<;>omega)|(simp only[zn])) only[↓zd,zk,seval,reduceIte,List.map,AV.cells,List.all,AV.one,eqV,eqAll,splice,fillA,List.replicate,resAll,resA,zm,zg,x1]
  exact⟨rfl,k1,⟨lv,hlm,.refl _⟩,st',j1,r1⟩
 ·obtain⟨kN,rfl⟩:∃ kN:Nat,k=kN:=⟨k.toNat,by omega⟩
  obtain⟨x,hxk⟩:∃ x,ls[kN]?=some x:=⟨_,List.getElem?_eq_getElem (by omega)⟩
  obtain⟨q,oo,cap,ro,L,rfl,b2,b3,b4,b5⟩:=hls.val (by omega)
  have b6:=b5 kN x hxk
  have hcn:=cellsN_le c
  have hxl:=hO'.1
  have hsb:=psl_b (c:=c) (p:=p) (w:=w) (i:=kN) hp
  have hthr:thr xs (pslA c p w kN):=⟨by omega,by omega⟩
  obtain⟨st',r',_,f22,_⟩:=hr.storeE hthr (IntKind.u64.wrap x)
  have f22':=fun K=>f22 m K j hj
  have hsl:=slot_eq (i:=kN) hg hp.1
  have hg':=fun K:MM=>(Keep.app m K).get hg
  have b2':=fun K:MM=>(Keep.app m K).get b2
  have e1:stepL c p xs ⟨2,w,kN,n,ls⟩=(⟨if (kN:Int)+1=n then 3 else 2,w,kN+1,n,ls⟩,xs.set (pslA c p w kN).toNat (IntKind.u64.wrap x)):=by
   have:ls.getD kN 0=x:=by rw[List.getD_eq_getElem?_getD,hxk];rfl
   simp only[stepL,if_neg (show ¬ ((2:Int)=0) by decide),if_neg (show ¬ ((2:Int)=1) by decide),if_neg hz,if_true,Int.toNat_natCast,this]
  rw[e1]
  have e3:IntKind.u32.wrap ((kN:Int)+1)=kN+1:=by rw[wrap32];omega
  simp only[layC,rgC,cfC,List.cons_append,List.nil_append] at hg hsl hg'
  have fin:∀ a (K:MM),LsQ m (.sl q oo ls.length cap) c p xj j (⟨a,w,kN+1,n,ls⟩,xs.set (pslA c p w kN).toNat (IntKind.u64.wrap x)) (IntKind.u64.wrap (o+1)) (.bool (decide (a=0))) ((m.set j (.abs (.mem st'))).set xj (.cells 12 false (layC c p ⟨a,w,kN+1,n,ls⟩ (.sl q oo ls.length cap)))++K):=fun a K=>by
   have hk1:KeepX xj j m ((m.set j (.abs (.mem st'))).set xj (.cells 12 false (layC c p ⟨a,w,kN+1,n,ls⟩ (.sl q oo ls.length cap)))++K):=(((KeepX.refl m).setR _).setL _).app K
   obtain⟨e3,e4⟩:=LM.mv (s:=⟨a,w,kN+1,n,ls⟩) (c:=c) (p:=p) hls hnx nx nj hk1
   exact⟨rfl,hk1,⟨_,⟨by rw[List.getElem?_append_left (by simpa using lx),List.getElem?_set_self (by simpa using lx)],e3,e4⟩,.refl _⟩,st',by rw[List.getElem?_append_left (by simpa using lj),List.getElem?_set_ne hij,List.getElem?_set_self lj],r'⟩
  simp only[layC,rgC,cfC,List.cons_append,List.nil_append] at fin
  by_cases hq:(kN:Int)+1=n
  ·rw[if_pos hq]
   have hkn':decide ((kN:Int)+1=n)=true:=decide_eq_true hq
   simp(disch:=first|assumption|omega|(simp only[zl]<;>omega)|(simp only[zn])) only[put_Lay_Step,↓zd,zk,seval,reduceIte,List.map,AV.cells,List.all,AV.one,eqV,eqAll,splice,fillA,List.replicate,resAll,resA,zm,zg,a196,hd,hg,hg',ev_len,hlen,hlz,a210,hsl,b2,b2',b6,a22,f22',e3,hkn',List.set_set]
   exact fin 3 _
  ·rw[if_neg hq]
   have hkn':decide ((kN:Int)+1=n)=false:=decide_eq_false hq
   simp(disch:=first|assumption|omega|(simp only[zl]<;>omega)|(simp only[zn])) only[put_Lay_Step,↓zd,zk,seval,reduceIte,List.map,AV.cells,List.all,AV.one,eqV,eqAll,splice,fillA,List.replicate,resAll,resA,zm,zg,a196,hd,hg,hg',ev_len,hlen,hlz,a210,hsl,b2,b2',b6,a22,f22',e3,hkn',List.set_set]
   exact fin 2 _
 ·have hgw:=fun m:MM=>grow_eq m (n:=n) hw
  have hrun:=change_run (next:=growW w n) hg hj hr hO' hp
  have hng:=hg
  have e1:stepL c p xs ⟨3,w,k,n,ls⟩=(if xs.getD (wrdN c p) 0=w then(⟨0,w,k,n,ls.drop n.toNat⟩,xs.set (wrdN c p) (growW w n)) else(⟨1,w,k,n,ls⟩,xs)):=by
   simp only[stepL,if_neg (show ¬ ((3:Int)=0) by decide),if_neg (show ¬ ((3:Int)=1) by decide),if_neg (show ¬ ((3:Int)=2) by decide),if_neg hz]
  rw[e1]
  simp only[layC,rgC,cfC,List.cons_append,List.nil_append] at hg
  simp(disch:=first|assumption|omega|(simp only[zl]<;>omega)|(simp only[zn])) only[put_Lay_Step,↓zd,zk,seval,reduceIte,List.map,AV.cells,List.all,AV.one,eqV,eqAll,splice,fillA,List.replicate,resAll,resA,zm,zg,a196,hd,hg,ev_len,hlen,hlz,a211,hgw,a212]
  refine OK_fn hrun ?_
  rintro _ m1 ⟨rfl,k1,x1,st',j1,r1⟩
  have lx1:xj < m1.length:=(List.getElem?_eq_some_iff.1 x1).1
  obtain⟨e3,e4⟩:=LM.mv (s:=⟨3,w,k,n,ls⟩) (c:=c) (p:=p) hls hnx nx nj k1
  have nx1:∀ ro L,m1[xj]?≠some (.cells 1 ro L):=fun ro L h=>by rw[x1] at h;cases h
  by_cases heq:xs.getD (wrdN c p) 0=w
  ·rw[if_pos heq] at x1 r1 ⊢
   have hdd:decide (xs.getD (wrdN c p) 0=w)=true:=decide_eq_true heq
   obtain⟨nN,rfl⟩:∃ nN:Nat,n=nN:=⟨n.toNat,by omega⟩
   have hdr:=fun(C:Chunk Ob)=>si_drop (xs:=ls) (k:=nN) (e3.put nx1 C) ((e4 (by simp only;omega)).put nx1 C) (by omega)
   have hdr1:=(si_drop (xs:=ls) (k:=nN) e3 (e4 (by simp only;omega)) (by omega)).1
   have hnl2:∃ q oo nn L,lv = .sl q oo nn none∧m1[q]?=some (.cells 1 false L):=by
    rcases e4 (by simp only;omega) with h|⟨q,oo,nn,L,h1,h2⟩
    ·rw[h] at hlen;simp only[lenA,Option.some.injEq] at hlen;omega
    ·exact⟨q,oo,nn,L,h1,h2⟩
   obtain⟨q,oo,nn,L,rfl,hq1⟩:=hnl2
   have hdv:dropA (.sl q oo nn none) nN = .sl q (oo+nN) (nn - nN) none:=rfl
   rw[hdv] at hdr1
   simp only[hdv] at hdr
   simp only[rgC,cfC,List.cons_append,List.nil_append] at x1
   have hqx:q≠xj:=fun h=>by rw[h,x1] at hq1;cases hq1
   simp(disch:=first|assumption|omega|(simp only[zl]<;>omega)|(simp only[zn])) only[↓zd,zk,seval,reduceIte,List.map,AV.cells,List.all,AV.one,eqV,eqAll,splice,fillA,List.replicate,resAll,resA,zm,zg,hdd,x1,evA,hdr1,Int.toNat_natCast]
   refine⟨rfl,k1.setL _,⟨.sl q (oo+nN) (nn - nN) none,⟨by rw[List.getElem?_set_self lx1];rfl,?_,fun _=>.inr ⟨q,_,_,L,rfl,by rw[List.getElem?_set_ne hqx.symm];exact hq1⟩⟩,.drop _ _ _ _⟩,st',by rw[List.getElem?_set_ne hij];exact j1,r1⟩
   exact(hdr _).2
  ·rw[if_neg heq] at x1 r1 ⊢
   have hdd:decide (xs.getD (wrdN c p) 0=w)=false:=decide_eq_false heq
   simp only[rgC,cfC,List.cons_append,List.nil_append] at x1
   simp(disch:=first|assumption|omega|(simp only[zl]<;>omega)|(simp only[zn])) only[↓zd,zk,seval,reduceIte,List.map,AV.cells,List.all,AV.one,eqV,eqAll,splice,fillA,List.replicate,resAll,resA,zm,zg,hdd,x1]
   exact⟨rfl,k1,⟨lv,⟨x1,e3,e4⟩,.refl _⟩,st',j1,r1⟩
end Go.Am.F09
end
