import Derived.Test.YtaglnjaenigkaaaXG16
set_option linter.unusedSimpArgs false
set_option linter.unusedVariables false
section
namespace Go.Am.F15
open Go.Am.F10 (iC iC_at iC_len iC_one iC_app SI SI.val same_run Cf cfC rightP right_run Nx si_take si_drop si_row cutA dropA)
variable {X:Type}
section
variable {m:Mem X} {s:Pc} {v:AV}
def G15b:List (Nat × AFun X):=[(259,amFunc G15f ref15_TakeP),(260,amFunc G15f ref15_TakeM)]
set_option maxHeartbeats 2000000 in
theorem rboth_no(H:RP m s v) (h:s.ps=[]∨s.ms=[]):Fn G15b ref15_Both [v] m (RA m s fun v' r=>r = .tup [v',.int .i64 (-1),.int .i64 (-1)]):=by
 generalize (G15b (X:=X))=G
 obtain⟨gv,pv,mv,rfl,r1,r2,r3⟩:=H
 have k0:=Keep.app m [Chunk.cells 10 false (rC s.c gv pv mv s.spin),Chunk.cells 10 false (rC s.c gv pv mv s.spin)]
 have o1:=one_rw r1
 have o2:=one_rw r2
 have o3:=one_rw r3
 have hl2:=r2.1.len
 have hl3:=r3.1.len
 unfold AV.one at o1 o2 o3
 simp only[rC] at k0 ⊢
 refine Fn_of rfl ?_
 have fin:=(⟨k0,_,⟨gv,pv,mv,rfl,r1.k1 k0.k1,r2.k1 k0.k1,r3.k1 k0.k1⟩,rfl⟩:RA m s (fun v' r=>r = .tup [v',.int .i64 (-1),.int .i64 (-1)]) _ _)
 cases hps:s.ps with
 | nil =>
  rw[hps] at hl2
  have hl2':lenA pv=some 0:=hl2
  simp(disch:=first|assumption|omega|(simp only[zl]<;>omega)|(simp only[zn])) only[ref15_Both,↓zd,zk,seval,reduceIte,List.map,AV.cells,List.all,AV.one,eqV,eqAll,splice,fillA,List.replicate,resAll,resA,zm,zg,o1,o2,o3,ev_len,hl2']
  exact fin
 | cons x xs =>
  have hms:s.ms=[]:=h.resolve_left (by rw[hps];simp)
  rw[hps] at hl2
  rw[hms] at hl3
  have hl3':lenA mv=some 0:=hl3
  have h0:((((x :: xs).length:Nat):Int)=0)=False:=eq_false (by simp;omega)
  simp(disch:=first|assumption|omega|(simp only[zl]<;>omega)|(simp only[zn])) only[ref15_Both,↓zd,zk,seval,reduceIte,List.map,AV.cells,List.all,AV.one,eqV,eqAll,splice,fillA,List.replicate,resAll,resA,zm,zg,o1,o2,o3,ev_len,hl2,hl3',h0]
  exact fin
set_option maxHeartbeats 4000000 in
theorem rboth_run(H:RP m s v) {x y:Int} {xs ys:List Int} (hps:s.ps=x :: xs) (hms:s.ms=y :: ys) (b1:s.ps.length < 10000) (b2:s.ms.length < 10000):Fn G15b ref15_Both [v] m (RA m { s with ps:=xs,ms:=ys } fun v' r=>r = .tup [v',.int .i64 x,.int .i64 y]):=by
 have a259:assoc (G15b (X:=X)) 259=some (amFunc G15f ref15_TakeP):=rfl
 have a260:assoc (G15b (X:=X)) 260=some (amFunc G15f ref15_TakeM):=rfl
 generalize (G15b (X:=X))=G at a259 a260 ⊢
 obtain⟨gv,pv,mv,rfl,r1,r2,r3⟩:=H
 have k0:=Keep.app m [Chunk.cells 10 false (rC s.c gv pv mv s.spin),Chunk.cells 10 false Z10]
 have o1:=one_rw r1
 have o2:=one_rw r2
 have o3:=one_rw r3
 have hl2:=r2.1.len
 have hl3:=r3.1.len
 unfold AV.one at o1 o2 o3
 rw[hps] at hl2
 rw[hms] at hl3
 have h0:((((x :: xs).length:Nat):Int)=0)=False:=eq_false (by simp;omega)
 have h1:((((y :: ys).length:Nat):Int)=0)=False:=eq_false (by simp;omega)
 have H0:RP (m++[Chunk.cells 10 false (rC s.c gv pv mv s.spin),Chunk.cells 10 false Z10]) s (.agg (rC s.c gv pv mv s.spin)):=⟨gv,pv,mv,rfl,r1.k1 k0.k1,r2.k1 k0.k1,r3.k1 k0.k1⟩
 simp only[rC,Z10] at k0 H0 ⊢
 refine Fn_of rfl ?_
 simp(disch:=first|assumption|omega|(simp only[zl]<;>omega)|(simp only[zn])) only[ref15_Both,↓zd,zk,seval,reduceIte,List.map,AV.cells,List.all,AV.one,eqV,eqAll,splice,fillA,List.replicate,resAll,resA,zm,zg,o1,o2,o3,ev_len,hl2,hl3,h0,h1,a259]
 refine OK_fn (rtakep_run H0 b1) ?_
 rintro _ m2 ⟨k2,_,⟨gv2,pv2,mv2,rfl,q1,q2,q3⟩,rfl⟩
 have p1:=one_rw q1
 have p2:=one_rw q2
 have p3:=one_rw q3
 have k3:=Keep.app m2 [Chunk.cells 10 false (rC s.c gv2 pv2 mv2 s.spin)]
 have H3:RP (m2++[Chunk.cells 10 false (rC s.c gv2 pv2 mv2 s.spin)]) { s with ps:=s.ps.tail } (.agg (rC s.c gv2 pv2 mv2 s.spin)):=⟨gv2,pv2,mv2,rfl,q1.k1 k3.k1,q2.k1 k3.k1,q3.k1 k3.k1⟩
 unfold AV.one at p1 p2 p3
 simp only[rC] at k3 H3
 simp(disch:=first|assumption|omega|(simp only[zl]<;>omega)|(simp only[zn])) only[rC,↓zd,zk,seval,reduceIte,List.map,AV.cells,List.all,AV.one,eqV,eqAll,splice,fillA,List.replicate,resAll,resA,zm,zg,p1,p2,p3,a260]
 refine OK_fn (rtakem_run H3 b2) ?_
 rintro _ m4 ⟨k4,_,⟨gv4,pv4,mv4,rfl,t1,t2,t3⟩,rfl⟩
 have w1:=one_rw t1
 have w2:=one_rw t2
 have w3:=one_rw t3
 unfold AV.one at w1 w2 w3
 have g4:m4[m.length+1]?=some (.cells 10 false Z10):=k4.get (k3.get (k2.get (by simp[Z10])))
 simp only[Z10] at g4
 have kk:=k0.trans (k2.trans (k3.trans k4))
 have k5:=Keep.app m4 [Chunk.cells 10 false (rC s.c gv4 pv4 mv4 s.spin)]
 have g5:(m4++[Chunk.cells 10 false (rC s.c gv4 pv4 mv4 s.spin)])[m.length+1]?=some (.cells 10 false Z10):=k5.get g4
 have l4:=(List.getElem?_eq_some_iff.1 g4).1
 obtain⟨f1,f2⟩:=set1 (kk.trans k5) (Nat.le_succ m.length) g5 (by decide) (.cells 10 false (rC s.c gv4 pv4 mv4 s.spin))
 simp only[rC] at f1 f2 k5
 have f2:=k5.k1.trans f2
 simp only[List.set_append_left _ _ l4] at f1 f2
 simp(disch:=first|assumption|omega|(simp only[zl]<;>omega)|(simp only[zn])) only[rC,↓zd,zk,seval,reduceIte,List.map,AV.cells,List.all,AV.one,eqV,eqAll,splice,fillA,List.replicate,resAll,resA,zm,zg,w1,w2,w3,g4]
 refine⟨f1,_,⟨gv4,pv4,mv4,rfl,t1.k1 f2,?_,?_⟩,?_⟩
 ·have:=t2.k1 f2;simp only[hps,List.tail_cons] at this;exact this
 ·have:=t3.k1 f2;simp only[hms,List.tail_cons] at this;exact this
 ·simp only[hps,hms];rfl
theorem rbatch_eq(H:RP m s v) (hn:s.c.n≠0):∃ m',c_ref15_Batch [v] m=some (.int .i64 (batchN s),m')∧Keep m m':=by
 obtain⟨gv,pv,mv,rfl,r1,r2,r3⟩:=H
 have k0:=Keep.app m [Chunk.cells 10 false (rC s.c gv pv mv s.spin)]
 have o1:=one_rw r1
 have o2:=one_rw r2
 have o3:=one_rw r3
 have hl:=r1.1.len
 unfold AV.one at o1 o2 o3
 refine⟨_,?_,k0⟩
 simp only[rC]
 refine Fn_eq (Fn_of rfl ?_)
 simp(disch:=first|assumption|omega|(simp only[zl]<;>omega)|(simp only[zn])) only[ref15_Batch,↓zd,zk,seval,reduceIte,List.map,AV.cells,List.all,AV.one,eqV,eqAll,splice,fillA,List.replicate,resAll,resA,zm,zg,o1,o2,o3,ev_len,hl,hn,ev_min3]
 simp only[batchN]
 congr 1
 omega
end
end Go.Am.F15
end
section
namespace Go.Am.F15
open Go.Am.F10 (iC iC_at iC_len iC_one iC_app SI SI.val same_run Cf cfC rightP right_run Nx si_take si_drop si_row cutA dropA)
variable {X:Type}
theorem cells_rw{m:Mem X} {xs:List Int} {v:AV} (h:RW m xs v):v.cells=[v]:=by
 rcases h.2 with rfl|⟨q,o,n,l,rfl,_⟩<;>rfl
section
variable {m:Mem X} {s:Pc} {v:AV}
set_option maxHeartbeats 4000000 in
theorem raddspin_run(H:RP m s v) (n:Int) (h0:0≤s.spin) (h1:s.spin≤s.c.m) (h2:0≤s.c.m) (h3:s.c.m≤16):Fn [] ref15_AddSpin [v,.int .i64 n] m (RA m { s with spin:=spinN s n } fun v' r=>r=v'):=by
 obtain⟨gv,pv,mv,rfl,r1,r2,r3⟩:=H
 have o1:=one_rw r1
 have o2:=one_rw r2
 have o3:=one_rw r3
 unfold AV.one at o1 o2 o3
 have kf:=Keep.app m [Chunk.cells 10 false (rC s.c gv pv mv (spinN s n)),Chunk.cells 10 false (rC s.c gv pv mv (spinN s n))]
 have fin:=(⟨kf,_,⟨gv,pv,mv,rfl,r1.k1 kf.k1,r2.k1 kf.k1,r3.k1 kf.k1⟩,rfl⟩:RA m { s with spin:=spinN s n } (fun v' r=>r=v') _ _)
 have w0:IntKind.i64.wrap (0 - s.c.m)=0 - s.c.m:=wrapI (by omega) (by omega)
 have w0':IntKind.i64.wrap (-s.c.m)=-s.c.m:=wrapI (by omega) (by omega)
 simp only[rC] at fin ⊢
 have fin':∀ z:Int,z=spinN s n→RA m { s with spin:=spinN s n } (fun v' r=>r=v') (.agg [.int .i64 s.c.n,.int .i64 s.c.q,.int .i64 s.c.g,.int .i64 s.c.m,.int .i64 s.c.t,.int .i64 s.c.s,gv,pv,mv,.int .i64 z])
   (m++[Chunk.cells 10 false [.int .i64 s.c.n,.int .i64 s.c.q,.int .i64 s.c.g,.int .i64 s.c.m,.int .i64 s.c.t,.int .i64 s.c.s,gv,pv,mv,.int .i64 z],Chunk.cells 10 false [.int .i64 s.c.n,.int .i64 s.c.q,.int .i64 s.c.g,.int .i64 s.c.m,.int .i64 s.c.t,.int .i64 s.c.s,gv,pv,mv,.int .i64 z]]):=by
  rintro _ rfl;exact fin
 refine Fn_of rfl ?_
 have key:∀ d:Int,-s.c.m≤d→d≤s.c.m→d=mxI (IntKind.i64.wrap (0 - s.c.m)) (mnI n s.c.m)→spinN s n=mxI 0 (mnI (s.spin+d) s.c.m)∧IntKind.i64.wrap (s.spin+d)=s.spin+d:=by
  intro d d1 d2 e
  have wd:IntKind.i64.wrap (s.spin+d)=s.spin+d:=wrapI (by omega) (by omega)
  refine⟨?_,wd⟩
  unfold spinN
  rw[← e,wd]
 by_cases c1:s.c.m < n
 ·have d1:decide (s.c.m < n)=true:=decide_eq_true c1
  have d2:decide (s.c.m < -s.c.m)=false:=decide_eq_false (by omega)
  obtain⟨e1,e2⟩:=key s.c.m (by omega) (by omega) (by unfold mxI mnI;rw[w0];repeat' split<;>omega)
  simp(disch:=first|assumption|omega|(simp only[zl]<;>omega)|(simp only[zn])) only[ref15_AddSpin,↓zd,zk,seval,reduceIte,List.map,AV.cells,List.all,AV.one,eqV,eqAll,splice,fillA,List.replicate,resAll,resA,zm,zg,o1,o2,o3,d1,d2,w0',e2]
  exact fin' _ (by rw[e1];unfold mxI mnI;repeat' split<;>omega)
 ·have d1:decide (s.c.m < n)=false:=decide_eq_false c1
  by_cases c2:n < -s.c.m
  ·have d2:decide (n < -s.c.m)=true:=decide_eq_true c2
   obtain⟨e1,e2⟩:=key (-s.c.m) (by omega) (by omega) (by unfold mxI mnI;rw[w0];repeat' split<;>omega)
   simp(disch:=first|assumption|omega|(simp only[zl]<;>omega)|(simp only[zn])) only[ref15_AddSpin,↓zd,zk,seval,reduceIte,List.map,AV.cells,List.all,AV.one,eqV,eqAll,splice,fillA,List.replicate,resAll,resA,zm,zg,o1,o2,o3,d1,d2,w0',e2]
   exact fin' _ (by rw[e1];unfold mxI mnI;repeat' split<;>omega)
  ·have d2:decide (n < -s.c.m)=false:=decide_eq_false c2
   obtain⟨e1,e2⟩:=key n (by omega) (by omega) (by unfold mxI mnI;rw[w0];repeat' split<;>omega)
   simp(disch:=first|assumption|omega|(simp only[zl]<;>omega)|(simp only[zn])) only[ref15_AddSpin,↓zd,zk,seval,reduceIte,List.map,AV.cells,List.all,AV.one,eqV,eqAll,splice,fillA,List.replicate,resAll,resA,zm,zg,o1,o2,o3,d1,d2,w0',e2]
   exact fin' _ (by rw[e1];unfold mxI mnI;repeat' split<;>omega)
theorem config_eq(c:Cf) (m:Mem X):c_docs_Config [.agg (cfC c)] m=some (.agg (cfC c),m++[.cells 6 false (cfC c),.cells 6 false (cfC c)]):=by
 simp only[cfC]
 refine Fn_eq (Fn_of rfl ?_)
 simp(disch:=first|assumption|omega|(simp only[zl]<;>omega)|(simp only[zn])) only[docs_Config,F10.docs_Config,↓zd,zk,seval,reduceIte,List.map,AV.cells,List.all,AV.one,eqV,eqAll,splice,fillA,List.replicate,resAll,resA,zm,zg]
def G15n:List (Nat × AFun X):=[(253,c_ref15_upto)]
theorem rnew_run{c:Cf} (hn:c.n < 10000) (hm:c.m < 10000):Fn G15n ref15_New [.agg (cfC c)] m (RA m (newS c) fun v' r=>r=v'):=by
 have a253:assoc (G15n (X:=X)) 253=some (amFunc [] ref15_upto):=rfl
 generalize (G15n (X:=X))=G at a253 ⊢
 have k0:=Keep.app m [Chunk.cells 6 false (cfC c),Chunk.cells 10 false Z10]
 simp only[cfC,Z10] at k0 ⊢
 refine Fn_of rfl ?_
 simp(disch:=first|assumption|omega|(simp only[zl]<;>omega)|(simp only[zn])) only[ref15_New,↓zd,zk,seval,reduceIte,List.map,AV.cells,List.all,AV.one,eqV,eqAll,splice,fillA,List.replicate,resAll,resA,zm,zg,a253]
 refine OKT_fn (upto_run hn) ?_
 rintro v1 m1 ⟨k1,L1⟩
 have g1:m1[m.length]?=some (.cells 6 false (cfC c)):=k1.get (by simp[cfC])
 simp only[cfC] at g1
 simp(disch:=first|assumption|omega|(simp only[zl]<;>omega)|(simp only[zn])) only[↓zd,zk,seval,reduceIte,List.map,AV.cells,List.all,AV.one,eqV,eqAll,splice,fillA,List.replicate,resAll,resA,zm,zg,g1,a253]
 refine OKT_fn (upto_run hm) ?_
 rintro v2 m2 ⟨k2,L2⟩
 have g1':=k2.get g1
 have g2:m2[m.length+1]?=some (.cells 10 false Z10):=k2.get (k1.get (by simp[Z10]))
 have r1:=L1.rw.k1 k2.k1
 have r2:=L2.rw
 have o1:=one_rw r1
 have o2:=one_rw r2
 unfold AV.one at o1 o2
 have c1:=cells_rw r1
 have c2:=cells_rw r2
 unfold AV.cells at c1 c2
 have kk:=k0.trans (k1.trans k2)
 obtain⟨f1,f2⟩:=set1 kk (Nat.le_succ m.length) g2 (by decide) (.cells 10 false (rC c .nils v1 v2 0))
 have l2:=(List.getElem?_eq_some_iff.1 g2).1
 simp only[rC,Z10] at f1 f2 g2
 simp(disch:=first|assumption|omega|(simp only[zl]<;>omega)|(simp only[zn])) only[↓zd,zk,seval,reduceIte,List.map,AV.cells,List.all,AV.one,eqV,eqAll,splice,fillA,List.replicate,resAll,resA,zm,zg,g1,g1',g2,o1,o2,c1,c2]
 exact⟨f1,_,⟨.nils,v1,v2,rfl,RW.nil,r1.k1 f2,r2.k1 f2⟩,rfl⟩
end
end Go.Am.F15
end
section
namespace Go.Am.F15
open Go.Am.F10 (iC iC_at iC_len iC_one iC_app SI SI.val same_run Cf cfC rightP right_run Nx si_take si_drop si_row cutA dropA)
open Go.Am.F06 (sqN sqT)
variable {X:Type}
def sameRB(s t:Pc):Bool:=decide (s.g=t.g) && (decide (s.ps=t.ps) && (decide (s.ms=t.ms) && decide (s.spin=t.spin)))
def rowS(s:Pc):Nat→List Int
 | 0=>s.g
 | 1=>s.ps
 | _=>s.ms
def tri{α:Type} (a b c:α):Nat→α
 | 0=>a
 | 1=>b
 | _=>c
def RO(m:Mem X) (xs:List Int) (v:AV):Prop:=(v = .nils∧xs=[])∨∃ q,v = .sl q 0 xs.length none∧m[q]?=some (.cells 1 false (iC xs))
theorem RO.rw{m:Mem X} {xs:List Int} {v:AV} (h:RO m xs v):RW m xs v:=by
 rcases h with⟨rfl,rfl⟩|⟨q,rfl,h⟩
 ·exact RW.nil
 ·exact⟨⟨by rw[iC_len];omega,.inr ⟨q,0,none,rfl,fun _=>⟨false,_,h,by rw[List.drop_zero,List.take_of_length_le (by rw[iC_len];omega)],by rw[iC_len];omega,fun _=>rfl⟩⟩⟩,.inr ⟨q,0,_,_,rfl,h⟩⟩
def Lies(v:AV) (a b:Nat):Prop:=∀ q n,v = .sl q 0 n none→a≤q∧q < b
theorem own_ro{m0 m:Mem X} {xs:List Int} {v:AV} (h:Go.Am.Own m0 m 1 xs.length (iC xs) v):RO m xs v∧Lies v m0.length m.length:=by
 rcases h with⟨h1,h2,rfl⟩|⟨q,rfl,h2,h3,h4⟩
 ·exact⟨.inl ⟨rfl,List.length_eq_zero_iff.1 h1⟩,fun q n e=>by cases e⟩
 ·exact⟨.inr ⟨q,rfl,h2⟩,fun q' n e=>by injection e with e;subst e;exact⟨h3,h4⟩⟩
theorem RO.at{m m':Mem X} {xs:List Int} {v:AV} (h:RO m xs v) (e:∀ q n,v = .sl q 0 n none→m'[q]?=m[q]?):RO m' xs v:=by
 rcases h with h|⟨q,h1,h2⟩
 ·exact .inl h
 ·exact .inr ⟨q,h1,(e q _ h1).trans h2⟩
def WO(v:AV) (m m':Mem X):Prop:=m'.length=m.length∧∀ k,(∀ n,v ≠ .sl k 0 n none)→m'[k]?=m[k]?
def spLoop:AC:=match sqN 3 docs_SamePool.body with | .seq _ (.block _ (.loop b))=>b|c=>c
def spB:AC:=match spLoop with | .seq _ (.seq (.block _ b) _)=>b|c=>c
def spC:AC:=match spLoop with | .seq c _=>c|c=>c
def spI:AC:=match spLoop with | .seq _ (.seq _ i)=>i|c=>c
def spR:AC:=.region [⟨.mov,[.c (.int .i64 0)],some 6,none⟩]
def spEnd:AC:=sqT 4 docs_SamePool.body
def spIn:AC:=sqT 1 spB
theorem sp_body:docs_SamePool.body = .seq (sqN 0 docs_SamePool.body) (.seq (sqN 1 docs_SamePool.body) (.seq (sqN 2 docs_SamePool.body)
  (.seq (.seq spR (.block 0 (.loop (.seq spC (.seq (.block 1 (.seq (sqN 0 spB) spIn)) spI))))) spEnd))):=rfl
def InI(e0:AV→AV→List AV) (n:Nat) (v:AV) (m0:Mem X) (k:Nat) (e:List AV) (m:Mem X):Prop:=∃ (j:Nat) (x10:AV),
 e=e0 (.int .i64 j) x10∧k=n - j∧j≤n∧WO v m0 m∧∀ q,v = .sl q 0 n none→∃ L,m[q]?=some (.cells 1 false L)∧L.length=n
theorem WO.refl(v:AV) (m:Mem X):WO v m m:=⟨rfl,fun _ _=>rfl⟩
theorem WO.set{v:AV} {m m':Mem X} (h:WO v m m') {q n:Nat} (hv:v = .sl q 0 n none) (C:Chunk X):WO v m (m'.set q C) :=
 ⟨by simpa using h.1,fun k hk=>by
  rw[List.getElem?_set_ne]
  ·exact h.2 k hk
  ·rintro rfl;exact hk n hv⟩
set_option maxHeartbeats 4000000 in
theorem spIn_run{G:List (Nat × AFun X)} {m:Mem X} {xs:List Int} {a0 a1 x2 x5 x7 x8 x9 x10 v:AV} {vv:Nat→AV} {q4 i:Nat} (hi:i < 3) (g4:m[q4]?=some (.cells 1 false [vv 0,vv 1,vv 2])) (hv:v=vv i) (h:RO m xs v) (hq:∀ n,v ≠ .sl q4 0 n none) (hx:xs.length < 1000) :
  W G spIn (fun y e m'=>y = .normal∧(∃ y7 y10,e=[a0,a1,x2,.bool false,.sl q4 0 3 (some 3),x5,.int .i64 i,y7,x8,x9,y10])∧WO v m m') [a0,a1,x2,.bool false,.sl q4 0 3 (some 3),x5,.int .i64 i,x7,x8,x9,x10] m:=by
 have hlen:=h.rw.1.len
 have h3:[vv 0,vv 1,vv 2][i]?=some v:=by
  subst hv
  match i,hi with
  | 0,_=>rfl
  | 1,_=>rfl
  | 2,_=>rfl
 simp(disch:=first|assumption|omega|(simp only[zl]<;>omega)|(simp only[zn])) only[spIn,spB,spLoop,sqN,sqT,docs_SamePool,↓zd,zk,seval,reduceIte,List.map,AV.cells,List.all,AV.one,eqV,eqAll,splice,fillA,List.replicate,resAll,resA,zm,zg]
 refine W_loop (InI (fun j x10=>[a0,a1,x2,.bool false,.sl q4 0 3 (some 3),x5,.int .i64 i,j,x8,x9,x10]) xs.length v m) xs.length (by unfold FUEL;omega) ⟨0,_,rfl,rfl,Nat.zero_le _,WO.refl v m,fun q e=>?_⟩ ?_
 ·rcases h with⟨h,_⟩|⟨q',h,h2⟩
  ·rw[h] at e;cases e
  ·rw[h] at e;injection e with e;subst e
   exact⟨_,h2,iC_len xs⟩
 rintro k e m' ⟨j,y10,rfl,rfl,hj,hw,hL⟩
 have g4':=(hw.2 q4 hq).trans g4
 simp(disch:=first|assumption|omega|(simp only[zl]<;>omega)|(simp only[zn])) only[↓zd,zk,seval,reduceIte,List.map,AV.cells,List.all,AV.one,eqV,eqAll,splice,fillA,List.replicate,resAll,resA,zm,zg,g4',h3,ev_len,hlen]
 refine CW_of (fun hc=>?_) (fun hc=>?_)
 ·simp only[decide_eq_true_eq] at hc
  rcases h with⟨_,hx0⟩|⟨q,hvq,_⟩
  ·rw[hx0] at hc;simp at hc;omega
  ·obtain⟨L,hq1,hq2⟩:=hL q hvq
   have lq:=(List.getElem?_eq_some_iff.1 hq1).1
   have h3':[vv 0,vv 1,vv 2][i]?=some (.sl q 0 xs.length none):=by rw[h3,hvq]
   simp(disch:=first|assumption|omega|(simp only[zl]<;>omega)|(simp only[zn])) only[↓zd,zk,seval,reduceIte,List.map,AV.cells,List.all,AV.one,eqV,eqAll,splice,fillA,List.replicate,resAll,resA,zm,zg,g4',h3',hq1]
   refine⟨_,by omega,j+1,_,rfl,rfl,by omega,hw.set hvq _,fun q' e=>?_⟩
   rw[hvq] at e;injection e with e;subst e
   exact⟨_,List.getElem?_set_self lq,by simp[hq2]⟩
 ·simp only[decide_eq_false_iff_not] at hc
  simp(disch:=first|assumption|omega|(simp only[zl]<;>omega)|(simp only[zn])) only[↓zd,zk,seval,reduceIte,List.map,AV.cells,List.all,AV.one,eqV,eqAll,splice,fillA,List.replicate,resAll,resA,zm,zg]
  exact⟨⟨_,_,rfl⟩,hw⟩
def GSP:List (Nat × AFun X):=[(235,amFunc GGl pool_Pool_Global),(237,amFunc GGl pool_Pool_Ps),(238,amFunc GGl pool_Pool_Ms),(84,c_kit_SameInts),(239,c_pool_Pool_Spin),(233,c_pool_Pool_Len)]
def SpO(m0:Mem X) (s t:Pc) (a0 a1:AV) (b2 q4 q5:Nat) (vv ww:Nat→AV) (cs:List AV) (k:Nat) (e:List AV) (m:Mem X):Prop:=∃ (i:Nat) (x7 x8 x9 x10:AV),
 e=[a0,a1,.ptr b2 0,.bool false,.sl q4 0 3 (some 3),.sl q5 0 3 (some 3),.int .i64 i,x7,x8,x9,x10]∧k=3 - i∧i≤3∧Keep m0 m∧m[b2]?=some (.cells 10 false cs)∧m[q4]?=some (.cells 1 false [vv 0,vv 1,vv 2])∧m[q5]?=some (.cells 1 false [ww 0,ww 1,ww 2]) ∧
 (∀ j,i≤j→j < 3→RO m (rowS s j) (vv j))∧∀ j,j < i→rowS s j=rowS t j
theorem tri_get{f:Nat→AV} {i:Nat} (hi:i < 3):[f 0,f 1,f 2][i]?=some (f i):=by
 match i,hi with
 | 0,_=>rfl
 | 1,_=>rfl
 | 2,_=>rfl
theorem row_eqs{s t:Pc} (h:∀ j,j < 3→rowS s j=rowS t j):s.g=t.g∧s.ps=t.ps∧s.ms=t.ms:=⟨h 0 (by decide),h 1 (by decide),h 2 (by decide)⟩
theorem row_ne{s t:Pc} {i:Nat} (hi:i < 3) (h:rowS s i≠rowS t i):sameRB s t=false:=by
 match i,hi with
 | 0,_=>simp[sameRB,show s.g≠t.g from h]
 | 1,_=>simp[sameRB,show s.ps≠t.ps from h]
 | 2,_=>simp[sameRB,show s.ms≠t.ms from h]
set_option maxHeartbeats 8000000 in
theorem samepool_run{m:Mem X} {P:Pla} {s t:Pc} {rv:AV} (H:PO m P s) (hb:Bd s) (R:RP m t rv):Fn GSP docs_SamePool [.ptr P.p 0,rv] m (fun r m'=>r = .bool (sameRB s t)∧Keep m m'):=by
 have a235:assoc (GSP (X:=X)) 235=some (amFunc GGl pool_Pool_Global):=rfl
 have a237:assoc (GSP (X:=X)) 237=some (amFunc GGl pool_Pool_Ps):=rfl
 have a238:assoc (GSP (X:=X)) 238=some (amFunc GGl pool_Pool_Ms):=rfl
 have a84:assoc (GSP (X:=X)) 84=some c_kit_SameInts:=rfl
 have a239:assoc (GSP (X:=X)) 239=some c_pool_Pool_Spin:=rfl
 have a233:assoc (GSP (X:=X)) 233=some c_pool_Pool_Len:=rfl
 generalize (GSP (X:=X))=G at a235 a237 a238 a84 a239 a233 ⊢
 obtain⟨gv,pv,mv,rfl,r1,r2,r3⟩:=R
 have k0:=Keep.app m [Chunk.cells 10 false (rC t.c gv pv mv t.spin)]
 have o1:=one_rw r1
 have o2:=one_rw r2
 have o3:=one_rw r3
 have c1:=cells_rw r1
 have c2:=cells_rw r2
 have c3:=cells_rw r3
 have gl:=r1.1.len
 unfold AV.one at o1 o2 o3
 unfold AV.cells at c1 c2 c3
 have H0:=H.keep k0
 simp only[rC] at k0 H0 ⊢
 refine Fn_of rfl ?_
 rw[sp_body]
 simp(disch:=first|assumption|omega|(simp only[zl]<;>omega)|(simp only[zn])) only[sqN,sqT,docs_SamePool,↓zd,zk,seval,reduceIte,List.map,AV.cells,List.all,AV.one,eqV,eqAll,splice,fillA,List.replicate,resAll,resA,zm,zg,o1,o2,o3,a235]
 refine OK_fn (global_run H0 hb) ?_
 rintro v1 m1 ⟨k1,w1⟩
 have H1:=H0.keep k1
 simp(disch:=first|assumption|omega|(simp only[zl]<;>omega)|(simp only[zn])) only[↓zd,zk,seval,reduceIte,List.map,AV.cells,List.all,AV.one,eqV,eqAll,splice,fillA,List.replicate,resAll,resA,zm,zg,a237]
 refine OK_fn (ps_run H1 hb) ?_
 rintro v2 m2 ⟨k2,w2⟩
 have H2:=H1.keep k2
 simp(disch:=first|assumption|omega|(simp only[zl]<;>omega)|(simp only[zn])) only[↓zd,zk,seval,reduceIte,List.map,AV.cells,List.all,AV.one,eqV,eqAll,splice,fillA,List.replicate,resAll,resA,zm,zg,a238]
 refine OK_fn (ms_run H2 hb) ?_
 rintro v3 m3 ⟨k3,w3⟩
 have H3:=H2.keep k3
 obtain⟨p1,l1⟩:=own_ro w1
 obtain⟨p2,l2⟩:=own_ro w2
 obtain⟨p3,l3⟩:=own_ro w3
 have b0:m3[m.length]?=some (.cells 10 false (rC t.c gv pv mv t.spin)):=k3.get (k2.get (k1.get (by simp[rC])))
 have p1':=(p1.at (m':=m3) fun q n e=>(k2.trans k3).2 q (l1 q n e).2)
 have p2':=(p2.at (m':=m3) fun q n e=>k3.2 q (l2 q n e).2)
 have u1:=one_rw p1.rw
 have u2:=one_rw p2.rw
 have u3:=one_rw p3.rw
 have d1:=cells_rw p1.rw
 have d2:=cells_rw p2.rw
 have d3:=cells_rw p3.rw
 unfold AV.one at u1 u2 u3
 unfold AV.cells at d1 d2 d3
 have rl:repeatL 3 [AV.nils]=[.nils,.nils,.nils]:=rfl
 have lb:=(List.getElem?_eq_some_iff.1 b0).1
 have hlb:m.length < m1.length:=Nat.lt_of_lt_of_le (by simp) k1.1
 have hl1:=k1.1
 have hl2:=k2.1
 have hl3:=k3.1
 simp only[rC] at b0
 simp(disch:=first|assumption|omega|(simp only[zl]<;>omega)|(simp only[zn])) only[↓zd,zk,seval,reduceIte,List.map,AV.cells,List.all,AV.one,eqV,eqAll,splice,fillA,List.replicate,resAll,resA,zm,zg,evA,rl,u1,u2,u3,d1,d2,d3,b0,o1,o2,o3,c1,c2,c3,spR]
 have kA:=Keep.app m3 [Chunk.cells 1 false [v1,v2,v3],Chunk.cells 1 false [gv,pv,mv]]
 have kk:=k0.trans (k1.trans (k2.trans k3))
 have q1:=r1.k1 kk.k1
 have q2:=r2.k1 kk.k1
 have q3:=r3.k1 kk.k1
 have RR:∀ j,j < 3→RW m (rowS t j) (tri gv pv mv j):=fun j hj=>by
  match j,hj with
  | 0,_=>exact r1
  | 1,_=>exact r2
  | 2,_=>exact r3
 have hap:∀ j q n,j < 3→tri v1 v2 v3 j = .sl q 0 n none→m.length < q∧q < m3.length∧∀ j' n',j' < 3→tri v1 v2 v3 j' = .sl q 0 n' none→j'=j:=by
  intro j q n hj e
  have L1:=l1 q
  have L2:=l2 q
  have L3:=l3 q
  simp only[List.length_append,List.length_cons,List.length_nil] at L1
  match j,hj,e with
  | 0,_,e =>
   have:=L1 n e
   refine⟨by omega,by omega,fun j' n' hj' e'=>?_⟩
   match j',hj',e' with
   | 0,_,e'=>rfl
   | 1,_,e'=>have:=L2 n' e';omega
   | 2,_,e'=>have:=L3 n' e';omega
  | 1,_,e =>
   have:=L2 n e
   refine⟨by omega,by omega,fun j' n' hj' e'=>?_⟩
   match j',hj',e' with
   | 0,_,e'=>have:=L1 n' e';omega
   | 1,_,e'=>rfl
   | 2,_,e'=>have:=L3 n' e';omega
  | 2,_,e =>
   have:=L3 n e
   refine⟨by omega,by omega,fun j' n' hj' e'=>?_⟩
   match j',hj',e' with
   | 0,_,e'=>have:=L1 n' e';omega
   | 1,_,e'=>have:=L2 n' e';omega
   | 2,_,e'=>rfl
 have hbr:∀ j,j < 3→(rowS s j).length < 1000:=fun j hj=>by
  match j,hj with
  | 0,_=>exact hb.1
  | 1,_=>exact hb.2.1
  | 2,_=>exact hb.2.2
 refine W_loop (SpO m s t _ _ m.length m3.length (m3.length+1) (tri v1 v2 v3) (tri gv pv mv) (rC t.c gv pv mv t.spin)) 3 (by unfold FUEL;omega) ⟨0,_,_,_,_,rfl,rfl,by decide,kk.trans kA,kA.get (by simpa [rC] using b0),by simp[tri],by simp[tri],fun j h1 h2=>?_,fun j hj=>by omega⟩ ?_
 ·match j,h2 with
  | 0,_=>exact p1'.at fun q n e=>kA.2 q (by have:=l1 q n e;omega)
  | 1,_=>exact p2'.at fun q n e=>kA.2 q (by have:=l2 q n e;omega)
  | 2,_=>exact p3.at fun q n e=>kA.2 q (l3 q n e).2
 rintro k e m' ⟨i,x7,x8,x9,x10,rfl,rfl,hi,hk,gb,g4,g5,hro,heq⟩
 simp only[rC] at gb
 simp(disch:=first|assumption|omega|(simp only[zl]<;>omega)|(simp only[zn])) only[spC,spLoop,sqN,docs_SamePool,↓zd,zk,seval,reduceIte,List.map,AV.cells,List.all,AV.one,eqV,eqAll,splice,fillA,List.replicate,resAll,resA,zm,zg]
 refine CW_of (fun hc=>?_) (fun hc=>?_)
 ·simp only[decide_eq_true_eq] at hc
  have hi3:i < 3:=by omega
  have hr:=hro i (Nat.le_refl _) hi3
  have e4:=tri_get (f:=tri v1 v2 v3) hi3
  have e5:=tri_get (f:=tri gv pv mv) hi3
  have hs:=same_eq hr.rw.1 ((RR i hi3).k1 hk.k1).1 (hbr i hi3)
  by_cases he:rowS s i=rowS t i
  ·have hde:decide (rowS s i=rowS t i)=true:=decide_eq_true he
   simp(disch:=first|assumption|omega|(simp only[zl]<;>omega)|(simp only[zn])) only[spB,spLoop,sqN,docs_SamePool,↓zd,zk,seval,reduceIte,List.map,AV.cells,List.all,AV.one,eqV,eqAll,splice,fillA,List.replicate,resAll,resA,zm,zg,g4,g5,e4,e5,a84,hs,hde]
   have hne:∀ q,m3.length≤q∨q≤m.length→∀ n,tri v1 v2 v3 i ≠ .sl q 0 n none:=fun q hq n e=>by
    have:=hap i q n hi3 e;omega
   refine W_mono (spIn_run hi3 g4 rfl hr (hne _ (.inl (Nat.le_refl _))) (hbr i hi3)) ?_
   rintro y e m2 ⟨rfl,⟨y7,y10,rfl⟩,hw⟩
   simp(disch:=first|assumption|omega|(simp only[zl]<;>omega)|(simp only[zn])) only[spI,spLoop,sqN,docs_SamePool,↓zd,zk,seval,reduceIte,List.map,AV.cells,List.all,AV.one,eqV,eqAll,splice,fillA,List.replicate,resAll,resA,zm,zg]
   refine⟨_,by omega,i+1,_,_,_,_,rfl,rfl,by omega,⟨by rw[hw.1];exact hk.1,fun k h1=>?_⟩,?_,?_,?_,fun j h1 h2=>?_,fun j hj=>?_⟩
   ·exact(hw.2 k (hne k (.inr (by omega)))).trans (hk.2 k h1)
   ·exact(hw.2 _ (hne _ (.inr (Nat.le_refl _)))).trans gb
   ·exact(hw.2 _ (hne _ (.inl (Nat.le_refl _)))).trans g4
   ·exact(hw.2 _ (hne _ (.inl (Nat.le_succ _)))).trans g5
   ·refine(hro j (by omega) h2).at fun q n e=>hw.2 q fun n' e'=>?_
    have:=(hap j q n h2 e).2.2 i n' hi3 e'
    omega
   ·by_cases hji:j=i
    ·rw[hji];exact he
    ·exact heq j (by omega)
  ·have hde:decide (rowS s i=rowS t i)=false:=decide_eq_false he
   simp(disch:=first|assumption|omega|(simp only[zl]<;>omega)|(simp only[zn])) only[spB,spLoop,sqN,docs_SamePool,↓zd,zk,seval,reduceIte,List.map,AV.cells,List.all,AV.one,eqV,eqAll,splice,fillA,List.replicate,resAll,resA,zm,zg,g4,g5,e4,e5,a84,hs,hde]
   exact⟨by rw[row_ne hi3 he],hk⟩
 ·simp only[decide_eq_false_iff_not] at hc
  obtain⟨e1,e2,e3⟩:=row_eqs fun j hj=>heq j (by omega)
  have H9:=H.keep hk
  have hsp:=pspin_eq H9
  have hln:=plen_eq H9
  have es:sameRB s t=decide (s.spin=t.spin):=by simp[sameRB,e1,e2,e3]
  rw[es]
  by_cases hd:s.spin=t.spin
  ·have hd1:decide (s.spin=t.spin)=true:=decide_eq_true hd
   simp(disch:=first|assumption|omega|(simp only[zl]<;>omega)|(simp only[zn])) only[spEnd,sqT,docs_SamePool,↓zd,zk,seval,reduceIte,List.map,AV.cells,List.all,AV.one,eqV,eqAll,splice,fillA,List.replicate,resAll,resA,zm,zg,a239,hsp,gb,hd1,a233,hln,ev_len,gl,e1]
   exact hk
  ·have hd1:decide (s.spin=t.spin)=false:=decide_eq_false hd
   simp(disch:=first|assumption|omega|(simp only[zl]<;>omega)|(simp only[zn])) only[spEnd,sqT,docs_SamePool,↓zd,zk,seval,reduceIte,List.map,AV.cells,List.all,AV.one,eqV,eqAll,splice,fillA,List.replicate,resAll,resA,zm,zg,a239,hsp,gb,hd1]
   exact hk
end Go.Am.F15
end
section
namespace Go.Am.F15
open Go.Am.F10 (iC iC_at iC_len iC_one iC_app SI SI.val same_run Cf cfC rightP right_run Nx si_take si_drop si_row cutA dropA pick_eq)
open Go.Am.F06 (sqN sqT)
variable {X:Type}
def GDo:List (Nat × AFun X):=[(87,c_kit_Pick),(255,amFunc G15p ref15_Push),(225,amFunc GPP pool_Pool_Push),(256,amFunc G15f ref15_Pop),(226,amFunc GPo pool_Pool_Pop),(84,c_kit_SameInts),(257,amFunc G15p ref15_PutP),(227,amFunc GPP pool_Pool_PutP),(258,amFunc G15p ref15_PutM),(228,amFunc GPP pool_Pool_PutM),(259,amFunc G15f ref15_TakeP),(229,amFunc GTk pool_Pool_TakeP),(260,amFunc G15f ref15_TakeM),(230,amFunc GTk pool_Pool_TakeM),(261,amFunc G15b ref15_Both),(231,amFunc GBo pool_Pool_Both),(262,c_ref15_AddSpin),(234,c_pool_Pool_AddSpin)]
def DoP(m:Mem X) (P:Pla) (s:Pc) (r:AV) (m':Mem X):Prop:=∃ P' s' v',PN m P P'∧KPl m m' P∧PO m' P' s'∧s'.c=s.c∧Inb s'∧RP m' s' v'∧r = .tup [v',.bool true]
theorem JN.up{m m1:Mem X} {j j':Option Nat} (h:JN m1 j j') (hl:m.length≤m1.length):JN m j j':=(JN.refl m _).trans h hl
theorem PN.up{m m1:Mem X} {P P':Pla} (h:PN m1 P P') (hl:m.length≤m1.length):PN m P P':=by
 obtain⟨a1,a2,a3,a4,a5,a6,a7⟩:=h
 exact⟨a1,a2,a3,a4,a5.up hl,a6.up hl,a7.up hl⟩
theorem do_fin{m m1 m2:Mem X} {P P':Pla} {s s1 s':Pc} {v':AV} {b:Nat} {l:List AV} (H:PO m P s) (hk:Keep m m1) (hn:PN m1 P P') (hp:KPl m1 m2 P) (HP:PO m2 P' s') (hb:m.length≤b) (gb:m1[b]?=some (.cells 10 false l)) (hc:s'.c=s.c) (hi:Inb s') (R:RP m1 s1 v') (es:s1=s') (C:Chunk X) :
  DoP m P s (.tup [v',.bool true]) (m2.set b C):=by
 subst es
 have lb:=(List.getElem?_eq_some_iff.1 gb).1
 have hnb:¬ P.has b:=fun h=>by have:=H.lt h;omega
 have hnb':¬ P'.has b:=fun h=>hnb (hn.has lb h)
 have gb2:m2[b]?=some (.cells 10 false l):=(hp.2 b lb hnb).trans gb
 refine⟨P',s1,v',hn.up hk.1,⟨by simpa using Nat.le_trans hk.1 hp.1,fun k h1 h2=>?_⟩,HP.at fun k hk=>List.getElem?_set_ne (fun e=>hnb' (by rw[e];exact hk)),hc,hi,?_,rfl⟩
 ·rw[List.getElem?_set_ne (by omega)]
  exact(hp.2 k (Nat.lt_of_lt_of_le h1 hk.1) h2).trans (hk.2 k h1)
 ·exact R.k1 ((((H.keep hk).kk hp).k1).set gb2 (by decide) C)
theorem get_kpl{m m1 m2:Mem X} {P:Pla} {s:Pc} {b:Nat} {c:Chunk X} (H:PO m P s) (hp:KPl m1 m2 P) (hb:m.length≤b) (gb:m1[b]?=some c):m2[b]?=some c :=
 (hp.2 b (List.getElem?_eq_some_iff.1 gb).1 (fun h=>by have:=H.lt h;omega)).trans gb
theorem inb_len9{n:Int} {l:List Int} (h:inbB n l=true) (nd:l.Nodup) (hn:n≤256):l.length < 1000:=by have:=inb_len h nd hn;omega
theorem PO.bd{m:Mem X} {P:Pla} {s:Pc} (H:PO m P s) (h:Inb s) (hr:rightP s.c):Bd s:=by
 obtain⟨h1,h2,h3,_⟩:=h
 obtain⟨r1,_,r2,r3,_⟩:=hr
 exact⟨inb_len9 h1 H.l1.nodup (by omega),inb_len9 h2 H.l2.nodup (by omega),inb_len9 h3 H.l3.nodup (by omega)⟩
theorem head_ge{n:Int} {l:List Int} (h:inbB n l=true):decide (0≤l.head?.getD (-1))=!l.isEmpty:=by
 cases l with
 | nil=>rfl
 | cons x l =>
  have:=List.all_eq_true.1 h x (by simp)
  simp only[Bool.and_eq_true,decide_eq_true_eq] at this
  simp only[List.head?_cons,Option.getD_some,List.isEmpty_cons,Bool.not_false,decide_eq_true_eq]
  exact decide_eq_true this.1
def InJ(A B C:List AV) (n:Nat) (v:AV) (m0:Mem X) (k:Nat) (e:List AV) (m:Mem X):Prop:=∃ (j:Nat) (x36:AV),
 e=A ++ .int .i64 j :: (B++x36 :: C)∧k=n - j∧j≤n∧WO v m0 m∧∀ q,v = .sl q 0 n none→∃ L,m[q]?=some (.cells 1 false L)∧L.length=n
set_option maxRecDepth 100000 in
set_option maxHeartbeats 16000000 in
theorem does_run{m:Mem X} {P:Pla} {s:Pc} {rv:AV} {a:Act} (H:PO m P s) (hr:rightP s.c) (hin:Inb s) (R:RP m s rv) (ha:SI m false a.l a.v) (hf:Fit a.v) (hal:a.l.length≤20):Fn GDo law15_does [.ptr P.p 0,rv,.agg (aC a)] m (DoP m P s):=by
 have a87:assoc (GDo (X:=X)) 87=some c_kit_Pick:=rfl
 have a255:assoc (GDo (X:=X)) 255=some (amFunc G15p ref15_Push):=rfl
 have a225:assoc (GDo (X:=X)) 225=some (amFunc GPP pool_Pool_Push):=rfl
 have a256:assoc (GDo (X:=X)) 256=some (amFunc G15f ref15_Pop):=rfl
 have a226:assoc (GDo (X:=X)) 226=some (amFunc GPo pool_Pool_Pop):=rfl
 have a84:assoc (GDo (X:=X)) 84=some c_kit_SameInts:=rfl
 have a257:assoc (GDo (X:=X)) 257=some (amFunc G15p ref15_PutP):=rfl
 have a227:assoc (GDo (X:=X)) 227=some (amFunc GPP pool_Pool_PutP):=rfl
 have a258:assoc (GDo (X:=X)) 258=some (amFunc G15p ref15_PutM):=rfl
 have a228:assoc (GDo (X:=X)) 228=some (amFunc GPP pool_Pool_PutM):=rfl
 have a259:assoc (GDo (X:=X)) 259=some (amFunc G15f ref15_TakeP):=rfl
 have a229:assoc (GDo (X:=X)) 229=some (amFunc GTk pool_Pool_TakeP):=rfl
 have a260:assoc (GDo (X:=X)) 260=some (amFunc G15f ref15_TakeM):=rfl
 have a230:assoc (GDo (X:=X)) 230=some (amFunc GTk pool_Pool_TakeM):=rfl
 have a261:assoc (GDo (X:=X)) 261=some (amFunc G15b ref15_Both):=rfl
 have a231:assoc (GDo (X:=X)) 231=some (amFunc GBo pool_Pool_Both):=rfl
 have a262:assoc (GDo (X:=X)) 262=some (amFunc [] ref15_AddSpin):=rfl
 have a234:assoc (GDo (X:=X)) 234=some (amFunc [] pool_Pool_AddSpin):=rfl
 generalize (GDo (X:=X))=G at a87 a255 a225 a256 a226 a84 a257 a227 a258 a228 a259 a229 a260 a230 a261 a231 a262 a234 ⊢
 have hbd:=H.bd hin hr
 obtain⟨i1,i2,i3,i4,i5⟩:=hin
 obtain⟨r1,r0,r2,r3,r4⟩:=hr
 obtain⟨b1,b2,b3⟩:=hbd
 obtain⟨gv,pv,mv,rfl,q1,q2,q3⟩:=R
 have o1:=one_rw q1
 have o2:=one_rw q2
 have o3:=one_rw q3
 have o4:a.v.one=true:=by
  rcases ha.2 with⟨h,_⟩|⟨q,o,cap,h,_⟩<;>rw[h]<;>rfl
 unfold AV.one at o1 o2 o3 o4
 have k0:=Keep.app m [Chunk.cells 10 false (rC s.c gv pv mv s.spin),Chunk.cells 3 false (aC a),Chunk.cells 10 false Z10]
 have R0:RP (m++[Chunk.cells 10 false (rC s.c gv pv mv s.spin),Chunk.cells 3 false (aC a),Chunk.cells 10 false Z10]) s (.agg (rC s.c gv pv mv s.spin)):=⟨gv,pv,mv,rfl,q1.k1 k0.k1,q2.k1 k0.k1,q3.k1 k0.k1⟩
 have ha0:SI _ false a.l a.v:=ha.keep k0
 have hpick:∀ (M:Mem X) (k:Int),c_kit_Pick [.int .i64 k,.int .i64 8] M=some (.int .i64 (k % 8),M):=fun M k=>pick_eq M k 8 (by decide) (by decide)
 have hk0:0≤a.k % 8:=Int.emod_nonneg _ (by decide)
 have hk8:a.k % 8 < 8:=Int.emod_lt_of_pos _ (by decide)
 generalize hkk:a.k % 8=kk at hk0 hk8
 simp only[rC,aC,Z10] at k0 R0 ha0 ⊢
 refine Fn_of rfl ?_
 have d1:(kk=0∨kk=1∨kk=2∨kk=3∨kk=4∨kk=5∨kk=6∨kk=7):=by omega
 rcases d1 with rfl|rfl|rfl|rfl|rfl|rfl|rfl|rfl
 ·simp(disch:=first|assumption|omega|(simp only[zl]<;>omega)|(simp only[zn])) only[law15_does,↓zd,zk,seval,reduceIte,List.map,AV.cells,List.all,AV.one,eqV,eqAll,splice,fillA,List.replicate,resAll,resA,zm,zg,o1,o2,o3,o4,a87,hpick,hkk,a255]
  refine OK_fn (rpush_run R0 ha0 hf (by omega) (by omega)) ?_
  rintro _ m1 ⟨k1,_,⟨gv1,pv1,mv1,rfl,t1,t2,t3⟩,rfl⟩
  have u1:=one_rw t1
  have u2:=one_rw t2
  have u3:=one_rw t3
  unfold AV.one at u1 u2 u3
  have kA:=k0.trans k1
  have kB:=Keep.app m1 [Chunk.cells 10 false (rC s.c gv1 pv1 mv1 s.spin)]
  have HM:=H.keep (kA.trans kB)
  have R1:=RP.k1 (s:={ s with g:=addL s.g s.c.g a.l }) ⟨gv1,pv1,mv1,rfl,t1,t2,t3⟩ kB.k1
  have g4:m1[m.length+1]?=some (.cells 3 false (aC a)):=k1.get (by simp[aC])
  have g5:m1[m.length+2]?=some (.cells 10 false Z10):=k1.get (by simp[Z10])
  have l4:=(List.getElem?_eq_some_iff.1 g4).1
  have haM:SI _ false a.l a.v:=ha.keep (kA.trans kB)
  simp only[rC,aC] at g4 HM haM kB R1
  simp(disch:=first|assumption|omega|(simp only[zl]<;>omega)|(simp only[zn])) only[rC,↓zd,zk,seval,reduceIte,List.map,AV.cells,List.all,AV.one,eqV,eqAll,splice,fillA,List.replicate,resAll,resA,zm,zg,u1,u2,u3,g4,a225]
  refine OKT_fn (ppush_run HM ⟨b1,b2,b3⟩ haM (by omega)) ?_
  rintro _ m2 ⟨P',hn,hp,HP,rfl⟩
  have g7:m2[m1.length]?=some (.cells 10 false (rC s.c gv1 pv1 mv1 s.spin)):=get_kpl H hp kA.1 (by simp[rC])
  have g5':m2[m.length+2]?=some (.cells 10 false Z10):=get_kpl H hp (by omega) (kB.get g5)
  have g4':m2[m.length+1]?=some (.cells 3 false (aC a)):=get_kpl H hp (by omega) (kB.get g4)
  have l5:=(List.getElem?_eq_some_iff.1 g5').1
  simp only[rC,aC,Z10] at g7 g5' g4'
  simp(disch:=first|assumption|omega|(simp only[zl]<;>omega)|(simp only[zn])) only[↓zd,zk,seval,reduceIte,List.map,AV.cells,List.all,AV.one,eqV,eqAll,splice,fillA,List.replicate,resAll,resA,zm,zg,g7,g5',g4',u1,u2,u3]
  exact do_fin H (kA.trans kB) hn hp HP (Nat.le_add_right _ _) (kB.get g5) rfl ⟨inb_addL i1,i2,i3,i4,i5⟩ R1 rfl _
 ·simp(disch:=first|assumption|omega|(simp only[zl]<;>omega)|(simp only[zn])) only[law15_does,↓zd,zk,seval,reduceIte,List.map,AV.cells,List.all,AV.one,eqV,eqAll,splice,fillA,List.replicate,resAll,resA,zm,zg,o1,o2,o3,o4,a87,hpick,hkk,a256]
  refine OK_fn (rpop_run R0 (by omega) a.n) ?_
  rintro _ m1 ⟨k1,_,wv,rfl,⟨gv1,pv1,mv1,rfl,t1,t2,t3⟩,wr⟩
  have u1:=one_rw t1
  have u2:=one_rw t2
  have u3:=one_rw t3
  unfold AV.one at u1 u2 u3
  have kA:=k0.trans k1
  have kB:=Keep.app m1 [Chunk.cells 10 false (rC s.c gv1 pv1 mv1 s.spin)]
  have HM:=H.keep (kA.trans kB)
  have R1:=RP.k1 (s:={ s with g:=s.g.drop (popN s.g a.n) }) ⟨gv1,pv1,mv1,rfl,t1,t2,t3⟩ kB.k1
  have g4:m1[m.length+1]?=some (.cells 3 false (aC a)):=k1.get (by simp[aC])
  have g5:m1[m.length+2]?=some (.cells 10 false Z10):=k1.get (by simp[Z10])
  have l4:=(List.getElem?_eq_some_iff.1 g4).1
  simp only[rC,aC] at g4 HM kB R1
  simp(disch:=first|assumption|omega|(simp only[zl]<;>omega)|(simp only[zn])) only[rC,↓zd,zk,seval,reduceIte,List.map,AV.cells,List.all,AV.one,eqV,eqAll,splice,fillA,List.replicate,resAll,resA,zm,zg,u1,u2,u3,g4,a226]
  refine OK_fn (ppop_run HM ⟨b1,b2,b3⟩ a.n) ?_
  rintro pv9 m2 ⟨P',hn,hp,HP,ho⟩
  have g7:m2[m1.length]?=some (.cells 10 false (rC s.c gv1 pv1 mv1 s.spin)):=get_kpl H hp kA.1 (by simp[rC])
  have g5':m2[m.length+2]?=some (.cells 10 false Z10):=get_kpl H hp (by omega) (kB.get g5)
  have hsm:=same_eq (own_si ho) (((wr.k1 kB.k1).k1 ((HM.kk hp).k1))).1 (by rw[List.length_take];omega)
  have hde:decide (s.g.take (popN s.g a.n)=s.g.take (popN s.g a.n))=true:=decide_eq_true rfl
  obtain⟨hro,hli⟩:=own_ro ho
  have hlen:=hro.rw.1.len
  have hli':∀ q n,pv9 = .sl q 0 n none→m1.length+1≤q:=fun q n e=>by have:=(hli q n e).1;simpa using this
  have l51:=(List.getElem?_eq_some_iff.1 g5).1
  have hl9:(s.g.take (popN s.g a.n)).length < 1000:=by rw[List.length_take];omega
  have l5:=(List.getElem?_eq_some_iff.1 g5').1
  simp only[rC,Z10] at g7 g5'
  simp(disch:=first|assumption|omega|(simp only[zl]<;>omega)|(simp only[zn])) only[↓zd,zk,seval,reduceIte,List.map,AV.cells,List.all,AV.one,eqV,eqAll,splice,fillA,List.replicate,resAll,resA,zm,zg,a84,hsm,hde]
  refine W_loop (InJ [_,_,_,_,_,_,_,_,_,_,_,_,_] [_,_,_,_,_,_,_,_,_,_,_,_,_,_,_,_,_,_,_,_,_,_] [_,_,_,_,_] (s.g.take (popN s.g a.n)).length pv9 m2) (s.g.take (popN s.g a.n)).length (by unfold FUEL;rw[List.length_take];omega) ⟨0,_,rfl,rfl,Nat.zero_le _,WO.refl pv9 m2,fun q e=>?_⟩ ?_
  ·rcases hro with⟨h,_⟩|⟨q',h,h2⟩
   ·rw[h] at e;cases e
   ·rw[h] at e;injection e with e;subst e
    exact⟨_,h2,iC_len _⟩
  rintro k e m3 ⟨j,x36,rfl,rfl,hj,hw,hL⟩
  simp only[List.cons_append,List.nil_append]
  simp(disch:=first|assumption|omega|(simp only[zl]<;>omega)|(simp only[zn])) only[↓zd,zk,seval,reduceIte,List.map,AV.cells,List.all,AV.one,eqV,eqAll,splice,fillA,List.replicate,resAll,resA,zm,zg,ev_len,hlen]
  refine CW_of (fun hc=>?_) (fun hc=>?_)
  ·simp only[decide_eq_true_eq] at hc
   rcases hro with⟨_,hx0⟩|⟨q,hvq,_⟩
   ·rw[hx0] at hc;simp at hc;omega
   ·obtain⟨L,hq1,hq2⟩:=hL q hvq
    have lq:=(List.getElem?_eq_some_iff.1 hq1).1
    subst hvq
    simp(disch:=first|assumption|omega|(simp only[zl]<;>omega)|(simp only[zn])) only[↓zd,zk,seval,reduceIte,List.map,AV.cells,List.all,AV.one,eqV,eqAll,splice,fillA,List.replicate,resAll,resA,zm,zg,hq1]
    refine⟨_,by omega,j+1,_,rfl,rfl,by omega,hw.set rfl _,fun q' e=>?_⟩
    injection e with e;subst e
    exact⟨_,List.getElem?_set_self lq,by simp[hq2]⟩
  ·simp only[decide_eq_false_iff_not] at hc
   have g5m:=(hw.2 (m.length+2) (fun n e=>by have:=hli' _ n e;omega)).trans g5'
   have g7m:=(hw.2 m1.length (fun n e=>by have:=hli' _ n e;omega)).trans g7
   have l53:=(List.getElem?_eq_some_iff.1 g5m).1
   simp(disch:=first|assumption|omega|(simp only[zl]<;>omega)|(simp only[zn])) only[↓zd,zk,seval,reduceIte,List.map,AV.cells,List.all,AV.one,eqV,eqAll,splice,fillA,List.replicate,resAll,resA,zm,zg,g5m,g7m,u1,u2,u3]
   have hp3:KPl (m1++[Chunk.cells 10 false (rC s.c gv1 pv1 mv1 s.spin)]) m3 P:=⟨by rw[hw.1];exact hp.1,fun k h1 h2=>(hw.2 k (fun n e=>by have:=hli' _ n e;simp at h1;omega)).trans (hp.2 k h1 h2)⟩
   have HP3:=HP.at (m':=m3) fun k hk=>hw.2 k fun n e=>by
    rcases hro with⟨h,_⟩|⟨q,h,h2⟩
    ·rw[h] at e;cases e
    ·rw[h] at e;injection e with e;subst e
     exact HP.ne1 hk _ h2
   exact do_fin H (kA.trans kB) hn hp3 HP3 (Nat.le_add_right _ _) (kB.get g5) rfl ⟨inb_sub i1 fun y hy=>List.mem_of_mem_drop hy,i2,i3,i4,i5⟩ R1 rfl _
 ·simp(disch:=first|assumption|omega|(simp only[zl]<;>omega)|(simp only[zn])) only[law15_does,↓zd,zk,seval,reduceIte,List.map,AV.cells,List.all,AV.one,eqV,eqAll,splice,fillA,List.replicate,resAll,resA,zm,zg,o1,o2,o3,o4,a87,hpick,hkk,a257]
  refine OK_fn (rputp_run R0 (by omega)) ?_
  rintro _ m1 ⟨k1,_,⟨gv1,pv1,mv1,rfl,t1,t2,t3⟩,rfl⟩
  have u1:=one_rw t1
  have u2:=one_rw t2
  have u3:=one_rw t3
  unfold AV.one at u1 u2 u3
  have kA:=k0.trans k1
  have kB:=Keep.app m1 [Chunk.cells 10 false (rC s.c gv1 pv1 mv1 s.spin)]
  have HM:=H.keep (kA.trans kB)
  have R1:=RP.k1 (s:={ s with ps:=addL s.ps s.c.n [a.n] }) ⟨gv1,pv1,mv1,rfl,t1,t2,t3⟩ kB.k1
  have g4:m1[m.length+1]?=some (.cells 3 false (aC a)):=k1.get (by simp[aC])
  have g5:m1[m.length+2]?=some (.cells 10 false Z10):=k1.get (by simp[Z10])
  have l4:=(List.getElem?_eq_some_iff.1 g4).1
  simp only[rC,aC] at g4 HM kB R1
  simp(disch:=first|assumption|omega|(simp only[zl]<;>omega)|(simp only[zn])) only[rC,↓zd,zk,seval,reduceIte,List.map,AV.cells,List.all,AV.one,eqV,eqAll,splice,fillA,List.replicate,resAll,resA,zm,zg,u1,u2,u3,g4,a227]
  refine OKT_fn (putp_run HM ⟨b1,b2,b3⟩) ?_
  rintro _ m2 ⟨P',hn,hp,HP,rfl⟩
  have g7:m2[m1.length]?=some (.cells 10 false (rC s.c gv1 pv1 mv1 s.spin)):=get_kpl H hp kA.1 (by simp[rC])
  have g5':m2[m.length+2]?=some (.cells 10 false Z10):=get_kpl H hp (by omega) (kB.get g5)
  have g4':m2[m.length+1]?=some (.cells 3 false (aC a)):=get_kpl H hp (by omega) (kB.get g4)
  have l5:=(List.getElem?_eq_some_iff.1 g5').1
  simp only[rC,aC,Z10] at g7 g5' g4'
  simp(disch:=first|assumption|omega|(simp only[zl]<;>omega)|(simp only[zn])) only[↓zd,zk,seval,reduceIte,List.map,AV.cells,List.all,AV.one,eqV,eqAll,splice,fillA,List.replicate,resAll,resA,zm,zg,g7,g5',g4',u1,u2,u3]
  exact do_fin H (kA.trans kB) hn hp HP (Nat.le_add_right _ _) (kB.get g5) rfl ⟨i1,inb_addL i2,i3,i4,i5⟩ R1 rfl _
 ·simp(disch:=first|assumption|omega|(simp only[zl]<;>omega)|(simp only[zn])) only[law15_does,↓zd,zk,seval,reduceIte,List.map,AV.cells,List.all,AV.one,eqV,eqAll,splice,fillA,List.replicate,resAll,resA,zm,zg,o1,o2,o3,o4,a87,hpick,hkk,a258]
  refine OK_fn (rputm_run R0 (by omega)) ?_
  rintro _ m1 ⟨k1,_,⟨gv1,pv1,mv1,rfl,t1,t2,t3⟩,rfl⟩
  have u1:=one_rw t1
  have u2:=one_rw t2
  have u3:=one_rw t3
  unfold AV.one at u1 u2 u3
  have kA:=k0.trans k1
  have kB:=Keep.app m1 [Chunk.cells 10 false (rC s.c gv1 pv1 mv1 s.spin)]
  have HM:=H.keep (kA.trans kB)
  have R1:=RP.k1 (s:={ s with ms:=addL s.ms s.c.m [a.n] }) ⟨gv1,pv1,mv1,rfl,t1,t2,t3⟩ kB.k1
  have g4:m1[m.length+1]?=some (.cells 3 false (aC a)):=k1.get (by simp[aC])
  have g5:m1[m.length+2]?=some (.cells 10 false Z10):=k1.get (by simp[Z10])
  have l4:=(List.getElem?_eq_some_iff.1 g4).1
  simp only[rC,aC] at g4 HM kB R1
  simp(disch:=first|assumption|omega|(simp only[zl]<;>omega)|(simp only[zn])) only[rC,↓zd,zk,seval,reduceIte,List.map,AV.cells,List.all,AV.one,eqV,eqAll,splice,fillA,List.replicate,resAll,resA,zm,zg,u1,u2,u3,g4,a228]
  refine OKT_fn (putm_run HM ⟨b1,b2,b3⟩) ?_
  rintro _ m2 ⟨P',hn,hp,HP,rfl⟩
  have g7:m2[m1.length]?=some (.cells 10 false (rC s.c gv1 pv1 mv1 s.spin)):=get_kpl H hp kA.1 (by simp[rC])
  have g5':m2[m.length+2]?=some (.cells 10 false Z10):=get_kpl H hp (by omega) (kB.get g5)
  have g4':m2[m.length+1]?=some (.cells 3 false (aC a)):=get_kpl H hp (by omega) (kB.get g4)
  have l5:=(List.getElem?_eq_some_iff.1 g5').1
  simp only[rC,aC,Z10] at g7 g5' g4'
  simp(disch:=first|assumption|omega|(simp only[zl]<;>omega)|(simp only[zn])) only[↓zd,zk,seval,reduceIte,List.map,AV.cells,List.all,AV.one,eqV,eqAll,splice,fillA,List.replicate,resAll,resA,zm,zg,g7,g5',g4',u1,u2,u3]
  exact do_fin H (kA.trans kB) hn hp HP (Nat.le_add_right _ _) (kB.get g5) rfl ⟨i1,i2,inb_addL i3,i4,i5⟩ R1 rfl _
 ·simp(disch:=first|assumption|omega|(simp only[zl]<;>omega)|(simp only[zn])) only[law15_does,↓zd,zk,seval,reduceIte,List.map,AV.cells,List.all,AV.one,eqV,eqAll,splice,fillA,List.replicate,resAll,resA,zm,zg,o1,o2,o3,o4,a87,hpick,hkk,a259]
  refine OK_fn (rtakep_run R0 (by omega)) ?_
  rintro _ m1 ⟨k1,_,⟨gv1,pv1,mv1,rfl,t1,t2,t3⟩,rfl⟩
  have u1:=one_rw t1
  have u2:=one_rw t2
  have u3:=one_rw t3
  unfold AV.one at u1 u2 u3
  have kA:=k0.trans k1
  have kB:=Keep.app m1 [Chunk.cells 10 false (rC s.c gv1 pv1 mv1 s.spin)]
  have HM:=H.keep (kA.trans kB)
  have R1:=RP.k1 (s:={ s with ps:=s.ps.tail }) ⟨gv1,pv1,mv1,rfl,t1,t2,t3⟩ kB.k1
  have g4:m1[m.length+1]?=some (.cells 3 false (aC a)):=k1.get (by simp[aC])
  have g5:m1[m.length+2]?=some (.cells 10 false Z10):=k1.get (by simp[Z10])
  have l4:=(List.getElem?_eq_some_iff.1 g4).1
  have hz:=head_ge i2
  simp only[rC,aC] at g4 HM kB R1
  simp(disch:=first|assumption|omega|(simp only[zl]<;>omega)|(simp only[zn])) only[rC,↓zd,zk,seval,reduceIte,List.map,AV.cells,List.all,AV.one,eqV,eqAll,splice,fillA,List.replicate,resAll,resA,zm,zg,u1,u2,u3,a229]
  refine OK_fn (takep_run HM ⟨b1,b2,b3⟩) ?_
  rintro _ m2 ⟨P',hn,hp,HP,rfl⟩
  have g7:m2[m1.length]?=some (.cells 10 false (rC s.c gv1 pv1 mv1 s.spin)):=get_kpl H hp kA.1 (by simp[rC])
  have g5':m2[m.length+2]?=some (.cells 10 false Z10):=get_kpl H hp (by omega) (kB.get g5)
  have g4':m2[m.length+1]?=some (.cells 3 false (aC a)):=get_kpl H hp (by omega) (kB.get g4)
  have l5:=(List.getElem?_eq_some_iff.1 g5').1
  simp only[rC,aC,Z10] at g7 g5' g4'
  simp(disch:=first|assumption|omega|(simp only[zl]<;>omega)|(simp only[zn])) only[↓zd,zk,seval,reduceIte,List.map,AV.cells,List.all,AV.one,eqV,eqAll,splice,fillA,List.replicate,resAll,resA,zm,zg,firstT,g7,g5',g4',u1,u2,u3,hz]
  exact do_fin H (kA.trans kB) hn hp HP (Nat.le_add_right _ _) (kB.get g5) rfl ⟨i1,inb_sub i2 fun y hy=>List.mem_of_mem_tail hy,i3,i4,i5⟩ R1 rfl _
 ·simp(disch:=first|assumption|omega|(simp only[zl]<;>omega)|(simp only[zn])) only[law15_does,↓zd,zk,seval,reduceIte,List.map,AV.cells,List.all,AV.one,eqV,eqAll,splice,fillA,List.replicate,resAll,resA,zm,zg,o1,o2,o3,o4,a87,hpick,hkk,a260]
  refine OK_fn (rtakem_run R0 (by omega)) ?_
  rintro _ m1 ⟨k1,_,⟨gv1,pv1,mv1,rfl,t1,t2,t3⟩,rfl⟩
  have u1:=one_rw t1
  have u2:=one_rw t2
  have u3:=one_rw t3
  unfold AV.one at u1 u2 u3
  have kA:=k0.trans k1
  have kB:=Keep.app m1 [Chunk.cells 10 false (rC s.c gv1 pv1 mv1 s.spin)]
  have HM:=H.keep (kA.trans kB)
  have R1:=RP.k1 (s:={ s with ms:=s.ms.tail }) ⟨gv1,pv1,mv1,rfl,t1,t2,t3⟩ kB.k1
  have g4:m1[m.length+1]?=some (.cells 3 false (aC a)):=k1.get (by simp[aC])
  have g5:m1[m.length+2]?=some (.cells 10 false Z10):=k1.get (by simp[Z10])
  have l4:=(List.getElem?_eq_some_iff.1 g4).1
  have hz:=head_ge i3
  simp only[rC,aC] at g4 HM kB R1
  simp(disch:=first|assumption|omega|(simp only[zl]<;>omega)|(simp only[zn])) only[rC,↓zd,zk,seval,reduceIte,List.map,AV.cells,List.all,AV.one,eqV,eqAll,splice,fillA,List.replicate,resAll,resA,zm,zg,u1,u2,u3,a230]
  refine OK_fn (takem_run HM ⟨b1,b2,b3⟩) ?_
  rintro _ m2 ⟨P',hn,hp,HP,rfl⟩
  have g7:m2[m1.length]?=some (.cells 10 false (rC s.c gv1 pv1 mv1 s.spin)):=get_kpl H hp kA.1 (by simp[rC])
  have g5':m2[m.length+2]?=some (.cells 10 false Z10):=get_kpl H hp (by omega) (kB.get g5)
  have g4':m2[m.length+1]?=some (.cells 3 false (aC a)):=get_kpl H hp (by omega) (kB.get g4)
  have l5:=(List.getElem?_eq_some_iff.1 g5').1
  simp only[rC,aC,Z10] at g7 g5' g4'
  simp(disch:=first|assumption|omega|(simp only[zl]<;>omega)|(simp only[zn])) only[↓zd,zk,seval,reduceIte,List.map,AV.cells,List.all,AV.one,eqV,eqAll,splice,fillA,List.replicate,resAll,resA,zm,zg,firstT,g7,g5',g4',u1,u2,u3,hz]
  exact do_fin H (kA.trans kB) hn hp HP (Nat.le_add_right _ _) (kB.get g5) rfl ⟨i1,i2,inb_sub i3 fun y hy=>List.mem_of_mem_tail hy,i4,i5⟩ R1 rfl _
 ·by_cases he:s.ps=[]∨s.ms=[]
  ·simp(disch:=first|assumption|omega|(simp only[zl]<;>omega)|(simp only[zn])) only[law15_does,↓zd,zk,seval,reduceIte,List.map,AV.cells,List.all,AV.one,eqV,eqAll,splice,fillA,List.replicate,resAll,resA,zm,zg,o1,o2,o3,o4,a87,hpick,hkk,a261]
   refine OK_fn (rboth_no R0 he) ?_
   rintro _ m1 ⟨k1,_,⟨gv1,pv1,mv1,rfl,t1,t2,t3⟩,rfl⟩
   have u1:=one_rw t1
   have u2:=one_rw t2
   have u3:=one_rw t3
   unfold AV.one at u1 u2 u3
   have kA:=k0.trans k1
   have kB:=Keep.app m1 [Chunk.cells 10 false (rC s.c gv1 pv1 mv1 s.spin)]
   have HM:=H.keep (kA.trans kB)
   have R1:=RP.k1 (s:=s) ⟨gv1,pv1,mv1,rfl,t1,t2,t3⟩ kB.k1
   have g4:m1[m.length+1]?=some (.cells 3 false (aC a)):=k1.get (by simp[aC])
   have g5:m1[m.length+2]?=some (.cells 10 false Z10):=k1.get (by simp[Z10])
   have l4:=(List.getElem?_eq_some_iff.1 g4).1
   simp only[rC,aC] at g4 HM kB R1
   simp(disch:=first|assumption|omega|(simp only[zl]<;>omega)|(simp only[zn])) only[rC,↓zd,zk,seval,reduceIte,List.map,AV.cells,List.all,AV.one,eqV,eqAll,splice,fillA,List.replicate,resAll,resA,zm,zg,u1,u2,u3,a231]
   refine OK_fn (both_no HM he) ?_
   rintro _ m2 ⟨rfl,rfl⟩
   have g5'':=kB.get g5
   simp only[Z10] at g5 g5''
   have l5:=(List.getElem?_eq_some_iff.1 g5).1
   simp(disch:=first|assumption|omega|(simp only[zl]<;>omega)|(simp only[zn])) only[↓zd,zk,seval,reduceIte,List.map,AV.cells,List.all,AV.one,eqV,eqAll,splice,fillA,List.replicate,resAll,resA,zm,zg,g5,u1,u2,u3]
   have:=do_fin H (kA.trans kB) (PN.refl _ P) (KPl.refl _ P) HM (Nat.le_add_right _ _) g5'' rfl ⟨i1,i2,i3,i4,i5⟩ R1 rfl (.cells 10 false (rC s.c gv1 pv1 mv1 s.spin))
   simpa [rC,l5] using this
  ·obtain⟨x,xs,hps⟩:=List.exists_cons_of_ne_nil (fun h=>he (.inl h))
   obtain⟨y,ys,hms⟩:=List.exists_cons_of_ne_nil (fun h=>he (.inr h))
   have hx0:decide (0≤x)=true:=by have:=head_ge i2;rw[hps] at this;exact this
   simp(disch:=first|assumption|omega|(simp only[zl]<;>omega)|(simp only[zn])) only[law15_does,↓zd,zk,seval,reduceIte,List.map,AV.cells,List.all,AV.one,eqV,eqAll,splice,fillA,List.replicate,resAll,resA,zm,zg,o1,o2,o3,o4,a87,hpick,hkk,a261]
   refine OK_fn (rboth_run R0 hps hms (by omega) (by omega)) ?_
   rintro _ m1 ⟨k1,_,⟨gv1,pv1,mv1,rfl,t1,t2,t3⟩,rfl⟩
   have u1:=one_rw t1
   have u2:=one_rw t2
   have u3:=one_rw t3
   unfold AV.one at u1 u2 u3
   have kA:=k0.trans k1
   have kB:=Keep.app m1 [Chunk.cells 10 false (rC s.c gv1 pv1 mv1 s.spin)]
   have HM:=H.keep (kA.trans kB)
   have R1:=RP.k1 (s:={ s with ps:=xs,ms:=ys }) ⟨gv1,pv1,mv1,rfl,t1,t2,t3⟩ kB.k1
   have g4:m1[m.length+1]?=some (.cells 3 false (aC a)):=k1.get (by simp[aC])
   have g5:m1[m.length+2]?=some (.cells 10 false Z10):=k1.get (by simp[Z10])
   have l4:=(List.getElem?_eq_some_iff.1 g4).1
   simp only[rC,aC] at g4 HM kB R1
   simp(disch:=first|assumption|omega|(simp only[zl]<;>omega)|(simp only[zn])) only[rC,↓zd,zk,seval,reduceIte,List.map,AV.cells,List.all,AV.one,eqV,eqAll,splice,fillA,List.replicate,resAll,resA,zm,zg,u1,u2,u3,a231]
   refine OK_fn (both_run HM ⟨b1,b2,b3⟩ hps hms) ?_
   rintro _ m2 ⟨P',hn,hp,HP,rfl⟩
   have g7:m2[m1.length]?=some (.cells 10 false (rC s.c gv1 pv1 mv1 s.spin)):=get_kpl H hp kA.1 (by simp[rC])
   have g5':m2[m.length+2]?=some (.cells 10 false Z10):=get_kpl H hp (by omega) (kB.get g5)
   have g4':m2[m.length+1]?=some (.cells 3 false (aC a)):=get_kpl H hp (by omega) (kB.get g4)
   have l5:=(List.getElem?_eq_some_iff.1 g5').1
   simp only[rC,aC,Z10] at g7 g5' g4'
   simp(disch:=first|assumption|omega|(simp only[zl]<;>omega)|(simp only[zn])) only[↓zd,zk,seval,reduceIte,List.map,AV.cells,List.all,AV.one,eqV,eqAll,splice,fillA,List.replicate,resAll,resA,zm,zg,g7,g5',g4',u1,u2,u3,hx0]
   exact do_fin H (kA.trans kB) hn hp HP (Nat.le_add_right _ _) (kB.get g5) rfl ⟨i1,inb_sub i2 fun z hz=>by rw[hps];exact List.mem_cons_of_mem _ hz,inb_sub i3 fun z hz=>by rw[hms];exact List.mem_cons_of_mem _ hz,i4,i5⟩ R1 rfl _
 ·simp(disch:=first|assumption|omega|(simp only[zl]<;>omega)|(simp only[zn])) only[law15_does,↓zd,zk,seval,reduceIte,List.map,AV.cells,List.all,AV.one,eqV,eqAll,splice,fillA,List.replicate,resAll,resA,zm,zg,o1,o2,o3,o4,a87,hpick,hkk,a262]
  refine OK_fn (raddspin_run R0 a.n i4 i5 (by omega) (by omega)) ?_
  rintro _ m1 ⟨k1,_,⟨gv1,pv1,mv1,rfl,t1,t2,t3⟩,rfl⟩
  have u1:=one_rw t1
  have u2:=one_rw t2
  have u3:=one_rw t3
  unfold AV.one at u1 u2 u3
  have kA:=k0.trans k1
  have kB:=Keep.app m1 [Chunk.cells 10 false (rC s.c gv1 pv1 mv1 (spinN s a.n))]
  have HM:=H.keep (kA.trans kB)
  have R1:=RP.k1 (s:={ s with spin:=spinN s a.n }) ⟨gv1,pv1,mv1,rfl,t1,t2,t3⟩ kB.k1
  have g4:m1[m.length+1]?=some (.cells 3 false (aC a)):=k1.get (by simp[aC])
  have g5:m1[m.length+2]?=some (.cells 10 false Z10):=k1.get (by simp[Z10])
  have l4:=(List.getElem?_eq_some_iff.1 g4).1
  simp only[rC,aC] at g4 HM kB R1
  simp(disch:=first|assumption|omega|(simp only[zl]<;>omega)|(simp only[zn])) only[rC,↓zd,zk,seval,reduceIte,List.map,AV.cells,List.all,AV.one,eqV,eqAll,splice,fillA,List.replicate,resAll,resA,zm,zg,u1,u2,u3,g4,a234]
  refine OKT_fn (addspin_run HM a.n) ?_
  rintro _ m2 ⟨P',hn,hp,HP,rfl⟩
  have g7:m2[m1.length]?=some (.cells 10 false (rC s.c gv1 pv1 mv1 (spinN s a.n))):=get_kpl H hp kA.1 (by simp[rC])
  have g5':m2[m.length+2]?=some (.cells 10 false Z10):=get_kpl H hp (by omega) (kB.get g5)
  have g4':m2[m.length+1]?=some (.cells 3 false (aC a)):=get_kpl H hp (by omega) (kB.get g4)
  have l5:=(List.getElem?_eq_some_iff.1 g5').1
  simp only[rC,aC,Z10] at g7 g5' g4'
  have l51:=(List.getElem?_eq_some_iff.1 g5).1
  have g7':∀ C,(m2.set (m.length+2) C)[m1.length]?=some (.cells 10 false _):=fun C=>(List.getElem?_set_ne (by omega)).trans g7
  simp(disch:=first|assumption|omega|(simp only[zl]<;>omega)|(simp only[zn])) only[↓zd,zk,seval,reduceIte,List.map,AV.cells,List.all,AV.one,eqV,eqAll,splice,fillA,List.replicate,resAll,resA,zm,zg,g7,g7',g5',g4',u1,u2,u3]
  obtain⟨s1,s2⟩:=spinN_b (s:=s) a.n (by omega)
  exact do_fin H (kA.trans kB) hn hp HP (Nat.le_add_right _ _) (kB.get g5) rfl ⟨i1,i2,i3,s1,s2⟩ R1 rfl _
end Go.Am.F15
end
section
namespace Go.Am.F15
open Go.Am.F10 (iC iC_at iC_len iC_one iC_app SI SI.val same_run Cf cfC rightP right_run Nx si_take si_drop si_row cutA dropA pick_eq)
open Go.Am.F06 (sqN sqT)
variable {X:Type}
def GPl:List (Nat × AFun X):=[(222,c_law15_few),(223,amFunc GWk law15_works),(224,amFunc GNw pool_New),(157,c_conf_Config_Right),(147,c_docs_Config),(241,amFunc G15n ref15_New),(242,amFunc GCo pool_Pool_Copy),(243,amFunc GDo law15_does),(244,amFunc GSP docs_SamePool),(232,c_pool_Pool_Batch),(245,c_ref15_Batch),(84,c_kit_SameInts),(246,amFunc GPS pool_Same)]
def plLoop:AC:=match sqN 6 law15_PoolPlays.body with | .seq _ (.block _ (.loop b))=>b|c=>c
def plB:AC:=match plLoop with | .seq _ (.seq (.block _ b) _)=>b|c=>c
def plC:AC:=match plLoop with | .seq c _=>c|c=>c
def plI:AC:=match plLoop with | .seq _ (.seq _ i)=>i|c=>c
def plR:AC:=.region [⟨.mov,[.c (.int .i64 0)],some 6,none⟩]
def plEnd:AC:=sqT 7 law15_PoolPlays.body
def plT:AC:=sqT 5 plB
theorem pl_body:law15_PoolPlays.body = .seq (sqN 0 law15_PoolPlays.body) (.seq (sqN 1 law15_PoolPlays.body) (.seq (sqN 2 law15_PoolPlays.body) (.seq (sqN 3 law15_PoolPlays.body) (.seq (sqN 4 law15_PoolPlays.body) (.seq (sqN 5 law15_PoolPlays.body)
  (.seq (.seq plR (.block 0 (.loop (.seq plC (.seq (.block 1 (.seq (sqN 0 plB) (.seq (sqN 1 plB) (.seq (sqN 2 plB) (.seq (sqN 3 plB) (.seq (sqN 4 plB) plT)))))) plI))))) plEnd)))))):=rfl
def RB(m:Mem X) (b:Nat) (s:Pc):Prop:=∃ gv pv mv,m[b]?=some (.cells 10 false (rC s.c gv pv mv s.spin))∧RW m s.g gv∧RW m s.ps pv∧RW m s.ms mv
theorem RB.keep{m m':Mem X} {b:Nat} {s:Pc} (h:RB m b s) (k:Keep m m'):RB m' b s:=by
 obtain⟨gv,pv,mv,h0,h1,h2,h3⟩:=h
 exact⟨gv,pv,mv,k.get h0,h1.k1 k.k1,h2.k1 k.k1,h3.k1 k.k1⟩
def PlN(m0:Mem X) (c:Cf) (cb p rb i:Nat) (a0 a1:AV) (e:List AV) (m:Mem X):Prop:=∃ (P:Pla) (s:Pc) (x7 x8 x9 x10 x11 x12 x13 x14 x15 x16:AV),
 e=[a0,a1,.ptr cb 0,.bool false,.ptr p 0,.ptr rb 0,.int .i64 i,x7,x8,x9,x10,x11,x12,x13,x14,x15,x16]∧Keep m0 m∧P.p=p∧PO m P s∧(∀ k,P.has k→m0.length≤k)∧s.c=c∧Inb s∧m0.length≤rb∧RB m rb s
theorem same_rb(s t:Pc) (h:s.c=t.c):samePB s t=sameRB s t:=by
 unfold samePB sameRB
 rw[h,Bool.eq_iff_iff]
 simp only[decide_true,Bool.true_and,Bool.and_eq_true,decide_eq_true_eq]
 constructor
 ·rintro⟨a,b,c,d⟩;exact⟨b,c,d,a⟩
 ·rintro⟨b,c,d,a⟩;exact⟨a,b,c,d⟩
theorem same_self(s:Pc):sameRB s s=true:=by simp[sameRB]
theorem AS.row{m:Mem X} {l:List Act} {v:AV} (h:AS m l v) {i:Nat} {a:Act} (ha:l[i]?=some a):∃ q o cap ro L,v = .sl q o l.length cap∧m[q]?=some (.cells 3 ro L)∧o+l.length * 3≤L.length∧L[o+i * 3+2]?=some a.v∧(L.drop (o+i * 3)).take 3=aC a:=by
 have hi:i < l.length:=(List.getElem?_eq_some_iff.1 ha).1
 obtain⟨q,o,cap,ro,L,h1,h2,h3,h4,_⟩:=h.1.at (by omega)
 refine⟨q,o,cap,ro,L,h1,h2,h4,?_,?_⟩
 ·rw[Nat.add_assoc,sl_get h3 (by omega),rows_at aC_len ha (by decide:2 < 3)];rfl
 ·have:=rows_part aC_len ha
  rw[← h3,List.drop_take,List.take_take,List.drop_drop,Nat.min_eq_left (by omega)] at this
  exact this
set_option maxRecDepth 100000 in
set_option maxHeartbeats 16000000 in
theorem plT_run{m0 m:Mem X} {c:Cf} {cb p rb p2 b8 i b10:Nat} {a0 a1 v9 x12 x13 x14 x15 x16:AV} {P Q:Pla} {s t:Pc} {ats:List Act} {a:Act} (hr:rightP c) (hA:AS m0 ats a1) (ha:ats[i]?=some a) (hal:a.l.length≤20)
  (hk:Keep m0 m) (hP:P.p=p) (H:PO m P s) (hf:∀ k,P.has k→m0.length≤k) (hc:s.c=c) (hin:Inb s) (hrb:m0.length≤rb) (R:RB m rb s) (hQ:Q.p=p2) (K:PO m Q t) (htc:t.c=c) (htn:Inb t) (S8:RB m b8 t) (h9:SI m true a.l v9) :
  W GPl plT (fun y e' m'=>y = .normal∧PlN m0 c cb p rb i a0 a1 e' m') [a0,a1,.ptr cb 0,.bool false,.ptr p 0,.ptr rb 0,.int .i64 i,.ptr p2 0,.ptr b8 0,v9,.ptr b10 0,.bool true,x12,x13,x14,x15,x16] m:=by
 have a242:assoc (GPl (X:=X)) 242=some (amFunc GCo pool_Pool_Copy):=rfl
 have a244:assoc (GPl (X:=X)) 244=some (amFunc GSP docs_SamePool):=rfl
 have a232:assoc (GPl (X:=X)) 232=some c_pool_Pool_Batch:=rfl
 have a245:assoc (GPl (X:=X)) 245=some c_ref15_Batch:=rfl
 have a84:assoc (GPl (X:=X)) 84=some c_kit_SameInts:=rfl
 have a246:assoc (GPl (X:=X)) 246=some (amFunc GPS pool_Same):=rfl
 generalize (GPl (X:=X))=G at a242 a244 a232 a245 a84 a246 ⊢
 subst hP;subst hQ
 have bs:=H.bd hin (by rw[hc];exact hr)
 have bt:=K.bd htn (by rw[htc];exact hr)
 obtain⟨gv,pv,mv,gR,r1,r2,r3⟩:=R
 obtain⟨gv',pv',mv',g8,w1,w2,w3⟩:=S8
 have RR:RP m s (.agg (rC s.c gv pv mv s.spin)):=⟨gv,pv,mv,rfl,r1,r2,r3⟩
 have SS:RP m t (.agg (rC t.c gv' pv' mv' t.spin)):=⟨gv',pv',mv',rfl,w1,w2,w3⟩
 have hss:=same_self s
 have htt:=same_self t
 have hst:=same_rb s t (hc.trans htc.symm)
 simp only[rC] at gR g8 RR SS
 simp(disch:=first|assumption|omega|(simp only[zl]<;>omega)|(simp only[zn])) only[plT,plB,plLoop,sqN,sqT,law15_PoolPlays,↓zd,zk,seval,reduceIte,List.map,AV.cells,List.all,AV.one,eqV,eqAll,splice,fillA,List.replicate,resAll,resA,zm,zg,gR,a244]
 refine OKT_fn (samepool_run H bs RR) ?_
 rintro _ m1 ⟨rfl,k1⟩
 rw[hss]
 have gR1:=k1.get gR
 simp(disch:=first|assumption|omega|(simp only[zl]<;>omega)|(simp only[zn])) only[↓zd,zk,seval,reduceIte,List.map,AV.cells,List.all,AV.one,eqV,eqAll,splice,fillA,List.replicate,resAll,resA,zm,zg,gR1,a244]
 refine OKT_fn (samepool_run (H.keep k1) bs (RR.k1 k1.k1)) ?_
 rintro _ m2 ⟨rfl,k2⟩
 rw[hss]
 have g82:=k2.get (k1.get g8)
 have gR2:=k2.get gR1
 simp(disch:=first|assumption|omega|(simp only[zl]<;>omega)|(simp only[zn])) only[↓zd,zk,seval,reduceIte,List.map,AV.cells,List.all,AV.one,eqV,eqAll,splice,fillA,List.replicate,resAll,resA,zm,zg,g82,a244]
 refine OKT_fn (samepool_run (K.keep (k1.trans k2)) bt (SS.k1 (k1.trans k2).k1)) ?_
 rintro _ m3 ⟨rfl,k3⟩
 rw[htt]
 have kk3:=k1.trans (k2.trans k3)
 have H3:=H.keep kk3
 have gR3:=k3.get gR2
 have hn0:s.c.n≠0:=by rw[hc];have:=hr.1;omega
 have hb3:=batch_eq H3 hn0
 obtain⟨m4,hb4,k4⟩:=rbatch_eq (RR.k1 kk3.k1) hn0
 have kk4:=kk3.trans k4
 obtain⟨q,o,cap,ro,L,rfl,gq,gl,gv2,_⟩:=hA.row ha
 have gq4:=(hk.trans kk4).get gq
 have hil:=(List.getElem?_eq_some_iff.1 ha).1
 have ha4:=(hA.2 a (List.mem_of_getElem? ha)).keep (hk.trans kk4)
 have hsi:=same_eq (h9.keep kk4) ha4 (by omega)
 simp(disch:=first|assumption|omega|(simp only[zl]<;>omega)|(simp only[zn])) only[↓zd,zk,seval,reduceIte,List.map,AV.cells,List.all,AV.one,eqV,eqAll,splice,fillA,List.replicate,resAll,resA,zm,zg,a232,hb3,gR3,a245,hb4,gq4,gv2,a84,hsi,a242]
 have H4:=H.keep kk4
 refine OKT_fn (pcopy_run H4 bs) ?_
 rintro _ m5 ⟨p3,rfl,k5,P3,rfl,HP3,_⟩
 have H5:=H4.keep k5
 simp(disch:=first|assumption|omega|(simp only[zl]<;>omega)|(simp only[zn])) only[↓zd,zk,seval,reduceIte,List.map,AV.cells,List.all,AV.one,eqV,eqAll,splice,fillA,List.replicate,resAll,resA,zm,zg,a246]
 refine OKT_fn (psame_run H5 HP3 bs bs) ?_
 rintro _ m6 ⟨rfl,k6⟩
 rw[same_rb s s rfl,hss]
 have kk6:=kk4.trans (k5.trans k6)
 simp(disch:=first|assumption|omega|(simp only[zl]<;>omega)|(simp only[zn])) only[↓zd,zk,seval,reduceIte,List.map,AV.cells,List.all,AV.one,eqV,eqAll,splice,fillA,List.replicate,resAll,resA,zm,zg,a246]
 refine OKT_fn (psame_run (H.keep kk6) (K.keep kk6) bs bt) ?_
 rintro _ m7 ⟨rfl,k7⟩
 have kk7:=kk6.trans k7
 have g87:=kk7.get g8
 have g86:=kk6.get g8
 simp(disch:=first|assumption|omega|(simp only[zl]<;>omega)|(simp only[zn])) only[↓zd,zk,seval,reduceIte,List.map,AV.cells,List.all,AV.one,eqV,eqAll,splice,fillA,List.replicate,resAll,resA,zm,zg,g87,a244]
 refine OKT_fn (samepool_run (H.keep kk7) bs (SS.k1 kk7.k1)) ?_
 rintro _ m8 ⟨rfl,k8⟩
 rw[hst]
 simp(disch:=first|assumption|omega|(simp only[zl]<;>omega)|(simp only[zn])) only[↓zd,zk,seval,reduceIte,List.map,AV.cells,List.all,AV.one,eqV,eqAll,splice,fillA,List.replicate,resAll,resA,zm,zg,gR,gR1,gR2,gR3,g86,g87]
 have kk8:=kk7.trans k8
 exact⟨P,s,_,_,_,_,_,_,_,_,_,_,rfl,hk.trans kk8,rfl,H.keep kk8,hf,hc,hin,hrb,gv,pv,mv,kk8.get gR,r1.k1 kk8.k1,r2.k1 kk8.k1,r3.k1 kk8.k1⟩
end Go.Am.F15
end
section
namespace Go.Am.F15
open Go.Am.F10 (iC iC_at iC_len iC_one iC_app SI SI.val same_run Cf cfC rightP right_run Nx si_take si_drop si_row cutA dropA pick_eq)
open Go.Am.F06 (sqN sqT)
variable {X:Type}
theorem PO.at_kk{m m':Mem X} {P Q:Pla} {t:Pc} (K:PO m Q t) (h:KPl m m' P) (hd:∀ k,Q.has k→¬ P.has k):PO m' Q t:=K.at fun k hk=>h.2 k (K.lt hk) (hd k hk)
theorem PO.ne10{m:Mem X} {P:Pla} {s:Pc} (H:PO m P s) {b:Nat} {l:List AV} (g:m[b]?=some (.cells 10 false l)):¬ P.has b:=fun hk=>by
 have key:∀ {i j xs},LN m i j xs→b≠i:=fun hl hki=>by
  obtain⟨l',hc⟩:=hl.cell
  rw[← hki,g] at hc;injection hc with hc;injection hc with hc;exact absurd hc (by decide)
 have key2:∀ {i j xs},LN m i j xs→j≠some b:=fun hl hj=>by
  obtain⟨tb,c,ht⟩:=hl.tab hj
  rw[ht] at g;cases g
 rcases hk with hk|hk|hk|hk|hk|hk|hk
 ·have:=H.gp;rw[← hk,g] at this;injection this with this;injection this with this;exact absurd this (by decide)
 ·exact key H.l1 hk
 ·exact key H.l2 hk
 ·exact key H.l3 hk
 ·exact key2 H.l1 hk
 ·exact key2 H.l2 hk
 ·exact key2 H.l3 hk
theorem PO.put10{m:Mem X} {P:Pla} {s:Pc} (H:PO m P s) {b:Nat} {l:List AV} (g:m[b]?=some (.cells 10 false l)) (C:Chunk X):PO (m.set b C) P s :=
 H.at fun k hk=>List.getElem?_set_ne (fun e=>H.ne10 g (by rw[e];exact hk))
def PlA(m0:Mem X) (c:Cf) (cb p rb i:Nat) (a0 a1:AV) (a:Act) (e:List AV) (m:Mem X):Prop:=∃ (P Q:Pla) (s t:Pc) (p2 b8 b10:Nat) (v9 x12 x13 x14 x15 x16:AV),
 e=[a0,a1,.ptr cb 0,.bool false,.ptr p 0,.ptr rb 0,.int .i64 i,.ptr p2 0,.ptr b8 0,v9,.ptr b10 0,.bool true,x12,x13,x14,x15,x16]∧Keep m0 m∧P.p=p∧PO m P s∧(∀ k,P.has k→m0.length≤k)∧s.c=c∧Inb s∧m0.length≤rb∧RB m rb s ∧
 Q.p=p2∧PO m Q t∧t.c=c∧Inb t∧RB m b8 t∧SI m true a.l v9
set_option maxRecDepth 100000 in
set_option maxHeartbeats 16000000 in
theorem plS_run{m0 m:Mem X} {c:Cf} {cb p rb i:Nat} {a0 a1:AV} {ats:List Act} {a:Act} {e:List AV} (hr:rightP c) (hA:AS m0 ats a1) (hF:∀ a ∈ ats,Fit a.v) (ha:ats[i]?=some a) (hal:a.l.length≤20) (h:PlN m0 c cb p rb i a0 a1 e m) {R:AC} {Y:AX→List AV→Mem X→Prop}
  (hK:∀ e' m',PlA m0 c cb p rb i a0 a1 a e' m'→W GPl R Y e' m'):W GPl (sqN 0 plB) (thenQ Y (W GPl (.seq (sqN 1 plB) (.seq (sqN 2 plB) (.seq (sqN 3 plB) (.seq (sqN 4 plB) R)))) Y)) e m:=by
 have a242:assoc (GPl (X:=X)) 242=some (amFunc GCo pool_Pool_Copy):=rfl
 have a243:assoc (GPl (X:=X)) 243=some (amFunc GDo law15_does):=rfl
 generalize (GPl (X:=X))=G at a242 a243 hK ⊢
 obtain⟨P,s,x7,x8,x9,x10,x11,x12,x13,x14,x15,x16,rfl,hk,rfl,H,hf,hc,hin,hrb,gv,pv,mv,gR,r1,r2,r3⟩:=h
 have bs:=H.bd hin (by rw[hc];exact hr)
 have o1:=one_rw r1
 have o2:=one_rw r2
 have o3:=one_rw r3
 unfold AV.one at o1 o2 o3
 have hil:=(List.getElem?_eq_some_iff.1 ha).1
 obtain⟨q,o,cap,ro,L,rfl,gq,gl,gv2,grow⟩:=hA.row ha
 have hgl:o+i * 3+3≤L.length:=by omega
 have hav:=hA.2 a (List.mem_of_getElem? ha)
 have kz:=Keep.app m [Chunk.cells 10 false Z10]
 have HZ:=H.keep kz
 have lR:=(List.getElem?_eq_some_iff.1 gR).1
 simp only[rC,Z10] at gR kz HZ
 simp(disch:=first|assumption|omega|(simp only[zl]<;>omega)|(simp only[zn])) only[plB,plLoop,sqN,law15_PoolPlays,↓zd,zk,seval,reduceIte,List.map,AV.cells,List.all,AV.one,eqV,eqAll,splice,fillA,List.replicate,resAll,resA,zm,zg,a242]
 refine OKT_fn (pcopy_run HZ bs) ?_
 rintro _ m1 ⟨p2,rfl,k1,Q,rfl,K,hQ⟩
 have kk1:=kz.trans k1
 have gR1:=kk1.get gR
 have g8:m1[m.length]?=some (.cells 10 false Z10):=k1.get (by simp[Z10])
 have l8:=(List.getElem?_eq_some_iff.1 g8).1
 simp only[Z10] at g8
 have kM:Keep m (m1.set m.length (.cells 10 false (rC s.c gv pv mv s.spin))):=kk1.set (Nat.le_refl _) _
 have gq2:=(hk.trans kM).get gq
 obtain⟨v9,m3,e9,L9,k3⟩:=lv_new (hav.keep (hk.trans kM)) (by omega)
 have KM:=K.put10 g8 (.cells 10 false (rC s.c gv pv mv s.spin))
 have g8M:(m1.set m.length (.cells 10 false (rC s.c gv pv mv s.spin)))[m.length]?=some (.cells 10 false (rC s.c gv pv mv s.spin)):=List.getElem?_set_self l8
 simp only[rC] at gq2 e9 KM g8M kM k3 L9
 simp(disch:=first|assumption|omega|(simp only[zl]<;>omega)|(simp only[zn])) only[↓zd,zk,seval,reduceIte,List.map,AV.cells,List.all,AV.one,eqV,eqAll,splice,fillA,List.replicate,resAll,resA,zm,zg,gR,gR1,g8,o1,o2,o3,gq2,gv2,evA,e9]
 have kk3:=kM.trans k3
 have kz3:=Keep.app m3 [Chunk.cells 10 false Z10]
 have H3:=H.keep (kk3.trans kz3)
 have K3:=KM.keep (k3.trans kz3)
 have gR3:=kk3.get gR
 have l3R:=(List.getElem?_eq_some_iff.1 gR3).1
 have gq3:=(hk.trans kk3).get gq
 have l3q:=(List.getElem?_eq_some_iff.1 gq3).1
 have g83:=k3.get g8M
 have l38:=(List.getElem?_eq_some_iff.1 g83).1
 have RR:=RP.k1 (s:=s) ⟨gv,pv,mv,rfl,r1,r2,r3⟩ (kk3.trans kz3).k1
 have hav3:=hav.keep (hk.trans (kk3.trans kz3))
 have hag:aC a=[.int .i64 a.k,.int .i64 a.n,a.v]:=rfl
 simp only[Z10,rC] at kz3 H3 K3 RR hav3
 have hdr:=does_run H3 (by rw[hc];exact hr) hin RR hav3 (hF a (List.mem_of_getElem? ha)) hal
 simp(disch:=first|assumption|omega|(simp only[zl]<;>omega)|(simp only[zn])) only[↓zd,zk,seval,reduceIte,List.map,AV.cells,List.all,AV.one,eqV,eqAll,splice,fillA,List.replicate,resAll,resA,zm,zg,gR3,gq3,grow,o1,o2,o3,a243]
 refine OKT_fn hdr ?_
 rintro _ m4 ⟨P',s',v',hn,hp,HP,hsc,hi',⟨gv',pv',mv',rfl,w1,w2,w3⟩,rfl⟩
 have u1:=one_rw w1
 have u2:=one_rw w2
 have u3:=one_rw w3
 unfold AV.one at u1 u2 u3
 have kk4:KK (m3++[Chunk.cells 10 false Z10]) m4:=H3.kk hp
 have gA:m4[m3.length]?=some (.cells 10 false Z10):=kk4.2 _ _ _ _ (by simp) (by decide) (by decide)
 have lA:=(List.getElem?_eq_some_iff.1 gA).1
 have gR4:=kk4.2 _ _ _ _ (kz3.get gR3) (by decide) (by decide)
 have lR4:=(List.getElem?_eq_some_iff.1 gR4).1
 simp only[Z10,rC] at gA gR4
 simp(disch:=first|assumption|omega|(simp only[zl]<;>omega)|(simp only[zn])) only[rC,↓zd,zk,seval,reduceIte,List.map,AV.cells,List.all,AV.one,eqV,eqAll,splice,fillA,List.replicate,resAll,resA,zm,zg,gA,gR4,u1,u2,u3,gR3,gq3,grow,o1,o2,o3]
 have ne3:m3.length≠rb:=by omega
 have gRs:∀ C,(m4.set m3.length C)[rb]?=some (.cells 10 false _):=fun C=>(List.getElem?_set_ne ne3).trans gR4
 have k1s:∀ C D,K1 m4 ((m4.set m3.length C).set rb D):=fun C D=>((K1.refl m4).set gA (by decide) C).set (gRs C) (by decide) D
 have hlz:=kz3.1
 have hl3:=kk3.1
 have g84:=kk4.2 _ _ _ _ (kz3.get g83) (by decide) (by decide)
 have k1m:∀ C D,K1 m ((m4.set m3.length C).set rb D):=fun C D=>((kk3.trans kz3).k1.trans kk4.k1).trans (k1s C D)
 have hkl:=hk.1
 have hpl:=hp.1
 refine hK _ _ ⟨P',Q,s',s,_,_,_,_,_,_,_,_,_,rfl,⟨?_,fun k h1=>?_⟩,hn.1,(HP.put10 gA _).put10 (gRs _) _,fun k h1=>?_,hsc.trans hc,hi',hrb,
  ⟨gv',pv',mv',List.getElem?_set_self (by simpa using lR4),w1.k1 (k1s _ _),w2.k1 (k1s _ _),w3.k1 (k1s _ _)⟩,rfl,((K3.at_kk hp ?_).put10 gA _).put10 (gRs _) _,hc,hin,⟨gv,pv,mv,?_,r1.k1 (k1m _ _),r2.k1 (k1m _ _),r3.k1 (k1m _ _)⟩,((L9.rw.k1 (kz3.k1.trans kk4.k1)).k1 (k1s _ _)).1⟩
 ·simp only[List.length_set];omega
 ·rw[List.getElem?_set_ne (by omega),List.getElem?_set_ne (by omega)]
  exact(hp.2 k (by omega) (fun h=>by have:=hf k h;omega)).trans ((hk.trans (kk3.trans kz3)).2 k h1)
 ·rcases Nat.lt_or_ge k (m3++[Chunk.cells 10 false [AV.int .i64 0,.int .i64 0,.int .i64 0,.int .i64 0,.int .i64 0,.int .i64 0,.nils,.nils,.nils,.int .i64 0]]).length with hl|hl
  ·exact hf k (hn.has hl h1)
  ·omega
 ·intro k h1 h2
  have:=hQ k h1
  have:=H.lt h2
  simp at *;omega
 ·rw[List.getElem?_set_ne (by omega),List.getElem?_set_ne (by omega)]
  exact g84
end Go.Am.F15
end
section
namespace Go.Am.F15
open Go.Am.F10 (iC iC_at iC_len iC_one iC_app SI SI.val same_run Cf cfC rightP right_run Nx si_take si_drop si_row cutA dropA madeC made_eq pick_eq)
open Go.Am.F06 (sqN sqT)
variable {X:Type}
theorem inb_from{a n:Int} (h:0≤a):inbB n (fromL a n)=true:=by
 unfold inbB
 rw[List.all_eq_true]
 intro x hx
 rw[mem_fromL] at hx
 simp;omega
end Go.Am.F15
end
section
namespace Go.Am.F15
open Go.Am.F10 (iC iC_at iC_len iC_one iC_app SI SI.val same_run Cf cfC rightP right_run Nx si_take si_drop si_row cutA dropA pick_eq)
open Go.Am.F06 (sqN sqT)
variable {X:Type}
def PlJ(m0:Mem X) (c:Cf) (cb p rb:Nat) (n:Nat) (a0 a1:AV) (k:Nat) (e:List AV) (m:Mem X):Prop:=∃ i:Nat,k=n - i∧i≤n∧PlN m0 c cb p rb i a0 a1 e m
theorem few_all{ats:List Act} {n:Nat} (h:fewB ats n=true):ats.length≤n∧∀ a ∈ ats,a.l.length≤20:=by
 simp only[fewB,Bool.and_eq_true,decide_eq_true_eq,List.all_eq_true] at h
 refine⟨h.2,fun a ha=>?_⟩
 have:=h.1 a (by rw[List.take_of_length_le (by omega)];exact ha)
 simpa using this
set_option maxRecDepth 100000 in
set_option maxHeartbeats 16000000 in
theorem plays_run{m:Mem X} {c:Cf} {ats:List Act} {a1:AV} (hA:AS m ats a1) (hF:∀ a ∈ ats,Fit a.v):Fn GPl law15_PoolPlays [.agg (cfC c),a1] m (fun r m'=>r = .bool true∧Keep m m'):=by
 have a222:assoc (GPl (X:=X)) 222=some (amFunc [] law15_few):=rfl
 have a223:assoc (GPl (X:=X)) 223=some (amFunc GWk law15_works):=rfl
 have a224:assoc (GPl (X:=X)) 224=some (amFunc GNw pool_New):=rfl
 have a157:assoc (GPl (X:=X)) 157=some c_conf_Config_Right:=rfl
 have a147:assoc (GPl (X:=X)) 147=some c_docs_Config:=rfl
 have a241:assoc (GPl (X:=X)) 241=some (amFunc G15n ref15_New):=rfl
 have hT:=@plT_run X
 have hS:=@plS_run X
 generalize (GPl (X:=X))=G at a222 a223 a224 a157 a147 a241 hT hS ⊢
 have hrt:∀ m:Mem X,c_conf_Config_Right [.agg (cfC c)] m=some (.bool (decide (rightP c)),m++[.cells 6 false (cfC c)]):=fun m=>Fn_eq (right_run c)
 have k0:=Keep.app m [Chunk.cells 6 false (cfC c)]
 have hfew:amFunc [] law15_few [a1,.int .i64 60] (m++[Chunk.cells 6 false (cfC c)])=some (.bool (fewB ats 60),m++[Chunk.cells 6 false (cfC c)]):=Fn_eq (few_run (hA.keep k0) (most:=60) (by decide))
 have hcf:=config_eq (X:=X) c
 simp only[cfC] at hrt hfew hcf
 refine Fn_of rfl ?_
 rw[pl_body]
 cases hf:fewB ats 60 with
 | false =>
  rw[hf] at hfew
  simp(disch:=first|assumption|omega|(simp only[zl]<;>omega)|(simp only[zn])) only[sqN,law15_PoolPlays,↓zd,zk,seval,reduceIte,List.map,AV.cells,List.all,AV.one,eqV,eqAll,splice,fillA,List.replicate,resAll,resA,zm,zg,cfC,a222,hfew,a223]
  refine OK_fn works_run ?_
  rintro _ m1 ⟨rfl,hk1⟩
  simp(disch:=first|assumption|omega|(simp only[zl]<;>omega)|(simp only[zn])) only[↓zd,zk,seval,reduceIte,List.map,AV.cells,List.all,AV.one,eqV,eqAll,splice,fillA,List.replicate,resAll,resA,zm,zg]
  exact k0.trans hk1
 | true =>
  rw[hf] at hfew
  obtain⟨hal,ha20⟩:=few_all hf
  by_cases hr:rightP c
  ·have hd:decide (rightP c)=true:=decide_eq_true hr
   rw[hd] at hrt
   simp(disch:=first|assumption|omega|(simp only[zl]<;>omega)|(simp only[zn])) only[sqN,law15_PoolPlays,↓zd,zk,seval,reduceIte,List.map,AV.cells,List.all,AV.one,eqV,eqAll,splice,fillA,List.replicate,resAll,resA,zm,zg,cfC,a222,hfew,a224]
   refine OK_fn (new_run (c:=c) hr) ?_
   rintro _ m1 ⟨p,rfl,hk1,P,rfl,H1,hP⟩
   have g1:m1[m.length]?=some (.cells 6 false (cfC c)):=hk1.get (by simp[cfC])
   have l1:=(List.getElem?_eq_some_iff.1 g1).1
   have k2:=Keep.app m1 [Chunk.cells 6 false (cfC c)]
   simp only[cfC] at g1 k2
   simp(disch:=first|assumption|omega|(simp only[zl]<;>omega)|(simp only[zn])) only[sqN,law15_PoolPlays,↓zd,zk,seval,reduceIte,List.map,AV.cells,List.all,AV.one,eqV,eqAll,splice,fillA,List.replicate,resAll,resA,zm,zg,g1,a157,hrt,a147,hcf,a241]
   have k3:=Keep.app m1 [Chunk.cells 6 false (cfC c),Chunk.cells 6 false (cfC c),Chunk.cells 6 false (cfC c)]
   simp only[cfC] at k3
   refine OK_fn (rnew_run (c:=c) (by have:=hr.1;omega) (by have:=hr.2.2.2.1;omega)) ?_
   rintro _ m2 ⟨k4,_,⟨gv,pv,mv,rfl,r1,r2,r3⟩,rfl⟩
   have o1:=one_rw r1
   have o2:=one_rw r2
   have o3:=one_rw r3
   unfold AV.one at o1 o2 o3
   have kB:=Keep.app m2 [Chunk.cells 10 false (rC c gv pv mv 0)]
   have kk:=(k0.trans hk1).trans (k3.trans (k4.trans kB))
   have H9:=H1.keep (k3.trans (k4.trans kB))
   have hlen:=hA.1.len
   simp only[rC] at kB
   simp(disch:=first|assumption|omega|(simp only[zl]<;>omega)|(simp only[zn])) only[rC,↓zd,zk,seval,reduceIte,List.map,AV.cells,List.all,AV.one,eqV,eqAll,splice,fillA,List.replicate,resAll,resA,zm,zg,plR,newS,o1,o2,o3]
   have hm2:m.length≤m2.length:=Nat.le_trans (k0.trans hk1).1 (Nat.le_trans k3.1 k4.1)
   refine W_loop (PlJ m c m.length P.p m2.length ats.length (.agg (cfC c)) a1) ats.length (by unfold FUEL;omega) ⟨0,rfl,Nat.zero_le _,P,newS c,_,_,_,_,_,_,_,_,_,_,rfl,kk,rfl,H9,fun k hk=>?_,rfl,⟨rfl,inb_from (by decide),inb_from (by decide),Int.le_refl _,by show (0:Int)≤c.m;have:=hr.2.2.2.1;have:=hr.1;omega⟩,hm2,gv,pv,mv,get_concat,r1.k1 kB.k1,r2.k1 kB.k1,r3.k1 kB.k1⟩ ?_
   ·have:=hP k hk;simp at this;omega
   rintro k e m' ⟨i,rfl,hi,hN⟩
   have hN':=hN
   obtain⟨P9,s9,x7,x8,x9,x10,x11,x12,x13,x14,x15,x16,rfl,hkN,_⟩:=hN'
   simp(disch:=first|assumption|omega|(simp only[zl]<;>omega)|(simp only[zn])) only[↓zd,zk,seval,reduceIte,List.map,AV.cells,List.all,AV.one,eqV,eqAll,splice,fillA,List.replicate,resAll,resA,zm,zg,plC,plLoop,sqN,law15_PoolPlays,ev_len,hlen]
   refine CW_of (fun h=>?_) (fun h=>?_)
   ·simp only[decide_eq_true_eq] at h
    obtain⟨a,hai⟩:∃ a,ats[i]?=some a:=⟨_,List.getElem?_eq_getElem (by omega)⟩
    have hla:=ha20 a (List.mem_of_getElem? hai)
    have hN2:∀ v,PlN m c m.length P.p m2.length i (.agg (cfC c)) a1 [.agg (cfC c),a1,.ptr m.length 0,.bool false,.ptr P.p 0,.ptr m2.length 0,.int .i64 i,x7,x8,x9,x10,x11,x12,x13,x14,v,x16] m':=fun v=>by
     obtain⟨P8,s8,y7,y8,y9,y10,y11,y12,y13,y14,y15,y16,he,hrest⟩:=hN
     exact⟨P8,s8,x7,x8,x9,x10,x11,x12,x13,x14,_,x16,rfl,hrest⟩
    simp(disch:=first|assumption|omega|(simp only[zl]<;>omega)|(simp only[zn])) only[↓zd,zk,seval,reduceIte,List.map,AV.cells,List.all,AV.one,eqV,eqAll,splice,fillA,List.replicate,resAll,resA,zm,zg]
    refine hS hr hA hF hai hla (hN2 _) ?_
    rintro e3 m3 ⟨P3,Q3,s3,t3,p2,b8,b10,v9,z12,z13,z14,z15,z16,rfl,q1,q2,q3,q4,q5,q6,q7,q8,q9,q10,q11,q12,q13,q14⟩
    refine W_mono (hT hr hA hai hla q1 q2 q3 q4 q5 q6 q7 q8 q9 q10 q11 q12 q13 q14) ?_
    rintro y e4 m4 ⟨rfl,P4,s4,y7,y8,y9,y10,y11,y12,y13,y14,y15,y16,rfl,hrest⟩
    simp(disch:=first|assumption|omega|(simp only[zl]<;>omega)|(simp only[zn])) only[↓zd,zk,seval,reduceIte,List.map,AV.cells,List.all,AV.one,eqV,eqAll,splice,fillA,List.replicate,resAll,resA,zm,zg,plI,plLoop,sqN,law15_PoolPlays]
    exact⟨_,by omega,i+1,rfl,by omega,P4,s4,_,_,_,_,_,_,_,_,_,_,rfl,hrest⟩
   ·simp only[decide_eq_false_iff_not] at h
    simp(disch:=first|assumption|omega|(simp only[zl]<;>omega)|(simp only[zn])) only[↓zd,zk,seval,reduceIte,List.map,AV.cells,List.all,AV.one,eqV,eqAll,splice,fillA,List.replicate,resAll,resA,zm,zg,plEnd,sqT,law15_PoolPlays,a223]
    refine OK_fn works_run ?_
    rintro _ m9 ⟨rfl,hk9⟩
    simp(disch:=first|assumption|omega|(simp only[zl]<;>omega)|(simp only[zn])) only[↓zd,zk,seval,reduceIte,List.map,AV.cells,List.all,AV.one,eqV,eqAll,splice,fillA,List.replicate,resAll,resA,zm,zg]
    exact hkN.trans hk9
  ·have hd:decide (rightP c)=false:=decide_eq_false hr
   rw[hd] at hrt
   simp(disch:=first|assumption|omega|(simp only[zl]<;>omega)|(simp only[zn])) only[sqN,law15_PoolPlays,↓zd,zk,seval,reduceIte,List.map,AV.cells,List.all,AV.one,eqV,eqAll,splice,fillA,List.replicate,resAll,resA,zm,zg,cfC,a222,hfew,a224]
   refine OK_fn (new_no (c:=c) hr) ?_
   rintro _ m1 ⟨rfl,hk1⟩
   have g1:m1[m.length]?=some (.cells 6 false (cfC c)):=hk1.get (by simp[cfC])
   have l1:=(List.getElem?_eq_some_iff.1 g1).1
   have k2:=Keep.app m1 [Chunk.cells 6 false (cfC c)]
   simp only[cfC] at g1 k2
   simp(disch:=first|assumption|omega|(simp only[zl]<;>omega)|(simp only[zn])) only[sqN,law15_PoolPlays,↓zd,zk,seval,reduceIte,List.map,AV.cells,List.all,AV.one,eqV,eqAll,splice,fillA,List.replicate,resAll,resA,zm,zg,g1,a157,hrt,a223]
   refine OK_fn works_run ?_
   rintro _ m2 ⟨rfl,hk2⟩
   simp(disch:=first|assumption|omega|(simp only[zl]<;>omega)|(simp only[zn])) only[↓zd,zk,seval,reduceIte,List.map,AV.cells,List.all,AV.one,eqV,eqAll,splice,fillA,List.replicate,resAll,resA,zm,zg]
   exact k0.trans (hk1.trans (k2.trans hk2))
end Go.Am.F15
end
section
namespace Go.Am.F15
open Go.Am.F10 (iC iC_at iC_len iC_one iC_app SI SI.val rows_arg)
open Go.ChangeShapes Go.WideShapes Go.ChangeAt Go.RowKit
variable {X:Type}
theorem acts_fit{m:Mem X} {i len cap:Nat} (hl:0 < len→∃ l,m[i]?=some (.cells 3 true l)∧l.length=len * 3∧∀ k,k < len→∃ a:Act,(l.drop (k * 3)).take 3=aC a∧SI m false a.l a.v∧Fit a.v):∃ ats:List Act,AS m ats (.sl i 0 len (some cap))∧∀ a ∈ ats,Fit a.v:=by
 obtain⟨ws,h⟩:=rows_arg (f:=fun x:{a:Act // SI m false a.l a.v∧Fit a.v}=>aC x.1) (sz:=3) (m:=m) (i:=i) (len:=len) (cap:=cap) (fun _=>rfl) (fun h0=>by
  obtain⟨l,h1,h2,h3⟩:=hl h0
  exact⟨l,h1,h2,fun k hk=>by obtain⟨z,e,b,c⟩:=h3 k hk;exact⟨⟨z,b,c⟩,e⟩⟩)
 have e:ws.flatMap (fun x=>aC x.1)=(ws.map Subtype.val).flatMap aC:=by
  clear h
  induction ws with
  | nil=>rfl
  | cons a ws ih=>rw[List.flatMap_cons,ih];rfl
 rw[e] at h
 refine⟨ws.map Subtype.val,⟨by rw[List.length_map];exact h,fun x hx=>?_⟩,fun x hx=>?_⟩
 ·obtain⟨a,_,rfl⟩:=List.mem_map.1 hx
  exact a.2.1
 ·obtain⟨a,_,rfl⟩:=List.mem_map.1 hx
  exact a.2.2
theorem _root_.Go.Am.IsA.sliceFit{P:Program} {m:Mem X} {n:Nat} {t:TypeId} {as:List AV} (h:IsA P m (n+2) t as) {fs:Array Field} (hu:P.underlying t=some (.struct fs)) (j:Nat) {f:Field} (hf:fs[j]?=some f) {e:TypeId} (hk:P.underlying f.type=some (.slice e)) (h1:P.cellsOf f.type=1) :
  ∃ v,as[f.offset]?=some v∧(v = .nils∨∃ i len cap,v = .sl i 0 len (some cap)∧len≤cap∧(0 < len→∃ l,m[i]?=some (.cells (P.cellsOf e) true l)∧l.length=len * P.cellsOf e∧∀ k,k < len→IsA P m n e ((l.drop (k * P.cellsOf e)).take (P.cellsOf e)))):=by
 unfold IsA at h;rw[hu] at h
 have:=h.2 j f hf
 unfold IsA at this;rw[hk,h1] at this
 have key:∀ v,(as.drop f.offset).take 1=[v]→as[f.offset]?=some v:=fun v hv=>by
  have:((as.drop f.offset).take 1)[0]?=some v:=by rw[hv];rfl
  simpa using this
 rcases this with h|⟨i,len,cap,h,_,hc,_,hl⟩
 ·exact⟨_,key _ h,.inl rfl⟩
 ·exact⟨_,key _ h,.inr ⟨i,len,cap,rfl,hc,hl⟩⟩
theorem Fit.nil:Fit .nils:=fun _ _ _ _ e=>by cases e
theorem Fit.sl{q o n c:Nat} (h:n≤c):Fit (.sl q o n (some c)):=fun _ _ _ _ e=>by injection e with _ _ e1 e2;injection e2 with e2;omega
end Go.Am.F15
end
