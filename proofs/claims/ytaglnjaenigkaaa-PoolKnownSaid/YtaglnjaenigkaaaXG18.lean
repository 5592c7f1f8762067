import Derived.Test.YtaglnjaenigkaaaXG17
set_option linter.unusedSimpArgs false
set_option linter.unusedVariables false
section
namespace Go.Am.F15
open Go.Am.F10 (iC iC_at iC_len iC_one iC_app SI SI.val same_run Cf cfC rightP right_run Nx si_take si_drop si_row cutA dropA pick_eq)
open Go.Am.F06 (sqN sqT)
variable {X:Type}
def GDo:List (Nat × AFun X):=[(87,c_kit_Pick),(255,amFunc G15p ref15_Push),(225,amFunc GPP pool_Pool_Push),(256,amFunc G15f ref15_Pop),(226,amFunc GPo pool_Pool_Pop),(84,c_kit_SameInts),(257,amFunc G15p ref15_PutP),(227,amFunc GPP pool_Pool_PutP),(258,amFunc G15p ref15_PutM),(228,amFunc GPP pool_Pool_PutM),(259,amFunc G15f ref15_TakeP),(229,amFunc GTk pool_Pool_TakeP),(260,amFunc G15f ref15_TakeM),(230,amFunc GTk pool_Pool_TakeM),(261,amFunc G15b ref15_Both),(231,amFunc GBo pool_Pool_Both),(262,c_ref15_AddSpin),(234,c_pool_Pool_AddSpin)]
def DoP(m:Mem X) (P:Pla) (s:Pc) (r:AV) (m':Mem X):Prop:=∃ P' s' v',PN m P P'∧KPl m m' P∧PO m' P' s'∧s'.c=s.c∧Inb s'∧RP m' s' v'∧r = .tup [v',.bool true]
theorem JN.up{m m1:Mem X} {j j':Option Nat} (h:JN m1 j j') (hl:m.length≤m1.length):JN m j j':=(JN.refl m _).trans h hl
theorem PN.up{m m1:Mem X} {P P':Pla} (h:PN m1 P P') (hl:m.length≤m1.length):PN m P P':=by
 obtain⟨a1,a2,a3,a4,a5,a6,a7⟩:=h
 exact⟨a1,a2,a3,a4,a5.up hl,a6.up hl,a7.up hl⟩
theorem do_fin{m m1 m2:Mem X} {P P':Pla} {s s1 s':Pc} {v':AV} {b:Nat} {l:List AV} (H:PO m P s) (hk:Keep m m1) (hn:PN m1 P P') (hp:KPl m1 m2 P) (HP:PO m2 P' s') (hb:m.length≤b) (gb:m1[b]?=some (.cells 10 false l)) (hc:s'.c=s.c) (hi:Inb s') (R:RP m1 s1 v') (es:s1=s') (C:Chunk X) :
  DoP m P s (.tup [v',.bool true]) (m2.set b C):=by
 subst es
 have lb:=(List.getElem?_eq_some_iff.1 gb).1
 have hnb:¬ P.has b:=fun h=>by have:=H.lt h;omega
 have hnb':¬ P'.has b:=fun h=>hnb (hn.has lb h)
 have gb2:m2[b]?=some (.cells 10 false l):=(hp.2 b lb hnb).trans gb
 refine⟨P',s1,v',hn.up hk.1,⟨by simpa using Nat.le_trans hk.1 hp.1,fun k h1 h2=>?_⟩,HP.at fun k hk=>List.getElem?_set_ne (fun e=>hnb' (by rw[e];exact hk)),hc,hi,?_,rfl⟩
 ·rw[List.getElem?_set_ne (by omega)]
  exact(hp.2 k (Nat.lt_of_lt_of_le h1 hk.1) h2).trans (hk.2 k h1)
 ·exact R.k1 ((((H.keep hk).kk hp).k1).set gb2 (by decide) C)
theorem get_kpl{m m1 m2:Mem X} {P:Pla} {s:Pc} {b:Nat} {c:Chunk X} (H:PO m P s) (hp:KPl m1 m2 P) (hb:m.length≤b) (gb:m1[b]?=some c):m2[b]?=some c :=
 (hp.2 b (List.getElem?_eq_some_iff.1 gb).1 (fun h=>by have:=H.lt h;omega)).trans gb
theorem inb_len9{n:Int} {l:List Int} (h:inbB n l=true) (nd:l.Nodup) (hn:n≤256):l.length < 1000:=by have:=inb_len h nd hn;omega
theorem PO.bd{m:Mem X} {P:Pla} {s:Pc} (H:PO m P s) (h:Inb s) (hr:rightP s.c):Bd s:=by
 obtain⟨h1,h2,h3,_⟩:=h
 obtain⟨r1,_,r2,r3,_⟩:=hr
 exact⟨inb_len9 h1 H.l1.nodup (by omega),inb_len9 h2 H.l2.nodup (by omega),inb_len9 h3 H.l3.nodup (by omega)⟩
theorem head_ge{n:Int} {l:List Int} (h:inbB n l=true):decide (0≤l.head?.getD (-1))=!l.isEmpty:=by
 cases l with
 | nil=>rfl
 | cons x l =>
  have:=List.all_eq_true.1 h x (by simp)
  simp only[Bool.and_eq_true,decide_eq_true_eq] at this
  simp only[List.head?_cons,Option.getD_some,List.isEmpty_cons,Bool.not_false,decide_eq_true_eq]
  exact decide_eq_true this.1
def InJ(A B C:List AV) (n:Nat) (v:AV) (m0:Mem X) (k:Nat) (e:List AV) (m:Mem X):Prop:=∃ (j:Nat) (x36:AV),
 e=A ++ .int .i64 j :: (B++x36 :: C)∧k=n - j∧j≤n∧WO v m0 m∧∀ q,v = .sl q 0 n none→∃ L,m[q]?=some (.cells 1 false L)∧L.length=n
set_option maxRecDepth 100000 in
set_option maxHeartbeats 16000000 in
theorem does_run{m:Mem X} {P:Pla} {s:Pc} {rv:AV} {a:Act} (H:PO m P s) (hr:rightP s.c) (hin:Inb s) (R:RP m s rv) (ha:SI m false a.l a.v) (hf:Fit a.v) (hal:a.l.length≤20):Fn GDo law15_does [.ptr P.p 0,rv,.agg (aC a)] m (DoP m P s):=by
 have a87:assoc (GDo (X:=X)) 87=some c_kit_Pick:=rfl
 have a255:assoc (GDo (X:=X)) 255=some (amFunc G15p ref15_Push):=rfl
 have a225:assoc (GDo (X:=X)) 225=some (amFunc GPP pool_Pool_Push):=rfl
 have a256:assoc (GDo (X:=X)) 256=some (amFunc G15f ref15_Pop):=rfl
 have a226:assoc (GDo (X:=X)) 226=some (amFunc GPo pool_Pool_Pop):=rfl
 have a84:assoc (GDo (X:=X)) 84=some c_kit_SameInts:=rfl
 have a257:assoc (GDo (X:=X)) 257=some (amFunc G15p ref15_PutP):=rfl
 have a227:assoc (GDo (X:=X)) 227=some (amFunc GPP pool_Pool_PutP):=rfl
 have a258:assoc (GDo (X:=X)) 258=some (amFunc G15p ref15_PutM):=rfl
 have a228:assoc (GDo (X:=X)) 228=some (amFunc GPP pool_Pool_PutM):=rfl
 have a259:assoc (GDo (X:=X)) 259=some (amFunc G15f ref15_TakeP):=rfl
 have a229:assoc (GDo (X:=X)) 229=some (amFunc GTk pool_Pool_TakeP):=rfl
 have a260:assoc (GDo (X:=X)) 260=some (amFunc G15f ref15_TakeM):=rfl
 have a230:assoc (GDo (X:=X)) 230=some (amFunc GTk pool_Pool_TakeM):=rfl
 have a261:assoc (GDo (X:=X)) 261=some (amFunc G15b ref15_Both):=rfl
 have a231:assoc (GDo (X:=X)) 231=some (amFunc GBo pool_Pool_Both):=rfl
 have a262:assoc (GDo (X:=X)) 262=some (amFunc [] ref15_AddSpin):=rfl
 have a234:assoc (GDo (X:=X)) 234=some (amFunc [] pool_Pool_AddSpin):=rfl
 generalize (GDo (X:=X))=G at a87 a255 a225 a256 a226 a84 a257 a227 a258 a228 a259 a229 a260 a230 a261 a231 a262 a234 ⊢
 have hbd:=H.bd hin hr
 obtain⟨i1,i2,i3,i4,i5⟩:=hin
 obtain⟨r1,r0,r2,r3,r4⟩:=hr
 obtain⟨b1,b2,b3⟩:=hbd
 obtain⟨gv,pv,mv,rfl,q1,q2,q3⟩:=R
 have o1:=one_rw q1
 have o2:=one_rw q2
 have o3:=one_rw q3
 have o4:a.v.one=true:=by
  rcases ha.2 with⟨h,_⟩|⟨q,o,cap,h,_⟩<;>rw[h]<;>rfl
 unfold AV.one at o1 o2 o3 o4
 have k0:=Keep.app m [Chunk.cells 10 false (rC s.c gv pv mv s.spin),Chunk.cells 3 false (aC a),Chunk.cells 10 false Z10]
 have R0:RP (m++[Chunk.cells 10 false (rC s.c gv pv mv s.spin),Chunk.cells 3 false (aC a),Chunk.cells 10 false Z10]) s (.agg (rC s.c gv pv mv s.spin)):=⟨gv,pv,mv,rfl,q1.k1 k0.k1,q2.k1 k0.k1,q3.k1 k0.k1⟩
 have ha0:SI _ false a.l a.v:=ha.keep k0
 have hpick:∀ (M:Mem X) (k:Int),c_kit_Pick [.int .i64 k,.int .i64 8] M=some (.int .i64 (k % 8),M):=fun M k=>pick_eq M k 8 (by decide) (by decide)
 have hk0:0≤a.k % 8:=Int.emod_nonneg _ (by decide)
 have hk8:a.k % 8 < 8:=Int.emod_lt_of_pos _ (by decide)
 generalize hkk:a.k % 8=kk at hk0 hk8
 simp only[rC,aC,Z10] at k0 R0 ha0 ⊢
 refine Fn_of rfl ?_
 have d1:(kk=0∨kk=1∨kk=2∨kk=3∨kk=4∨kk=5∨kk=6∨kk=7):=by omega
 rcases d1 with rfl|rfl|rfl|rfl|rfl|rfl|rfl|rfl
 ·simp(disch:=first|assumption|omega|(simp only[zl]<;>omega)|(simp only[zn])) only[law15_does,↓zd,zk,seval,reduceIte,List.map,AV.cells,List.all,AV.one,eqV,eqAll,splice,fillA,List.replicate,resAll,resA,zm,zg,o1,o2,o3,o4,a87,hpick,hkk,a255]
  refine OK_fn (rpush_run R0 ha0 hf (by omega) (by omega)) ?_
  rintro _ m1 ⟨k1,_,⟨gv1,pv1,mv1,rfl,t1,t2,t3⟩,rfl⟩
  have u1:=one_rw t1
  have u2:=one_rw t2
  have u3:=one_rw t3
  unfold AV.one at u1 u2 u3
  have kA:=k0.trans k1
  have kB:=Keep.app m1 [Chunk.cells 10 false (rC s.c gv1 pv1 mv1 s.spin)]
  have HM:=H.keep (kA.trans kB)
  have R1:=RP.k1 (s:={ s with g:=addL s.g s.c.g a.l }) ⟨gv1,pv1,mv1,rfl,t1,t2,t3⟩ kB.k1
  have g4:m1[m.length+1]?=some (.cells 3 false (aC a)):=k1.get (by simp[aC])
  have g5:m1[m.length+2]?=some (.cells 10 false Z10):=k1.get (by simp[Z10])
  have l4:=(List.getElem?_eq_some_iff.1 g4).1
  have haM:SI _ false a.l a.v:=ha.keep (kA.trans kB)
  simp only[rC,aC] at g4 HM haM kB R1
  simp(disch:=first|assumption|omega|(simp only[zl]<;>omega)|(simp only[zn])) only[rC,↓zd,zk,seval,reduceIte,List.map,AV.cells,List.all,AV.one,eqV,eqAll,splice,fillA,List.replicate,resAll,resA,zm,zg,u1,u2,u3,g4,a225]
  refine OKT_fn (ppush_run HM ⟨b1,b2,b3⟩ haM (by omega)) ?_
  rintro _ m2 ⟨P',hn,hp,HP,rfl⟩
  have g7:m2[m1.length]?=some (.cells 10 false (rC s.c gv1 pv1 mv1 s.spin)):=get_kpl H hp kA.1 (by simp[rC])
  have g5':m2[m.length+2]?=some (.cells 10 false Z10):=get_kpl H hp (by omega) (kB.get g5)
  have g4':m2[m.length+1]?=some (.cells 3 false (aC a)):=get_kpl H hp (by omega) (kB.get g4)
  have l5:=(List.getElem?_eq_some_iff.1 g5').1
  simp only[rC,aC,Z10] at g7 g5' g4'
  simp(disch:=first|assumption|omega|(simp only[zl]<;>omega)|(simp only[zn])) only[↓zd,zk,seval,reduceIte,List.map,AV.cells,List.all,AV.one,eqV,eqAll,splice,fillA,List.replicate,resAll,resA,zm,zg,g7,g5',g4',u1,u2,u3]
  exact do_fin H (kA.trans kB) hn hp HP (Nat.le_add_right _ _) (kB.get g5) rfl ⟨inb_addL i1,i2,i3,i4,i5⟩ R1 rfl _
 ·simp(disch:=first|assumption|omega|(simp only[zl]<;>omega)|(simp only[zn])) only[law15_does,↓zd,zk,seval,reduceIte,List.map,AV.cells,List.all,AV.one,eqV,eqAll,splice,fillA,List.replicate,resAll,resA,zm,zg,o1,o2,o3,o4,a87,hpick,hkk,a256]
  refine OK_fn (rpop_run R0 (by omega) a.n) ?_
  rintro _ m1 ⟨k1,_,wv,rfl,⟨gv1,pv1,mv1,rfl,t1,t2,t3⟩,wr⟩
  have u1:=one_rw t1
  have u2:=one_rw t2
  have u3:=one_rw t3
  unfold AV.one at u1 u2 u3
  have kA:=k0.trans k1
  have kB:=Keep.app m1 [Chunk.cells 10 false (rC s.c gv1 pv1 mv1 s.spin)]
  have HM:=H.keep (kA.trans kB)
  have R1:=RP.k1 (s:={ s with g:=s.g.drop (popN s.g a.n) }) ⟨gv1,pv1,mv1,rfl,t1,t2,t3⟩ kB.k1
  have g4:m1[m.length+1]?=some (.cells 3 false (aC a)):=k1.get (by simp[aC])
  have g5:m1[m.length+2]?=some (.cells 10 false Z10):=k1.get (by simp[Z10])
  have l4:=(List.getElem?_eq_some_iff.1 g4).1
  simp only[rC,aC] at g4 HM kB R1
  simp(disch:=first|assumption|omega|(simp only[zl]<;>omega)|(simp only[zn])) only[rC,↓zd,zk,seval,reduceIte,List.map,AV.cells,List.all,AV.one,eqV,eqAll,splice,fillA,List.replicate,resAll,resA,zm,zg,u1,u2,u3,g4,a226]
  refine OK_fn (ppop_run HM ⟨b1,b2,b3⟩ a.n) ?_
  rintro pv9 m2 ⟨P',hn,hp,HP,ho⟩
  have g7:m2[m1.length]?=some (.cells 10 false (rC s.c gv1 pv1 mv1 s.spin)):=get_kpl H hp kA.1 (by simp[rC])
  have g5':m2[m.length+2]?=some (.cells 10 false Z10):=get_kpl H hp (by omega) (kB.get g5)
  have hsm:=same_eq (own_si ho) (((wr.k1 kB.k1).k1 ((HM.kk hp).k1))).1 (by rw[List.length_take];omega)
  have hde:decide (s.g.take (popN s.g a.n)=s.g.take (popN s.g a.n))=true:=decide_eq_true rfl
  obtain⟨hro,hli⟩:=own_ro ho
  have hlen:=hro.rw.1.len
  have hli':∀ q n,pv9 = .sl q 0 n none→m1.length+1≤q:=fun q n e=>by have:=(hli q n e).1;simpa using this
  have l51:=(List.getElem?_eq_some_iff.1 g5).1
  have hl9:(s.g.take (popN s.g a.n)).length < 1000:=by rw[List.length_take];omega
  have l5:=(List.getElem?_eq_some_iff.1 g5').1
  simp only[rC,Z10] at g7 g5'
  simp(disch:=first|assumption|omega|(simp only[zl]<;>omega)|(simp only[zn])) only[↓zd,zk,seval,reduceIte,List.map,AV.cells,List.all,AV.one,eqV,eqAll,splice,fillA,List.replicate,resAll,resA,zm,zg,a84,hsm,hde]
  refine W_loop (InJ [_,_,_,_,_,_,_,_,_,_,_,_,_] [_,_,_,_,_,_,_,_,_,_,_,_,_,_,_,_,_,_,_,_,_,_] [_,_,_,_,_] (s.g.take (popN s.g a.n)).length pv9 m2) (s.g.take (popN s.g a.n)).length (by unfold FUEL;rw[List.length_take];omega) ⟨0,_,rfl,rfl,Nat.zero_le _,WO.refl pv9 m2,fun q e=>?_⟩ ?_
  ·rcases hro with⟨h,_⟩|⟨q',h,h2⟩
   ·rw[h] at e;cases e
   ·rw[h] at e;injection e with e;subst e
    exact⟨_,h2,iC_len _⟩
  rintro k e m3 ⟨j,x36,rfl,rfl,hj,hw,hL⟩
  simp only[List.cons_append,List.nil_append]
  simp(disch:=first|assumption|omega|(simp only[zl]<;>omega)|(simp only[zn])) only[↓zd,zk,seval,reduceIte,List.map,AV.cells,List.all,AV.one,eqV,eqAll,splice,fillA,List.replicate,resAll,resA,zm,zg,ev_len,hlen]
  refine CW_of (fun hc=>?_) (fun hc=>?_)
  ·simp only[decide_eq_true_eq] at hc
   rcases hro with⟨_,hx0⟩|⟨q,hvq,_⟩
   ·rw[hx0] at hc;simp at hc;omega
   ·obtain⟨L,hq1,hq2⟩:=hL q hvq
    have lq:=(List.getElem?_eq_some_iff.1 hq1).1
    subst hvq
    simp(disch:=first|assumption|omega|(simp only[zl]<;>omega)|(simp only[zn])) only[↓zd,zk,seval,reduceIte,List.map,AV.cells,List.all,AV.one,eqV,eqAll,splice,fillA,List.replicate,resAll,resA,zm,zg,hq1]
    refine⟨_,by omega,j+1,_,rfl,rfl,by omega,hw.set rfl _,fun q' e=>?_⟩
    injection e with e;subst e
    exact⟨_,List.getElem?_set_self lq,by simp[hq2]⟩
  ·simp only[decide_eq_false_iff_not] at hc
   have g5m:=(hw.2 (m.length+2) (fun n e=>by have:=hli' _ n e;omega)).trans g5'
   have g7m:=(hw.2 m1.length (fun n e=>by have:=hli' _ n e;omega)).trans g7
   have l53:=(List.getElem?_eq_some_iff.1 g5m).1
   simp(disch:=first|assumption|omega|(simp only[zl]<;>omega)|(simp only[zn])) only[↓zd,zk,seval,reduceIte,List.map,AV.cells,List.all,AV.one,eqV,eqAll,splice,fillA,List.replicate,resAll,resA,zm,zg,g5m,g7m,u1,u2,u3]
   have hp3:KPl (m1++[Chunk.cells 10 false (rC s.c gv1 pv1 mv1 s.spin)]) m3 P:=⟨by rw[hw.1];exact hp.1,fun k h1 h2=>(hw.2 k (fun n e=>by have:=hli' _ n e;simp at h1;omega)).trans (hp.2 k h1 h2)⟩
   have HP3:=HP.at (m':=m3) fun k hk=>hw.2 k fun n e=>by
    rcases hro with⟨h,_⟩|⟨q,h,h2⟩
    ·rw[h] at e;cases e
    ·rw[h] at e;injection e with e;subst e
     exact HP.ne1 hk _ h2
   exact do_fin H (kA.trans kB) hn hp3 HP3 (Nat.le_add_right _ _) (kB.get g5) rfl ⟨inb_sub i1 fun y hy=>List.mem_of_mem_drop hy,i2,i3,i4,i5⟩ R1 rfl _
 ·simp(disch:=first|assumption|omega|(simp only[zl]<;>omega)|(simp only[zn])) only[law15_does,↓zd,zk,seval,reduceIte,List.map,AV.cells,List.all,AV.one,eqV,eqAll,splice,fillA,List.replicate,resAll,resA,zm,zg,o1,o2,o3,o4,a87,hpick,hkk,a257]
  refine OK_fn (rputp_run R0 (by omega)) ?_
  rintro _ m1 ⟨k1,_,⟨gv1,pv1,mv1,rfl,t1,t2,t3⟩,rfl⟩
  have u1:=one_rw t1
  have u2:=one_rw t2
  have u3:=one_rw t3
  unfold AV.one at u1 u2 u3
  have kA:=k0.trans k1
  have kB:=Keep.app m1 [Chunk.cells 10 false (rC s.c gv1 pv1 mv1 s.spin)]
  have HM:=H.keep (kA.trans kB)
  have R1:=RP.k1 (s:={ s with ps:=addL s.ps s.c.n [a.n] }) ⟨gv1,pv1,mv1,rfl,t1,t2,t3⟩ kB.k1
  have g4:m1[m.length+1]?=some (.cells 3 false (aC a)):=k1.get (by simp[aC])
  have g5:m1[m.length+2]?=some (.cells 10 false Z10):=k1.get (by simp[Z10])
  have l4:=(List.getElem?_eq_some_iff.1 g4).1
  simp only[rC,aC] at g4 HM kB R1
  simp(disch:=first|assumption|omega|(simp only[zl]<;>omega)|(simp only[zn])) only[rC,↓zd,zk,seval,reduceIte,List.map,AV.cells,List.all,AV.one,eqV,eqAll,splice,fillA,List.replicate,resAll,resA,zm,zg,u1,u2,u3,g4,a227]
  refine OKT_fn (putp_run HM ⟨b1,b2,b3⟩) ?_
  rintro _ m2 ⟨P',hn,hp,HP,rfl⟩
  have g7:m2[m1.length]?=some (.cells 10 false (rC s.c gv1 pv1 mv1 s.spin)):=get_kpl H hp kA.1 (by simp[rC])
  have g5':m2[m.length+2]?=some (.cells 10 false Z10):=get_kpl H hp (by omega) (kB.get g5)
  have g4':m2[m.length+1]?=some (.cells 3 false (aC a)):=get_kpl H hp (by omega) (kB.get g4)
  have l5:=(List.getElem?_eq_some_iff.1 g5').1
  simp only[rC,aC,Z10] at g7 g5' g4'
  simp(disch:=first|assumption|omega|(simp only[zl]<;>omega)|(simp only[zn])) only[↓zd,zk,seval,reduceIte,List.map,AV.cells,List.all,AV.one,eqV,eqAll,splice,fillA,List.replicate,resAll,resA,zm,zg,g7,g5',g4',u1,u2,u3]
  exact do_fin H (kA.trans kB) hn hp HP (Nat.le_add_right _ _) (kB.get g5) rfl ⟨i1,inb_addL i2,i3,i4,i5⟩ R1 rfl _
 ·simp(disch:=first|assumption|omega|(simp only[zl]<;>omega)|(simp only[zn])) only[law15_does,↓zd,zk,seval,reduceIte,List.map,AV.cells,List.all,AV.one,eqV,eqAll,splice,fillA,List.replicate,resAll,resA,zm,zg,o1,o2,o3,o4,a87,hpick,hkk,a258]
  refine OK_fn (rputm_run R0 (by omega)) ?_
  rintro _ m1 ⟨k1,_,⟨gv1,pv1,mv1,rfl,t1,t2,t3⟩,rfl⟩
  have u1:=one_rw t1
  have u2:=one_rw t2
  have u3:=one_rw t3
  unfold AV.one at u1 u2 u3
  have kA:=k0.trans k1
  have kB:=Keep.app m1 [Chunk.cells 10 false (rC s.c gv1 pv1 mv1 s.spin)]
  have HM:=H.keep (kA.trans kB)
  have R1:=RP.k1 (s:={ s with ms:=addL s.ms s.c.m [a.n] }) ⟨gv1,pv1,mv1,rfl,t1,t2,t3⟩ kB.k1
  have g4:m1[m.length+1]?=some (.cells 3 false (aC a)):=k1.get (by simp[aC])
  have g5:m1[m.length+2]?=some (.cells 10 false Z10):=k1.get (by simp[Z10])
  have l4:=(List.getElem?_eq_some_iff.1 g4).1
  simp only[rC,aC] at g4 HM kB R1
  simp(disch:=first|assumption|omega|(simp only[zl]<;>omega)|(simp only[zn])) only[rC,↓zd,zk,seval,reduceIte,List.map,AV.cells,List.all,AV.one,eqV,eqAll,splice,fillA,List.replicate,resAll,resA,zm,zg,u1,u2,u3,g4,a228]
  refine OKT_fn (putm_run HM ⟨b1,b2,b3⟩) ?_
  rintro _ m2 ⟨P',hn,hp,HP,rfl⟩
  have g7:m2[m1.length]?=some (.cells 10 false (rC s.c gv1 pv1 mv1 s.spin)):=get_kpl H hp kA.1 (by simp[rC])
  have g5':m2[m.length+2]?=some (.cells 10 false Z10):=get_kpl H hp (by omega) (kB.get g5)
  have g4':m2[m.length+1]?=some (.cells 3 false (aC a)):=get_kpl H hp (by omega) (kB.get g4)
  have l5:=(List.getElem?_eq_some_iff.1 g5').1
  simp only[rC,aC,Z10] at g7 g5' g4'
  simp(disch:=first|assumption|omega|(simp only[zl]<;>omega)|(simp only[zn])) only[↓zd,zk,seval,reduceIte,List.map,AV.cells,List.all,AV.one,eqV,eqAll,splice,fillA,List.replicate,resAll,resA,zm,zg,g7,g5',g4',u1,u2,u3]
  exact do_fin H (kA.trans kB) hn hp HP (Nat.le_add_right _ _) (kB.get g5) rfl ⟨i1,i2,inb_addL i3,i4,i5⟩ R1 rfl _
 ·simp(disch:=first|assumption|omega|(simp only[zl]<;>omega)|(simp only[zn])) only[law15_does,↓zd,zk,seval,reduceIte,List.map,AV.cells,List.all,AV.one,eqV,eqAll,splice,fillA,List.replicate,resAll,resA,zm,zg,o1,o2,o3,o4,a87,hpick,hkk,a259]
  refine OK_fn (rtakep_run R0 (by omega)) ?_
  rintro _ m1 ⟨k1,_,⟨gv1,pv1,mv1,rfl,t1,t2,t3⟩,rfl⟩
  have u1:=one_rw t1
  have u2:=one_rw t2
  have u3:=one_rw t3
  unfold AV.one at u1 u2 u3
  have kA:=k0.trans k1
  have kB:=Keep.app m1 [Chunk.cells 10 false (rC s.c gv1 pv1 mv1 s.spin)]
  have HM:=H.keep (kA.trans kB)
  have R1:=RP.k1 (s:={ s with ps:=s.ps.tail }) ⟨gv1,pv1,mv1,rfl,t1,t2,t3⟩ kB.k1
  have g4:m1[m.length+1]?=some (.cells 3 false (aC a)):=k1.get (by simp[aC])
  have g5:m1[m.length+2]?=some (.cells 10 false Z10):=k1.get (by simp[Z10])
  have l4:=(List.getElem?_eq_some_iff.1 g4).1
  have hz:=head_ge i2
  simp only[rC,aC] at g4 HM kB R1
  simp(disch:=first|assumption|omega|(simp only[zl]<;>omega)|(simp only[zn])) only[rC,↓zd,zk,seval,reduceIte,List.map,AV.cells,List.all,AV.one,eqV,eqAll,splice,fillA,List.replicate,resAll,resA,zm,zg,u1,u2,u3,a229]
  refine OK_fn (takep_run HM ⟨b1,b2,b3⟩) ?_
  rintro _ m2 ⟨P',hn,hp,HP,rfl⟩
  have g7:m2[m1.length]?=some (.cells 10 false (rC s.c gv1 pv1 mv1 s.spin)):=get_kpl H hp kA.1 (by simp[rC])
  have g5':m2[m.length+2]?=some (.cells 10 false Z10):=get_kpl H hp (by omega) (kB.get g5)
  have g4':m2[m.length+1]?=some (.cells 3 false (aC a)):=get_kpl H hp (by omega) (kB.get g4)
  have l5:=(List.getElem?_eq_some_iff.1 g5').1
  simp only[rC,aC,Z10] at g7 g5' g4'
  simp(disch:=first|assumption|omega|(simp only[zl]<;>omega)|(simp only[zn])) only[↓zd,zk,seval,reduceIte,List.map,AV.cells,List.all,AV.one,eqV,eqAll,splice,fillA,List.replicate,resAll,resA,zm,zg,firstT,g7,g5',g4',u1,u2,u3,hz]
  exact do_fin H (kA.trans kB) hn hp HP (Nat.le_add_right _ _) (kB.get g5) rfl ⟨i1,inb_sub i2 fun y hy=>List.mem_of_mem_tail hy,i3,i4,i5⟩ R1 rfl _
 ·simp(disch:=first|assumption|omega|(simp only[zl]<;>omega)|(simp only[zn])) only[law15_does,↓zd,zk,seval,reduceIte,List.map,AV.cells,List.all,AV.one,eqV,eqAll,splice,fillA,List.replicate,resAll,resA,zm,zg,o1,o2,o3,o4,a87,hpick,hkk,a260]
  refine OK_fn (rtakem_run R0 (by omega)) ?_
  rintro _ m1 ⟨k1,_,⟨gv1,pv1,mv1,rfl,t1,t2,t3⟩,rfl⟩
  have u1:=one_rw t1
  have u2:=one_rw t2
  have u3:=one_rw t3
  unfold AV.one at u1 u2 u3
  have kA:=k0.trans k1
  have kB:=Keep.app m1 [Chunk.cells 10 false (rC s.c gv1 pv1 mv1 s.spin)]
  have HM:=H.keep (kA.trans kB)
  have R1:=RP.k1 (s:={ s with ms:=s.ms.tail }) ⟨gv1,pv1,mv1,rfl,t1,t2,t3⟩ kB.k1
  have g4:m1[m.length+1]?=some (.cells 3 false (aC a)):=k1.get (by simp[aC])
  have g5:m1[m.length+2]?=some (.cells 10 false Z10):=k1.get (by simp[Z10])
  have l4:=(List.getElem?_eq_some_iff.1 g4).1
  have hz:=head_ge i3
  simp only[rC,aC] at g4 HM kB R1
  simp(disch:=first|assumption|omega|(simp only[zl]<;>omega)|(simp only[zn])) only[rC,↓zd,zk,seval,reduceIte,List.map,AV.cells,List.all,AV.one,eqV,eqAll,splice,fillA,List.replicate,resAll,resA,zm,zg,u1,u2,u3,a230]
  refine OK_fn (takem_run HM ⟨b1,b2,b3⟩) ?_
  rintro _ m2 ⟨P',hn,hp,HP,rfl⟩
  have g7:m2[m1.length]?=some (.cells 10 false (rC s.c gv1 pv1 mv1 s.spin)):=get_kpl H hp kA.1 (by simp[rC])
  have g5':m2[m.length+2]?=some (.cells 10 false Z10):=get_kpl H hp (by omega) (kB.get g5)
  have g4':m2[m.length+1]?=some (.cells 3 false (aC a)):=get_kpl H hp (by omega) (kB.get g4)
  have l5:=(List.getElem?_eq_some_iff.1 g5').1
  simp only[rC,aC,Z10] at g7 g5' g4'
  simp(disch:=first|assumption|omega|(simp only[zl]<;>omega)|(simp only[zn])) only[↓zd,zk,seval,reduceIte,List.map,AV.cells,List.all,AV.one,eqV,eqAll,splice,fillA,List.replicate,resAll,resA,zm,zg,firstT,g7,g5',g4',u1,u2,u3,hz]
  exact do_fin H (kA.trans kB) hn hp HP (Nat.le_add_right _ _) (kB.get g5) rfl ⟨i1,i2,inb_sub i3 fun y hy=>List.mem_of_mem_tail hy,i4,i5⟩ R1 rfl _
 ·by_cases he:s.ps=[]∨s.ms=[]
  ·simp(disch:=first|assumption|omega|(simp only[zl]<;>omega)|(simp only[zn])) only[law15_does,↓zd,zk,seval,reduceIte,List.map,AV.cells,List.all,AV.one,eqV,eqAll,splice,fillA,List.replicate,resAll,resA,zm,zg,o1,o2,o3,o4,a87,hpick,hkk,a261]
   refine OK_fn (rboth_no R0 he) ?_
   rintro _ m1 ⟨k1,_,⟨gv1,pv1,mv1,rfl,t1,t2,t3⟩,rfl⟩
   have u1:=one_rw t1
   have u2:=one_rw t2
   have u3:=one_rw t3
   unfold AV.one at u1 u2 u3
   have kA:=k0.trans k1
   have kB:=Keep.app m1 [Chunk.cells 10 false (rC s.c gv1 pv1 mv1 s.spin)]
   have HM:=H.keep (kA.trans kB)
   have R1:=RP.k1 (s:=s) ⟨gv1,pv1,mv1,rfl,t1,t2,t3⟩ kB.k1
   have g4:m1[m.length+1]?=some (.cells 3 false (aC a)):=k1.get (by simp[aC])
   have g5:m1[m.length+2]?=some (.cells 10 false Z10):=k1.get (by simp[Z10])
   have l4:=(List.getElem?_eq_some_iff.1 g4).1
   simp only[rC,aC] at g4 HM kB R1
   simp(disch:=first|assumption|omega|(simp only[zl]<;>omega)|(simp only[zn])) only[rC,↓zd,zk,seval,reduceIte,List.map,AV.cells,List.all,AV.one,eqV,eqAll,splice,fillA,List.replicate,resAll,resA,zm,zg,u1,u2,u3,a231]
   refine OK_fn (both_no HM he) ?_
   rintro _ m2 ⟨rfl,rfl⟩
   have g5'':=kB.get g5
   simp only[Z10] at g5 g5''
   have l5:=(List.getElem?_eq_some_iff.1 g5).1
   simp(disch:=first|assumption|omega|(simp only[zl]<;>omega)|(simp only[zn])) only[↓zd,zk,seval,reduceIte,List.map,AV.cells,List.all,AV.one,eqV,eqAll,splice,fillA,List.replicate,resAll,resA,zm,zg,g5,u1,u2,u3]
   have:=do_fin H (kA.trans kB) (PN.refl _ P) (KPl.refl _ P) HM (Nat.le_add_right _ _) g5'' rfl ⟨i1,i2,i3,i4,i5⟩ R1 rfl (.cells 10 false (rC s.c gv1 pv1 mv1 s.spin))
   simpa [rC,l5] using this
  ·obtain⟨x,xs,hps⟩:=List.exists_cons_of_ne_nil (fun h=>he (.inl h))
   obtain⟨y,ys,hms⟩:=List.exists_cons_of_ne_nil (fun h=>he (.inr h))
   have hx0:decide (0≤x)=true:=by have:=head_ge i2;rw[hps] at this;exact this
   simp(disch:=first|assumption|omega|(simp only[zl]<;>omega)|(simp only[zn])) only[law15_does,↓zd,zk,seval,reduceIte,List.map,AV.cells,List.all,AV.one,eqV,eqAll,splice,fillA,List.replicate,resAll,resA,zm,zg,o1,o2,o3,o4,a87,hpick,hkk,a261]
   refine OK_fn (rboth_run R0 hps hms (by omega) (by omega)) ?_
   rintro _ m1 ⟨k1,_,⟨gv1,pv1,mv1,rfl,t1,t2,t3⟩,rfl⟩
   have u1:=one_rw t1
   have u2:=one_rw t2
   have u3:=one_rw t3
   unfold AV.one at u1 u2 u3
   have kA:=k0.trans k1
   have kB:=Keep.app m1 [Chunk.cells 10 false (rC s.c gv1 pv1 mv1 s.spin)]
   have HM:=H.keep (kA.trans kB)
   have R1:=RP.k1 (s:={ s with ps:=xs,ms:=ys }) ⟨gv1,pv1,mv1,rfl,t1,t2,t3⟩ kB.k1
   have g4:m1[m.length+1]?=some (.cells 3 false (aC a)):=k1.get (by simp[aC])
   have g5:m1[m.length+2]?=some (.cells 10 false Z10):=k1.get (by simp[Z10])
   have l4:=(List.getElem?_eq_some_iff.1 g4).1
   simp only[rC,aC] at g4 HM kB R1
   simp(disch:=first|assumption|omega|(simp only[zl]<;>omega)|(simp only[zn])) only[rC,↓zd,zk,seval,reduceIte,List.map,AV.cells,List.all,AV.one,eqV,eqAll,splice,fillA,List.replicate,resAll,resA,zm,zg,u1,u2,u3,a231]
   refine OK_fn (both_run HM ⟨b1,b2,b3⟩ hps hms) ?_
   rintro _ m2 ⟨P',hn,hp,HP,rfl⟩
   have g7:m2[m1.length]?=some (.cells 10 false (rC s.c gv1 pv1 mv1 s.spin)):=get_kpl H hp kA.1 (by simp[rC])
   have g5':m2[m.length+2]?=some (.cells 10 false Z10):=get_kpl H hp (by omega) (kB.get g5)
   have g4':m2[m.length+1]?=some (.cells 3 false (aC a)):=get_kpl H hp (by omega) (kB.get g4)
   have l5:=(List.getElem?_eq_some_iff.1 g5').1
   simp only[rC,aC,Z10] at g7 g5' g4'
   simp(disch:=first|assumption|omega|(simp only[zl]<;>omega)|(simp only[zn])) only[↓zd,zk,seval,reduceIte,List.map,AV.cells,List.all,AV.one,eqV,eqAll,splice,fillA,List.replicate,resAll,resA,zm,zg,g7,g5',g4',u1,u2,u3,hx0]
   exact do_fin H (kA.trans kB) hn hp HP (Nat.le_add_right _ _) (kB.get g5) rfl ⟨i1,inb_sub i2 fun z hz=>by rw[hps];exact List.mem_cons_of_mem _ hz,inb_sub i3 fun z hz=>by rw[hms];exact List.mem_cons_of_mem _ hz,i4,i5⟩ R1 rfl _
 ·simp(disch:=first|assumption|omega|(simp only[zl]<;>omega)|(simp only[zn])) only[law15_does,↓zd,zk,seval,reduceIte,List.map,AV.cells,List.all,AV.one,eqV,eqAll,splice,fillA,List.replicate,resAll,resA,zm,zg,o1,o2,o3,o4,a87,hpick,hkk,a262]
  refine OK_fn (raddspin_run R0 a.n i4 i5 (by omega) (by omega)) ?_
  rintro _ m1 ⟨k1,_,⟨gv1,pv1,mv1,rfl,t1,t2,t3⟩,rfl⟩
  have u1:=one_rw t1
  have u2:=one_rw t2
  have u3:=one_rw t3
  unfold AV.one at u1 u2 u3
  have kA:=k0.trans k1
  have kB:=Keep.app m1 [Chunk.cells 10 false (rC s.c gv1 pv1 mv1 (spinN s a.n))]
  have HM:=H.keep (kA.trans kB)
  have R1:=RP.k1 (s:={ s with spin:=spinN s a.n }) ⟨gv1,pv1,mv1,rfl,t1,t2,t3⟩ kB.k1
  have g4:m1[m.length+1]?=some (.cells 3 false (aC a)):=k1.get (by simp[aC])
  have g5:m1[m.length+2]?=some (.cells 10 false Z10):=k1.get (by simp[Z10])
  have l4:=(List.getElem?_eq_some_iff.1 g4).1
  simp only[rC,aC] at g4 HM kB R1
  simp(disch:=first|assumption|omega|(simp only[zl]<;>omega)|(simp only[zn])) only[rC,↓zd,zk,seval,reduceIte,List.map,AV.cells,List.all,AV.one,eqV,eqAll,splice,fillA,List.replicate,resAll,resA,zm,zg,u1,u2,u3,g4,a234]
  refine OKT_fn (addspin_run HM a.n) ?_
  rintro _ m2 ⟨P',hn,hp,HP,rfl⟩
  have g7:m2[m1.length]?=some (.cells 10 false (rC s.c gv1 pv1 mv1 (spinN s a.n))):=get_kpl H hp kA.1 (by simp[rC])
  have g5':m2[m.length+2]?=some (.cells 10 false Z10):=get_kpl H hp (by omega) (kB.get g5)
  have g4':m2[m.length+1]?=some (.cells 3 false (aC a)):=get_kpl H hp (by omega) (kB.get g4)
  have l5:=(List.getElem?_eq_some_iff.1 g5').1
  simp only[rC,aC,Z10] at g7 g5' g4'
  have l51:=(List.getElem?_eq_some_iff.1 g5).1
  have g7':∀ C,(m2.set (m.length+2) C)[m1.length]?=some (.cells 10 false _):=fun C=>(List.getElem?_set_ne (by omega)).trans g7
  simp(disch:=first|assumption|omega|(simp only[zl]<;>omega)|(simp only[zn])) only[↓zd,zk,seval,reduceIte,List.map,AV.cells,List.all,AV.one,eqV,eqAll,splice,fillA,List.replicate,resAll,resA,zm,zg,g7,g7',g5',g4',u1,u2,u3]
  obtain⟨s1,s2⟩:=spinN_b (s:=s) a.n (by omega)
  exact do_fin H (kA.trans kB) hn hp HP (Nat.le_add_right _ _) (kB.get g5) rfl ⟨i1,i2,i3,s1,s2⟩ R1 rfl _
end Go.Am.F15
end
section
namespace Go.Am.F15
open Go.Am.F10 (iC iC_at iC_len iC_one iC_app SI SI.val same_run Cf cfC rightP right_run Nx si_take si_drop si_row cutA dropA pick_eq)
open Go.Am.F06 (sqN sqT)
variable {X:Type}
def GPl:List (Nat × AFun X):=[(222,c_law15_few),(223,amFunc GWk law15_works),(224,amFunc GNw pool_New),(157,c_conf_Config_Right),(147,c_docs_Config),(241,amFunc G15n ref15_New),(242,amFunc GCo pool_Pool_Copy),(243,amFunc GDo law15_does),(244,amFunc GSP docs_SamePool),(232,c_pool_Pool_Batch),(245,c_ref15_Batch),(84,c_kit_SameInts),(246,amFunc GPS pool_Same)]
def plLoop:AC:=match sqN 6 law15_PoolPlays.body with | .seq _ (.block _ (.loop b))=>b|c=>c
def plB:AC:=match plLoop with | .seq _ (.seq (.block _ b) _)=>b|c=>c
def plC:AC:=match plLoop with | .seq c _=>c|c=>c
def plI:AC:=match plLoop with | .seq _ (.seq _ i)=>i|c=>c
def plR:AC:=.region [⟨.mov,[.c (.int .i64 0)],some 6,none⟩]
def plEnd:AC:=sqT 7 law15_PoolPlays.body
def plT:AC:=sqT 5 plB
theorem pl_body:law15_PoolPlays.body = .seq (sqN 0 law15_PoolPlays.body) (.seq (sqN 1 law15_PoolPlays.body) (.seq (sqN 2 law15_PoolPlays.body) (.seq (sqN 3 law15_PoolPlays.body) (.seq (sqN 4 law15_PoolPlays.body) (.seq (sqN 5 law15_PoolPlays.body)
  (.seq (.seq plR (.block 0 (.loop (.seq plC (.seq (.block 1 (.seq (sqN 0 plB) (.seq (sqN 1 plB) (.seq (sqN 2 plB) (.seq (sqN 3 plB) (.seq (sqN 4 plB) plT)))))) plI))))) plEnd)))))):=rfl
def RB(m:Mem X) (b:Nat) (s:Pc):Prop:=∃ gv pv mv,m[b]?=some (.cells 10 false (rC s.c gv pv mv s.spin))∧RW m s.g gv∧RW m s.ps pv∧RW m s.ms mv
theorem RB.keep{m m':Mem X} {b:Nat} {s:Pc} (h:RB m b s) (k:Keep m m'):RB m' b s:=by
 obtain⟨gv,pv,mv,h0,h1,h2,h3⟩:=h
 exact⟨gv,pv,mv,k.get h0,h1.k1 k.k1,h2.k1 k.k1,h3.k1 k.k1⟩
def PlN(m0:Mem X) (c:Cf) (cb p rb i:Nat) (a0 a1:AV) (e:List AV) (m:Mem X):Prop:=∃ (P:Pla) (s:Pc) (x7 x8 x9 x10 x11 x12 x13 x14 x15 x16:AV),
 e=[a0,a1,.ptr cb 0,.bool false,.ptr p 0,.ptr rb 0,.int .i64 i,x7,x8,x9,x10,x11,x12,x13,x14,x15,x16]∧Keep m0 m∧P.p=p∧PO m P s∧(∀ k,P.has k→m0.length≤k)∧s.c=c∧Inb s∧m0.length≤rb∧RB m rb s
theorem same_rb(s t:Pc) (h:s.c=t.c):samePB s t=sameRB s t:=by
 unfold samePB sameRB
 rw[h,Bool.eq_iff_iff]
 simp only[decide_true,Bool.true_and,Bool.and_eq_true,decide_eq_true_eq]
 constructor
 ·rintro⟨a,b,c,d⟩;exact⟨b,c,d,a⟩
 ·rintro⟨b,c,d,a⟩;exact⟨a,b,c,d⟩
theorem same_self(s:Pc):sameRB s s=true:=by simp[sameRB]
theorem AS.row{m:Mem X} {l:List Act} {v:AV} (h:AS m l v) {i:Nat} {a:Act} (ha:l[i]?=some a):∃ q o cap ro L,v = .sl q o l.length cap∧m[q]?=some (.cells 3 ro L)∧o+l.length * 3≤L.length∧L[o+i * 3+2]?=some a.v∧(L.drop (o+i * 3)).take 3=aC a:=by
 have hi:i < l.length:=(List.getElem?_eq_some_iff.1 ha).1
 obtain⟨q,o,cap,ro,L,h1,h2,h3,h4,_⟩:=h.1.at (by omega)
 refine⟨q,o,cap,ro,L,h1,h2,h4,?_,?_⟩
 ·rw[Nat.add_assoc,sl_get h3 (by omega),rows_at aC_len ha (by decide:2 < 3)];rfl
 ·have:=rows_part aC_len ha
  rw[← h3,List.drop_take,List.take_take,List.drop_drop,Nat.min_eq_left (by omega)] at this
  exact this
set_option maxRecDepth 100000 in
set_option maxHeartbeats 16000000 in
theorem plT_run{m0 m:Mem X} {c:Cf} {cb p rb p2 b8 i b10:Nat} {a0 a1 v9 x12 x13 x14 x15 x16:AV} {P Q:Pla} {s t:Pc} {ats:List Act} {a:Act} (hr:rightP c) (hA:AS m0 ats a1) (ha:ats[i]?=some a) (hal:a.l.length≤20)
  (hk:Keep m0 m) (hP:P.p=p) (H:PO m P s) (hf:∀ k,P.has k→m0.length≤k) (hc:s.c=c) (hin:Inb s) (hrb:m0.length≤rb) (R:RB m rb s) (hQ:Q.p=p2) (K:PO m Q t) (htc:t.c=c) (htn:Inb t) (S8:RB m b8 t) (h9:SI m true a.l v9) :
  W GPl plT (fun y e' m'=>y = .normal∧PlN m0 c cb p rb i a0 a1 e' m') [a0,a1,.ptr cb 0,.bool false,.ptr p 0,.ptr rb 0,.int .i64 i,.ptr p2 0,.ptr b8 0,v9,.ptr b10 0,.bool true,x12,x13,x14,x15,x16] m:=by
 have a242:assoc (GPl (X:=X)) 242=some (amFunc GCo pool_Pool_Copy):=rfl
 have a244:assoc (GPl (X:=X)) 244=some (amFunc GSP docs_SamePool):=rfl
 have a232:assoc (GPl (X:=X)) 232=some c_pool_Pool_Batch:=rfl
 have a245:assoc (GPl (X:=X)) 245=some c_ref15_Batch:=rfl
 have a84:assoc (GPl (X:=X)) 84=some c_kit_SameInts:=rfl
 have a246:assoc (GPl (X:=X)) 246=some (amFunc GPS pool_Same):=rfl
 generalize (GPl (X:=X))=G at a242 a244 a232 a245 a84 a246 ⊢
 subst hP;subst hQ
 have bs:=H.bd hin (by rw[hc];exact hr)
 have bt:=K.bd htn (by rw[htc];exact hr)
 obtain⟨gv,pv,mv,gR,r1,r2,r3⟩:=R
 obtain⟨gv',pv',mv',g8,w1,w2,w3⟩:=S8
 have RR:RP m s (.agg (rC s.c gv pv mv s.spin)):=⟨gv,pv,mv,rfl,r1,r2,r3⟩
 have SS:RP m t (.agg (rC t.c gv' pv' mv' t.spin)):=⟨gv',pv',mv',rfl,w1,w2,w3⟩
 have hss:=same_self s
 have htt:=same_self t
 have hst:=same_rb s t (hc.trans htc.symm)
 simp only[rC] at gR g8 RR SS
 simp(disch:=first|assumption|omega|(simp only[zl]<;>omega)|(simp only[zn])) only[plT,plB,plLoop,sqN,sqT,law15_PoolPlays,↓zd,zk,seval,reduceIte,List.map,AV.cells,List.all,AV.one,eqV,eqAll,splice,fillA,List.replicate,resAll,resA,zm,zg,gR,a244]
 refine OKT_fn (samepool_run H bs RR) ?_
 rintro _ m1 ⟨rfl,k1⟩
 rw[hss]
 have gR1:=k1.get gR
 simp(disch:=first|assumption|omega|(simp only[zl]<;>omega)|(simp only[zn])) only[↓zd,zk,seval,reduceIte,List.map,AV.cells,List.all,AV.one,eqV,eqAll,splice,fillA,List.replicate,resAll,resA,zm,zg,gR1,a244]
 refine OKT_fn (samepool_run (H.keep k1) bs (RR.k1 k1.k1)) ?_
 rintro _ m2 ⟨rfl,k2⟩
 rw[hss]
 have g82:=k2.get (k1.get g8)
 have gR2:=k2.get gR1
 simp(disch:=first|assumption|omega|(simp only[zl]<;>omega)|(simp only[zn])) only[↓zd,zk,seval,reduceIte,List.map,AV.cells,List.all,AV.one,eqV,eqAll,splice,fillA,List.replicate,resAll,resA,zm,zg,g82,a244]
 refine OKT_fn (samepool_run (K.keep (k1.trans k2)) bt (SS.k1 (k1.trans k2).k1)) ?_
 rintro _ m3 ⟨rfl,k3⟩
 rw[htt]
 have kk3:=k1.trans (k2.trans k3)
 have H3:=H.keep kk3
 have gR3:=k3.get gR2
 have hn0:s.c.n≠0:=by rw[hc];have:=hr.1;omega
 have hb3:=batch_eq H3 hn0
 obtain⟨m4,hb4,k4⟩:=rbatch_eq (RR.k1 kk3.k1) hn0
 have kk4:=kk3.trans k4
 obtain⟨q,o,cap,ro,L,rfl,gq,gl,gv2,_⟩:=hA.row ha
 have gq4:=(hk.trans kk4).get gq
 have hil:=(List.getElem?_eq_some_iff.1 ha).1
 have ha4:=(hA.2 a (List.mem_of_getElem? ha)).keep (hk.trans kk4)
 have hsi:=same_eq (h9.keep kk4) ha4 (by omega)
 simp(disch:=first|assumption|omega|(simp only[zl]<;>omega)|(simp only[zn])) only[↓zd,zk,seval,reduceIte,List.map,AV.cells,List.all,AV.one,eqV,eqAll,splice,fillA,List.replicate,resAll,resA,zm,zg,a232,hb3,gR3,a245,hb4,gq4,gv2,a84,hsi,a242]
 have H4:=H.keep kk4
 refine OKT_fn (pcopy_run H4 bs) ?_
 rintro _ m5 ⟨p3,rfl,k5,P3,rfl,HP3,_⟩
 have H5:=H4.keep k5
 simp(disch:=first|assumption|omega|(simp only[zl]<;>omega)|(simp only[zn])) only[↓zd,zk,seval,reduceIte,List.map,AV.cells,List.all,AV.one,eqV,eqAll,splice,fillA,List.replicate,resAll,resA,zm,zg,a246]
 refine OKT_fn (psame_run H5 HP3 bs bs) ?_
 rintro _ m6 ⟨rfl,k6⟩
 rw[same_rb s s rfl,hss]
 have kk6:=kk4.trans (k5.trans k6)
 simp(disch:=first|assumption|omega|(simp only[zl]<;>omega)|(simp only[zn])) only[↓zd,zk,seval,reduceIte,List.map,AV.cells,List.all,AV.one,eqV,eqAll,splice,fillA,List.replicate,resAll,resA,zm,zg,a246]
 refine OKT_fn (psame_run (H.keep kk6) (K.keep kk6) bs bt) ?_
 rintro _ m7 ⟨rfl,k7⟩
 have kk7:=kk6.trans k7
 have g87:=kk7.get g8
 have g86:=kk6.get g8
 simp(disch:=first|assumption|omega|(simp only[zl]<;>omega)|(simp only[zn])) only[↓zd,zk,seval,reduceIte,List.map,AV.cells,List.all,AV.one,eqV,eqAll,splice,fillA,List.replicate,resAll,resA,zm,zg,g87,a244]
 refine OKT_fn (samepool_run (H.keep kk7) bs (SS.k1 kk7.k1)) ?_
 rintro _ m8 ⟨rfl,k8⟩
 rw[hst]
 simp(disch:=first|assumption|omega|(simp only[zl]<;>omega)|(simp only[zn])) only[↓zd,zk,seval,reduceIte,List.map,AV.cells,List.all,AV.one,eqV,eqAll,splice,fillA,List.replicate,resAll,resA,zm,zg,gR,gR1,gR2,gR3,g86,g87]
 have kk8:=kk7.trans k8
 exact⟨P,s,_,_,_,_,_,_,_,_,_,_,rfl,hk.trans kk8,rfl,H.keep kk8,hf,hc,hin,hrb,gv,pv,mv,kk8.get gR,r1.k1 kk8.k1,r2.k1 kk8.k1,r3.k1 kk8.k1⟩
end Go.Am.F15
end
section
namespace Go.Am.F15
open Go.Am.F10 (iC iC_at iC_len iC_one iC_app SI SI.val same_run Cf cfC rightP right_run Nx si_take si_drop si_row cutA dropA pick_eq)
open Go.Am.F06 (sqN sqT)
variable {X:Type}
theorem PO.at_kk{m m':Mem X} {P Q:Pla} {t:Pc} (K:PO m Q t) (h:KPl m m' P) (hd:∀ k,Q.has k→¬ P.has k):PO m' Q t:=K.at fun k hk=>h.2 k (K.lt hk) (hd k hk)
theorem PO.ne10{m:Mem X} {P:Pla} {s:Pc} (H:PO m P s) {b:Nat} {l:List AV} (g:m[b]?=some (.cells 10 false l)):¬ P.has b:=fun hk=>by
 have key:∀ {i j xs},LN m i j xs→b≠i:=fun hl hki=>by
  obtain⟨l',hc⟩:=hl.cell
  rw[← hki,g] at hc;injection hc with hc;injection hc with hc;exact absurd hc (by decide)
 have key2:∀ {i j xs},LN m i j xs→j≠some b:=fun hl hj=>by
  obtain⟨tb,c,ht⟩:=hl.tab hj
  rw[ht] at g;cases g
 rcases hk with hk|hk|hk|hk|hk|hk|hk
 ·have:=H.gp;rw[← hk,g] at this;injection this with this;injection this with this;exact absurd this (by decide)
 ·exact key H.l1 hk
 ·exact key H.l2 hk
 ·exact key H.l3 hk
 ·exact key2 H.l1 hk
 ·exact key2 H.l2 hk
 ·exact key2 H.l3 hk
theorem PO.put10{m:Mem X} {P:Pla} {s:Pc} (H:PO m P s) {b:Nat} {l:List AV} (g:m[b]?=some (.cells 10 false l)) (C:Chunk X):PO (m.set b C) P s :=
 H.at fun k hk=>List.getElem?_set_ne (fun e=>H.ne10 g (by rw[e];exact hk))
def PlA(m0:Mem X) (c:Cf) (cb p rb i:Nat) (a0 a1:AV) (a:Act) (e:List AV) (m:Mem X):Prop:=∃ (P Q:Pla) (s t:Pc) (p2 b8 b10:Nat) (v9 x12 x13 x14 x15 x16:AV),
 e=[a0,a1,.ptr cb 0,.bool false,.ptr p 0,.ptr rb 0,.int .i64 i,.ptr p2 0,.ptr b8 0,v9,.ptr b10 0,.bool true,x12,x13,x14,x15,x16]∧Keep m0 m∧P.p=p∧PO m P s∧(∀ k,P.has k→m0.length≤k)∧s.c=c∧Inb s∧m0.length≤rb∧RB m rb s ∧
 Q.p=p2∧PO m Q t∧t.c=c∧Inb t∧RB m b8 t∧SI m true a.l v9
set_option maxRecDepth 100000 in
set_option maxHeartbeats 16000000 in
theorem plS_run{m0 m:Mem X} {c:Cf} {cb p rb i:Nat} {a0 a1:AV} {ats:List Act} {a:Act} {e:List AV} (hr:rightP c) (hA:AS m0 ats a1) (hF:∀ a ∈ ats,Fit a.v) (ha:ats[i]?=some a) (hal:a.l.length≤20) (h:PlN m0 c cb p rb i a0 a1 e m) {R:AC} {Y:AX→List AV→Mem X→Prop}
  (hK:∀ e' m',PlA m0 c cb p rb i a0 a1 a e' m'→W GPl R Y e' m'):W GPl (sqN 0 plB) (thenQ Y (W GPl (.seq (sqN 1 plB) (.seq (sqN 2 plB) (.seq (sqN 3 plB) (.seq (sqN 4 plB) R)))) Y)) e m:=by
 have a242:assoc (GPl (X:=X)) 242=some (amFunc GCo pool_Pool_Copy):=rfl
 have a243:assoc (GPl (X:=X)) 243=some (amFunc GDo law15_does):=rfl
 generalize (GPl (X:=X))=G at a242 a243 hK ⊢
 obtain⟨P,s,x7,x8,x9,x10,x11,x12,x13,x14,x15,x16,rfl,hk,rfl,H,hf,hc,hin,hrb,gv,pv,mv,gR,r1,r2,r3⟩:=h
 have bs:=H.bd hin (by rw[hc];exact hr)
 have o1:=one_rw r1
 have o2:=one_rw r2
 have o3:=one_rw r3
 unfold AV.one at o1 o2 o3
 have hil:=(List.getElem?_eq_some_iff.1 ha).1
 obtain⟨q,o,cap,ro,L,rfl,gq,gl,gv2,grow⟩:=hA.row ha
 have hgl:o+i * 3+3≤L.length:=by omega
 have hav:=hA.2 a (List.mem_of_getElem? ha)
 have kz:=Keep.app m [Chunk.cells 10 false Z10]
 have HZ:=H.keep kz
 have lR:=(List.getElem?_eq_some_iff.1 gR).1
 simp only[rC,Z10] at gR kz HZ
 simp(disch:=first|assumption|omega|(simp only[zl]<;>omega)|(simp only[zn])) only[plB,plLoop,sqN,law15_PoolPlays,↓zd,zk,seval,reduceIte,List.map,AV.cells,List.all,AV.one,eqV,eqAll,splice,fillA,List.replicate,resAll,resA,zm,zg,a242]
 refine OKT_fn (pcopy_run HZ bs) ?_
 rintro _ m1 ⟨p2,rfl,k1,Q,rfl,K,hQ⟩
 have kk1:=kz.trans k1
 have gR1:=kk1.get gR
 have g8:m1[m.length]?=some (.cells 10 false Z10):=k1.get (by simp[Z10])
 have l8:=(List.getElem?_eq_some_iff.1 g8).1
 simp only[Z10] at g8
 have kM:Keep m (m1.set m.length (.cells 10 false (rC s.c gv pv mv s.spin))):=kk1.set (Nat.le_refl _) _
 have gq2:=(hk.trans kM).get gq
 obtain⟨v9,m3,e9,L9,k3⟩:=lv_new (hav.keep (hk.trans kM)) (by omega)
 have KM:=K.put10 g8 (.cells 10 false (rC s.c gv pv mv s.spin))
 have g8M:(m1.set m.length (.cells 10 false (rC s.c gv pv mv s.spin)))[m.length]?=some (.cells 10 false (rC s.c gv pv mv s.spin)):=List.getElem?_set_self l8
 simp only[rC] at gq2 e9 KM g8M kM k3 L9
 simp(disch:=first|assumption|omega|(simp only[zl]<;>omega)|(simp only[zn])) only[↓zd,zk,seval,reduceIte,List.map,AV.cells,List.all,AV.one,eqV,eqAll,splice,fillA,List.replicate,resAll,resA,zm,zg,gR,gR1,g8,o1,o2,o3,gq2,gv2,evA,e9]
 have kk3:=kM.trans k3
 have kz3:=Keep.app m3 [Chunk.cells 10 false Z10]
 have H3:=H.keep (kk3.trans kz3)
 have K3:=KM.keep (k3.trans kz3)
 have gR3:=kk3.get gR
 have l3R:=(List.getElem?_eq_some_iff.1 gR3).1
 have gq3:=(hk.trans kk3).get gq
 have l3q:=(List.getElem?_eq_some_iff.1 gq3).1
 have g83:=k3.get g8M
 have l38:=(List.getElem?_eq_some_iff.1 g83).1
 have RR:=RP.k1 (s:=s) ⟨gv,pv,mv,rfl,r1,r2,r3⟩ (kk3.trans kz3).k1
 have hav3:=hav.keep (hk.trans (kk3.trans kz3))
 have hag:aC a=[.int .i64 a.k,.int .i64 a.n,a.v]:=rfl
 simp only[Z10,rC] at kz3 H3 K3 RR hav3
 have hdr:=does_run H3 (by rw[hc];exact hr) hin RR hav3 (hF a (List.mem_of_getElem? ha)) hal
 simp(disch:=first|assumption|omega|(simp only[zl]<;>omega)|(simp only[zn])) only[↓zd,zk,seval,reduceIte,List.map,AV.cells,List.all,AV.one,eqV,eqAll,splice,fillA,List.replicate,resAll,resA,zm,zg,gR3,gq3,grow,o1,o2,o3,a243]
 refine OKT_fn hdr ?_
 rintro _ m4 ⟨P',s',v',hn,hp,HP,hsc,hi',⟨gv',pv',mv',rfl,w1,w2,w3⟩,rfl⟩
 have u1:=one_rw w1
 have u2:=one_rw w2
 have u3:=one_rw w3
 unfold AV.one at u1 u2 u3
 have kk4:KK (m3++[Chunk.cells 10 false Z10]) m4:=H3.kk hp
 have gA:m4[m3.length]?=some (.cells 10 false Z10):=kk4.2 _ _ _ _ (by simp) (by decide) (by decide)
 have lA:=(List.getElem?_eq_some_iff.1 gA).1
 have gR4:=kk4.2 _ _ _ _ (kz3.get gR3) (by decide) (by decide)
 have lR4:=(List.getElem?_eq_some_iff.1 gR4).1
 simp only[Z10,rC] at gA gR4
 simp(disch:=first|assumption|omega|(simp only[zl]<;>omega)|(simp only[zn])) only[rC,↓zd,zk,seval,reduceIte,List.map,AV.cells,List.all,AV.one,eqV,eqAll,splice,fillA,List.replicate,resAll,resA,zm,zg,gA,gR4,u1,u2,u3,gR3,gq3,grow,o1,o2,o3]
 have ne3:m3.length≠rb:=by omega
 have gRs:∀ C,(m4.set m3.length C)[rb]?=some (.cells 10 false _):=fun C=>(List.getElem?_set_ne ne3).trans gR4
 have k1s:∀ C D,K1 m4 ((m4.set m3.length C).set rb D):=fun C D=>((K1.refl m4).set gA (by decide) C).set (gRs C) (by decide) D
 have hlz:=kz3.1
 have hl3:=kk3.1
 have g84:=kk4.2 _ _ _ _ (kz3.get g83) (by decide) (by decide)
 have k1m:∀ C D,K1 m ((m4.set m3.length C).set rb D):=fun C D=>((kk3.trans kz3).k1.trans kk4.k1).trans (k1s C D)
 have hkl:=hk.1
 have hpl:=hp.1
 refine hK _ _ ⟨P',Q,s',s,_,_,_,_,_,_,_,_,_,rfl,⟨?_,fun k h1=>?_⟩,hn.1,(HP.put10 gA _).put10 (gRs _) _,fun k h1=>?_,hsc.trans hc,hi',hrb,
  ⟨gv',pv',mv',List.getElem?_set_self (by simpa using lR4),w1.k1 (k1s _ _),w2.k1 (k1s _ _),w3.k1 (k1s _ _)⟩,rfl,((K3.at_kk hp ?_).put10 gA _).put10 (gRs _) _,hc,hin,⟨gv,pv,mv,?_,r1.k1 (k1m _ _),r2.k1 (k1m _ _),r3.k1 (k1m _ _)⟩,((L9.rw.k1 (kz3.k1.trans kk4.k1)).k1 (k1s _ _)).1⟩
 ·simp only[List.length_set];omega
 ·rw[List.getElem?_set_ne (by omega),List.getElem?_set_ne (by omega)]
  exact(hp.2 k (by omega) (fun h=>by have:=hf k h;omega)).trans ((hk.trans (kk3.trans kz3)).2 k h1)
 ·rcases Nat.lt_or_ge k (m3++[Chunk.cells 10 false [AV.int .i64 0,.int .i64 0,.int .i64 0,.int .i64 0,.int .i64 0,.int .i64 0,.nils,.nils,.nils,.int .i64 0]]).length with hl|hl
  ·exact hf k (hn.has hl h1)
  ·omega
 ·intro k h1 h2
  have:=hQ k h1
  have:=H.lt h2
  simp at *;omega
 ·rw[List.getElem?_set_ne (by omega),List.getElem?_set_ne (by omega)]
  exact g84
end Go.Am.F15
end
section
namespace Go.Am.F15
open Go.Am.F10 (iC iC_at iC_len iC_one iC_app SI SI.val same_run Cf cfC rightP right_run Nx si_take si_drop si_row cutA dropA pick_eq)
open Go.Am.F06 (sqN sqT)
variable {X:Type}
def PlJ(m0:Mem X) (c:Cf) (cb p rb:Nat) (n:Nat) (a0 a1:AV) (k:Nat) (e:List AV) (m:Mem X):Prop:=∃ i:Nat,k=n - i∧i≤n∧PlN m0 c cb p rb i a0 a1 e m
theorem few_all{ats:List Act} {n:Nat} (h:fewB ats n=true):ats.length≤n∧∀ a ∈ ats,a.l.length≤20:=by
 simp only[fewB,Bool.and_eq_true,decide_eq_true_eq,List.all_eq_true] at h
 refine⟨h.2,fun a ha=>?_⟩
 have:=h.1 a (by rw[List.take_of_length_le (by omega)];exact ha)
 simpa using this
set_option maxRecDepth 100000 in
set_option maxHeartbeats 16000000 in
theorem plays_run{m:Mem X} {c:Cf} {ats:List Act} {a1:AV} (hA:AS m ats a1) (hF:∀ a ∈ ats,Fit a.v):Fn GPl law15_PoolPlays [.agg (cfC c),a1] m (fun r m'=>r = .bool true∧Keep m m'):=by
 have a222:assoc (GPl (X:=X)) 222=some (amFunc [] law15_few):=rfl
 have a223:assoc (GPl (X:=X)) 223=some (amFunc GWk law15_works):=rfl
 have a224:assoc (GPl (X:=X)) 224=some (amFunc GNw pool_New):=rfl
 have a157:assoc (GPl (X:=X)) 157=some c_conf_Config_Right:=rfl
 have a147:assoc (GPl (X:=X)) 147=some c_docs_Config:=rfl
 have a241:assoc (GPl (X:=X)) 241=some (amFunc G15n ref15_New):=rfl
 have hT:=@plT_run X
 have hS:=@plS_run X
 generalize (GPl (X:=X))=G at a222 a223 a224 a157 a147 a241 hT hS ⊢
 have hrt:∀ m:Mem X,c_conf_Config_Right [.agg (cfC c)] m=some (.bool (decide (rightP c)),m++[.cells 6 false (cfC c)]):=fun m=>Fn_eq (right_run c)
 have k0:=Keep.app m [Chunk.cells 6 false (cfC c)]
 have hfew:amFunc [] law15_few [a1,.int .i64 60] (m++[Chunk.cells 6 false (cfC c)])=some (.bool (fewB ats 60),m++[Chunk.cells 6 false (cfC c)]):=Fn_eq (few_run (hA.keep k0) (most:=60) (by decide))
 have hcf:=config_eq (X:=X) c
 simp only[cfC] at hrt hfew hcf
 refine Fn_of rfl ?_
 rw[pl_body]
 cases hf:fewB ats 60 with
 | false =>
  rw[hf] at hfew
  simp(disch:=first|assumption|omega|(simp only[zl]<;>omega)|(simp only[zn])) only[sqN,law15_PoolPlays,↓zd,zk,seval,reduceIte,List.map,AV.cells,List.all,AV.one,eqV,eqAll,splice,fillA,List.replicate,resAll,resA,zm,zg,cfC,a222,hfew,a223]
  refine OK_fn works_run ?_
  rintro _ m1 ⟨rfl,hk1⟩
  simp(disch:=first|assumption|omega|(simp only[zl]<;>omega)|(simp only[zn])) only[↓zd,zk,seval,reduceIte,List.map,AV.cells,List.all,AV.one,eqV,eqAll,splice,fillA,List.replicate,resAll,resA,zm,zg]
  exact k0.trans hk1
 | true =>
  rw[hf] at hfew
  obtain⟨hal,ha20⟩:=few_all hf
  by_cases hr:rightP c
  ·have hd:decide (rightP c)=true:=decide_eq_true hr
   rw[hd] at hrt
   simp(disch:=first|assumption|omega|(simp only[zl]<;>omega)|(simp only[zn])) only[sqN,law15_PoolPlays,↓zd,zk,seval,reduceIte,List.map,AV.cells,List.all,AV.one,eqV,eqAll,splice,fillA,List.replicate,resAll,resA,zm,zg,cfC,a222,hfew,a224]
   refine OK_fn (new_run (c:=c) hr) ?_
   rintro _ m1 ⟨p,rfl,hk1,P,rfl,H1,hP⟩
   have g1:m1[m.length]?=some (.cells 6 false (cfC c)):=hk1.get (by simp[cfC])
   have l1:=(List.getElem?_eq_some_iff.1 g1).1
   have k2:=Keep.app m1 [Chunk.cells 6 false (cfC c)]
   simp only[cfC] at g1 k2
   simp(disch:=first|assumption|omega|(simp only[zl]<;>omega)|(simp only[zn])) only[sqN,law15_PoolPlays,↓zd,zk,seval,reduceIte,List.map,AV.cells,List.all,AV.one,eqV,eqAll,splice,fillA,List.replicate,resAll,resA,zm,zg,g1,a157,hrt,a147,hcf,a241]
   have k3:=Keep.app m1 [Chunk.cells 6 false (cfC c),Chunk.cells 6 false (cfC c),Chunk.cells 6 false (cfC c)]
   simp only[cfC] at k3
   refine OK_fn (rnew_run (c:=c) (by have:=hr.1;omega) (by have:=hr.2.2.2.1;omega)) ?_
   rintro _ m2 ⟨k4,_,⟨gv,pv,mv,rfl,r1,r2,r3⟩,rfl⟩
   have o1:=one_rw r1
   have o2:=one_rw r2
   have o3:=one_rw r3
   unfold AV.one at o1 o2 o3
   have kB:=Keep.app m2 [Chunk.cells 10 false (rC c gv pv mv 0)]
   have kk:=(k0.trans hk1).trans (k3.trans (k4.trans kB))
   have H9:=H1.keep (k3.trans (k4.trans kB))
   have hlen:=hA.1.len
   simp only[rC] at kB
   simp(disch:=first|assumption|omega|(simp only[zl]<;>omega)|(simp only[zn])) only[rC,↓zd,zk,seval,reduceIte,List.map,AV.cells,List.all,AV.one,eqV,eqAll,splice,fillA,List.replicate,resAll,resA,zm,zg,plR,newS,o1,o2,o3]
   have hm2:m.length≤m2.length:=Nat.le_trans (k0.trans hk1).1 (Nat.le_trans k3.1 k4.1)
   refine W_loop (PlJ m c m.length P.p m2.length ats.length (.agg (cfC c)) a1) ats.length (by unfold FUEL;omega) ⟨0,rfl,Nat.zero_le _,P,newS c,_,_,_,_,_,_,_,_,_,_,rfl,kk,rfl,H9,fun k hk=>?_,rfl,⟨rfl,inb_from (by decide),inb_from (by decide),Int.le_refl _,by show (0:Int)≤c.m;have:=hr.2.2.2.1;have:=hr.1;omega⟩,hm2,gv,pv,mv,get_concat,r1.k1 kB.k1,r2.k1 kB.k1,r3.k1 kB.k1⟩ ?_
   ·have:=hP k hk;simp at this;omega
   rintro k e m' ⟨i,rfl,hi,hN⟩
   have hN':=hN
   obtain⟨P9,s9,x7,x8,x9,x10,x11,x12,x13,x14,x15,x16,rfl,hkN,_⟩:=hN'
   simp(disch:=first|assumption|omega|(simp only[zl]<;>omega)|(simp only[zn])) only[↓zd,zk,seval,reduceIte,List.map,AV.cells,List.all,AV.one,eqV,eqAll,splice,fillA,List.replicate,resAll,resA,zm,zg,plC,plLoop,sqN,law15_PoolPlays,ev_len,hlen]
   refine CW_of (fun h=>?_) (fun h=>?_)
   ·simp only[decide_eq_true_eq] at h
    obtain⟨a,hai⟩:∃ a,ats[i]?=some a:=⟨_,List.getElem?_eq_getElem (by omega)⟩
    have hla:=ha20 a (List.mem_of_getElem? hai)
    have hN2:∀ v,PlN m c m.length P.p m2.length i (.agg (cfC c)) a1 [.agg (cfC c),a1,.ptr m.length 0,.bool false,.ptr P.p 0,.ptr m2.length 0,.int .i64 i,x7,x8,x9,x10,x11,x12,x13,x14,v,x16] m':=fun v=>by
     obtain⟨P8,s8,y7,y8,y9,y10,y11,y12,y13,y14,y15,y16,he,hrest⟩:=hN
     exact⟨P8,s8,x7,x8,x9,x10,x11,x12,x13,x14,_,x16,rfl,hrest⟩
    simp(disch:=first|assumption|omega|(simp only[zl]<;>omega)|(simp only[zn])) only[↓zd,zk,seval,reduceIte,List.map,AV.cells,List.all,AV.one,eqV,eqAll,splice,fillA,List.replicate,resAll,resA,zm,zg]
    refine hS hr hA hF hai hla (hN2 _) ?_
    rintro e3 m3 ⟨P3,Q3,s3,t3,p2,b8,b10,v9,z12,z13,z14,z15,z16,rfl,q1,q2,q3,q4,q5,q6,q7,q8,q9,q10,q11,q12,q13,q14⟩
    refine W_mono (hT hr hA hai hla q1 q2 q3 q4 q5 q6 q7 q8 q9 q10 q11 q12 q13 q14) ?_
    rintro y e4 m4 ⟨rfl,P4,s4,y7,y8,y9,y10,y11,y12,y13,y14,y15,y16,rfl,hrest⟩
    simp(disch:=first|assumption|omega|(simp only[zl]<;>omega)|(simp only[zn])) only[↓zd,zk,seval,reduceIte,List.map,AV.cells,List.all,AV.one,eqV,eqAll,splice,fillA,List.replicate,resAll,resA,zm,zg,plI,plLoop,sqN,law15_PoolPlays]
    exact⟨_,by omega,i+1,rfl,by omega,P4,s4,_,_,_,_,_,_,_,_,_,_,rfl,hrest⟩
   ·simp only[decide_eq_false_iff_not] at h
    simp(disch:=first|assumption|omega|(simp only[zl]<;>omega)|(simp only[zn])) only[↓zd,zk,seval,reduceIte,List.map,AV.cells,List.all,AV.one,eqV,eqAll,splice,fillA,List.replicate,resAll,resA,zm,zg,plEnd,sqT,law15_PoolPlays,a223]
    refine OK_fn works_run ?_
    rintro _ m9 ⟨rfl,hk9⟩
    simp(disch:=first|assumption|omega|(simp only[zl]<;>omega)|(simp only[zn])) only[↓zd,zk,seval,reduceIte,List.map,AV.cells,List.all,AV.one,eqV,eqAll,splice,fillA,List.replicate,resAll,resA,zm,zg]
    exact hkN.trans hk9
  ·have hd:decide (rightP c)=false:=decide_eq_false hr
   rw[hd] at hrt
   simp(disch:=first|assumption|omega|(simp only[zl]<;>omega)|(simp only[zn])) only[sqN,law15_PoolPlays,↓zd,zk,seval,reduceIte,List.map,AV.cells,List.all,AV.one,eqV,eqAll,splice,fillA,List.replicate,resAll,resA,zm,zg,cfC,a222,hfew,a224]
   refine OK_fn (new_no (c:=c) hr) ?_
   rintro _ m1 ⟨rfl,hk1⟩
   have g1:m1[m.length]?=some (.cells 6 false (cfC c)):=hk1.get (by simp[cfC])
   have l1:=(List.getElem?_eq_some_iff.1 g1).1
   have k2:=Keep.app m1 [Chunk.cells 6 false (cfC c)]
   simp only[cfC] at g1 k2
   simp(disch:=first|assumption|omega|(simp only[zl]<;>omega)|(simp only[zn])) only[sqN,law15_PoolPlays,↓zd,zk,seval,reduceIte,List.map,AV.cells,List.all,AV.one,eqV,eqAll,splice,fillA,List.replicate,resAll,resA,zm,zg,g1,a157,hrt,a223]
   refine OK_fn works_run ?_
   rintro _ m2 ⟨rfl,hk2⟩
   simp(disch:=first|assumption|omega|(simp only[zl]<;>omega)|(simp only[zn])) only[↓zd,zk,seval,reduceIte,List.map,AV.cells,List.all,AV.one,eqV,eqAll,splice,fillA,List.replicate,resAll,resA,zm,zg]
   exact k0.trans (hk1.trans (k2.trans hk2))
end Go.Am.F15
end
section
namespace Go.Am.F15
open Go.Am.F10 (iC iC_at iC_len iC_one iC_app SI SI.val same_run Cf cfC rightP right_run Nx si_take si_drop si_row cutA dropA madeC made_eq pick_eq)
open Go.Am.F06 (sqN sqT)
variable {X:Type}
def KnA(m0 m:Mem X) (ats:List Act) (v:AV):Prop:=Own m0 m 3 ats.length (ats.flatMap aC) v∧∀ a ∈ ats,SI m false a.l a.v∧Fit a.v∧a.v.one=true
theorem KnA.keep{m0 m m':Mem X} {ats:List Act} {v:AV} (h:KnA m0 m ats v) (k:Keep m m'):KnA m0 m' ats v:=by
 refine⟨?_,fun a ha=>⟨(h.2 a ha).1.keep k,(h.2 a ha).2⟩⟩
 rcases h.1 with h|⟨q,h1,h2,h3,h4⟩
 ·exact .inl h
 ·exact .inr ⟨q,h1,k.get h2,h3,Nat.lt_of_lt_of_le h4 k.1⟩
theorem flat_len(ats:List Act):(ats.flatMap aC).length=ats.length * 3:=rows_len aC_len ats
theorem KnA.as{m0 m:Mem X} {ats:List Act} {v:AV} (h:KnA m0 m ats v):AS m ats v:=⟨(h.1.sl (flat_len ats)).1.ro,fun a ha=>(h.2 a ha).1⟩
theorem KnA.fit{m0 m:Mem X} {ats:List Act} {v:AV} (h:KnA m0 m ats v):∀ a ∈ ats,Fit a.v:=fun a ha=>(h.2 a ha).2.1
theorem aC_all{a:Act} (h:a.v.one=true):(aC a).all AV.one=true:=by
 simp only[aC,List.all_cons,List.all_nil,h,Bool.and_true];rfl
theorem si_k1{m m':Mem X} {w:Bool} {l:List Int} {v:AV} (h:SI m w l v) (k:K1 m m'):SI m' w l v:=by
 obtain⟨h0,h⟩:=h
 refine⟨h0,?_⟩
 rcases h with h|⟨q,o,cap,h1,h2⟩
 ·exact .inl h
 ·refine .inr ⟨q,o,cap,h1,fun hn=>?_⟩
  obtain⟨ro,L,h3,h4⟩:=h2 hn
  exact⟨ro,L,k.2 q ro L h3,h4⟩
theorem kn_push{m0 m:Mem X} {ats:List Act} {v:AV} {a:Act} {j:Nat} {ro:Bool} (h:KnA m0 m ats v) (hk:Keep m0 m) (hx:m[j]?=some (.cells 3 ro (aC a))) (ha:SI m false a.l a.v) (hf:Fit a.v) (h1:a.v.one=true) (hl:ats.length < 1000) :
  ∃ v' m',appendA 3 40 v (.sl j 0 1 (some 1)) m=some (v',m')∧KnA m0 m' (ats++[a]) v'∧Keep m0 m':=by
 have hall:(ats.flatMap aC).all AV.one=true:=by
  rw[List.all_eq_true]
  intro x hx
  obtain⟨b,hb,hxb⟩:=List.mem_flatMap.1 hx
  exact List.all_eq_true.1 (aC_all (h.2 b hb).2.2) x hxb
 have hfl:(ats++[a]).flatMap aC=ats.flatMap aC++aC a:=by simp
 have hm:=hk.1
 rcases h.1 with⟨h0,hl0,rfl⟩|⟨q,rfl,hq,hq1,hq2⟩
 ·have hats:ats=[]:=List.length_eq_zero_iff.1 h0
  subst hats
  refine⟨_,_,append_nils (sz:=3) (bytes:=40) hx (aC_len a) (aC_all h1) (by decide),⟨.inr ⟨m.length,rfl,?_,hm,by simp⟩,fun b hb=>?_⟩,hk.trans (Keep.app _ _)⟩
  ·rw[hfl];exact get_concat
  ·simp at hb;subst hb
   exact⟨ha.keep (Keep.app _ _),hf,h1⟩
 ·refine⟨_,_,append_none (sz:=3) (bytes:=40) hq (flat_len ats) hx (aC_len a) hall (aC_all h1) (by omega) (by omega),⟨.inr ⟨m.length,?_,?_,hm,by simp⟩,fun b hb=>?_⟩,(hk.set hq1 _).trans (Keep.app _ _)⟩
  ·simp
  ·rw[hfl]
   have:(m.set q Chunk.dead).length=m.length:=by simp
   rw[← this];exact get_concat
  ·have k1:K1 m (m.set q Chunk.dead++[Chunk.cells 3 false (ats.flatMap aC++aC a)]):=((K1.refl m).set hq (by decide) .dead).trans (Keep.app _ _).k1
   rcases List.mem_append.1 hb with hb|hb
   ·obtain⟨b1,b2,b3⟩:=h.2 b hb
    exact⟨si_k1 b1 k1,b2,b3⟩
   ·simp at hb;subst hb
    exact⟨si_k1 ha k1,hf,h1⟩
theorem row3{m:Mem X} {q n:Nat} {x y z:Int} (h:m[q]?=some (.cells 1 false [.int .i64 x,.int .i64 y,.int .i64 z])) (hn:n≤3):SI m false ([x,y,z].take n) (.sl q 0 n (some 3)):=by
 have hl:([x,y,z].take n).length=n:=by rw[List.length_take];simp;omega
 refine⟨by rw[iC_len];omega,.inr ⟨q,0,some 3,by rw[hl],fun _=>⟨false,_,h,?_,by rw[hl];simp;omega,fun h=>by cases h⟩⟩⟩
 rw[hl,List.drop_zero,Nat.mul_one]
 simp[iC,List.map_take]
def GKn:List (Nat × AFun X):=[(133,c_docs_Made),(247,amFunc GPl law15_PoolPlays),(240,amFunc GBd law15_PoolBounds),(248,amFunc GNo law15_PoolNone),(223,amFunc GWk law15_works)]
def KnI(m0 m1:Mem X) (i:Nat) (x5 x6 x8:AV) (k:Nat) (e:List AV) (m:Mem X):Prop:=∃ (seed:Int) (j:Nat) (ats:List Act) (v x7:AV),
 e=[.bool false,.int .i64 seed,.int .i64 i,v,.int .i64 j,x5,x6,x7,x8]∧k=50 - j∧j≤50∧0≤seed∧seed < 100003∧Keep m0 m∧KnA m1 m ats v∧Keep m1 m∧ats.length=j
def KnO(m0:Mem X) (k:Nat) (e:List AV) (m:Mem X):Prop:=∃ (seed:Int) (i:Nat) (x3 x4 x5 x6 x7 x8:AV),
 e=[.bool false,.int .i64 seed,.int .i64 i,x3,x4,x5,x6,x7,x8]∧k=60 - i∧i≤60∧0≤seed∧seed < 100003∧Keep m0 m
def knB:AC:=match sqN 2 law15_PoolKnown.body with | .seq _ (.block _ (.loop (.seq _ (.seq (.block _ b) _))))=>b|c=>c
set_option maxRecDepth 100000 in
set_option maxHeartbeats 8000000 in
theorem knIn_run{G:List (Nat × AFun X)} {m0 m:Mem X} {seed:Int} {i:Nat} {x4 x5 x6 x7 x8:AV} (hk00:Keep m0 m) (h0:0≤seed) (h1:seed < 100003) :
  W G (sqN 1 knB) (fun y e m'=>y = .normal∧∃ seed' ats v z4 z7,e=[.bool false,.int .i64 seed',.int .i64 i,v,z4,x5,x6,z7,x8]∧0≤seed'∧seed' < 100003∧Keep m0 m'∧AS m' ats v∧∀ a ∈ ats,Fit a.v) [.bool false,.int .i64 seed,.int .i64 i,.nils,x4,x5,x6,x7,x8] m:=by
 simp(disch:=first|assumption|omega|(simp only[zl]<;>omega)|(simp only[zn])) only[knB,sqN,law15_PoolKnown,↓zd,zk,seval,reduceIte,List.map,AV.cells,List.all,AV.one,eqV,eqAll,splice,fillA,List.replicate,resAll,resA,zm,zg]
 refine W_loop (KnI m0 m i x5 x6 x8) 50 (by unfold FUEL;omega) ⟨seed,0,[],.nils,_,rfl,rfl,by decide,h0,h1,hk00,⟨.inl ⟨rfl,rfl,rfl⟩,fun a ha=>by cases ha⟩,Keep.refl m,rfl⟩ ?_
 rintro k e m' ⟨seed,j,ats,v,y7,rfl,rfl,hj,h0,h1,hk,hA,hk1,hal⟩
 simp(disch:=first|assumption|omega|(simp only[zl]<;>omega)|(simp only[zn])) only[↓zd,zk,seval,reduceIte,List.map,AV.cells,List.all,AV.one,eqV,eqAll,splice,fillA,List.replicate,resAll,resA,zm,zg]
 refine CW_of (fun hc=>?_) (fun hc=>?_)
 ·simp only[decide_eq_true_eq] at hc
  have t0:(0≤seed.tmod 4)=True:=eq_true (Int.tmod_nonneg 4 h0)
  have t1:seed.tmod 4 < 4:=Int.tmod_lt_of_pos seed (by decide)
  have t0':=Int.tmod_nonneg 4 h0
  have hsl:∀ (M:Mem X) (q:Nat),sliceA M 1 (.sl q 0 3 (some 3)) none (some (seed.tmod 4).toNat) none=some (.sl q 0 (seed.tmod 4).toNat (some 3)):=fun M q=>by
   simp only[sliceA,Option.getD_some,Option.getD_none]
   rw[if_pos ⟨by omega,by omega,by omega,.inl trivial⟩]
   simp
  have r3:repeatL 3 [AV.int .i64 0]=[.int .i64 0,.int .i64 0,.int .i64 0]:=rfl
  obtain⟨a,ha⟩:∃ a:Act,a=⟨seed.tmod 8,IntKind.i64.wrap ((IntKind.i64.wrap (seed.tdiv 8)).tmod 12 - 2),[seed.tmod 9,(IntKind.i64.wrap (seed.tdiv 9)).tmod 9,(IntKind.i64.wrap (seed.tdiv 81)).tmod 20].take (seed.tmod 4).toNat,.sl m'.length 0 (seed.tmod 4).toNat (some 3)⟩:=⟨_,rfl⟩
  have kB:=Keep.app m' [Chunk.cells 1 false [.int .i64 (seed.tmod 9),.int .i64 ((IntKind.i64.wrap (seed.tdiv 9)).tmod 9),.int .i64 ((IntKind.i64.wrap (seed.tdiv 81)).tmod 20)],Chunk.cells 3 false (aC a)]
  have hg:(m'++[Chunk.cells 1 false [.int .i64 (seed.tmod 9),.int .i64 ((IntKind.i64.wrap (seed.tdiv 9)).tmod 9),.int .i64 ((IntKind.i64.wrap (seed.tdiv 81)).tmod 20)],Chunk.cells 3 false (aC a)])[m'.length]?=some (.cells 1 false [.int .i64 (seed.tmod 9),.int .i64 ((IntKind.i64.wrap (seed.tdiv 9)).tmod 9),.int .i64 ((IntKind.i64.wrap (seed.tdiv 81)).tmod 20)]):=by simp
  have hrow:=row3 (n:=(seed.tmod 4).toNat) hg (by omega)
  obtain⟨v2,m2,hap,hA2,hk2⟩:=kn_push (a:=a) (j:=m'.length+1) (ro:=false) (hA.keep kB) (hk1.trans kB) (by simp) (by rw[ha];rw[ha] at hrow;exact hrow) (by rw[ha];exact fun _ _ _ _ e=>by injection e with _ _ e1 e2;injection e2 with e2;omega) (by rw[ha];rfl) (by omega)
  rw[ha] at hap
  simp only[aC] at hap
  have w1:IntKind.i64.wrap (seed * 31)=seed * 31:=wrapI (by omega) (by omega)
  have w2:IntKind.i64.wrap (7 * (j:Int))=7 * j:=wrapI (by omega) (by omega)
  have w3:IntKind.i64.wrap (seed * 31+7 * j)=seed * 31+7 * j:=wrapI (by omega) (by omega)
  have w4:IntKind.i64.wrap (seed * 31+7 * j+11)=seed * 31+7 * j+11:=wrapI (by omega) (by omega)
  simp(disch:=first|assumption|omega|(simp only[zl]<;>omega)|(simp only[zn])) only[↓zd,zk,seval,reduceIte,List.map,AV.cells,List.all,AV.one,eqV,eqAll,splice,fillA,List.replicate,resAll,resA,zm,zg,evA,r3,repeatL_one,t0,hsl,hap,w1,w2,w3,w4]
  exact⟨_,by omega,_,j+1,ats++[a],_,_,rfl,rfl,by omega,Int.tmod_nonneg _ (by omega),Int.tmod_lt_of_pos _ (by decide),hk00.trans hk2,hA2,hk2,by simp[hal]⟩
 ·simp only[decide_eq_false_iff_not] at hc
  simp(disch:=first|assumption|omega|(simp only[zl]<;>omega)|(simp only[zn])) only[↓zd,zk,seval,reduceIte,List.map,AV.cells,List.all,AV.one,eqV,eqAll,splice,fillA,List.replicate,resAll,resA,zm,zg]
  exact⟨_,ats,_,_,_,rfl,h0,h1,hk,hA.as,hA.fit⟩
end Go.Am.F15
end
section
namespace Go.Am.F15
open Go.Am.F10 (iC iC_at iC_len iC_one iC_app SI SI.val same_run Cf cfC rightP right_run Nx si_take si_drop si_row cutA dropA madeC made_eq pick_eq)
open Go.Am.F06 (sqN sqT)
variable {X:Type}
def knLoop:AC:=match sqN 2 law15_PoolKnown.body with | .seq _ (.block _ (.loop b))=>b|c=>c
def knC:AC:=match knLoop with | .seq c _=>c|c=>c
def knJ:AC:=match knLoop with | .seq _ (.seq _ i)=>i|c=>c
def knR:AC:=.region [⟨.mov,[.c (.int .i64 0)],some 2,none⟩]
def knEnd:AC:=sqT 3 law15_PoolKnown.body
theorem kn_body:law15_PoolKnown.body = .seq (sqN 0 law15_PoolKnown.body) (.seq (sqN 1 law15_PoolKnown.body)
  (.seq (.seq knR (.block 0 (.loop (.seq knC (.seq (.block 1 (.seq (sqN 0 knB) (.seq (sqN 1 knB) (sqT 2 knB)))) knJ))))) knEnd)):=rfl
set_option maxRecDepth 100000 in
set_option maxHeartbeats 16000000 in
theorem pknown_run{m:Mem X}:Fn GKn law15_PoolKnown [] m (fun r m'=>r = .bool true∧Keep m m'):=by
 have a133:assoc (GKn (X:=X)) 133=some c_docs_Made:=rfl
 have a247:assoc (GKn (X:=X)) 247=some (amFunc GPl law15_PoolPlays):=rfl
 have a240:assoc (GKn (X:=X)) 240=some (amFunc GBd law15_PoolBounds):=rfl
 have a248:assoc (GKn (X:=X)) 248=some (amFunc GNo law15_PoolNone):=rfl
 have a223:assoc (GKn (X:=X)) 223=some (amFunc GWk law15_works):=rfl
 generalize (GKn (X:=X))=G at a133 a247 a240 a248 a223 ⊢
 have hmade:∀ (n q g mm t s:Int) (M:Mem X),c_docs_Made [.agg [.int .i64 n,.int .i64 q,.int .i64 g,.int .i64 mm,.int .i64 t,.int .i64 s]] M=some (.agg (cfC (madeC ⟨n,q,g,mm,t,s⟩)),M++[.cells 6 false (cfC ⟨n,q,g,mm,t,s⟩),.cells 6 false (cfC (madeC ⟨n,q,g,mm,t,s⟩))]):=fun n q g mm t s M=>made_eq M ⟨n,q,g,mm,t,s⟩
 simp only[cfC] at hmade
 refine Fn_of rfl ?_
 rw[kn_body]
 simp(disch:=first|assumption|omega|(simp only[zl]<;>omega)|(simp only[zn])) only[sqN,law15_PoolKnown,↓zd,zk,seval,reduceIte,List.map,AV.cells,List.all,AV.one,eqV,eqAll,splice,fillA,List.replicate,resAll,resA,zm,zg,knR]
 refine W_loop (KnO m) 60 (by unfold FUEL;omega) ⟨1,0,_,_,_,_,_,_,rfl,rfl,by decide,by decide,by decide,Keep.refl m⟩ ?_
 rintro k e m' ⟨seed,i,x3,x4,x5,x6,x7,x8,rfl,rfl,hi,h0,h1,hk⟩
 simp(disch:=first|assumption|omega|(simp only[zl]<;>omega)|(simp only[zn])) only[↓zd,zk,seval,reduceIte,List.map,AV.cells,List.all,AV.one,eqV,eqAll,splice,fillA,List.replicate,resAll,resA,zm,zg,knC,knLoop,sqN,law15_PoolKnown]
 refine CW_of (fun hc=>?_) (fun hc=>?_)
 ·simp only[decide_eq_true_eq] at hc
  simp(disch:=first|assumption|omega|(simp only[zl]<;>omega)|(simp only[zn])) only[↓zd,zk,seval,reduceIte,List.map,AV.cells,List.all,AV.one,eqV,eqAll,splice,fillA,List.replicate,resAll,resA,zm,zg,show sqN 0 knB = .region [⟨.mov,[.c .nils],some 3,none⟩] from rfl]
  refine W_mono (knIn_run hk h0 h1) ?_
  rintro y e2 m2 ⟨rfl,seed2,ats,v,z4,z7,rfl,s0,s1,hk2,hA,hF⟩
  have hm:=hmade i (IntKind.i64.wrap ((i:Int).tdiv 3)) i (IntKind.i64.wrap ((i:Int).tdiv 5)) 3 0
  generalize madeC ⟨(i:Int),IntKind.i64.wrap ((i:Int).tdiv 3),i,IntKind.i64.wrap ((i:Int).tdiv 5),3,0⟩=c at hm
  simp(disch:=first|assumption|omega|(simp only[zl]<;>omega)|(simp only[zn])) only[↓zd,zk,seval,reduceIte,List.map,AV.cells,List.all,AV.one,eqV,eqAll,splice,fillA,List.replicate,resAll,resA,zm,zg,knB,sqN,sqT,law15_PoolKnown,a133,hm,a247]
  have kB:=fun C:Mem X=>Keep.app m2 C
  refine OK_fn (plays_run (c:=c) (hA.keep (kB _)) hF) ?_
  rintro _ m3 ⟨rfl,k3⟩
  have g3:m3[m2.length+2]?=some (.cells 6 false (cfC c)):=k3.get (by simp[cfC])
  simp only[cfC] at g3
  simp(disch:=first|assumption|omega|(simp only[zl]<;>omega)|(simp only[zn])) only[↓zd,zk,seval,reduceIte,List.map,AV.cells,List.all,AV.one,eqV,eqAll,splice,fillA,List.replicate,resAll,resA,zm,zg,g3,a240]
  refine OK_fn (bounds_run (c0:=c) ((hA.keep (kB _)).keep k3)) ?_
  rintro _ m4 ⟨rfl,k4⟩
  simp(disch:=first|assumption|omega|(simp only[zl]<;>omega)|(simp only[zn])) only[↓zd,zk,seval,reduceIte,List.map,AV.cells,List.all,AV.one,eqV,eqAll,splice,fillA,List.replicate,resAll,resA,zm,zg,a248]
  refine OK_fn (none_run _) ?_
  rintro _ m5 ⟨rfl,k5⟩
  simp(disch:=first|assumption|omega|(simp only[zl]<;>omega)|(simp only[zn])) only[↓zd,zk,seval,reduceIte,List.map,AV.cells,List.all,AV.one,eqV,eqAll,splice,fillA,List.replicate,resAll,resA,zm,zg,knJ,knLoop,sqN,law15_PoolKnown]
  exact⟨_,by omega,seed2,i+1,_,_,_,_,_,_,rfl,rfl,by omega,s0,s1,hk2.trans ((kB _).trans (k3.trans (k4.trans k5)))⟩
 ·simp only[decide_eq_false_iff_not] at hc
  simp(disch:=first|assumption|omega|(simp only[zl]<;>omega)|(simp only[zn])) only[↓zd,zk,seval,reduceIte,List.map,AV.cells,List.all,AV.one,eqV,eqAll,splice,fillA,List.replicate,resAll,resA,zm,zg,knEnd,sqT,law15_PoolKnown,a247]
  refine OK_fn (plays_run (c:=⟨0,0,0,0,0,0⟩) (ats:=[]) ⟨Sl.nil,fun a ha=>by cases ha⟩ (fun a ha=>by cases ha)) ?_
  rintro _ m1 ⟨rfl,k1⟩
  have r3:repeatL 3 [AV.int .i64 0,.int .i64 0,.nils]=[.int .i64 0,.int .i64 0,.nils,.int .i64 0,.int .i64 0,.nils,.int .i64 0,.int .i64 0,.nils]:=rfl
  obtain⟨ats,hats⟩:∃ ats:List Act,ats=[⟨7,9223372036854775807,[],.nils⟩,⟨7,-9223372036854775808,[],.nils⟩,⟨1,-9223372036854775808,[],.nils⟩]:=⟨_,rfl⟩
  have hAs:AS (m1++[Chunk.cells 3 false (ats.flatMap aC)]) ats (.sl m1.length 0 3 (some 3)):=by
   refine⟨⟨flat_len ats,.inr ⟨m1.length,0,some 3,by rw[hats];rfl,fun _=>⟨false,_,get_concat,?_,?_,fun h=>by cases h⟩⟩⟩,fun a ha=>?_⟩
   ·rw[List.drop_zero,List.take_of_length_le (by rw[flat_len];omega)]
   ·rw[flat_len];omega
   ·rw[hats] at ha
    simp only[List.mem_cons,List.not_mem_nil,or_false] at ha
    rcases ha with rfl|rfl|rfl<;>exact Sl.nil
  have hFt:∀ a ∈ ats,Fit a.v:=fun a ha=>by
   rw[hats] at ha
   simp only[List.mem_cons,List.not_mem_nil,or_false] at ha
   rcases ha with rfl|rfl|rfl<;>exact fun _ _ _ _ e=>by cases e
  have kC:=Keep.app m1 [Chunk.cells 3 false (ats.flatMap aC)]
  have hpl:=plays_run (c:=⟨8,64,256,16,200,1000⟩) hAs hFt
  rw[hats] at hpl kC
  simp only[List.flatMap_cons,List.flatMap_nil,aC,List.cons_append,List.nil_append,cfC] at hpl kC
  simp(disch:=first|assumption|omega|(simp only[zl]<;>omega)|(simp only[zn])) only[↓zd,zk,seval,reduceIte,List.map,AV.cells,List.all,AV.one,eqV,eqAll,splice,fillA,List.replicate,resAll,resA,zm,zg,evA,r3,a247]
  refine OK_fn hpl ?_
  rintro _ m2 ⟨rfl,k2⟩
  simp(disch:=first|assumption|omega|(simp only[zl]<;>omega)|(simp only[zn])) only[↓zd,zk,seval,reduceIte,List.map,AV.cells,List.all,AV.one,eqV,eqAll,splice,fillA,List.replicate,resAll,resA,zm,zg,a223]
  refine OK_fn works_run ?_
  rintro _ m3 ⟨rfl,k3⟩
  simp(disch:=first|assumption|omega|(simp only[zl]<;>omega)|(simp only[zn])) only[↓zd,zk,seval,reduceIte,List.map,AV.cells,List.all,AV.one,eqV,eqAll,splice,fillA,List.replicate,resAll,resA,zm,zg]
  exact hk.trans (k1.trans (kC.trans (k2.trans k3)))
end Go.Am.F15
end
