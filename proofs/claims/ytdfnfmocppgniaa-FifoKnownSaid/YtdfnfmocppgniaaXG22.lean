import Derived.Test.YtdfnfmocppgniaaXG21
set_option linter.unusedSimpArgs false
set_option linter.unusedVariables false
section
namespace Go.Am.F15
open Go.Am.F10 (iC iC_at iC_len iC_one iC_app SI SI.val same_run Nx si_take si_drop si_row cutA dropA pick_eq)
open Go.Am.F06 (sqN sqT)
open Go.Am.F14 (law14_works law14_row law14_FifoFirst law14_FifoPasses law14_FifoPlays law14_few law14_does law14_is law14_FifoKnown fifo_Pass ref14_Pop ref14_Remove ref14_Pass)
variable {X:Type}
theorem ro_new{m:Mem X} {w:Bool} {ys:List Int} {y:AV} (hy:SI m w ys y) (hl2:ys.length≤100000) :
  ∃ v' m',appendA 1 8 .nils y m=some (v',m')∧RO m' ys v'∧Lies v' m.length m'.length∧Keep m m':=by
 have hr:=si_row hy
 have hlen:=hy.len
 by_cases h0:ys.length=0
 ·have hx:ys=[]:=List.length_eq_zero_iff.1 h0
  subst hx
  exact⟨.nils,m,by simp only[appendA,hlen,hr,List.length_nil,if_true],.inl ⟨rfl,rfl⟩,(fun q n e=>by cases e),Keep.refl m⟩
 ·refine⟨.sl m.length 0 ys.length none,m++[.cells 1 false (iC ys)],?_,.inr ⟨m.length,rfl,get_concat⟩,(fun q n e=>by injection e with e;subst e;simp),Keep.app _ _⟩
  simp only[appendA,hlen,hr]
  rw[if_neg h0,if_pos ⟨by omega,by omega,iC_one _⟩]
theorem Lies.up{v:AV} {lo lo' hi:Nat} (h:Lies v lo hi) (hl:lo'≤lo):Lies v lo' hi:=fun q n e=>by have:=h q n e;omega
theorem LV.wo{m0 m m':Mem X} {xs:List Int} {v v9:AV} {lo:Nat} (h:LV m0 m xs v) (hl:Lies v9 lo m0.length) (hw:WO v9 m m'):LV m0 m' xs v:=by
 have old:∀ q,m0.length≤q→m'[q]?=m[q]?:=fun q hq=>hw.2 q fun n e=>by have:=hl q n e;omega
 obtain⟨⟨h0,h1⟩,h2⟩:=h
 rcases h2 with rfl|⟨q,o,n,l,rfl,g1,g2,g3,g4⟩
 ·exact⟨⟨h0,h1.imp id fun⟨q,o,c,e,_⟩=>by cases e⟩,.inl rfl⟩
 ·refine⟨⟨h0,.inr ?_⟩,.inr ⟨q,o,n,l,rfl,(old q g2).trans g1,g2,by rw[hw.1];exact g3,g4⟩⟩
  rcases h1 with⟨e,_⟩|⟨q',o',c,e,hh⟩
  ·cases e
  ·refine⟨q',o',c,e,fun hn=>?_⟩
   obtain⟨ro,L,f1,f2⟩:=hh hn
   injection e with e1;subst e1
   exact⟨ro,L,(old q g2).trans f1,f2⟩
def GDo14:List (Nat × AFun X):=[(111,amFunc G14 ref14_Push),(101,amFunc GPush fifo_Line_Push),(126,amFunc [] ref14_Pop),(103,amFunc GPop fifo_Line_Pop),(109,amFunc GRow law14_row),(127,amFunc G14 ref14_Remove),(104,amFunc GRem fifo_Line_Remove),(128,amFunc GRp ref14_Pass),(108,amFunc GPass fifo_Pass)]
def DoQ(D:Nat→Prop) (m:Mem X) (a b:Nat) (n:Nat) (r:AV) (m':Mem X):Prop:=∃ xs ys va vb,r = .tup [va,vb,.bool true]∧SD D m a b xs ys m'∧RS m' xs va∧RS m' ys vb∧xs.length+ys.length≤n
theorem addLen{xs l:List Int}:(if fitsB xs l=true then xs++l else xs).length≤xs.length+l.length:=by
 split
 ·rw[List.length_append];omega
 ·omega
theorem psLen{xs ys:List Int} {n:Int}:(psX xs ys n).length+(psY xs ys n).length=xs.length+ys.length:=by
 unfold psX psY
 split
 ·rw[List.length_drop,List.length_append,List.length_take]
  have:popN xs n≤xs.length:=by unfold popN;omega
  omega
 ·rfl
theorem rmLen{xs:List Int} {x:Int}:(rmL xs x).length≤xs.length:=by
 unfold rmL
 split
 ·rw[List.length_append,List.length_take,List.length_drop];omega
 ·omega
set_option maxRecDepth 100000 in
set_option maxHeartbeats 16000000 in
theorem does14_run{D:Nat→Prop} {m:Mem X} {a b:Nat} {xs ys:List Int} {ra rb:AV} {act:Act} (hD:∀ q,m.length≤q→D q) (H:ND D m a b xs ys) (hra:RS m xs ra) (hrb:RS m ys rb) (ha:SI m false act.l act.v) (hf:Fit act.v) (hal:act.l.length≤40) (hx:xs.length+ys.length < 4000) :
  Fn GDo14 law14_does [.ptr a 0,.ptr b 0,ra,rb,.agg (aC act)] m (DoQ D m a b (xs.length+ys.length+40)):=by
 have a111:assoc (GDo14 (X:=X)) 111=some (amFunc G14 ref14_Push):=rfl
 have a101:assoc (GDo14 (X:=X)) 101=some (amFunc GPush fifo_Line_Push):=rfl
 have a126:assoc (GDo14 (X:=X)) 126=some (amFunc [] ref14_Pop):=rfl
 have a103:assoc (GDo14 (X:=X)) 103=some (amFunc GPop fifo_Line_Pop):=rfl
 have a109:assoc (GDo14 (X:=X)) 109=some (amFunc GRow law14_row):=rfl
 have a127:assoc (GDo14 (X:=X)) 127=some (amFunc G14 ref14_Remove):=rfl
 have a104:assoc (GDo14 (X:=X)) 104=some (amFunc GRem fifo_Line_Remove):=rfl
 have a128:assoc (GDo14 (X:=X)) 128=some (amFunc GRp ref14_Pass):=rfl
 have a108:assoc (GDo14 (X:=X)) 108=some (amFunc GPass fifo_Pass):=rfl
 generalize (GDo14 (X:=X))=G at a111 a101 a126 a103 a109 a127 a104 a128 a108 ⊢
 obtain⟨k,n,l,av⟩:=act
 simp only at ha hf hal
 have o4:av.one=true:=by
  rcases ha.2 with⟨h,_⟩|⟨q,o,cap,h,_⟩<;>rw[h]<;>rfl
 unfold AV.one at o4
 have k0:=Keep.app m [Chunk.cells 3 false [.int .i64 k,.int .i64 n,av]]
 have H0:=H.keep k0
 have hD0:∀ q,(m++[Chunk.cells 3 false [AV.int .i64 k,.int .i64 n,av]]).length≤q→D q:=fun q hq=>hD q (by have:=k0.1;omega)
 have g0:(m++[Chunk.cells 3 false [AV.int .i64 k,.int .i64 n,av]])[m.length]?=some (.cells 3 false [.int .i64 k,.int .i64 n,av]):=get_concat
 have ml0:m.length≤(m++[Chunk.cells 3 false [AV.int .i64 k,.int .i64 n,av]]).length:=k0.1
 have hra0:=hra.k1 k0.k1
 have hrb0:=hrb.k1 k0.k1
 simp only[aC]
 refine Fn_of rfl ?_
 by_cases h0:k=0
 ·subst h0
  obtain⟨v9,m1,e9,r9,l9,k1⟩:=ro_new (ha.keep k0) (by omega)
  have g1:=k1.get g0
  simp(disch:=first|assumption|omega|(simp only[zl]<;>omega)|(simp only[zn])) only[law14_does,↓zd,zk,seval,reduceIte,List.map,AV.cells,List.all,AV.one,eqV,eqAll,splice,fillA,List.replicate,resAll,resA,zm,zg,o4,evA,e9,g1,a111]
  refine OK_fn (push14_run (hra0.k1 k1.k1).1 ((ha.keep k0).keep k1) hf (by omega) (by omega)) ?_
  rintro _ m2 ⟨v10,rfl,ho⟩
  have k2:=ho.1
  have KK2:=k0.trans (k1.trans k2)
  simp(disch:=first|assumption|omega|(simp only[zl]<;>omega)|(simp only[zn])) only[↓zd,zk,seval,reduceIte,List.map,AV.cells,List.all,AV.one,eqV,eqAll,splice,fillA,List.replicate,resAll,resA,zm,zg,a101]
  refine OK_fn (ND.push (fun q hq=>hD q (by have:=KK2.1;omega)) (H.keep KK2) (r9.rw.1.keep k2) (by omega) (by omega)) ?_
  rintro _ m3 ⟨rfl,S3⟩
  have r93:=(RO.at r9 fun q nn e=>k2.2 q (l9 q nn e).2)
  have z93:=r93.rz.k1 S3.2.2
  have hlen:=z93.1.len
  simp(disch:=first|assumption|omega|(simp only[zl]<;>omega)|(simp only[zn])) only[↓zd,zk,seval,reduceIte,List.map,AV.cells,List.all,AV.one,eqV,eqAll,splice,fillA,List.replicate,resAll,resA,zm,zg]
  refine W_loop (InJ [_,_,_,_,_,_,_,_,_,_,_,_,_] [_,_,_,_,_,_,_,_,_,_,_,_,_,_,_,_,_,_,_,_] [_,_,_,_,_] l.length v9 m3) l.length (by unfold FUEL;omega) ⟨0,_,rfl,rfl,Nat.zero_le _,WO.refl v9 m3,fun q e=>?_⟩ ?_
  ·rcases r93 with⟨h,_⟩|⟨q',h,h2⟩
   ·rw[h] at e;cases e
   ·rw[h] at e;injection e with e;subst e
    exact⟨_,S3.2.2.2 _ _ _ h2,iC_len _⟩
  rintro k e m4 ⟨j,x34,rfl,rfl,hj,hw,hL⟩
  simp only[List.cons_append,List.nil_append]
  simp(disch:=first|assumption|omega|(simp only[zl]<;>omega)|(simp only[zn])) only[↓zd,zk,seval,reduceIte,List.map,AV.cells,List.all,AV.one,eqV,eqAll,splice,fillA,List.replicate,resAll,resA,zm,zg,ev_len,hlen]
  refine CW_of (fun hc=>?_) (fun hc=>?_)
  ·simp only[decide_eq_true_eq] at hc
   rcases r93 with⟨_,hx0⟩|⟨q,hvq,_⟩
   ·rw[hx0] at hc;simp at hc;omega
   ·obtain⟨L,hq1,hq2⟩:=hL q hvq
    have lq:=(List.getElem?_eq_some_iff.1 hq1).1
    subst hvq
    simp(disch:=first|assumption|omega|(simp only[zl]<;>omega)|(simp only[zn])) only[↓zd,zk,seval,reduceIte,List.map,AV.cells,List.all,AV.one,eqV,eqAll,splice,fillA,List.replicate,resAll,resA,zm,zg,hq1]
    refine⟨_,by omega,j+1,_,rfl,rfl,by omega,hw.set rfl _,fun q' e=>?_⟩
    injection e with e;subst e
    exact⟨_,List.getElem?_set_self lq,by simp[hq2]⟩
  ·simp only[decide_eq_false_iff_not] at hc
   simp(disch:=first|assumption|omega|(simp only[zl]<;>omega)|(simp only[zn])) only[↓zd,zk,seval,reduceIte,List.map,AV.cells,List.all,AV.one,eqV,eqAll,splice,fillA,List.replicate,resAll,resA,zm,zg]
   have SW:SD D m a b (if fitsB xs l=true then xs++l else xs) ys m4:=((H.same KK2).trans S3).wo z93 (l9.up ml0) hw
   refine⟨_,_,v10,rb,rfl,SW,?_,hrb.k1 SW.2.2,by have:=addLen (xs:=xs) (l:=l);omega⟩
   rcases ho.2 with⟨e1,e2⟩|hL
   ·rw[e1,e2];exact hra.k1 SW.2.2
   ·exact((LV.wo (⟨si_k1 hL.1 S3.2.2,hL.2.imp id fun⟨q,o,nn,L,f1,f2,f3,f4,f5⟩=>⟨q,o,nn,L,f1,S3.2.2.2 _ _ _ f2,f3,Nat.lt_of_lt_of_le f4 S3.2.2.1,f5⟩⟩:LV m1 m3 _ v10) l9 hw)).rs
 by_cases h1:k=1
 ·subst h1
  obtain⟨v9,m1,e9,r9,l9,k1⟩:=ro_new (ha.keep k0) (by omega)
  have g1:=k1.get g0
  simp(disch:=first|assumption|omega|(simp only[zl]<;>omega)|(simp only[zn])) only[law14_does,↓zd,zk,seval,reduceIte,List.map,AV.cells,List.all,AV.one,eqV,eqAll,splice,fillA,List.replicate,resAll,resA,zm,zg,o4,evA,e9,g1,a111]
  refine OK_fn (push14_run (hra0.k1 k1.k1).1 ((ha.keep k0).keep k1) hf (by omega) (by omega)) ?_
  rintro _ m2 ⟨v10,rfl,ho⟩
  have k2:=ho.1
  have KK2:=k0.trans (k1.trans k2)
  simp(disch:=first|assumption|omega|(simp only[zl]<;>omega)|(simp only[zn])) only[↓zd,zk,seval,reduceIte,List.map,AV.cells,List.all,AV.one,eqV,eqAll,splice,fillA,List.replicate,resAll,resA,zm,zg,a101]
  refine OK_fn (ND.push (fun q hq=>hD q (by have:=KK2.1;omega)) (H.keep KK2) (r9.rw.1.keep k2) (by omega) (by omega)) ?_
  rintro _ m3 ⟨rfl,S3⟩
  have r93:=(RO.at r9 fun q nn e=>k2.2 q (l9 q nn e).2)
  have z93:=r93.rz.k1 S3.2.2
  have hlen:=z93.1.len
  simp(disch:=first|assumption|omega|(simp only[zl]<;>omega)|(simp only[zn])) only[↓zd,zk,seval,reduceIte,List.map,AV.cells,List.all,AV.one,eqV,eqAll,splice,fillA,List.replicate,resAll,resA,zm,zg]
  refine W_loop (InJ [_,_,_,_,_,_,_,_,_,_,_,_,_] [_,_,_,_,_,_,_,_,_,_,_,_,_,_,_,_,_,_,_,_] [_,_,_,_,_] l.length v9 m3) l.length (by unfold FUEL;omega) ⟨0,_,rfl,rfl,Nat.zero_le _,WO.refl v9 m3,fun q e=>?_⟩ ?_
  ·rcases r93 with⟨h,_⟩|⟨q',h,h2⟩
   ·rw[h] at e;cases e
   ·rw[h] at e;injection e with e;subst e
    exact⟨_,S3.2.2.2 _ _ _ h2,iC_len _⟩
  rintro k e m4 ⟨j,x34,rfl,rfl,hj,hw,hL⟩
  simp only[List.cons_append,List.nil_append]
  simp(disch:=first|assumption|omega|(simp only[zl]<;>omega)|(simp only[zn])) only[↓zd,zk,seval,reduceIte,List.map,AV.cells,List.all,AV.one,eqV,eqAll,splice,fillA,List.replicate,resAll,resA,zm,zg,ev_len,hlen]
  refine CW_of (fun hc=>?_) (fun hc=>?_)
  ·simp only[decide_eq_true_eq] at hc
   rcases r93 with⟨_,hx0⟩|⟨q,hvq,_⟩
   ·rw[hx0] at hc;simp at hc;omega
   ·obtain⟨L,hq1,hq2⟩:=hL q hvq
    have lq:=(List.getElem?_eq_some_iff.1 hq1).1
    subst hvq
    simp(disch:=first|assumption|omega|(simp only[zl]<;>omega)|(simp only[zn])) only[↓zd,zk,seval,reduceIte,List.map,AV.cells,List.all,AV.one,eqV,eqAll,splice,fillA,List.replicate,resAll,resA,zm,zg,hq1]
    refine⟨_,by omega,j+1,_,rfl,rfl,by omega,hw.set rfl _,fun q' e=>?_⟩
    injection e with e;subst e
    exact⟨_,List.getElem?_set_self lq,by simp[hq2]⟩
  ·simp only[decide_eq_false_iff_not] at hc
   simp(disch:=first|assumption|omega|(simp only[zl]<;>omega)|(simp only[zn])) only[↓zd,zk,seval,reduceIte,List.map,AV.cells,List.all,AV.one,eqV,eqAll,splice,fillA,List.replicate,resAll,resA,zm,zg]
   have SW:SD D m a b (if fitsB xs l=true then xs++l else xs) ys m4:=((H.same KK2).trans S3).wo z93 (l9.up ml0) hw
   refine⟨_,_,v10,rb,rfl,SW,?_,hrb.k1 SW.2.2,by have:=addLen (xs:=xs) (l:=l);omega⟩
   rcases ho.2 with⟨e1,e2⟩|hL
   ·rw[e1,e2];exact hra.k1 SW.2.2
   ·exact((LV.wo (⟨si_k1 hL.1 S3.2.2,hL.2.imp id fun⟨q,o,nn,L,f1,f2,f3,f4,f5⟩=>⟨q,o,nn,L,f1,S3.2.2.2 _ _ _ f2,f3,Nat.lt_of_lt_of_le f4 S3.2.2.1,f5⟩⟩:LV m1 m3 _ v10) l9 hw)).rs
 by_cases h2:k=2
 ·subst h2
  simp(disch:=first|assumption|omega|(simp only[zl]<;>omega)|(simp only[zn])) only[law14_does,↓zd,zk,seval,reduceIte,List.map,AV.cells,List.all,AV.one,eqV,eqAll,splice,fillA,List.replicate,resAll,resA,zm,zg,o4,a126]
  refine OK_fn (rpop14_run hra0 n) ?_
  rintro _ _ ⟨rfl,v14,v15,rfl,s1,s2⟩
  simp(disch:=first|assumption|omega|(simp only[zl]<;>omega)|(simp only[zn])) only[↓zd,zk,seval,reduceIte,List.map,AV.cells,List.all,AV.one,eqV,eqAll,splice,fillA,List.replicate,resAll,resA,zm,zg,a103]
  refine OK_fn (ND.pop hD0 H0 n (by omega)) ?_
  rintro v5 m2 ⟨S2,o2⟩
  obtain⟨r5,l5⟩:=own_ro o2
  simp(disch:=first|assumption|omega|(simp only[zl]<;>omega)|(simp only[zn])) only[↓zd,zk,seval,reduceIte,List.map,AV.cells,List.all,AV.one,eqV,eqAll,splice,fillA,List.replicate,resAll,resA,zm,zg,a109]
  refine OK_fn (rowz_run r5.rz (s2.k1 S2.2.2).1 (by rw[List.length_take];omega) rfl) ?_
  rintro _ m3 ⟨rfl,w3⟩
  have SW:=((H.same k0).trans S2).wo r5.rz (l5.up ml0) w3
  simp(disch:=first|assumption|omega|(simp only[zl]<;>omega)|(simp only[zn])) only[↓zd,zk,seval,reduceIte,List.map,AV.cells,List.all,AV.one,eqV,eqAll,splice,fillA,List.replicate,resAll,resA,zm,zg]
  refine⟨_,_,v14,rb,rfl,SW,?_,hrb.k1 SW.2.2,by rw[List.length_drop];omega⟩
  have SW0:=S2.wo r5.rz l5 w3
  exact s1.k1 SW0.2.2
 by_cases h3:k=3
 ·subst h3
  simp(disch:=first|assumption|omega|(simp only[zl]<;>omega)|(simp only[zn])) only[law14_does,↓zd,zk,seval,reduceIte,List.map,AV.cells,List.all,AV.one,eqV,eqAll,splice,fillA,List.replicate,resAll,resA,zm,zg,o4,a127]
  refine OK_fn (rremove14_run hra0 n (by omega)) ?_
  rintro _ m1 ⟨k1,v16,rfl,s1⟩
  have g1:=k1.get g0
  simp(disch:=first|assumption|omega|(simp only[zl]<;>omega)|(simp only[zn])) only[↓zd,zk,seval,reduceIte,List.map,AV.cells,List.all,AV.one,eqV,eqAll,splice,fillA,List.replicate,resAll,resA,zm,zg,g1,a104]
  refine OK_fn (ND.remove (fun q hq=>hD0 q (by have:=k1.1;omega)) (H0.keep k1) n) ?_
  rintro _ m2 ⟨rfl,S2⟩
  have SW:=(H.same (k0.trans k1)).trans S2
  simp(disch:=first|assumption|omega|(simp only[zl]<;>omega)|(simp only[zn])) only[↓zd,zk,seval,reduceIte,List.map,AV.cells,List.all,AV.one,eqV,eqAll,splice,fillA,List.replicate,resAll,resA,zm,zg]
  exact⟨_,_,v16,rb,rfl,SW,s1.k1 S2.2.2,hrb.k1 SW.2.2,by have:=rmLen (xs:=xs) (x:=n);omega⟩
 by_cases h4:k=4
 ·subst h4
  simp(disch:=first|assumption|omega|(simp only[zl]<;>omega)|(simp only[zn])) only[law14_does,↓zd,zk,seval,reduceIte,List.map,AV.cells,List.all,AV.one,eqV,eqAll,splice,fillA,List.replicate,resAll,resA,zm,zg,o4,a128]
  refine OK_fn (rpass14_run hra0 hrb0 n (by omega) (by omega)) ?_
  rintro _ m1 ⟨k1,v18,v19,v20,rfl,s1,s2,s3⟩
  have g1:=k1.get g0
  simp(disch:=first|assumption|omega|(simp only[zl]<;>omega)|(simp only[zn])) only[↓zd,zk,seval,reduceIte,List.map,AV.cells,List.all,AV.one,eqV,eqAll,splice,fillA,List.replicate,resAll,resA,zm,zg,g1,a108]
  refine OK_fn (ND.pass (fun q hq=>hD0 q (by have:=k1.1;omega)) (H0.keep k1) n (by omega) (by omega)) ?_
  rintro _ m2 ⟨v22,hi,rfl,S2,z2,l2⟩
  simp(disch:=first|assumption|omega|(simp only[zl]<;>omega)|(simp only[zn])) only[↓zd,zk,seval,reduceIte,List.map,AV.cells,List.all,AV.one,eqV,eqAll,splice,fillA,List.replicate,resAll,resA,zm,zg,a109]
  refine OK_fn (rowz_run z2 (s3.k1 S2.2.2).1 (by unfold psR;split<;>simp<;>omega) rfl) ?_
  rintro _ m3 ⟨rfl,w3⟩
  have SW0:=S2.wo z2 l2 w3
  have SW:=(H.same (k0.trans k1)).trans SW0
  simp(disch:=first|assumption|omega|(simp only[zl]<;>omega)|(simp only[zn])) only[↓zd,zk,seval,reduceIte,List.map,AV.cells,List.all,AV.one,eqV,eqAll,splice,fillA,List.replicate,resAll,resA,zm,zg]
  exact⟨_,_,v18,v19,rfl,SW,s1.k1 SW0.2.2,s2.k1 SW0.2.2,by rw[psLen];omega⟩
 by_cases h5:k=5
 ·subst h5
  simp(disch:=first|assumption|omega|(simp only[zl]<;>omega)|(simp only[zn])) only[law14_does,↓zd,zk,seval,reduceIte,List.map,AV.cells,List.all,AV.one,eqV,eqAll,splice,fillA,List.replicate,resAll,resA,zm,zg,o4,a128]
  refine OK_fn (rpass14_run hrb0 hra0 n (by omega) (by omega)) ?_
  rintro _ m1 ⟨k1,v18,v19,v20,rfl,s1,s2,s3⟩
  have g1:=k1.get g0
  simp(disch:=first|assumption|omega|(simp only[zl]<;>omega)|(simp only[zn])) only[↓zd,zk,seval,reduceIte,List.map,AV.cells,List.all,AV.one,eqV,eqAll,splice,fillA,List.replicate,resAll,resA,zm,zg,g1,a108]
  refine OK_fn (ND.pass (fun q hq=>hD0 q (by have:=k1.1;omega)) (H0.symm.keep k1) n (by omega) (by omega)) ?_
  rintro _ m2 ⟨v22,hi,rfl,S2,z2,l2⟩
  simp(disch:=first|assumption|omega|(simp only[zl]<;>omega)|(simp only[zn])) only[↓zd,zk,seval,reduceIte,List.map,AV.cells,List.all,AV.one,eqV,eqAll,splice,fillA,List.replicate,resAll,resA,zm,zg,a109]
  refine OK_fn (rowz_run z2 (s3.k1 S2.2.2).1 (by unfold psR;split<;>simp<;>omega) rfl) ?_
  rintro _ m3 ⟨rfl,w3⟩
  have SW0:=S2.wo z2 l2 w3
  have SW:=((H.symm.same (k0.trans k1)).trans SW0).symm
  simp(disch:=first|assumption|omega|(simp only[zl]<;>omega)|(simp only[zn])) only[↓zd,zk,seval,reduceIte,List.map,AV.cells,List.all,AV.one,eqV,eqAll,splice,fillA,List.replicate,resAll,resA,zm,zg]
  exact⟨_,_,v19,v18,rfl,SW,s2.k1 SW0.2.2,s1.k1 SW0.2.2,by have:=psLen (xs:=ys) (ys:=xs) (n:=n);omega⟩
 by_cases h6:k=6
 ·subst h6
  simp(disch:=first|assumption|omega|(simp only[zl]<;>omega)|(simp only[zn])) only[law14_does,↓zd,zk,seval,reduceIte,List.map,AV.cells,List.all,AV.one,eqV,eqAll,splice,fillA,List.replicate,resAll,resA,zm,zg,o4,a108]
  refine OK_fn (pass_self H0.fst n (by omega)) ?_
  rintro _ m1 ⟨rfl,k1⟩
  have SW:=H.same (k0.trans k1)
  simp(disch:=first|assumption|omega|(simp only[zl]<;>omega)|(simp only[zn])) only[↓zd,zk,seval,reduceIte,List.map,AV.cells,List.all,AV.one,eqV,eqAll,splice,fillA,List.replicate,resAll,resA,zm,zg,ev_len,lenA]
  exact⟨_,_,ra,rb,rfl,SW,hra.k1 SW.2.2,hrb.k1 SW.2.2,by omega⟩
 ·simp(disch:=first|assumption|omega|(simp only[zl]<;>omega)|(simp only[zn])) only[law14_does,↓zd,zk,seval,reduceIte,List.map,AV.cells,List.all,AV.one,eqV,eqAll,splice,fillA,List.replicate,resAll,resA,zm,zg,o4,h0,h1,h2,h3,h4,h5,h6]
  have SW:=H.same k0
  exact⟨_,_,ra,rb,rfl,SW,hra0,hrb0,by omega⟩
end Go.Am.F15
end
section
namespace Go.Am.F15
open Go.Am.F10 (iC iC_at iC_len iC_one iC_app SI SI.val same_run Nx si_take si_drop si_row cutA dropA pick_eq)
open Go.Am.F06 (sqN sqT)
open Go.Am.F14 (law14_works law14_row law14_FifoFirst law14_FifoPasses law14_FifoPlays law14_few law14_does law14_is law14_FifoKnown fifo_Pass ref14_Pop ref14_Remove ref14_Pass)
variable {X:Type}
def GPl14:List (Nat × AFun X):=[(110,F14.c_law14_few),(99,amFunc GW14 law14_works),(107,amFunc GOf fifo_Of),(111,amFunc G14 ref14_Push),(112,amFunc GCp14 fifo_Line_Copy),(113,amFunc GDo14 law14_does),(114,amFunc GIs law14_is),(115,amFunc GSame14 fifo_Same),(84,c_kit_SameInts)]
theorem nl_same{m:Mem X} {a b:Nat} {xs ys:List Int} (H:NL [] m a xs) (K:NL [] m b ys) (hx:xs.length < 10000) (hy:ys.length < 10000):Fn GSame14 fifo_Same [.ptr a 0,.ptr b 0] m (fun r m'=>r = .bool (decide (xs=ys))∧Keep m m'):=by
 obtain⟨j,H,_⟩:=H
 obtain⟨k,K,_⟩:=K
 exact lsame_run14 H K (by omega) (by omega)
theorem nl_copy{m:Mem X} {a:Nat} {xs:List Int} (H:NL [] m a xs) (hx:xs.length < 10000):Fn GCp14 fifo_Line_Copy [.ptr a 0] m (fun r m'=>∃ i',r = .ptr i' 0∧Keep m m'∧NL m m' i' xs):=by
 have nd:=H.nodup
 obtain⟨j,H,_⟩:=H
 exact lcopy_run14 H (by omega) nd
def pyLoop:AC:=match sqN 8 law14_FifoPlays.body with | .seq _ (.block _ (.loop b))=>b|c=>c
def pyB:AC:=match pyLoop with | .seq _ (.seq (.block _ b) _)=>b|c=>c
def pyC:AC:=match pyLoop with | .seq c _=>c|c=>c
def pyI:AC:=match pyLoop with | .seq _ (.seq _ i)=>i|c=>c
def pyR:AC:=.region [⟨.mov,[.c (.int .i64 0)],some 10,none⟩]
def pyEnd:AC:=sqT 9 law14_FifoPlays.body
theorem py_body:law14_FifoPlays.body = .seq (sqN 0 law14_FifoPlays.body) (.seq (sqN 1 law14_FifoPlays.body) (.seq (sqN 2 law14_FifoPlays.body) (.seq (sqN 3 law14_FifoPlays.body) (.seq (sqN 4 law14_FifoPlays.body) (.seq (sqN 5 law14_FifoPlays.body) (.seq (sqN 6 law14_FifoPlays.body) (.seq (sqN 7 law14_FifoPlays.body)
  (.seq (.seq pyR (.block 0 (.loop (.seq pyC (.seq (.block 1 pyB) pyI))))) pyEnd)))))))):=rfl
def PyN(m0:Mem X) (a0 a1 a2:AV) (a b i:Nat) (e:List AV) (m:Mem X):Prop:=∃ (xs ys:List Int) (v6 v9 x5 x7 x11 x12 x13 x14 x15 x16 x17 x18 x19 x20:AV),
 e=[a0,a1,a2,.bool false,.ptr a 0,x5,v6,x7,.ptr b 0,v9,.int .i64 i,x11,x12,x13,x14,x15,x16,x17,x18,x19,x20]∧Keep m0 m∧ND (fun q=>m0.length≤q) m a b xs ys∧RS m xs v6∧RS m ys v9∧xs.length+ys.length≤40+40 * i
set_option maxRecDepth 100000 in
set_option maxHeartbeats 16000000 in
theorem pyB_run{m0 m:Mem X} {a0 a1:AV} {n:Int} {a b i:Nat} {ats:List Act} {act:Act} {e:List AV} (hA:AS m0 ats a1) (ha:ats[i]?=some act) (hF:Fit act.v) (hal:act.l.length≤40) (hi:i < 80) (h:PyN m0 a0 a1 (.int .i64 n) a b i e m) :
  W GPl14 pyB (fun y e' m'=>y = .normal∧∃ xs ys v6 v9 x5 x7 x11 x12 x13 x14 x15 x16 x17 x18 x19 x20,e'=[a0,a1,.int .i64 n,.bool false,.ptr a 0,x5,v6,x7,.ptr b 0,v9,.int .i64 i,x11,x12,x13,x14,x15,x16,x17,x18,x19,x20]∧Keep m0 m'∧ND (fun q=>m0.length≤q) m' a b xs ys∧RS m' xs v6∧RS m' ys v9∧xs.length+ys.length≤40+40 * (i+1)) e m:=by
 have a112:assoc (GPl14 (X:=X)) 112=some (amFunc GCp14 fifo_Line_Copy):=rfl
 have a113:assoc (GPl14 (X:=X)) 113=some (amFunc GDo14 law14_does):=rfl
 have a114:assoc (GPl14 (X:=X)) 114=some (amFunc GIs law14_is):=rfl
 have a115:assoc (GPl14 (X:=X)) 115=some (amFunc GSame14 fifo_Same):=rfl
 have a84:assoc (GPl14 (X:=X)) 84=some c_kit_SameInts:=rfl
 generalize (GPl14 (X:=X))=G at a112 a113 a114 a115 a84 ⊢
 obtain⟨xs,ys,v6,v9,x5,x7,x11,x12,x13,x14,x15,x16,x17,x18,x19,x20,rfl,hk,H,h6,h9,hl⟩:=h
 have hil:=(List.getElem?_eq_some_iff.1 ha).1
 obtain⟨q,o,cap,ro,L,rfl,gq,gl,gv2,grow⟩:=hA.row ha
 have hgl:o+i * 3+3≤L.length:=by omega
 have hav:=hA.2 act (List.mem_of_getElem? ha)
 simp(disch:=first|assumption|omega|(simp only[zl]<;>omega)|(simp only[zn])) only[pyB,pyLoop,sqN,law14_FifoPlays,↓zd,zk,seval,reduceIte,List.map,AV.cells,List.all,AV.one,eqV,eqAll,splice,fillA,List.replicate,resAll,resA,zm,zg,a112]
 refine OK_fn (nl_copy H.fst (by omega)) ?_
 rintro _ m1 ⟨c,rfl,k1,jc,C,c1,c2⟩
 have hlt:=C.lt
 have gq1:=(hk.trans k1).get gq
 have HD:ND (fun q=>m0.length≤q∧¬ (q=c∨jc=some q)) m1 a b xs ys:=by
  obtain⟨j,k,A,B,h1,h2,h3,h4,h5,h6⟩:=H
  have la:=A.lt
  have lb:=B.lt
  refine⟨j,k,A.keep k1,B.keep k1,⟨h1,?_⟩,⟨h2,?_⟩,fun q e=>⟨h3 q e,?_⟩,fun q e=>⟨h4 q e,?_⟩,h5,h6⟩
  ·rintro(e|e)
   ·omega
   ·have:=c2 _ e;omega
  ·rintro(e|e)
   ·omega
   ·have:=c2 _ e;omega
  ·have:=(la.2 q e).1
   rintro(e|e)
   ·omega
   ·have:=c2 _ e;omega
  ·have:=(lb.2 q e).1
   rintro(e|e)
   ·omega
   ·have:=c2 _ e;omega
 have hDD:∀ q,m1.length≤q→(m0.length≤q∧¬ (q=c∨jc=some q)):=fun q hq=>⟨by have:=(hk.trans k1).1;omega,by
  rintro(e|e)
  ·omega
  ·have:=(hlt.2 q e).1;omega⟩
 have hdo:=does14_run hDD HD (h6.k1 k1.k1) (h9.k1 k1.k1) (hav.keep (hk.trans k1)) hF hal (by omega)
 simp(disch:=first|assumption|omega|(simp only[zl]<;>omega)|(simp only[zn])) only[↓zd,zk,seval,reduceIte,List.map,AV.cells,List.all,AV.one,eqV,eqAll,splice,fillA,List.replicate,resAll,resA,zm,zg,gq1,grow,a113]
 refine OK_fn hdo ?_
 rintro _ m2 ⟨xs',ys',va,vb,rfl,⟨N2',kd,kk⟩,ra,rb,hl'⟩
 have K2:Keep m0 m2:=⟨by have:=(hk.trans k1).1;have:=kd.1;omega,fun q hq=>(kd.2 q (Nat.lt_of_lt_of_le hq (hk.trans k1).1) (fun e=>by omega)).trans ((hk.trans k1).2 q hq)⟩
 have C2:NL [] m2 c xs:=⟨jc,C.at (kd.2 c hlt.1 (fun e=>e.2 (.inl rfl))) (fun q e=>kd.2 q (hlt.2 q e).1 (fun e'=>e'.2 (.inr e))),Nat.zero_le _,fun _ _=>Nat.zero_le _⟩
 have r12:=(h6.k1 k1.k1).k1 kk
 have N2'':ND (fun q=>m0.length≤q) m2 a b xs' ys':=N2'.mono fun q e=>e.1
 simp(disch:=first|assumption|omega|(simp only[zl]<;>omega)|(simp only[zn])) only[↓zd,zk,seval,reduceIte,List.map,AV.cells,List.all,AV.one,eqV,eqAll,splice,fillA,List.replicate,resAll,resA,zm,zg,a114]
 refine OK_fn (is14_run N2''.fst ra n (by omega)) ?_
 rintro _ m3 ⟨rfl,k3⟩
 simp(disch:=first|assumption|omega|(simp only[zl]<;>omega)|(simp only[zn])) only[↓zd,zk,seval,reduceIte,List.map,AV.cells,List.all,AV.one,eqV,eqAll,splice,fillA,List.replicate,resAll,resA,zm,zg,a114]
 refine OK_fn (is14_run (N2''.snd.keep k3) (rb.k1 k3.k1) n (by omega)) ?_
 rintro _ m4 ⟨rfl,k4⟩
 have kk4:=k3.trans k4
 simp(disch:=first|assumption|omega|(simp only[zl]<;>omega)|(simp only[zn])) only[↓zd,zk,seval,reduceIte,List.map,AV.cells,List.all,AV.one,eqV,eqAll,splice,fillA,List.replicate,resAll,resA,zm,zg,a114]
 refine OK_fn (is14_run (C2.keep kk4) (r12.k1 kk4.k1) n (by omega)) ?_
 rintro _ m5 ⟨rfl,k5⟩
 have kk5:=kk4.trans k5
 simp(disch:=first|assumption|omega|(simp only[zl]<;>omega)|(simp only[zn])) only[↓zd,zk,seval,reduceIte,List.map,AV.cells,List.all,AV.one,eqV,eqAll,splice,fillA,List.replicate,resAll,resA,zm,zg,a115]
 refine OK_fn (nl_same (N2''.fst.keep kk5) (C2.keep kk5) (by omega) (by omega)) ?_
 rintro _ m6 ⟨rfl,k6⟩
 have kk6:=kk5.trans k6
 have hs:c_kit_SameInts [va,v6] m6=some (.bool (decide (xs'=xs)),m6):=Fn_eq (same_run (ra.k1 kk6.k1).1 (r12.k1 kk6.k1).1 (by unfold FUEL;omega))
 simp(disch:=first|assumption|omega|(simp only[zl]<;>omega)|(simp only[zn])) only[↓zd,zk,seval,reduceIte,List.map,AV.cells,List.all,AV.one,eqV,eqAll,splice,fillA,List.replicate,resAll,resA,zm,zg,a84,hs]
 exact⟨xs',ys',va,vb,_,_,_,_,_,_,_,_,_,_,_,_,rfl,K2.trans kk6,N2''.keep kk6,ra.k1 kk6.k1,rb.k1 kk6.k1,by omega⟩
end Go.Am.F15
end
section
namespace Go.Am.F15
open Go.Am.F10 (iC iC_at iC_len iC_one iC_app SI SI.val same_run Nx si_take si_drop si_row cutA dropA pick_eq)
open Go.Am.F06 (sqN sqT)
open Go.Am.F14 (law14_works law14_row law14_FifoFirst law14_FifoPasses law14_FifoPlays law14_few law14_does law14_is law14_FifoKnown fifo_Pass ref14_Pop ref14_Remove ref14_Pass)
variable {X:Type}
theorem few14_all{ats:List Act} {n:Nat} (h:few14B ats n=true):ats.length≤n∧∀ a ∈ ats,a.l.length≤40:=by
 simp only[few14B,Bool.and_eq_true,decide_eq_true_eq,List.all_eq_true] at h
 refine⟨h.2,fun a ha=>?_⟩
 have:=h.1 a (by rw[List.take_of_length_le (by omega)];exact ha)
 simpa using this
def PyJ(m0:Mem X) (n:Nat) (a0 a1 a2:AV) (a b:Nat) (k:Nat) (e:List AV) (m:Mem X):Prop:=∃ i:Nat,k=n - i∧i≤n∧PyN m0 a0 a1 a2 a b i e m
set_option maxRecDepth 100000 in
set_option maxHeartbeats 16000000 in
theorem plays14_run{m:Mem X} {zs:List Int} {ats:List Act} {a0 a1:AV} (hZ:SI m false zs a0) (fZ:Fit a0) (hA:AS m ats a1) (hF:∀ a ∈ ats,Fit a.v) (n:Int):Fn GPl14 law14_FifoPlays [a0,a1,.int .i64 n] m (fun r m'=>r = .bool true∧Keep m m'):=by
 have a110:assoc (GPl14 (X:=X)) 110=some (amFunc [] law14_few):=rfl
 have a99:assoc (GPl14 (X:=X)) 99=some (amFunc GW14 law14_works):=rfl
 have a107:assoc (GPl14 (X:=X)) 107=some (amFunc GOf fifo_Of):=rfl
 have a111:assoc (GPl14 (X:=X)) 111=some (amFunc G14 ref14_Push):=rfl
 have a114:assoc (GPl14 (X:=X)) 114=some (amFunc GIs law14_is):=rfl
 have a115:assoc (GPl14 (X:=X)) 115=some (amFunc GSame14 fifo_Same):=rfl
 have a84:assoc (GPl14 (X:=X)) 84=some c_kit_SameInts:=rfl
 have hB:=@pyB_run X
 generalize (GPl14 (X:=X))=G at a110 a99 a107 a111 a114 a115 a84 hB ⊢
 have hz:=hZ.len
 have hlen:=hA.1.len
 have hfew:amFunc [] law14_few [a1,.int .i64 80] m=some (.bool (few14B ats 80),m):=Fn_eq (few14_run hA (most:=80) (by decide))
 refine Fn_of rfl ?_
 rw[py_body]
 cases hf:few14B ats 80 with
 | false =>
  rw[hf] at hfew
  simp(disch:=first|assumption|omega|(simp only[zl]<;>omega)|(simp only[zn])) only[sqN,law14_FifoPlays,↓zd,zk,seval,reduceIte,List.map,AV.cells,List.all,AV.one,eqV,eqAll,splice,fillA,List.replicate,resAll,resA,zm,zg,a110,hfew,a99]
  refine OK_fn works14_run ?_
  rintro _ m1 ⟨rfl,k1⟩
  simp(disch:=first|assumption|omega|(simp only[zl]<;>omega)|(simp only[zn])) only[↓zd,zk,seval,reduceIte,List.map,AV.cells,List.all,AV.one,eqV,eqAll,splice,fillA,List.replicate,resAll,resA,zm,zg]
  exact k1
 | true =>
  rw[hf] at hfew
  obtain⟨hal,ha40⟩:=few14_all hf
  by_cases b1:40 < zs.length
  ·have d1:decide (40 < (zs.length:Int))=true:=decide_eq_true (by omega)
   simp(disch:=first|assumption|omega|(simp only[zl]<;>omega)|(simp only[zn])) only[sqN,law14_FifoPlays,↓zd,zk,seval,reduceIte,List.map,AV.cells,List.all,AV.one,eqV,eqAll,splice,fillA,List.replicate,resAll,resA,zm,zg,a110,hfew,ev_len,hz,d1,a99]
   refine OK_fn works14_run ?_
   rintro _ m1 ⟨rfl,k1⟩
   simp(disch:=first|assumption|omega|(simp only[zl]<;>omega)|(simp only[zn])) only[↓zd,zk,seval,reduceIte,List.map,AV.cells,List.all,AV.one,eqV,eqAll,splice,fillA,List.replicate,resAll,resA,zm,zg]
   exact k1
  have d1:decide (40 < (zs.length:Int))=false:=decide_eq_false (by omega)
  by_cases nd:zs.Nodup
  ·have ft:fitsB [] zs=true:=by rw[fits_nil];exact decide_eq_true nd
   simp(disch:=first|assumption|omega|(simp only[zl]<;>omega)|(simp only[zn])) only[sqN,law14_FifoPlays,↓zd,zk,seval,reduceIte,List.map,AV.cells,List.all,AV.one,eqV,eqAll,splice,fillA,List.replicate,resAll,resA,zm,zg,a110,hfew,ev_len,hz,d1,a107]
   refine OK_fn (of_run hZ (by omega) nd) ?_
   rintro _ m1 ⟨a,rfl,k1,j,A,A2,A3⟩
   simp(disch:=first|assumption|omega|(simp only[zl]<;>omega)|(simp only[zn])) only[sqN,law14_FifoPlays,↓zd,zk,seval,reduceIte,List.map,AV.cells,List.all,AV.one,eqV,eqAll,splice,fillA,List.replicate,resAll,resA,zm,zg,a111]
   refine OK_fn (push14_run (xs:=[]) (w:=true) (LV.nil (m0:=m1)).1 (hZ.keep k1) fZ (by simp) (by omega)) ?_
   rintro _ m2 ⟨v6,rfl,ho⟩
   rw[ft] at ho ⊢
   simp only[if_true,List.nil_append] at ho
   have r6:RS m2 zs v6:=ho.rs ⟨Sl.nil,.inl rfl⟩
   have K2:=k1.trans ho.1
   have kB:=Keep.app m2 [Chunk.cells 3 false [AV.nilm,.int .i64 0,.int .i64 0]]
   have hlt:=A.lt
   have hN:ND (fun q=>m.length≤q) (m2++[Chunk.cells 3 false [AV.nilm,.int .i64 0,.int .i64 0]]) a m2.length zs []:=by
    have hm2:=ho.1.1
    refine⟨j,none,A.keep (ho.1.trans kB),.inl ⟨rfl,rfl,0,0,get_concat⟩,A2,K2.1,A3,(fun q e=>by cases e),by omega,fun q e e'=>by cases e'⟩
   simp(disch:=first|assumption|omega|(simp only[zl]<;>omega)|(simp only[zn])) only[sqN,law14_FifoPlays,↓zd,zk,seval,reduceIte,List.map,AV.cells,List.all,AV.one,eqV,eqAll,splice,fillA,List.replicate,resAll,resA,zm,zg,pyR]
   refine W_loop (PyJ m ats.length a0 a1 (.int .i64 n) a m2.length) ats.length (by unfold FUEL;omega) ⟨0,rfl,Nat.zero_le _,zs,[],v6,.nils,_,_,_,_,_,_,_,_,_,_,_,_,rfl,K2.trans kB,hN,r6.k1 kB.k1,⟨Sl.nil,.inl rfl⟩,by simp;omega⟩ ?_
   rintro k e m' ⟨i,rfl,hi,hPy⟩
   have hPy':=hPy
   obtain⟨xs,ys,w6,w9,x5,x7,x11,x12,x13,x14,x15,x16,x17,x18,x19,x20,rfl,hk,H,h6,h9,hl⟩:=hPy'
   simp(disch:=first|assumption|omega|(simp only[zl]<;>omega)|(simp only[zn])) only[↓zd,zk,seval,reduceIte,List.map,AV.cells,List.all,AV.one,eqV,eqAll,splice,fillA,List.replicate,resAll,resA,zm,zg,pyC,pyLoop,sqN,law14_FifoPlays,ev_len,hlen]
   refine CW_of (fun hc=>?_) (fun hc=>?_)
   ·simp only[decide_eq_true_eq] at hc
    obtain⟨act,hai⟩:∃ act,ats[i]?=some act:=⟨_,List.getElem?_eq_getElem (by omega)⟩
    have hmem:=List.mem_of_getElem? hai
    simp(disch:=first|assumption|omega|(simp only[zl]<;>omega)|(simp only[zn])) only[↓zd,zk,seval,reduceIte,List.map,AV.cells,List.all,AV.one,eqV,eqAll,splice,fillA,List.replicate,resAll,resA,zm,zg]
    refine W_mono (hB hA hai (hF act hmem) (ha40 act hmem) (by omega) ⟨xs,ys,w6,w9,x5,x7,x11,x12,x13,x14,x15,x16,x17,x18,_,x20,rfl,hk,H,h6,h9,hl⟩) ?_
    rintro y e2 m3 ⟨rfl,xs2,ys2,u6,u9,y5,y7,y11,y12,y13,y14,y15,y16,y17,y18,y19,y20,rfl,hrest⟩
    simp(disch:=first|assumption|omega|(simp only[zl]<;>omega)|(simp only[zn])) only[↓zd,zk,seval,reduceIte,List.map,AV.cells,List.all,AV.one,eqV,eqAll,splice,fillA,List.replicate,resAll,resA,zm,zg,pyI,pyLoop,sqN,law14_FifoPlays]
    exact⟨_,by omega,i+1,rfl,by omega,xs2,ys2,u6,u9,_,_,_,_,_,_,_,_,_,_,_,_,rfl,hrest⟩
   ·simp only[decide_eq_false_iff_not] at hc
    simp(disch:=first|assumption|omega|(simp only[zl]<;>omega)|(simp only[zn])) only[↓zd,zk,seval,reduceIte,List.map,AV.cells,List.all,AV.one,eqV,eqAll,splice,fillA,List.replicate,resAll,resA,zm,zg,pyEnd,sqT,law14_FifoPlays,a114]
    refine OK_fn (is14_run H.fst h6 n (by omega)) ?_
    rintro _ m3 ⟨rfl,k3⟩
    simp(disch:=first|assumption|omega|(simp only[zl]<;>omega)|(simp only[zn])) only[↓zd,zk,seval,reduceIte,List.map,AV.cells,List.all,AV.one,eqV,eqAll,splice,fillA,List.replicate,resAll,resA,zm,zg,a115]
    refine OK_fn (nl_same (H.fst.keep k3) (H.snd.keep k3) (by omega) (by omega)) ?_
    rintro _ m4 ⟨rfl,k4⟩
    have hs:c_kit_SameInts [w6,w9] m4=some (.bool (decide (xs=ys)),m4):=Fn_eq (same_run (h6.k1 (k3.trans k4).k1).1 (h9.k1 (k3.trans k4).k1).1 (by unfold FUEL;omega))
    simp(disch:=first|assumption|omega|(simp only[zl]<;>omega)|(simp only[zn])) only[↓zd,zk,seval,reduceIte,List.map,AV.cells,List.all,AV.one,eqV,eqAll,splice,fillA,List.replicate,resAll,resA,zm,zg,a84,hs,a99]
    refine OK_fn works14_run ?_
    rintro _ m5 ⟨rfl,k5⟩
    simp(disch:=first|assumption|omega|(simp only[zl]<;>omega)|(simp only[zn])) only[↓zd,zk,seval,reduceIte,List.map,AV.cells,List.all,AV.one,eqV,eqAll,splice,fillA,List.replicate,resAll,resA,zm,zg]
    exact hk.trans (k3.trans (k4.trans k5))
  ·have ft:fitsB [] zs=false:=by rw[fits_nil];exact decide_eq_false nd
   simp(disch:=first|assumption|omega|(simp only[zl]<;>omega)|(simp only[zn])) only[sqN,law14_FifoPlays,↓zd,zk,seval,reduceIte,List.map,AV.cells,List.all,AV.one,eqV,eqAll,splice,fillA,List.replicate,resAll,resA,zm,zg,a110,hfew,ev_len,hz,d1,a107]
   refine OK_fn (of_no hZ (by omega) nd) ?_
   rintro _ m1 ⟨rfl,k1⟩
   simp(disch:=first|assumption|omega|(simp only[zl]<;>omega)|(simp only[zn])) only[sqN,law14_FifoPlays,↓zd,zk,seval,reduceIte,List.map,AV.cells,List.all,AV.one,eqV,eqAll,splice,fillA,List.replicate,resAll,resA,zm,zg,a111]
   refine OK_fn (push14_run (xs:=[]) (w:=true) (LV.nil (m0:=m1)).1 (hZ.keep k1) fZ (by simp) (by omega)) ?_
   rintro _ m2 ⟨v6,rfl,ho⟩
   rw[ft] at ho ⊢
   simp(disch:=first|assumption|omega|(simp only[zl]<;>omega)|(simp only[zn])) only[sqN,law14_FifoPlays,↓zd,zk,seval,reduceIte,List.map,AV.cells,List.all,AV.one,eqV,eqAll,splice,fillA,List.replicate,resAll,resA,zm,zg,a99]
   refine OK_fn works14_run ?_
   rintro _ m3 ⟨rfl,k3⟩
   simp(disch:=first|assumption|omega|(simp only[zl]<;>omega)|(simp only[zn])) only[↓zd,zk,seval,reduceIte,List.map,AV.cells,List.all,AV.one,eqV,eqAll,splice,fillA,List.replicate,resAll,resA,zm,zg]
   exact k1.trans (ho.1.trans k3)
end Go.Am.F15
end
section
namespace Go.Am.F15
open Go.Am.F10 (iC iC_at iC_len iC_one iC_app SI SI.val same_run Nx si_take si_drop si_row cutA dropA pick_eq)
open Go.Am.F06 (sqN sqT)
open Go.Am.F14 (law14_works law14_row law14_FifoFirst law14_FifoPasses law14_FifoPlays law14_few law14_does law14_is law14_FifoKnown fifo_Pass ref14_Pop ref14_Remove ref14_Pass)
variable {X:Type}
def At1(v:AV) (q:Nat):Prop:=∃ o n c,v = .sl q o n c
def Dis(v w:AV):Prop:=∀ q,At1 v q→¬ At1 w q
theorem Dis.symm{v w:AV} (h:Dis v w):Dis w v:=fun q a b=>h q b a
theorem LV.at1{m0 m:Mem X} {xs:List Int} {v:AV} (h:LV m0 m xs v) {q:Nat} (hq:At1 v q):q < m.length∧m0.length≤q∧∃ l,m[q]?=some (Chunk.cells 1 false l):=by
 obtain⟨o,n,c,rfl⟩:=hq
 rcases h.2 with h|⟨q',o',n',l,e,h1,h2,h3,h4⟩
 ·cases h
 ·injection e with e;subst e;exact⟨h3,h2,l,h1⟩
theorem lv_one{m0 m:Mem X} {xs:List Int} {v:AV} {x:Int} {j:Nat} {ro:Bool} (h:LV m0 m xs v) (hk:Keep m0 m) (hj:m[j]?=some (Chunk.cells 1 ro [.int .i64 x])) (hl:xs.length≤10000) :
  ∃ v' m',appendA 1 8 v (.sl j 0 1 (some 1)) m=some (v',m')∧LV m0 m' (xs++[x]) v'∧Keep m0 m'∧m.length≤m'.length∧(∀ q,At1 v' q→m.length≤q)∧∀ k,k < m.length→¬ At1 v k→m'[k]?=m[k]?:=by
 have hy:SI m false [x] (.sl j 0 1 (some 1)):=⟨rfl,.inr ⟨j,0,some 1,rfl,fun _=>⟨ro,_,hj,rfl,by simp,fun h=>by cases h⟩⟩⟩
 have hr:=si_row hy
 have hlen:=hy.len
 have hm:=hk.1
 have mk:∀ (M:Mem X),M.length=m.length→LV m0 (M++[Chunk.cells 1 false (iC (xs++[x]))]) (xs++[x]) (.sl m.length 0 (xs++[x]).length none):=fun M hM=>by
  have hg:(M++[Chunk.cells 1 false (iC (xs++[x]))])[m.length]?=some (.cells 1 false (iC (xs++[x]))):=by rw[← hM];exact get_concat
  exact⟨⟨by rw[iC_len];omega,.inr ⟨m.length,0,none,rfl,fun _=>⟨false,_,hg,by rw[List.drop_zero,List.take_of_length_le (by rw[iC_len];omega)],by rw[iC_len];omega,fun _=>rfl⟩⟩⟩,.inr ⟨m.length,0,_,_,rfl,hg,hm,by simp;omega,by rw[iC_len];omega⟩⟩
 have hnew:∀ q,At1 (.sl m.length 0 (xs++[x]).length none) q→m.length≤q:=fun q ⟨o,n,c,e⟩=>by injection e with e;omega
 rcases h.2 with rfl|⟨q,o,n,l,rfl,hq,hq1,hq2,hq3⟩
 ·have hxs:xs=[]:=List.length_eq_zero_iff.1 (by have:=h.1.len;simp only[lenA,Option.some.injEq] at this;exact this.symm)
  subst hxs
  refine⟨_,_,?_,mk m rfl,hk.trans (Keep.app _ _),by simp,hnew,fun k hk _=>List.getElem?_append_left hk⟩
  simp only[appendA,hlen,hr]
  rw[if_neg (by simp),if_pos ⟨by simp,by simp,iC_one _⟩]
  rfl
 ·have hn:n=xs.length:=by have:=h.1.len;simp only[lenA,Option.some.injEq] at this;exact this
  subst hn
  have hcut:(l.drop o).take (xs.length * 1)=iC xs:=by
   rcases Nat.eq_zero_or_pos xs.length with h0|hp
   ·rw[List.length_eq_zero_iff.1 h0];simp[iC]
   ·obtain⟨q',o',cap',ro,L,hv,h2,h3,h4,_⟩:=h.1.at hp
    injection hv with e1 e2 e3 e4
    subst e1;subst e2
    rw[hq] at h2;injection h2 with h2;injection h2 with _ _ h2;subst h2
    exact h3
  refine⟨_,_,?_,mk (m.set q .dead) (by simp),(hk.set hq1 _).trans (Keep.app _ _),by simp,hnew,fun k hk hk2=>?_⟩
  ·simp only[appendA,hlen,hr,Am.getC,hq,hcut]
   rw[if_neg (by simp),if_pos ⟨trivial,by omega,by simp;omega,by simp;omega,by rw[List.all_append,iC_one,iC_one];rfl⟩]
   simp[iC]
  ·have hqk:q≠k:=fun e=>hk2 ⟨o,xs.length,none,by rw[e]⟩
   rw[List.getElem?_append_left (by simpa using hk),List.getElem?_set_ne hqk]
theorem LV.same{m0 m m':Mem X} {xs:List Int} {v:AV} (h:LV m0 m xs v) (hl:m.length≤m'.length) (hk:∀ q,At1 v q→m'[q]?=m[q]?):LV m0 m' xs v:=by
 obtain⟨⟨h0,h1⟩,h2⟩:=h
 rcases h2 with rfl|⟨q,o,n,l,rfl,g1,g2,g3,g4⟩
 ·exact⟨⟨h0,h1.imp id fun⟨q,o,c,e,_⟩=>by cases e⟩,.inl rfl⟩
 ·have hq:=hk q ⟨o,n,none,rfl⟩
  refine⟨⟨h0,.inr ?_⟩,.inr ⟨q,o,n,l,rfl,hq.trans g1,g2,Nat.lt_of_lt_of_le g3 hl,g4⟩⟩
  rcases h1 with⟨e,_⟩|⟨q',o',c,e,hh⟩
  ·cases e
  ·refine⟨q',o',c,e,fun hn=>?_⟩
   obtain⟨ro,L,f1,f2⟩:=hh hn
   injection e with e1;subst e1
   exact⟨ro,L,hq.trans f1,f2⟩
theorem si_same{m m':Mem X} {w:Bool} {xs:List Int} {v:AV} (h:SI m w xs v) (hk:∀ q,At1 v q→m'[q]?=m[q]?):SI m' w xs v:=by
 obtain⟨h0,h1⟩:=h
 refine⟨h0,h1.imp id ?_⟩
 rintro⟨q,o,c,rfl,hh⟩
 exact⟨q,o,c,rfl,fun hn=>by
  obtain⟨ro,L,f1,f2⟩:=hh hn
  exact⟨ro,L,(hk q ⟨o,_,c,rfl⟩).trans f1,f2⟩⟩
structure Kq (m0 m:Mem X) (ats:List Act) (v3:AV) (x4:List Int) (v4:AV) (x5:List Int) (v5:AV) (x6:List Int) (v6:AV):Prop where
 k:Keep m0 m
 a:KnA m0 m ats v3
 r4:LV m0 m x4 v4
 r5:LV m0 m x5 v5
 r6:LV m0 m x6 v6
 d45:Dis v4 v5
 d46:Dis v4 v6
 d56:Dis v5 v6
 lt:∀ b ∈ ats,∀ q,At1 b.v q→q < m.length
 d4:∀ b ∈ ats,Dis b.v v4
 d5:∀ b ∈ ats,Dis b.v v5
 d6:∀ b ∈ ats,Dis b.v v6
section
variable {m0 m:Mem X} {ats:List Act} {v3 v4 v5 v6:AV} {x4 x5 x6:List Int}
theorem Kq.s45(h:Kq m0 m ats v3 x4 v4 x5 v5 x6 v6):Kq m0 m ats v3 x5 v5 x4 v4 x6 v6:=⟨h.k,h.a,h.r5,h.r4,h.r6,h.d45.symm,h.d56,h.d46,h.lt,h.d5,h.d4,h.d6⟩
theorem Kq.s46(h:Kq m0 m ats v3 x4 v4 x5 v5 x6 v6):Kq m0 m ats v3 x6 v6 x5 v5 x4 v4:=⟨h.k,h.a,h.r6,h.r5,h.r4,h.d56.symm,h.d46.symm,h.d45.symm,h.lt,h.d6,h.d5,h.d4⟩
theorem Kq.keep{m':Mem X} (h:Kq m0 m ats v3 x4 v4 x5 v5 x6 v6) (k:Keep m m'):Kq m0 m' ats v3 x4 v4 x5 v5 x6 v6 :=
 ⟨h.k.trans k,h.a.keep k,h.r4.keep k,h.r5.keep k,h.r6.keep k,h.d45,h.d46,h.d56,fun b hb q hq=>Nat.lt_of_lt_of_le (h.lt b hb q hq) k.1,h.d4,h.d5,h.d6⟩
theorem Kq.one(h:Kq m0 m ats v3 x4 v4 x5 v5 x6 v6) {x:Int} {j:Nat} {ro:Bool} (hj:m[j]?=some (Chunk.cells 1 ro [.int .i64 x])) (hl:x4.length≤10000) :
  ∃ v' m',appendA 1 8 v4 (.sl j 0 1 (some 1)) m=some (v',m')∧Kq m0 m' ats v3 (x4++[x]) v' x5 v5 x6 v6:=by
 obtain⟨v',m',e,L,K,hm,hn,hs⟩:=lv_one h.r4 h.k hj hl
 have hnd:∀ {w:AV},(∀ q,At1 w q→q < m.length)→Dis v' w:=fun hw q a b=>by have:=hn q a;have:=hw q b;omega
 have l5:∀ q,At1 v5 q→q < m.length:=fun q hq=>(h.r5.at1 hq).1
 have l6:∀ q,At1 v6 q→q < m.length:=fun q hq=>(h.r6.at1 hq).1
 refine⟨v',m',e,K,?_,L,h.r5.same hm fun q hq=>hs q (l5 q hq) (fun a=>h.d45 q a hq),h.r6.same hm fun q hq=>hs q (l6 q hq) (fun a=>h.d46 q a hq),hnd l5,hnd l6,h.d56,fun b hb q hq=>Nat.lt_of_lt_of_le (h.lt b hb q hq) hm,fun b hb=>(hnd (h.lt b hb)).symm,h.d5,h.d6⟩
 refine⟨?_,fun b hb=>⟨si_same (h.a.2 b hb).1 fun q hq=>hs q (h.lt b hb q hq) (fun a=>h.d4 b hb q hq a),(h.a.2 b hb).2⟩⟩
 rcases h.a.1 with g|⟨q,g1,g2,g3,g4⟩
 ·exact .inl g
 ·refine .inr ⟨q,g1,(hs q g4 fun a=>?_).trans g2,g3,Nat.lt_of_lt_of_le g4 hm⟩
  obtain⟨_,_,l,hl⟩:=h.r4.at1 a
  rw[hl] at g2;injection g2 with g2;injection g2 with g2;exact absurd g2 (by decide)
end
end Go.Am.F15
end
section
namespace Go.Am.F15
open Go.Am.F10 (iC iC_at iC_len iC_one iC_app SI SI.val same_run Nx si_take si_drop si_row cutA dropA pick_eq)
open Go.Am.F06 (sqN sqT)
open Go.Am.F14 (law14_works law14_row law14_FifoFirst law14_FifoPasses law14_FifoPlays law14_few law14_does law14_is law14_FifoKnown fifo_Pass ref14_Pop ref14_Remove ref14_Pass)
variable {X:Type}
theorem kn_push2{m0 m:Mem X} {ats:List Act} {v:AV} {a:Act} {j:Nat} {ro:Bool} (h:KnA m0 m ats v) (hk:Keep m0 m) (hx:m[j]?=some (.cells 3 ro (aC a))) (ha:SI m false a.l a.v) (hf:Fit a.v) (h1:a.v.one=true) (hl:ats.length < 1000) :
  ∃ v' m',appendA 3 40 v (.sl j 0 1 (some 1)) m=some (v',m')∧KnA m0 m' (ats++[a]) v'∧Keep m0 m'∧m.length≤m'.length∧K1 m m':=by
 obtain⟨v',m',e,h2,h3⟩:=kn_push h hk hx ha hf h1 hl
 refine⟨v',m',e,h2,h3,?_⟩
 rcases h.1 with⟨h0,hl0,rfl⟩|⟨q,rfl,hq,hq1,hq2⟩
 ·rw[append_nils (sz:=3) (bytes:=40) hx (aC_len a) (aC_all h1) (by decide)] at e
  simp only[Option.some.injEq,Prod.mk.injEq] at e
  obtain⟨_,rfl⟩:=e
  exact⟨by simp,(Keep.app _ _).k1⟩
 ·have hall:(ats.flatMap aC).all AV.one=true:=by
   rw[List.all_eq_true]
   intro x hx
   obtain⟨b,hb,hxb⟩:=List.mem_flatMap.1 hx
   exact List.all_eq_true.1 (aC_all (h.2 b hb).2.2) x hxb
  rw[append_none (sz:=3) (bytes:=40) hq (flat_len ats) hx (aC_len a) hall (aC_all h1) (by omega) (by omega)] at e
  simp only[Option.some.injEq,Prod.mk.injEq] at e
  obtain⟨_,rfl⟩:=e
  exact⟨by simp,((K1.refl m).set hq (by decide) .dead).trans (Keep.app _ _).k1⟩
theorem LV.k1s{m0 m m':Mem X} {xs:List Int} {v:AV} (h:LV m0 m xs v) (k:K1 m m'):LV m0 m' xs v:=h.same k.1 fun q hq=>by
 obtain⟨_,_,l,hl⟩:=h.at1 hq
 rw[hl];exact k.2 q false l hl
theorem Kq.act{m0 m:Mem X} {ats:List Act} {v3 v4 v5 v6:AV} {x4 x5 x6:List Int} {a:Act} {j:Nat} {ro:Bool} (h:Kq m0 m ats v3 x4 v4 x5 v5 x6 v6) (hx:m[j]?=some (.cells 3 ro (aC a))) (ha:SI m false a.l a.v) (hf:Fit a.v) (h1:a.v.one=true) (hl:ats.length < 1000)
  (hlt:∀ q,At1 a.v q→q < m.length) (h4:Dis a.v v4) (h5:Dis a.v v5) (h6:Dis a.v v6):∃ v' m',appendA 3 40 v3 (.sl j 0 1 (some 1)) m=some (v',m')∧Kq m0 m' (ats++[a]) v' x4 v4 x5 v5 x6 v6:=by
 obtain⟨v',m',e,A,K,hm,k1⟩:=kn_push2 h.a h.k hx ha hf h1 hl
 refine⟨v',m',e,K,A,h.r4.k1s k1,h.r5.k1s k1,h.r6.k1s k1,h.d45,h.d46,h.d56,fun b hb q hq=>?_,fun b hb=>?_,fun b hb=>?_,fun b hb=>?_⟩
 ·rcases List.mem_append.1 hb with hb|hb
  ·exact Nat.lt_of_lt_of_le (h.lt b hb q hq) hm
  ·simp at hb;subst hb;exact Nat.lt_of_lt_of_le (hlt q hq) hm
 ·rcases List.mem_append.1 hb with hb|hb
  ·exact h.d4 b hb
  ·simp at hb;subst hb;exact h4
 ·rcases List.mem_append.1 hb with hb|hb
  ·exact h.d5 b hb
  ·simp at hb;subst hb;exact h5
 ·rcases List.mem_append.1 hb with hb|hb
  ·exact h.d6 b hb
  ·simp at hb;subst hb;exact h6
def fkLoop:AC:=match sqN 2 law14_FifoKnown.body with | .seq _ (.block _ (.loop b))=>b|c=>c
def fkB:AC:=match fkLoop with | .seq _ (.seq (.block _ b) _)=>b|c=>c
def FkI(m1:Mem X) (i:Nat) (x8 x9 x10 x11 x13:AV) (k:Nat) (e:List AV) (m:Mem X):Prop:=∃ (seed:Int) (j:Nat) (ats:List Act) (v3 v4 v5 v6 x12:AV) (x4 x5 x6:List Int),
 e=[.bool false,.int .i64 seed,.int .i64 i,v3,v4,v5,v6,.int .i64 j,x8,x9,x10,x11,x12,x13]∧k=60 - j∧j≤60∧0≤seed∧seed < 100003∧Kq m1 m ats v3 x4 v4 x5 v5 x6 v6∧ats.length=j∧x4.length=j∧x5.length=j∧x6.length=j
theorem dis_new{m0 m:Mem X} {xs:List Int} {v:AV} {q n c:Nat} (h:LV m0 m xs v) (hq:m.length≤q):Dis (.sl q 0 n (some c)) v:=fun q' a b=>by
 obtain⟨o,n',c',e⟩:=a
 injection e with e;subst e
 have:=(h.at1 b).1
 omega
set_option maxRecDepth 100000 in
set_option maxHeartbeats 16000000 in
theorem fkIn_run{G:List (Nat × AFun X)} {m:Mem X} {seed:Int} {i:Nat} {x7 x8 x9 x10 x11 x12 x13:AV} (h0:0≤seed) (h1:seed < 100003) :
  W G (sqN 2 fkB) (fun y e m'=>y = .normal∧∃ seed' ats v3 v4 v5 v6 z7 z12 x4 x5 x6,e=[.bool false,.int .i64 seed',.int .i64 i,v3,v4,v5,v6,z7,x8,x9,x10,x11,z12,x13]∧0≤seed'∧seed' < 100003∧Kq m m' ats v3 x4 v4 x5 v5 x6 v6∧x5.length=60∧x6.length=60) [.bool false,.int .i64 seed,.int .i64 i,.nils,.nils,.nils,.nils,x7,x8,x9,x10,x11,x12,x13] m:=by
 have dn:∀ v,Dis .nils v:=fun v q a=>by obtain⟨o,n,c,e⟩:=a;cases e
 simp(disch:=first|assumption|omega|(simp only[zl]<;>omega)|(simp only[zn])) only[fkB,fkLoop,sqN,law14_FifoKnown,↓zd,zk,seval,reduceIte,List.map,AV.cells,List.all,AV.one,eqV,eqAll,splice,fillA,List.replicate,resAll,resA,zm,zg]
 refine W_loop (FkI m i x8 x9 x10 x11 x13) 60 (by unfold FUEL;omega) ⟨seed,0,[],.nils,.nils,.nils,.nils,_,[],[],[],rfl,rfl,by decide,h0,h1,⟨Keep.refl m,⟨.inl ⟨rfl,rfl,rfl⟩,fun a ha=>by cases ha⟩,LV.nil,LV.nil,LV.nil,dn _,dn _,dn _,(fun b hb=>by cases hb),(fun b hb=>by cases hb),(fun b hb=>by cases hb),(fun b hb=>by cases hb)⟩,rfl,rfl,rfl,rfl⟩ ?_
 rintro k e m' ⟨seed,j,ats,v3,v4,v5,v6,y12,x4,x5,x6,rfl,rfl,hj,h0,h1,hK,hl,hl4,hl5,hl6⟩
 simp(disch:=first|assumption|omega|(simp only[zl]<;>omega)|(simp only[zn])) only[↓zd,zk,seval,reduceIte,List.map,AV.cells,List.all,AV.one,eqV,eqAll,splice,fillA,List.replicate,resAll,resA,zm,zg]
 refine CW_of (fun hc=>?_) (fun hc=>?_)
 ·simp only[decide_eq_true_eq] at hc
  have t0:(0≤seed.tmod 4)=True:=eq_true (Int.tmod_nonneg 4 h0)
  have t1:seed.tmod 4 < 4:=Int.tmod_lt_of_pos seed (by decide)
  have t0':=Int.tmod_nonneg 4 h0
  have hsl:∀ (M:Mem X) (q:Nat),sliceA M 1 (.sl q 0 3 (some 3)) none (some (seed.tmod 4).toNat) none=some (.sl q 0 (seed.tmod 4).toNat (some 3)):=fun M q=>by
   simp only[sliceA,Option.getD_some,Option.getD_none]
   rw[if_pos ⟨by omega,by omega,by omega,.inl trivial⟩]
   simp
  have r3:repeatL 3 [AV.int .i64 0]=[.int .i64 0,.int .i64 0,.int .i64 0]:=rfl
  obtain⟨a,ha⟩:∃ a:Act,a=⟨seed.tmod 8,(IntKind.i64.wrap (seed.tdiv 8)).tmod 12,[seed.tmod 12,(IntKind.i64.wrap (seed.tdiv 12)).tmod 12,(IntKind.i64.wrap (seed.tdiv 5)).tmod 12].take (seed.tmod 4).toNat,.sl m'.length 0 (seed.tmod 4).toNat (some 3)⟩:=⟨_,rfl⟩
  have kB:=Keep.app m' [Chunk.cells 1 false [.int .i64 (seed.tmod 12),.int .i64 ((IntKind.i64.wrap (seed.tdiv 12)).tmod 12),.int .i64 ((IntKind.i64.wrap (seed.tdiv 5)).tmod 12)],Chunk.cells 3 false (aC a)]
  have hg:(m'++[Chunk.cells 1 false [.int .i64 (seed.tmod 12),.int .i64 ((IntKind.i64.wrap (seed.tdiv 12)).tmod 12),.int .i64 ((IntKind.i64.wrap (seed.tdiv 5)).tmod 12)],Chunk.cells 3 false (aC a)])[m'.length]?=some (.cells 1 false [.int .i64 (seed.tmod 12),.int .i64 ((IntKind.i64.wrap (seed.tdiv 12)).tmod 12),.int .i64 ((IntKind.i64.wrap (seed.tdiv 5)).tmod 12)]):=by simp
  have hrow:=row3 (n:=(seed.tmod 4).toNat) hg (by omega)
  have hav:a.v = .sl m'.length 0 (seed.tmod 4).toNat (some 3):=by rw[ha]
  obtain⟨v3',m2,e3,K2⟩:=(hK.keep kB).act (a:=a) (j:=m'.length+1) (ro:=false) (by simp) (by rw[ha];rw[ha] at hrow;exact hrow) (by rw[ha];exact fun _ _ _ _ e=>by injection e with _ _ e1 e2;injection e2 with e2;omega) (by rw[ha];rfl) (by omega)
   (fun q hq=>by
    rw[hav] at hq
    obtain⟨o,n,c,e⟩:=hq
    injection e with e;subst e;simp)
   (by rw[hav];exact dis_new hK.r4 (Nat.le_refl _)) (by rw[hav];exact dis_new hK.r5 (Nat.le_refl _)) (by rw[hav];exact dis_new hK.r6 (Nat.le_refl _))
  obtain⟨v4',m3,e4,K3⟩:=(K2.keep (Keep.app m2 [Chunk.cells 1 false [.int .i64 (seed.tmod 60)]])).one (x:=seed.tmod 60) (j:=m2.length) (ro:=false) get_concat (by omega)
  obtain⟨v5',m4,e5,K4⟩:=(K3.s45.keep (Keep.app m3 [Chunk.cells 1 false [.int .i64 (seed.tmod 70)]])).one (x:=seed.tmod 70) (j:=m3.length) (ro:=false) get_concat (by omega)
  obtain⟨v6',m5,e6,K5⟩:=(K4.s45.s46.keep (Keep.app m4 [Chunk.cells 1 false [.int .i64 ((IntKind.i64.wrap (seed.tdiv 3)).tmod 70)]])).one (x:=(IntKind.i64.wrap (seed.tdiv 3)).tmod 70) (j:=m4.length) (ro:=false) get_concat (by omega)
  rw[ha] at e3
  simp only[aC] at e3
  have w1:IntKind.i64.wrap (seed * 31)=seed * 31:=wrapI (by omega) (by omega)
  have w2:IntKind.i64.wrap (7 * (j:Int))=7 * j:=wrapI (by omega) (by omega)
  have w3:IntKind.i64.wrap (seed * 31+7 * j)=seed * 31+7 * j:=wrapI (by omega) (by omega)
  have w4:IntKind.i64.wrap (seed * 31+7 * j+11)=seed * 31+7 * j+11:=wrapI (by omega) (by omega)
  simp(disch:=first|assumption|omega|(simp only[zl]<;>omega)|(simp only[zn])) only[↓zd,zk,seval,reduceIte,List.map,AV.cells,List.all,AV.one,eqV,eqAll,splice,fillA,List.replicate,resAll,resA,zm,zg,evA,r3,repeatL_one,t0,hsl,e3,e4,e5,e6,w1,w2,w3,w4]
  exact⟨_,by omega,_,j+1,ats++[a],_,_,_,_,_,_,_,_,rfl,rfl,by omega,Int.tmod_nonneg _ (by omega),Int.tmod_lt_of_pos _ (by decide),K5.s46,by simp[hl],by simp[hl4],by simp[hl5],by simp[hl6]⟩
 ·simp only[decide_eq_false_iff_not] at hc
  simp(disch:=first|assumption|omega|(simp only[zl]<;>omega)|(simp only[zn])) only[↓zd,zk,seval,reduceIte,List.map,AV.cells,List.all,AV.one,eqV,eqAll,splice,fillA,List.replicate,resAll,resA,zm,zg]
  exact⟨_,ats,_,_,_,_,_,_,x4,x5,x6,rfl,h0,h1,hK,by omega,by omega⟩
end Go.Am.F15
end
