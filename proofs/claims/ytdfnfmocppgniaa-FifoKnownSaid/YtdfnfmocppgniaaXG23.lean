import Derived.Test.YtdfnfmocppgniaaXG22
set_option linter.unusedSimpArgs false
set_option linter.unusedVariables false
section
namespace Go.Am.F15
open Go.Am.F10 (iC iC_at iC_len iC_one iC_app SI SI.val same_run Nx si_take si_drop si_row cutA dropA pick_eq)
open Go.Am.F06 (sqN sqT)
open Go.Am.F14 (law14_works law14_row law14_FifoFirst law14_FifoPasses law14_FifoPlays law14_few law14_does law14_is law14_FifoKnown fifo_Pass ref14_Pop ref14_Remove ref14_Pass)
variable {X:Type}
theorem no_pass(m:Mem X) (b:Nat) (n:Int):Fn GPass fifo_Pass [.nilp,.ptr b 0,.int .i64 n] m (fun r m'=>r = .tup [.nils,.int .i64 1]∧m'=m):=Fn_of rfl (by simp(disch:=first|assumption|omega|(simp only[zl]<;>omega)|(simp only[zn])) only[fifo_Pass,↓zd,zk,seval,reduceIte,List.map,AV.cells,List.all,AV.one,eqV,eqAll,splice,fillA,List.replicate,resAll,resA,zm,zg])
theorem no_push(m:Mem X) (lv:AV):Fn GPush fifo_Line_Push [.nilp,lv] m (fun r m'=>r = .int .i64 1∧m'=m):=Fn_of rfl (by simp(disch:=first|assumption|omega|(simp only[zl]<;>omega)|(simp only[zn])) only[fifo_Line_Push,↓zd,zk,seval,reduceIte,List.map,AV.cells,List.all,AV.one,eqV,eqAll,splice,fillA,List.replicate,resAll,resA,zm,zg])
theorem no_remove(m:Mem X) (n:Int):Fn GRem fifo_Line_Remove [.nilp,.int .i64 n] m (fun r m'=>r = .bool false∧Keep m m'):=by
 have a119:assoc (GRem (X:=X)) 119=some (amFunc [] fifo_Line_Has):=rfl
 generalize (GRem (X:=X))=G at a119 ⊢
 have hh:∀ M:Mem X,Fn [] fifo_Line_Has [.nilp,.int .i64 n] M (fun r m'=>r = .bool false∧m'=M):=fun M=>Fn_of rfl (by simp(disch:=first|assumption|omega|(simp only[zl]<;>omega)|(simp only[zn])) only[fifo_Line_Has,↓zd,zk,seval,reduceIte,List.map,AV.cells,List.all,AV.one,eqV,eqAll,splice,fillA,List.replicate,resAll,resA,zm,zg])
 refine Fn_of rfl ?_
 simp(disch:=first|assumption|omega|(simp only[zl]<;>omega)|(simp only[zn])) only[fifo_Line_Remove,↓zd,zk,seval,reduceIte,List.map,AV.cells,List.all,AV.one,eqV,eqAll,splice,fillA,List.replicate,resAll,resA,zm,zg,a119]
 refine OK_fn (hh _) ?_
 rintro _ _ ⟨rfl,rfl⟩
 simp(disch:=first|assumption|omega|(simp only[zl]<;>omega)|(simp only[zn])) only[↓zd,zk,seval,reduceIte,List.map,AV.cells,List.all,AV.one,eqV,eqAll,splice,fillA,List.replicate,resAll,resA,zm,zg]
 exact Keep.refl _
theorem no_has(m:Mem X) (n:Int):Fn [] fifo_Line_Has [.nilp,.int .i64 n] m (fun r m'=>r = .bool false∧m'=m):=Fn_of rfl (by simp(disch:=first|assumption|omega|(simp only[zl]<;>omega)|(simp only[zn])) only[fifo_Line_Has,↓zd,zk,seval,reduceIte,List.map,AV.cells,List.all,AV.one,eqV,eqAll,splice,fillA,List.replicate,resAll,resA,zm,zg])
theorem no_ahead(m:Mem X) (n:Int):aheadF [.nilp,.int .i64 n] m=some (.int .i64 (-1),m):=by
 simp[aheadF,lineRows,aheadL]
theorem no_pop(m:Mem X) (n:Int):Fn GPop fifo_Line_Pop [.nilp,.int .i64 n] m (fun r m'=>r = .nils∧m'=m):=by
 have a105:assoc (GPop (X:=X)) 105=some c_fifo_Line_Len:=rfl
 generalize (GPop (X:=X))=G at a105 ⊢
 have hl:=@len_nil X m
 refine Fn_of rfl ?_
 have hn:lenA .nils=some 0:=rfl
 simp(disch:=first|assumption|omega|(simp only[zl]<;>omega)|(simp only[zn])) only[fifo_Line_Pop,↓zd,zk,seval,reduceIte,List.map,AV.cells,List.all,AV.one,eqV,eqAll,splice,fillA,List.replicate,resAll,resA,zm,zg]
 refine W_loop (fun k e m'=>(∃ x3:AV,e=[.nilp,.int .i64 n,.nils,x3])∧m'=m) 0 (by simp[FUEL]) ⟨⟨_,rfl⟩,rfl⟩ ?_
 rintro k e m' ⟨⟨x3,rfl⟩,rfl⟩
 by_cases h:0 < n
 ·have d:decide (0 < n)=true:=decide_eq_true h
  simp(disch:=first|assumption|omega|(simp only[zl]<;>omega)|(simp only[zn])) only[↓zd,zk,seval,reduceIte,List.map,AV.cells,List.all,AV.one,eqV,eqAll,splice,fillA,List.replicate,resAll,resA,zm,zg,ev_len,hn,d,a105,hl]
 ·have d:decide (0 < n)=false:=decide_eq_false h
  simp(disch:=first|assumption|omega|(simp only[zl]<;>omega)|(simp only[zn])) only[↓zd,zk,seval,reduceIte,List.map,AV.cells,List.all,AV.one,eqV,eqAll,splice,fillA,List.replicate,resAll,resA,zm,zg,ev_len,hn,d]
theorem no_all(m:Mem X):Fn GAll14 fifo_Line_All [.nilp] m (fun r m'=>r = .nils∧Keep m m'):=by
 have he:c_each14 [.nilp] m=some (.fn 131 [] [.ptr m.length 0],m++[.cells 1 false [.nilp]]):=by
  refine Fn_eq (Fn_of rfl ?_)
  simp(disch:=first|assumption|omega|(simp only[zl]<;>omega)|(simp only[zn])) only[fifo_Line_each,↓zd,zk,seval,reduceIte,List.map,AV.cells,List.all,AV.one,eqV,eqAll,splice,fillA,List.replicate,resAll,resA,zm,zg]
 have hc:c_slices_Collect_int [.fn 131 [] [.ptr m.length 0]] (m++[.cells 1 false [.nilp]])=some (.nils,m++[.cells 1 false [.nilp]]):=by
  refine Fn_eq (Fn_of rfl ?_)
  have hg:(m++[Chunk.cells 1 false [AV.nilp]])[m.length]?=some (.cells 1 false [.nilp]):=get_concat
  have ha:c_slices_AppendSeq_int [.nils,.fn 131 [] [.ptr m.length 0]] (m++[.cells 1 false [.nilp]])=some (.nils,m++[.cells 1 false [.nilp]]):=by
   show appendF 131 _ _=_
   simp only[appendF,if_true,hg,lineRows]
  simp(disch:=first|assumption|omega|(simp only[zl]<;>omega)|(simp only[zn])) only[slices_Collect_int,↓zd,zk,seval,reduceIte,List.map,AV.cells,List.all,AV.one,eqV,eqAll,splice,fillA,List.replicate,resAll,resA,zm,zg,as1,ha]
 have a121:assoc (GAll14 (X:=X)) 121=some c_each14:=rfl
 have a122:assoc (GAll14 (X:=X)) 122=some c_slices_Collect_int:=rfl
 generalize (GAll14 (X:=X))=G at a121 a122 ⊢
 refine Fn_of rfl ?_
 simp(disch:=first|assumption|omega|(simp only[zl]<;>omega)|(simp only[zn])) only[fifo_Line_All,↓zd,zk,seval,reduceIte,List.map,AV.cells,List.all,AV.one,eqV,eqAll,splice,fillA,List.replicate,resAll,resA,zm,zg,a121,a122,he,hc]
 exact Keep.app _ _
theorem no_copy(m:Mem X):Fn GCp14 fifo_Line_Copy [.nilp] m (fun r m'=>r = .nilp∧m'=m):=Fn_of rfl (by simp(disch:=first|assumption|omega|(simp only[zl]<;>omega)|(simp only[zn])) only[fifo_Line_Copy,↓zd,zk,seval,reduceIte,List.map,AV.cells,List.all,AV.one,eqV,eqAll,splice,fillA,List.replicate,resAll,resA,zm,zg])
theorem no_same{m:Mem X} {b:Nat} (H:NL [] m b []):Fn GSame14 fifo_Same [.nilp,.ptr b 0] m (fun r m'=>r = .bool true∧Keep m m'):=by
 have a100:assoc (GSame14 (X:=X)) 100=some (amFunc GAll14 fifo_Line_All):=rfl
 have a129:assoc (GSame14 (X:=X)) 129=some c_slices_Equal_int:=rfl
 generalize (GSame14 (X:=X))=G at a100 a129 ⊢
 refine Fn_of rfl ?_
 simp(disch:=first|assumption|omega|(simp only[zl]<;>omega)|(simp only[zn])) only[fifo_Same,↓zd,zk,seval,reduceIte,List.map,AV.cells,List.all,AV.one,eqV,eqAll,splice,fillA,List.replicate,resAll,resA,zm,zg,a100]
 refine OK_fn (no_all m) ?_
 rintro _ m1 ⟨rfl,k1⟩
 simp(disch:=first|assumption|omega|(simp only[zl]<;>omega)|(simp only[zn])) only[↓zd,zk,seval,reduceIte,List.map,AV.cells,List.all,AV.one,eqV,eqAll,splice,fillA,List.replicate,resAll,resA,zm,zg,a100]
 refine OK_fn (nl_all (H.keep k1) (by simp)) ?_
 rintro r2 m2 ⟨k2,o2⟩
 simp(disch:=first|assumption|omega|(simp only[zl]<;>omega)|(simp only[zn])) only[↓zd,zk,seval,reduceIte,List.map,AV.cells,List.all,AV.one,eqV,eqAll,splice,fillA,List.replicate,resAll,resA,zm,zg,a129]
 refine OK_fn (equal_run (xs:=[]) (ys:=[]) (w1:=true) (LV.nil (m0:=m2)).1 (own_si o2) (by simp)) ?_
 rintro _ _ ⟨rfl,rfl⟩
 simp(disch:=first|assumption|omega|(simp only[zl]<;>omega)|(simp only[zn])) only[↓zd,zk,seval,reduceIte,List.map,AV.cells,List.all,AV.one,eqV,eqAll,splice,fillA,List.replicate,resAll,resA,zm,zg]
 exact k1.trans k2
def GKn14:List (Nat × AFun X):=[(116,amFunc GPl14 law14_FifoPlays),(106,amFunc GFf law14_FifoFirst),(117,amFunc GPs law14_FifoPasses),(118,c_fifo_Line_Head),(108,amFunc GPass fifo_Pass),(101,amFunc GPush fifo_Line_Push),(104,amFunc GRem fifo_Line_Remove),(119,c_fifo_Line_Has),(102,aheadF),(103,amFunc GPop fifo_Line_Pop),(105,c_fifo_Line_Len),(100,amFunc GAll14 fifo_Line_All),(112,amFunc GCp14 fifo_Line_Copy),(115,amFunc GSame14 fifo_Same),(99,amFunc GW14 law14_works)]
def FkO(m0:Mem X) (k:Nat) (e:List AV) (m:Mem X):Prop:=∃ (seed:Int) (i:Nat) (x3 x4 x5 x6 x7 x8 x9 x10 x11 x12 x13:AV),
 e=[.bool false,.int .i64 seed,.int .i64 i,x3,x4,x5,x6,x7,x8,x9,x10,x11,x12,x13]∧k=60 - i∧i≤60∧0≤seed∧seed < 100003∧Keep m0 m
def fkC:AC:=match fkLoop with | .seq c _=>c|c=>c
def fkJ:AC:=match fkLoop with | .seq _ (.seq _ i)=>i|c=>c
def fkR:AC:=.region [⟨.mov,[.c (.int .i64 0)],some 2,none⟩]
def fkEnd:AC:=sqT 3 law14_FifoKnown.body
theorem fk_body:law14_FifoKnown.body = .seq (sqN 0 law14_FifoKnown.body) (.seq (sqN 1 law14_FifoKnown.body)
  (.seq (.seq fkR (.block 0 (.loop (.seq fkC (.seq (.block 1 (.seq (sqN 0 fkB) (.seq (sqN 1 fkB) (.seq (sqN 2 fkB) (sqT 3 fkB))))) fkJ))))) fkEnd)):=rfl
set_option maxRecDepth 100000 in
set_option maxHeartbeats 16000000 in
theorem fknown_run{m:Mem X}:Fn GKn14 law14_FifoKnown [] m (fun r m'=>r = .bool true∧Keep m m'):=by
 have a116:assoc (GKn14 (X:=X)) 116=some (amFunc GPl14 law14_FifoPlays):=rfl
 have a106:assoc (GKn14 (X:=X)) 106=some (amFunc GFf law14_FifoFirst):=rfl
 have a117:assoc (GKn14 (X:=X)) 117=some (amFunc GPs law14_FifoPasses):=rfl
 have a118:assoc (GKn14 (X:=X)) 118=some c_fifo_Line_Head:=rfl
 have a108:assoc (GKn14 (X:=X)) 108=some (amFunc GPass fifo_Pass):=rfl
 have a101:assoc (GKn14 (X:=X)) 101=some (amFunc GPush fifo_Line_Push):=rfl
 have a104:assoc (GKn14 (X:=X)) 104=some (amFunc GRem fifo_Line_Remove):=rfl
 have a119:assoc (GKn14 (X:=X)) 119=some (amFunc [] fifo_Line_Has):=rfl
 have a102:assoc (GKn14 (X:=X)) 102=some aheadF:=rfl
 have a103:assoc (GKn14 (X:=X)) 103=some (amFunc GPop fifo_Line_Pop):=rfl
 have a105:assoc (GKn14 (X:=X)) 105=some c_fifo_Line_Len:=rfl
 have a100:assoc (GKn14 (X:=X)) 100=some (amFunc GAll14 fifo_Line_All):=rfl
 have a112:assoc (GKn14 (X:=X)) 112=some (amFunc GCp14 fifo_Line_Copy):=rfl
 have a115:assoc (GKn14 (X:=X)) 115=some (amFunc GSame14 fifo_Same):=rfl
 have a99:assoc (GKn14 (X:=X)) 99=some (amFunc GW14 law14_works):=rfl
 generalize (GKn14 (X:=X))=G at a116 a106 a117 a118 a108 a101 a104 a119 a102 a103 a105 a100 a112 a115 a99 ⊢
 refine Fn_of rfl ?_
 rw[fk_body]
 simp(disch:=first|assumption|omega|(simp only[zl]<;>omega)|(simp only[zn])) only[sqN,law14_FifoKnown,↓zd,zk,seval,reduceIte,List.map,AV.cells,List.all,AV.one,eqV,eqAll,splice,fillA,List.replicate,resAll,resA,zm,zg,fkR]
 refine W_loop (FkO m) 60 (by unfold FUEL;omega) ⟨1,0,_,_,_,_,_,_,_,_,_,_,_,rfl,rfl,by decide,by decide,by decide,Keep.refl m⟩ ?_
 rintro k e m' ⟨seed,i,x3,x4,x5,x6,x7,x8,x9,x10,x11,x12,x13,rfl,rfl,hi,h0,h1,hk⟩
 simp(disch:=first|assumption|omega|(simp only[zl]<;>omega)|(simp only[zn])) only[↓zd,zk,seval,reduceIte,List.map,AV.cells,List.all,AV.one,eqV,eqAll,splice,fillA,List.replicate,resAll,resA,zm,zg,fkC,fkLoop,sqN,law14_FifoKnown]
 refine CW_of (fun hc=>?_) (fun hc=>?_)
 ·simp only[decide_eq_true_eq] at hc
  simp(disch:=first|assumption|omega|(simp only[zl]<;>omega)|(simp only[zn])) only[↓zd,zk,seval,reduceIte,List.map,AV.cells,List.all,AV.one,eqV,eqAll,splice,fillA,List.replicate,resAll,resA,zm,zg,show sqN 0 fkB = .region [⟨.mov,[.c .nils],some 3,none⟩] from rfl,show sqN 1 fkB = .region [⟨.mov,[.c .nils],some 4,none⟩,⟨.mov,[.c .nils],some 5,none⟩,⟨.mov,[.c .nils],some 6,none⟩] from rfl]
  refine W_mono (fkIn_run h0 h1) ?_
  rintro y e2 m2 ⟨rfl,seed2,ats,v3,v4,v5,v6,z7,z12,y4,y5,y6,rfl,s0,s1,hK,hl5,hl6⟩
  have im:∀ n:Nat,0 < n→(i:Int).tmod n=((i % n:Nat):Int):=fun n hn=>by
   rw[Int.tmod_eq_emod_of_nonneg (by omega)];omega
  have i5:(i:Int).tmod 5=((i % 5:Nat):Int):=im 5 (by decide)
  have i9:(i:Int).tmod 9=((i % 9:Nat):Int):=im 9 (by decide)
  have i8:(i:Int).tmod 8=((i % 8:Nat):Int):=im 8 (by decide)
  have p5:(0≤((i % 5:Nat):Int))=True:=eq_true (by omega)
  have p9:(0≤((i % 9:Nat):Int))=True:=eq_true (by omega)
  have p8:(0≤((i % 8:Nat):Int))=True:=eq_true (by omega)
  obtain⟨t5,u5,f5⟩:=sb_take hK.r5.1.ro hK.r5.sb (k:=i % 5) (by omega)
  simp(disch:=first|assumption|omega|(simp only[zl]<;>omega)|(simp only[zn])) only[↓zd,zk,seval,reduceIte,List.map,AV.cells,List.all,AV.one,eqV,eqAll,splice,fillA,List.replicate,resAll,resA,zm,zg,fkB,fkLoop,sqN,sqT,law14_FifoKnown,i5,p5,evA,Int.toNat_natCast,t5,a116]
  refine OK_fn (plays14_run u5 f5.fit hK.a.as hK.a.fit _) ?_
  rintro _ m3 ⟨rfl,k3⟩
  have K3:=hK.keep k3
  simp(disch:=first|assumption|omega|(simp only[zl]<;>omega)|(simp only[zn])) only[↓zd,zk,seval,reduceIte,List.map,AV.cells,List.all,AV.one,eqV,eqAll,splice,fillA,List.replicate,resAll,resA,zm,zg,a106]
  refine OK_fn (first14_run K3.r4.1.ro) ?_
  rintro _ m4 ⟨rfl,k4⟩
  have K4:=K3.keep k4
  obtain⟨t9,u9,f9⟩:=sb_take K4.r5.1.ro K4.r5.sb (k:=i % 9) (by omega)
  obtain⟨t8,u8,f8⟩:=sb_take K4.r6.1.ro K4.r6.sb (k:=i % 8) (by omega)
  simp(disch:=first|assumption|omega|(simp only[zl]<;>omega)|(simp only[zn])) only[↓zd,zk,seval,reduceIte,List.map,AV.cells,List.all,AV.one,eqV,eqAll,splice,fillA,List.replicate,resAll,resA,zm,zg,i9,i8,p9,p8,evA,Int.toNat_natCast,t9,t8,a117]
  refine OK_fn (passes_run u9 u8 f9) ?_
  rintro _ m5 ⟨rfl,k5⟩
  simp(disch:=first|assumption|omega|(simp only[zl]<;>omega)|(simp only[zn])) only[↓zd,zk,seval,reduceIte,List.map,AV.cells,List.all,AV.one,eqV,eqAll,splice,fillA,List.replicate,resAll,resA,zm,zg,fkJ,fkLoop,sqN,law14_FifoKnown]
  exact⟨_,by omega,seed2,i+1,_,_,_,_,_,_,_,_,_,_,_,rfl,rfl,by omega,s0,s1,hk.trans (K4.k.trans k5)⟩
 ·simp only[decide_eq_false_iff_not] at hc
  have r2:repeatL 2 [AV.int .i64 0]=[.int .i64 0,.int .i64 0]:=rfl
  simp(disch:=first|assumption|omega|(simp only[zl]<;>omega)|(simp only[zn])) only[↓zd,zk,seval,reduceIte,List.map,AV.cells,List.all,AV.one,eqV,eqAll,splice,fillA,List.replicate,resAll,resA,zm,zg,fkEnd,sqT,law14_FifoKnown,a118,head_nil,a108]
  refine OK_fn (no_pass _ _ 1) ?_
  rintro _ _ ⟨rfl,rfl⟩
  have kA:=Keep.app m' [Chunk.cells 3 false [AV.nilm,.int .i64 0,.int .i64 0]]
  simp(disch:=first|assumption|omega|(simp only[zl]<;>omega)|(simp only[zn])) only[↓zd,zk,seval,reduceIte,List.map,AV.cells,List.all,AV.one,eqV,eqAll,splice,fillA,List.replicate,resAll,resA,zm,zg,evA,repeatL_one,a101]
  refine OK_fn (no_push _ _) ?_
  rintro _ m1 ⟨rfl,hm1⟩
  have K1:Keep m' m1:=by
   rw[hm1];exact Keep.app _ _
  clear hm1
  simp(disch:=first|assumption|omega|(simp only[zl]<;>omega)|(simp only[zn])) only[↓zd,zk,seval,reduceIte,List.map,AV.cells,List.all,AV.one,eqV,eqAll,splice,fillA,List.replicate,resAll,resA,zm,zg,a104]
  refine OK_fn (no_remove m1 1) ?_
  rintro _ m2 ⟨rfl,k2⟩
  simp(disch:=first|assumption|omega|(simp only[zl]<;>omega)|(simp only[zn])) only[↓zd,zk,seval,reduceIte,List.map,AV.cells,List.all,AV.one,eqV,eqAll,splice,fillA,List.replicate,resAll,resA,zm,zg,a119]
  refine OK_fn (no_has m2 1) ?_
  rintro _ _ ⟨rfl,rfl⟩
  have ha:=fun M:Mem X=>no_ahead M 1
  simp(disch:=first|assumption|omega|(simp only[zl]<;>omega)|(simp only[zn])) only[↓zd,zk,seval,reduceIte,List.map,AV.cells,List.all,AV.one,eqV,eqAll,splice,fillA,List.replicate,resAll,resA,zm,zg,a102,ha,a103]
  refine OK_fn (no_pop _ 3) ?_
  rintro _ _ ⟨rfl,rfl⟩
  have hn:lenA .nils=some 0:=rfl
  have hln:=fun M:Mem X=>len_nil (m:=M)
  simp(disch:=first|assumption|omega|(simp only[zl]<;>omega)|(simp only[zn])) only[↓zd,zk,seval,reduceIte,List.map,AV.cells,List.all,AV.one,eqV,eqAll,splice,fillA,List.replicate,resAll,resA,zm,zg,ev_len,hn,a105,hln,a100]
  refine OK_fn (no_all _) ?_
  rintro _ m3 ⟨rfl,k3⟩
  simp(disch:=first|assumption|omega|(simp only[zl]<;>omega)|(simp only[zn])) only[↓zd,zk,seval,reduceIte,List.map,AV.cells,List.all,AV.one,eqV,eqAll,splice,fillA,List.replicate,resAll,resA,zm,zg,ev_len,hn,a112]
  refine OK_fn (no_copy m3) ?_
  rintro _ m4 ⟨rfl,h4⟩
  have k4:Keep m3 m4:=by rw[h4];exact Keep.refl _
  clear h4
  have kB:=Keep.app m4 [Chunk.cells 3 false [AV.nilm,.int .i64 0,.int .i64 0]]
  have hb:NL [] (m4++[Chunk.cells 3 false [AV.nilm,.int .i64 0,.int .i64 0]]) m4.length []:=⟨none,.inl ⟨rfl,rfl,0,0,get_concat⟩,Nat.zero_le _,fun k e=>by cases e⟩
  simp(disch:=first|assumption|omega|(simp only[zl]<;>omega)|(simp only[zn])) only[↓zd,zk,seval,reduceIte,List.map,AV.cells,List.all,AV.one,eqV,eqAll,splice,fillA,List.replicate,resAll,resA,zm,zg,a115]
  refine OK_fn (no_same hb) ?_
  rintro _ m5 ⟨rfl,k5⟩
  have s6:SI (m5++[Chunk.cells 1 false [AV.int .i64 1,.int .i64 1]]) true [1,1] (.sl m5.length 0 2 (some 2)):=lits_si (xs:=[1,1]) rfl
  have k6:=Keep.app m5 [Chunk.cells 1 false [AV.int .i64 1,.int .i64 1]]
  simp(disch:=first|assumption|omega|(simp only[zl]<;>omega)|(simp only[zn])) only[↓zd,zk,seval,reduceIte,List.map,AV.cells,List.all,AV.one,eqV,eqAll,splice,fillA,List.replicate,resAll,resA,zm,zg,evA,r2,a116]
  refine OK_fn (plays14_run s6.ro (fun _ _ _ _ e=>by injection e with _ _ e1 e2;injection e2 with e2;omega) (ats:=[]) ⟨Sl.nil,fun a ha=>by cases ha⟩ (fun a ha=>by cases ha) 1) ?_
  rintro _ m7 ⟨rfl,k7⟩
  simp(disch:=first|assumption|omega|(simp only[zl]<;>omega)|(simp only[zn])) only[↓zd,zk,seval,reduceIte,List.map,AV.cells,List.all,AV.one,eqV,eqAll,splice,fillA,List.replicate,resAll,resA,zm,zg,a99]
  refine OK_fn works14_run ?_
  rintro _ m8 ⟨rfl,k8⟩
  simp(disch:=first|assumption|omega|(simp only[zl]<;>omega)|(simp only[zn])) only[↓zd,zk,seval,reduceIte,List.map,AV.cells,List.all,AV.one,eqV,eqAll,splice,fillA,List.replicate,resAll,resA,zm,zg]
  exact hk.trans (K1.trans (k2.trans (k3.trans (k4.trans (kB.trans (k5.trans (k6.trans (k7.trans k8))))))))
end Go.Am.F15
end
