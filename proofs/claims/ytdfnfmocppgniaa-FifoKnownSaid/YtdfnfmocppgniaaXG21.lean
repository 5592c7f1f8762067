import Derived.Test.YtdfnfmocppgniaaXG20
set_option linter.unusedSimpArgs false
set_option linter.unusedVariables false
section
namespace Go.Am.F15
open Go.Am.F10 (iC iC_at iC_len iC_one iC_app SI SI.val same_run Nx si_take si_drop si_row cutA dropA pick_eq)
open Go.Am.F06 (sqN sqT)
open Go.Am.F14 (law14_works law14_row law14_FifoFirst law14_FifoPasses law14_FifoPlays law14_few law14_does law14_is law14_FifoKnown fifo_Pass ref14_Pop ref14_Remove ref14_Pass)
variable {X:Type}
theorem same_mt{m:Mem X}:c_kit_SameInts [.mt,.mt] m=some (.bool true,m):=by
 have h1:lenA .mt=some 0:=rfl
 refine Fn_eq (Fn_of rfl ?_)
 simp(disch:=first|assumption|omega|(simp only[zl]<;>omega)|(simp only[zn])) only[kit_SameInts,F10.kit_SameInts,↓zd,zk,seval,reduceIte,List.map,AV.cells,List.all,AV.one,eqV,eqAll,splice,fillA,List.replicate,resAll,resA,ev_len,h1]
 refine W_loop (fun k e m'=>∃ x4 x5 x6:AV,e=[.mt,.mt,.bool false,.int .i64 0,x4,x5,x6]∧m'=m) 0 (by simp[FUEL]) ⟨_,_,_,rfl,rfl⟩ ?_
 rintro k e m' ⟨x4,x5,x6,rfl,rfl⟩
 simp(disch:=first|assumption|omega|(simp only[zl]<;>omega)|(simp only[zn])) only[↓zd,zk,seval,reduceIte,List.map,AV.cells,List.all,AV.one,eqV,eqAll,splice,fillA,List.replicate,resAll,resA,ev_len,h1]
theorem row_mt{m:Mem X}:Fn GRow law14_row [.mt,.mt] m (fun r m'=>r = .bool true∧m'=m):=by
 have a84:assoc (GRow (X:=X)) 84=some c_kit_SameInts:=rfl
 generalize (GRow (X:=X))=G at a84 ⊢
 have h1:lenA .mt=some 0:=rfl
 have hs:=@same_mt X m
 refine Fn_of rfl ?_
 simp(disch:=first|assumption|omega|(simp only[zl]<;>omega)|(simp only[zn])) only[law14_row,↓zd,zk,seval,reduceIte,List.map,AV.cells,List.all,AV.one,eqV,eqAll,splice,fillA,List.replicate,resAll,resA,zm,zg,a84,hs]
 refine W_loop (fun k e m'=>∃ x4 x5:AV,e=[.mt,.mt,.bool false,.int .i64 0,x4,x5]∧m'=m) 0 (by simp[FUEL]) ⟨_,_,rfl,rfl⟩ ?_
 rintro k e m' ⟨x4,x5,rfl,rfl⟩
 simp(disch:=first|assumption|omega|(simp only[zl]<;>omega)|(simp only[zn])) only[↓zd,zk,seval,reduceIte,List.map,AV.cells,List.all,AV.one,eqV,eqAll,splice,fillA,List.replicate,resAll,resA,ev_len,h1]
theorem mt_app{m:Mem X} {w:Bool} {zs:List Int} {y:AV} (hy:SI m w zs y) (h0:zs≠[]) (hl:zs.length≤100000):appendA 1 8 .mt y m=some (.sl m.length 0 zs.length none,m++[Chunk.cells 1 false (iC zs)]):=by
 have hr:=si_row hy
 have hlen:=hy.len
 have hz:¬ zs.length=0:=fun e=>h0 (List.length_eq_zero_iff.1 e)
 simp only[appendA,hlen,hr]
 rw[if_neg hz,if_pos ⟨by omega,by omega,iC_one _⟩]
theorem mt_nil{m:Mem X} {w:Bool} {y:AV} (hy:SI m w [] y):appendA 1 8 .mt y m=some (.mt,m):=by
 have hr:=si_row hy
 have hlen:=hy.len
 simp only[appendA,hlen,hr,List.length_nil,if_true]
theorem ev_lit0{G:List (Nat × AFun X)} {m:Mem X}:amOp G .lit0 [] m=some (.mt,m):=rfl
def GPs:List (Nat × AFun X):=[(99,amFunc GW14 law14_works),(107,amFunc GOf fifo_Of),(108,amFunc GPass fifo_Pass),(100,amFunc GAll14 fifo_Line_All),(109,amFunc GRow law14_row),(84,c_kit_SameInts)]
set_option maxRecDepth 100000 in
set_option maxHeartbeats 16000000 in
theorem passes_run{m:Mem X} {xs ys:List Int} {a0 a1:AV} {n:Int} (hA:SI m false xs a0) (hB:SI m false ys a1) (sA:Sb m a0):Fn GPs law14_FifoPasses [a0,a1,.int .i64 n] m (fun r m'=>r = .bool true∧Keep m m'):=by
 have a99:assoc (GPs (X:=X)) 99=some (amFunc GW14 law14_works):=rfl
 have a107:assoc (GPs (X:=X)) 107=some (amFunc GOf fifo_Of):=rfl
 have a108:assoc (GPs (X:=X)) 108=some (amFunc GPass fifo_Pass):=rfl
 have a100:assoc (GPs (X:=X)) 100=some (amFunc GAll14 fifo_Line_All):=rfl
 have a109:assoc (GPs (X:=X)) 109=some (amFunc GRow law14_row):=rfl
 have a84:assoc (GPs (X:=X)) 84=some c_kit_SameInts:=rfl
 generalize (GPs (X:=X))=G at a99 a107 a108 a100 a109 a84 ⊢
 have hx:=hA.len
 have hy:=hB.len
 refine Fn_of rfl ?_
 by_cases b1:40 < xs.length
 ·have d1:decide (40 < (xs.length:Int))=true:=decide_eq_true (by omega)
  simp(disch:=first|assumption|omega|(simp only[zl]<;>omega)|(simp only[zn])) only[law14_FifoPasses,↓zd,zk,seval,reduceIte,List.map,AV.cells,List.all,AV.one,eqV,eqAll,splice,fillA,List.replicate,resAll,resA,zm,zg,ev_len,hx,d1,a99]
  refine OK_fn works14_run ?_
  rintro _ m1 ⟨rfl,k1⟩
  simp(disch:=first|assumption|omega|(simp only[zl]<;>omega)|(simp only[zn])) only[↓zd,zk,seval,reduceIte,List.map,AV.cells,List.all,AV.one,eqV,eqAll,splice,fillA,List.replicate,resAll,resA,zm,zg]
  exact k1
 have d1:decide (40 < (xs.length:Int))=false:=decide_eq_false (by omega)
 by_cases b2:40 < ys.length
 ·have d2:decide (40 < (ys.length:Int))=true:=decide_eq_true (by omega)
  simp(disch:=first|assumption|omega|(simp only[zl]<;>omega)|(simp only[zn])) only[law14_FifoPasses,↓zd,zk,seval,reduceIte,List.map,AV.cells,List.all,AV.one,eqV,eqAll,splice,fillA,List.replicate,resAll,resA,zm,zg,ev_len,hx,hy,d1,d2,a99]
  refine OK_fn works14_run ?_
  rintro _ m1 ⟨rfl,k1⟩
  simp(disch:=first|assumption|omega|(simp only[zl]<;>omega)|(simp only[zn])) only[↓zd,zk,seval,reduceIte,List.map,AV.cells,List.all,AV.one,eqV,eqAll,splice,fillA,List.replicate,resAll,resA,zm,zg]
  exact k1
 have d2:decide (40 < (ys.length:Int))=false:=decide_eq_false (by omega)
 by_cases n1:xs.Nodup
 ·simp(disch:=first|assumption|omega|(simp only[zl]<;>omega)|(simp only[zn])) only[law14_FifoPasses,↓zd,zk,seval,reduceIte,List.map,AV.cells,List.all,AV.one,eqV,eqAll,splice,fillA,List.replicate,resAll,resA,zm,zg,ev_len,hx,hy,d1,d2,a107]
  refine OK_fn (of_run hA (by omega) n1) ?_
  rintro _ m1 ⟨a,rfl,k1,j,A1,A2,A3⟩
  by_cases n2:ys.Nodup
  ·simp(disch:=first|assumption|omega|(simp only[zl]<;>omega)|(simp only[zn])) only[↓zd,zk,seval,reduceIte,List.map,AV.cells,List.all,AV.one,eqV,eqAll,splice,fillA,List.replicate,resAll,resA,zm,zg,a107]
   refine OK_fn (of_run (hB.keep k1) (by omega) n2) ?_
   rintro _ m2 ⟨b,rfl,k2,l,B1,B2,B3⟩
   have H:N2 m m2 a b xs ys:=⟨j,l,A1.keep k2,B1,A2,Nat.le_trans k1.1 B2,A3,fun q e=>Nat.le_trans k1.1 (B3 q e),by have:=A1.lt.1;omega,fun q e e'=>by have:=(A1.lt.2 q e).1;have:=B3 q e';omega⟩
   have K2:=k1.trans k2
   simp(disch:=first|assumption|omega|(simp only[zl]<;>omega)|(simp only[zn])) only[↓zd,zk,seval,reduceIte,List.map,AV.cells,List.all,AV.one,eqV,eqAll,splice,fillA,List.replicate,resAll,resA,zm,zg,a108]
   refine OK_fn (pass_run H K2 n (by omega) (by omega)) ?_
   rintro _ m3 ⟨v8,rfl,H3,K3,kk3,L8⟩
   cases hf:fitsB ys (xs.take (popN xs n)) with
   | false =>
    simp only[psE,psX,psY,psR,hf,Bool.false_eq_true,if_false] at H3 L8 ⊢
    have hl8:=L8.1.len
    simp(disch:=first|assumption|omega|(simp only[zl]<;>omega)|(simp only[zn])) only[↓zd,zk,seval,reduceIte,List.map,AV.cells,List.all,AV.one,eqV,eqAll,splice,fillA,List.replicate,resAll,resA,zm,zg,a100]
    refine OK_fn (nl_all H3.fst (by omega)) ?_
    rintro v4 m4 ⟨k4,o4⟩
    simp(disch:=first|assumption|omega|(simp only[zl]<;>omega)|(simp only[zn])) only[↓zd,zk,seval,reduceIte,List.map,AV.cells,List.all,AV.one,eqV,eqAll,splice,fillA,List.replicate,resAll,resA,zm,zg,a109]
    refine OK_fn (row_run (own_ro o4).1 (hA.keep (K3.trans k4)) (by omega)) ?_
    rintro _ m5 ⟨rfl,w5⟩
    have k5:=own_row k4 o4 w5
    simp(disch:=first|assumption|omega|(simp only[zl]<;>omega)|(simp only[zn])) only[↓zd,zk,seval,reduceIte,List.map,AV.cells,List.all,AV.one,eqV,eqAll,splice,fillA,List.replicate,resAll,resA,zm,zg,a100]
    refine OK_fn (nl_all (H3.snd.keep k5) (by omega)) ?_
    rintro v6 m6 ⟨k6,o6⟩
    simp(disch:=first|assumption|omega|(simp only[zl]<;>omega)|(simp only[zn])) only[↓zd,zk,seval,reduceIte,List.map,AV.cells,List.all,AV.one,eqV,eqAll,splice,fillA,List.replicate,resAll,resA,zm,zg,a109]
    refine OK_fn (row_run (own_ro o6).1 (hB.keep (K3.trans (k5.trans k6))) (by omega)) ?_
    rintro _ m7 ⟨rfl,w7⟩
    have k7:=own_row k6 o6 w7
    simp(disch:=first|assumption|omega|(simp only[zl]<;>omega)|(simp only[zn])) only[↓zd,zk,seval,reduceIte,List.map,AV.cells,List.all,AV.one,eqV,eqAll,splice,fillA,List.replicate,resAll,resA,zm,zg,ev_len,hl8,a99]
    refine OK_fn works14_run ?_
    rintro _ m8 ⟨rfl,k8⟩
    simp(disch:=first|assumption|omega|(simp only[zl]<;>omega)|(simp only[zn])) only[↓zd,zk,seval,reduceIte,List.map,AV.cells,List.all,AV.one,eqV,eqAll,splice,fillA,List.replicate,resAll,resA,zm,zg]
    exact K3.trans (k5.trans (k7.trans k8))
   | true =>
    simp only[psE,psX,psY,psR,hf,if_true] at H3 L8 ⊢
    have hpn:popN xs n≤xs.length:=by unfold popN;omega
    have hmin:(if (if (xs.length:Int) < n then(xs.length:Int) else n) > 0 then(if (xs.length:Int) < n then(xs.length:Int) else n) else 0)=((popN xs n:Nat):Int):=by unfold popN;split<;>split<;>omega
    have p0:(0≤((popN xs n:Nat):Int))=True:=eq_true (by omega)
    obtain⟨t1,t2,_⟩:=sb_take (hA.keep K3) (sA.keep K3) hpn
    obtain⟨u1,_,_⟩:=sb_drop (hA.keep K3) (sA.keep K3) hpn
    have hs:=same_eq L8.1 t2 (by rw[List.length_take];omega)
    have hde:decide (xs.take (popN xs n)=xs.take (popN xs n))=true:=decide_eq_true rfl
    rw[hde] at hs
    simp(disch:=first|assumption|omega|(simp only[zl]<;>omega)|(simp only[zn])) only[↓zd,zk,seval,reduceIte,List.map,AV.cells,List.all,AV.one,eqV,eqAll,splice,fillA,List.replicate,resAll,resA,zm,zg,ev_len,hx,hmin,p0,evA,Int.toNat_natCast,t1,a84,hs,a100]
    refine OKT_fn (nl_all H3.fst (by rw[List.length_drop];omega)) ?_
    rintro v4 m4 ⟨k4,o4⟩
    obtain⟨q1,q2,_⟩:=sb_drop (hA.keep (K3.trans k4)) (sA.keep (K3.trans k4)) hpn
    simp(disch:=first|assumption|omega|(simp only[zl]<;>omega)|(simp only[zn])) only[↓zd,zk,seval,reduceIte,List.map,AV.cells,List.all,AV.one,eqV,eqAll,splice,fillA,List.replicate,resAll,resA,zm,zg,evA,p0,Int.toNat_natCast,q1,a109]
    refine OKT_fn (row_run (own_ro o4).1 q2 (by rw[List.length_drop];omega)) ?_
    rintro _ m5 ⟨rfl,w5⟩
    have k5:=own_row k4 o4 w5
    have hdf:decide (xs.drop (popN xs n)=xs.drop (popN xs n))=true:=decide_eq_true rfl
    rw[hdf]
    have hzl:(ys++xs.take (popN xs n)).length≤80:=by rw[List.length_append,List.length_take];omega
    simp(disch:=first|assumption|omega|(simp only[zl]<;>omega)|(simp only[zn])) only[↓zd,zk,seval,reduceIte,List.map,AV.cells,List.all,AV.one,eqV,eqAll,splice,fillA,List.replicate,resAll,resA,zm,zg,ev_lit0,a100]
    refine OKT_fn (nl_all (H3.snd.keep k5) (by omega)) ?_
    rintro v6 m6 ⟨k6,o6⟩
    have K6:=K3.trans (k5.trans k6)
    have s6:=own_si o6
    by_cases hz:ys++xs.take (popN xs n)=[]
    ·rw[hz] at s6
     have hye:ys=[]:=(List.append_eq_nil_iff.1 hz).1
     have hxe:xs.take (popN xs n)=[]:=(List.append_eq_nil_iff.1 hz).2
     have e1:=mt_nil s6
     have sB:=hB.keep K6
     rw[hye] at sB
     have e2:=mt_nil sB
     have s8:=L8.1.keep (k5.trans k6)
     rw[hxe] at s8
     have e3:=mt_nil s8
     simp(disch:=first|assumption|omega|(simp only[zl]<;>omega)|(simp only[zn])) only[↓zd,zk,seval,reduceIte,List.map,AV.cells,List.all,AV.one,eqV,eqAll,splice,fillA,List.replicate,resAll,resA,zm,zg,ev_lit0,evA,e1,e2,e3,a109]
     refine OKT_fn row_mt ?_
     rintro _ m7 ⟨rfl,rfl⟩
     simp(disch:=first|assumption|omega|(simp only[zl]<;>omega)|(simp only[zn])) only[↓zd,zk,seval,reduceIte,List.map,AV.cells,List.all,AV.one,eqV,eqAll,splice,fillA,List.replicate,resAll,resA,zm,zg,a99]
     refine OKT_fn works14_run ?_
     rintro _ m8 ⟨rfl,k8⟩
     simp(disch:=first|assumption|omega|(simp only[zl]<;>omega)|(simp only[zn])) only[↓zd,zk,seval,reduceIte,List.map,AV.cells,List.all,AV.one,eqV,eqAll,splice,fillA,List.replicate,resAll,resA,zm,zg,u1,q1,evA,p0,Int.toNat_natCast]
     exact K6.trans k8
    ·have e1:=mt_app s6 hz (by omega)
     generalize hzs:ys++xs.take (popN xs n)=zs at e1 hz hzl
     have k7:=Keep.app m6 [Chunk.cells 1 false (iC zs)]
     have g7:(m6++[Chunk.cells 1 false (iC zs)])[m6.length]?=some (.cells 1 false (iC zs)):=get_concat
     obtain⟨w2,m8,e2,Q2,K8,_⟩:=qm_app (m0:=m6++[Chunk.cells 1 false (iC zs)]) (xs:=[]) (.inl ⟨rfl,rfl⟩) (Keep.refl _) (hB.keep (K6.trans k7)) (by simp) (by omega)
     obtain⟨w3,m9,e3,Q3,K9,_⟩:=qm_app Q2 K8 (L8.1.keep ((k5.trans k6).trans (k7.trans K8))) (by simp;omega) (by rw[List.length_take];omega)
     rw[List.nil_append,hzs] at Q3
     obtain⟨_,L3⟩:=Q3.resolve_left (fun h=>hz h.1)
     have ro1:RO m9 zs (.sl m6.length 0 zs.length none):=.inr ⟨m6.length,rfl,K9.get g7⟩
     simp(disch:=first|assumption|omega|(simp only[zl]<;>omega)|(simp only[zn])) only[↓zd,zk,seval,reduceIte,List.map,AV.cells,List.all,AV.one,eqV,eqAll,splice,fillA,List.replicate,resAll,resA,zm,zg,ev_lit0,evA,e1,e2,e3,a109]
     refine OKT_fn (row_run ro1 L3.1 (by omega)) ?_
     rintro _ m10 ⟨rfl,w10⟩
     have hdz:decide (zs=zs)=true:=decide_eq_true rfl
     rw[hdz]
     have k10:Keep m6 m10:=keep_wo (k7.trans K9) (a:=m6.length) (b:=m6.length+1) (fun q n e=>by injection e with e;omega) (Nat.le_refl _) w10
     simp(disch:=first|assumption|omega|(simp only[zl]<;>omega)|(simp only[zn])) only[↓zd,zk,seval,reduceIte,List.map,AV.cells,List.all,AV.one,eqV,eqAll,splice,fillA,List.replicate,resAll,resA,zm,zg,a99]
     refine OKT_fn works14_run ?_
     rintro _ m11 ⟨rfl,k11⟩
     simp(disch:=first|assumption|omega|(simp only[zl]<;>omega)|(simp only[zn])) only[↓zd,zk,seval,reduceIte,List.map,AV.cells,List.all,AV.one,eqV,eqAll,splice,fillA,List.replicate,resAll,resA,zm,zg,u1,q1,evA,p0,Int.toNat_natCast]
     exact K6.trans (k10.trans k11)
  ·simp(disch:=first|assumption|omega|(simp only[zl]<;>omega)|(simp only[zn])) only[↓zd,zk,seval,reduceIte,List.map,AV.cells,List.all,AV.one,eqV,eqAll,splice,fillA,List.replicate,resAll,resA,zm,zg,a107]
   refine OK_fn (of_no (hB.keep k1) (by omega) n2) ?_
   rintro _ m2 ⟨rfl,k2⟩
   simp(disch:=first|assumption|omega|(simp only[zl]<;>omega)|(simp only[zn])) only[↓zd,zk,seval,reduceIte,List.map,AV.cells,List.all,AV.one,eqV,eqAll,splice,fillA,List.replicate,resAll,resA,zm,zg,a99]
   refine OK_fn works14_run ?_
   rintro _ m3 ⟨rfl,k3⟩
   simp(disch:=first|assumption|omega|(simp only[zl]<;>omega)|(simp only[zn])) only[↓zd,zk,seval,reduceIte,List.map,AV.cells,List.all,AV.one,eqV,eqAll,splice,fillA,List.replicate,resAll,resA,zm,zg]
   exact k1.trans (k2.trans k3)
 ·simp(disch:=first|assumption|omega|(simp only[zl]<;>omega)|(simp only[zn])) only[law14_FifoPasses,↓zd,zk,seval,reduceIte,List.map,AV.cells,List.all,AV.one,eqV,eqAll,splice,fillA,List.replicate,resAll,resA,zm,zg,ev_len,hx,hy,d1,d2,a107]
  refine OK_fn (of_no hA (by omega) n1) ?_
  rintro _ m1 ⟨rfl,k1⟩
  by_cases n2:ys.Nodup
  ·simp(disch:=first|assumption|omega|(simp only[zl]<;>omega)|(simp only[zn])) only[↓zd,zk,seval,reduceIte,List.map,AV.cells,List.all,AV.one,eqV,eqAll,splice,fillA,List.replicate,resAll,resA,zm,zg,a107]
   refine OK_fn (of_run (hB.keep k1) (by omega) n2) ?_
   rintro _ m2 ⟨b,rfl,k2,l,B1,B2,B3⟩
   simp(disch:=first|assumption|omega|(simp only[zl]<;>omega)|(simp only[zn])) only[↓zd,zk,seval,reduceIte,List.map,AV.cells,List.all,AV.one,eqV,eqAll,splice,fillA,List.replicate,resAll,resA,zm,zg,a99]
   refine OK_fn works14_run ?_
   rintro _ m3 ⟨rfl,k3⟩
   simp(disch:=first|assumption|omega|(simp only[zl]<;>omega)|(simp only[zn])) only[↓zd,zk,seval,reduceIte,List.map,AV.cells,List.all,AV.one,eqV,eqAll,splice,fillA,List.replicate,resAll,resA,zm,zg]
   exact k1.trans (k2.trans k3)
  ·simp(disch:=first|assumption|omega|(simp only[zl]<;>omega)|(simp only[zn])) only[↓zd,zk,seval,reduceIte,List.map,AV.cells,List.all,AV.one,eqV,eqAll,splice,fillA,List.replicate,resAll,resA,zm,zg,a107]
   refine OK_fn (of_no (hB.keep k1) (by omega) n2) ?_
   rintro _ m2 ⟨rfl,k2⟩
   simp(disch:=first|assumption|omega|(simp only[zl]<;>omega)|(simp only[zn])) only[↓zd,zk,seval,reduceIte,List.map,AV.cells,List.all,AV.one,eqV,eqAll,splice,fillA,List.replicate,resAll,resA,zm,zg,a99]
   refine OK_fn works14_run ?_
   rintro _ m3 ⟨rfl,k3⟩
   simp(disch:=first|assumption|omega|(simp only[zl]<;>omega)|(simp only[zn])) only[↓zd,zk,seval,reduceIte,List.map,AV.cells,List.all,AV.one,eqV,eqAll,splice,fillA,List.replicate,resAll,resA,zm,zg]
   exact k1.trans (k2.trans k3)
end Go.Am.F15
end
section
namespace Go.Am.F15
open Go.Am.F10 (iC iC_at iC_len iC_one iC_app SI SI.val same_run Cf cfC rightP right_run Nx si_take si_drop si_row cutA dropA madeC made_eq pick_eq)
open Go.Am.F06 (sqN sqT)
variable {X:Type}
def KnA(m0 m:Mem X) (ats:List Act) (v:AV):Prop:=Own m0 m 3 ats.length (ats.flatMap aC) v∧∀ a ∈ ats,SI m false a.l a.v∧Fit a.v∧a.v.one=true
theorem KnA.keep{m0 m m':Mem X} {ats:List Act} {v:AV} (h:KnA m0 m ats v) (k:Keep m m'):KnA m0 m' ats v:=by
 refine⟨?_,fun a ha=>⟨(h.2 a ha).1.keep k,(h.2 a ha).2⟩⟩
 rcases h.1 with h|⟨q,h1,h2,h3,h4⟩
 ·exact .inl h
 ·exact .inr ⟨q,h1,k.get h2,h3,Nat.lt_of_lt_of_le h4 k.1⟩
theorem flat_len(ats:List Act):(ats.flatMap aC).length=ats.length * 3:=rows_len aC_len ats
theorem KnA.as{m0 m:Mem X} {ats:List Act} {v:AV} (h:KnA m0 m ats v):AS m ats v:=⟨(h.1.sl (flat_len ats)).1.ro,fun a ha=>(h.2 a ha).1⟩
theorem KnA.fit{m0 m:Mem X} {ats:List Act} {v:AV} (h:KnA m0 m ats v):∀ a ∈ ats,Fit a.v:=fun a ha=>(h.2 a ha).2.1
theorem aC_all{a:Act} (h:a.v.one=true):(aC a).all AV.one=true:=by
 simp only[aC,List.all_cons,List.all_nil,h,Bool.and_true];rfl
theorem si_k1{m m':Mem X} {w:Bool} {l:List Int} {v:AV} (h:SI m w l v) (k:K1 m m'):SI m' w l v:=by
 obtain⟨h0,h⟩:=h
 refine⟨h0,?_⟩
 rcases h with h|⟨q,o,cap,h1,h2⟩
 ·exact .inl h
 ·refine .inr ⟨q,o,cap,h1,fun hn=>?_⟩
  obtain⟨ro,L,h3,h4⟩:=h2 hn
  exact⟨ro,L,k.2 q ro L h3,h4⟩
theorem kn_push{m0 m:Mem X} {ats:List Act} {v:AV} {a:Act} {j:Nat} {ro:Bool} (h:KnA m0 m ats v) (hk:Keep m0 m) (hx:m[j]?=some (.cells 3 ro (aC a))) (ha:SI m false a.l a.v) (hf:Fit a.v) (h1:a.v.one=true) (hl:ats.length < 1000) :
  ∃ v' m',appendA 3 40 v (.sl j 0 1 (some 1)) m=some (v',m')∧KnA m0 m' (ats++[a]) v'∧Keep m0 m':=by
 have hall:(ats.flatMap aC).all AV.one=true:=by
  rw[List.all_eq_true]
  intro x hx
  obtain⟨b,hb,hxb⟩:=List.mem_flatMap.1 hx
  exact List.all_eq_true.1 (aC_all (h.2 b hb).2.2) x hxb
 have hfl:(ats++[a]).flatMap aC=ats.flatMap aC++aC a:=by simp
 have hm:=hk.1
 rcases h.1 with⟨h0,hl0,rfl⟩|⟨q,rfl,hq,hq1,hq2⟩
 ·have hats:ats=[]:=List.length_eq_zero_iff.1 h0
  subst hats
  refine⟨_,_,append_nils (sz:=3) (bytes:=40) hx (aC_len a) (aC_all h1) (by decide),⟨.inr ⟨m.length,rfl,?_,hm,by simp⟩,fun b hb=>?_⟩,hk.trans (Keep.app _ _)⟩
  ·rw[hfl];exact get_concat
  ·simp at hb;subst hb
   exact⟨ha.keep (Keep.app _ _),hf,h1⟩
 ·refine⟨_,_,append_none (sz:=3) (bytes:=40) hq (flat_len ats) hx (aC_len a) hall (aC_all h1) (by omega) (by omega),⟨.inr ⟨m.length,?_,?_,hm,by simp⟩,fun b hb=>?_⟩,(hk.set hq1 _).trans (Keep.app _ _)⟩
  ·simp
  ·rw[hfl]
   have:(m.set q Chunk.dead).length=m.length:=by simp
   rw[← this];exact get_concat
  ·have k1:K1 m (m.set q Chunk.dead++[Chunk.cells 3 false (ats.flatMap aC++aC a)]):=((K1.refl m).set hq (by decide) .dead).trans (Keep.app _ _).k1
   rcases List.mem_append.1 hb with hb|hb
   ·obtain⟨b1,b2,b3⟩:=h.2 b hb
    exact⟨si_k1 b1 k1,b2,b3⟩
   ·simp at hb;subst hb
    exact⟨si_k1 ha k1,hf,h1⟩
theorem row3{m:Mem X} {q n:Nat} {x y z:Int} (h:m[q]?=some (.cells 1 false [.int .i64 x,.int .i64 y,.int .i64 z])) (hn:n≤3):SI m false ([x,y,z].take n) (.sl q 0 n (some 3)):=by
 have hl:([x,y,z].take n).length=n:=by rw[List.length_take];simp;omega
 refine⟨by rw[iC_len];omega,.inr ⟨q,0,some 3,by rw[hl],fun _=>⟨false,_,h,?_,by rw[hl];simp;omega,fun h=>by cases h⟩⟩⟩
 rw[hl,List.drop_zero,Nat.mul_one]
 simp[iC,List.map_take]
end Go.Am.F15
end
section
namespace Go.Am.F15
open Go.Am.F10 (iC iC_at iC_len iC_one iC_app SI SI.val same_run Nx si_take si_drop si_row cutA dropA pick_eq)
open Go.Am.F06 (sqN sqT)
open Go.Am.F14 (law14_works law14_row law14_FifoFirst law14_FifoPasses law14_FifoPlays law14_few law14_does law14_is law14_FifoKnown fifo_Pass ref14_Pop ref14_Remove ref14_Pass)
variable {X:Type}
def RS(m:Mem X) (xs:List Int) (v:AV):Prop:=SI m false xs v∧Sb m v
theorem Sb.k1{m m':Mem X} {v:AV} (h:Sb m v) (k:K1 m m'):Sb m' v:=by
 rcases h with h|h|⟨q,o,n,l,h1,h2⟩
 ·exact .inl h
 ·exact .inr (.inl h)
 ·exact .inr (.inr ⟨q,o,n,l,h1,k.2 q false l h2⟩)
theorem RS.k1{m m':Mem X} {xs:List Int} {v:AV} (h:RS m xs v) (k:K1 m m'):RS m' xs v:=⟨si_k1 h.1 k,h.2.k1 k⟩
theorem LV.rs{m0 m:Mem X} {xs:List Int} {v:AV} (h:LV m0 m xs v):RS m xs v:=⟨h.1.ro,h.sb⟩
theorem Of.rs{m m':Mem X} {a r:AV} {xs ys:List Int} (h:Of m a xs ys r m') (ha:RS m xs a):RS m' ys r:=by
 obtain⟨hk,⟨rfl,rfl⟩|h⟩:=h
 ·exact ha.k1 hk.k1
 ·exact h.rs
theorem rpop14_run{m:Mem X} {xs:List Int} {v:AV} (h:RS m xs v) (n:Int):Fn [] ref14_Pop [v,.int .i64 n] m (fun r m'=>m'=m∧∃ a b,r = .tup [a,b]∧RS m (xs.drop (popN xs n)) a∧RS m (xs.take (popN xs n)) b):=by
 have hlen:=h.1.len
 have hpn:popN xs n≤xs.length:=by unfold popN;omega
 have hmin:(if (if (xs.length:Int) < n then(xs.length:Int) else n) > 0 then(if (xs.length:Int) < n then(xs.length:Int) else n) else 0)=((popN xs n:Nat):Int):=by unfold popN;split<;>split<;>omega
 have p0:(0≤((popN xs n:Nat):Int))=True:=eq_true (by omega)
 obtain⟨t1,t2,t3⟩:=sb_take h.1 h.2 hpn
 obtain⟨u1,u2,u3⟩:=sb_drop h.1 h.2 hpn
 refine Fn_of rfl ?_
 simp(disch:=first|assumption|omega|(simp only[zl]<;>omega)|(simp only[zn])) only[ref14_Pop,↓zd,zk,seval,reduceIte,List.map,AV.cells,List.all,AV.one,eqV,eqAll,splice,fillA,List.replicate,resAll,resA,zm,zg,ev_len,hlen,hmin,p0,evA,Int.toNat_natCast,t1,u1]
 exact⟨_,_,rfl,⟨u2,u3⟩,t2,t3⟩
theorem split_at{xs:List Int} {n:Nat} {x:Int} (h:xs[n]?=some x):xs=xs.take n++x :: xs.drop (n+1):=by
 have hl:=(List.getElem?_eq_some_iff.1 h).1
 have:xs.drop n=x :: xs.drop (n+1):=by rw[List.drop_eq_getElem_cons hl,(List.getElem?_eq_some_iff.1 h).2]
 rw[← this,List.take_append_drop]
theorem ahead_some{xs:List Int} {x:Int} (h:x ∈ xs):xs[xs.idxOf x]?=some x∧aheadN xs x=(xs.idxOf x:Nat):=by
 have hl:=List.idxOf_lt_length_of_mem h
 exact⟨by rw[List.getElem?_eq_getElem hl,List.getElem_idxOf],by unfold aheadN;rw[if_pos h]⟩
def rmL(xs:List Int) (x:Int):List Int:=if x ∈ xs then xs.take (xs.idxOf x)++xs.drop (xs.idxOf x+1) else xs
theorem rremove14_run{m:Mem X} {xs:List Int} {v:AV} (h:RS m xs v) (x:Int) (hx:xs.length < 10000):Fn G14 ref14_Remove [v,.int .i64 x] m (fun r m'=>Keep m m'∧∃ a,r = .tup [a,.bool (decide (x ∈ xs))]∧RS m' (rmL xs x) a):=by
 have a124:assoc (G14 (X:=X)) 124=some c_ref14_Ahead:=rfl
 have a125:assoc (G14 (X:=X)) 125=some (amFunc [] ref14_join):=rfl
 generalize (G14 (X:=X))=G at a124 a125 ⊢
 have hah:c_ref14_Ahead [v,.int .i64 x] m=some (.int .i64 (aheadN xs x),m):=Fn_eq (ahead_run h.1 x (by omega))
 refine Fn_of rfl ?_
 by_cases hm:x ∈ xs
 ·obtain⟨g1,g2⟩:=ahead_some hm
  rw[g2] at hah
  generalize hn:xs.idxOf x=n at g1 g2 hah
  have hnl:=(List.getElem?_eq_some_iff.1 g1).1
  obtain⟨t1,t2,t3⟩:=sb_take h.1 h.2 (k:=n) (by omega)
  obtain⟨u1,u2,u3⟩:=sb_drop h.1 h.2 (k:=n+1) (by omega)
  have dn:decide ((n:Int) < 0)=false:=decide_eq_false (by omega)
  have p0:(0≤(n:Int))=True:=eq_true (by omega)
  have p1:(0≤(n:Int)+1)=True:=eq_true (by omega)
  have p2:((n:Int)+1).toNat=n+1:=by omega
  simp(disch:=first|assumption|omega|(simp only[zl]<;>omega)|(simp only[zn])) only[ref14_Remove,↓zd,zk,seval,reduceIte,List.map,AV.cells,List.all,AV.one,eqV,eqAll,splice,fillA,List.replicate,resAll,resA,zm,zg,a124,hah,dn,evA,p0,p1,p2,Int.toNat_natCast,t1,u1,a125]
  refine OK_fn (join_run t2 u2 (by rw[List.length_take];omega) (by rw[List.length_drop];omega)) ?_
  rintro v2 m2 ⟨k2,L2⟩
  simp(disch:=first|assumption|omega|(simp only[zl]<;>omega)|(simp only[zn])) only[↓zd,zk,seval,reduceIte,List.map,AV.cells,List.all,AV.one,eqV,eqAll,splice,fillA,List.replicate,resAll,resA,zm,zg]
  exact⟨k2,v2,by simp[hm],by unfold rmL;rw[if_pos hm,hn];exact L2.rs⟩
 ·have g2:aheadN xs x=-1:=by unfold aheadN;rw[if_neg hm]
  rw[g2] at hah
  simp(disch:=first|assumption|omega|(simp only[zl]<;>omega)|(simp only[zn])) only[ref14_Remove,↓zd,zk,seval,reduceIte,List.map,AV.cells,List.all,AV.one,eqV,eqAll,splice,fillA,List.replicate,resAll,resA,zm,zg,a124,hah]
  exact⟨Keep.refl m,v,by simp[hm],by unfold rmL;rw[if_neg hm];exact h⟩
def GRp:List (Nat × AFun X):=[(126,amFunc [] ref14_Pop),(111,amFunc G14 ref14_Push)]
theorem rpass14_run{m:Mem X} {xs ys:List Int} {a b:AV} (ha:RS m xs a) (hb:RS m ys b) (n:Int) (hx:xs.length < 5000) (hy:ys.length < 5000) :
  Fn GRp ref14_Pass [a,b,.int .i64 n] m (fun r m'=>Keep m m'∧∃ v w z,r = .tup [v,w,z,.int .i64 (psE xs ys n)]∧RS m' (psX xs ys n) v∧RS m' (psY xs ys n) w∧RS m' (psR xs ys n) z):=by
 have a126:assoc (GRp (X:=X)) 126=some (amFunc [] ref14_Pop):=rfl
 have a111:assoc (GRp (X:=X)) 111=some (amFunc G14 ref14_Push):=rfl
 generalize (GRp (X:=X))=G at a126 a111 ⊢
 refine Fn_of rfl ?_
 simp(disch:=first|assumption|omega|(simp only[zl]<;>omega)|(simp only[zn])) only[ref14_Pass,↓zd,zk,seval,reduceIte,List.map,AV.cells,List.all,AV.one,eqV,eqAll,splice,fillA,List.replicate,resAll,resA,zm,zg,a126]
 refine OK_fn (rpop14_run ha n) ?_
 rintro _ _ ⟨rfl,v1,v2,rfl,s1,s2⟩
 simp(disch:=first|assumption|omega|(simp only[zl]<;>omega)|(simp only[zn])) only[↓zd,zk,seval,reduceIte,List.map,AV.cells,List.all,AV.one,eqV,eqAll,splice,fillA,List.replicate,resAll,resA,zm,zg,a111]
 refine OK_fn (push14_run hb.1 s2.1 s2.2.fit (by omega) (by rw[List.length_take];omega)) ?_
 rintro _ m2 ⟨v3,rfl,ho⟩
 cases hf:fitsB ys (xs.take (popN xs n)) with
 | false =>
  simp only[hf,Bool.false_eq_true,if_false] at ho ⊢
  simp(disch:=first|assumption|omega|(simp only[zl]<;>omega)|(simp only[zn])) only[↓zd,zk,seval,reduceIte,List.map,AV.cells,List.all,AV.one,eqV,eqAll,splice,fillA,List.replicate,resAll,resA,zm,zg]
  exact⟨ho.1,a,b,.nils,by simp[psE,hf],by simpa [psX,hf] using ha.k1 ho.1.k1,by simpa [psY,hf] using hb.k1 ho.1.k1,by simpa [psR,hf] using (LV.nil (m0:=m2)).rs⟩
 | true =>
  simp only[hf,if_true] at ho ⊢
  simp(disch:=first|assumption|omega|(simp only[zl]<;>omega)|(simp only[zn])) only[↓zd,zk,seval,reduceIte,List.map,AV.cells,List.all,AV.one,eqV,eqAll,splice,fillA,List.replicate,resAll,resA,zm,zg]
  exact⟨ho.1,v1,v3,v2,by simp[psE,hf],by simpa [psX,hf] using s1.k1 ho.1.k1,by simpa [psY,hf] using ho.rs hb,by simpa [psR,hf] using s2.k1 ho.1.k1⟩
theorem nl_has{m0 m:Mem X} {i:Nat} {xs:List Int} (H:NL m0 m i xs) (x:Int):Fn [] fifo_Line_Has [.ptr i 0,.int .i64 x] m (fun r m'=>r = .bool (hasB xs x)∧Keep m m'):=by
 obtain⟨j,H,_⟩:=H
 exact has_run H x
theorem nl_head_nil{m0 m:Mem X} {i:Nat} (H:NL m0 m i []):c_fifo_Line_Head [.ptr i 0] m=some (.tup [.int .i64 0,.bool false],m):=by
 obtain⟨j,H,_⟩:=H
 exact H.head_nil
theorem nl_head_cons{m0 m:Mem X} {i:Nat} {x:Int} {xs:List Int} (H:NL m0 m i (x :: xs)):c_fifo_Line_Head [.ptr i 0] m=some (.tup [.int .i64 x,.bool true],m):=by
 obtain⟨j,H,_⟩:=H
 exact H.head_cons
end Go.Am.F15
end
section
namespace Go.Am.F15
open Go.Am.F10 (iC iC_at iC_len iC_one iC_app SI SI.val same_run Nx si_take si_drop si_row cutA dropA pick_eq)
open Go.Am.F06 (sqN sqT)
open Go.Am.F14 (law14_works law14_row law14_FifoFirst law14_FifoPasses law14_FifoPlays law14_few law14_does law14_is law14_FifoKnown fifo_Pass ref14_Pop ref14_Remove ref14_Pass)
variable {X:Type}
def KD(D:Nat→Prop) (m m':Mem X):Prop:=m.length≤m'.length∧∀ q,q < m.length→¬ D q→m'[q]?=m[q]?
theorem KD.trans{D:Nat→Prop} {m m' m'':Mem X} (h:KD D m m') (h':KD D m' m''):KD D m m'':=⟨Nat.le_trans h.1 h'.1,fun q a b=>(h'.2 q (Nat.lt_of_lt_of_le a h.1) b).trans (h.2 q a b)⟩
theorem _root_.Go.Am.Keep.kd{m m':Mem X} (h:Keep m m') (D:Nat→Prop):KD D m m':=⟨h.1,fun q a _=>h.2 q a⟩
def ND(D:Nat→Prop) (m:Mem X) (a b:Nat) (xs ys:List Int):Prop:=∃ j k,LN m a j xs∧LN m b k ys∧D a∧D b∧(∀ q,j=some q→D q)∧(∀ q,k=some q→D q)∧a≠b∧(∀ q,j=some q→k≠some q)
def SD(D:Nat→Prop) (m:Mem X) (a b:Nat) (xs ys:List Int) (m':Mem X):Prop:=ND D m' a b xs ys∧KD D m m'∧K1 m m'
section
variable {D:Nat→Prop} {m m':Mem X} {a b:Nat} {xs ys:List Int}
theorem ND.fst(h:ND D m a b xs ys):NL [] m a xs:=by
 obtain⟨j,k,A,B,h1,h2,h3,h4,h5,h6⟩:=h
 exact⟨j,A,Nat.zero_le _,fun _ _=>Nat.zero_le _⟩
theorem ND.snd(h:ND D m a b xs ys):NL [] m b ys:=by
 obtain⟨j,k,A,B,h1,h2,h3,h4,h5,h6⟩:=h
 exact⟨k,B,Nat.zero_le _,fun _ _=>Nat.zero_le _⟩
theorem ND.symm(h:ND D m a b xs ys):ND D m b a ys xs:=by
 obtain⟨j,k,A,B,h1,h2,h3,h4,h5,h6⟩:=h
 exact⟨k,j,B,A,h2,h1,h4,h3,h5.symm,fun q e e'=>h6 q e' e⟩
theorem SD.symm(h:SD D m a b xs ys m'):SD D m b a ys xs m':=⟨h.1.symm,h.2⟩
theorem ND.keep(h:ND D m a b xs ys) (k:Keep m m'):ND D m' a b xs ys:=by
 obtain⟨j,l,A,B,h1,h2,h3,h4,h5,h6⟩:=h
 exact⟨j,l,A.keep k,B.keep k,h1,h2,h3,h4,h5,h6⟩
theorem ND.same(h:ND D m a b xs ys) (k:Keep m m'):SD D m a b xs ys m':=⟨h.keep k,k.kd D,k.k1⟩
theorem ND.mono{D':Nat→Prop} (h:ND D m a b xs ys) (k:∀ q,D q→D' q):ND D' m a b xs ys:=by
 obtain⟨j,l,A,B,h1,h2,h3,h4,h5,h6⟩:=h
 exact⟨j,l,A,B,k _ h1,k _ h2,fun q e=>k _ (h3 q e),fun q e=>k _ (h4 q e),h5,h6⟩
theorem nd_step{j j' k:Option Nat} {zs:List Int} (hD:∀ q,m.length≤q→D q) (A:LN m a j xs) (B:LN m b k ys) (h1:D a) (h2:D b) (h3:∀ q,j=some q→D q) (h4:∀ q,k=some q→D q) (h5:a≠b) (h6:∀ q,j=some q→k≠some q)
  (s1:KL m m' a j) (s2:JN m j j') (s3:LN m' a j' zs):SD D m a b zs ys m':=by
 refine⟨⟨j',k,s3,B.at (s1.2 b B.lt.1 (fun e=>h5 e.symm) (ln_ij B A)) (fun q e=>s1.2 q (B.lt.2 q e).1 (ln_ji B A e) (fun e'=>h6 q e' e)),h1,h2,fun q e=>?_,h4,h5,fun q e e'=>?_⟩,⟨s1.1,fun q hq hd=>s1.2 q hq (fun e=>hd (e ▸ h1)) (fun e=>hd (h3 q e))⟩,(ln_kk A s1).k1⟩
 ·rcases s2 with rfl|⟨q',e',hq⟩
  ·exact h3 q e
  ·rw[e'] at e;injection e with e;subst e;exact hD _ hq
 ·exact h6 q (s2.back (B.lt.2 q e').1 e) e'
theorem ND.push{l:List Int} {w:Bool} {lv:AV} (hD:∀ q,m.length≤q→D q) (H:ND D m a b xs ys) (hl:SI m w l lv) (hf:l.length < 10000) (hx:xs.length < 10000) :
  Fn GPush fifo_Line_Push [.ptr a 0,lv] m (fun r m'=>r = .int .i64 (if fitsB xs l=true then 0 else 140)∧SD D m a b (if fitsB xs l=true then xs++l else xs) ys m'):=by
 obtain⟨j,k,A,B,h1,h2,h3,h4,h5,h6⟩:=H
 refine Fn_mono (push_run A hl (by omega) (by omega)) ?_
 rintro r m' ⟨rfl,j',s1,s2,s3⟩
 exact⟨rfl,nd_step hD A B h1 h2 h3 h4 h5 h6 s1 s2 s3⟩
theorem ND.pop(hD:∀ q,m.length≤q→D q) (H:ND D m a b xs ys) (n:Int) (hx:xs.length < 10000) :
  Fn GPop fifo_Line_Pop [.ptr a 0,.int .i64 n] m (fun r m'=>SD D m a b (xs.drop (popN xs n)) ys m'∧Go.Am.Own m m' 1 (xs.take (popN xs n)).length (iC (xs.take (popN xs n))) r):=by
 obtain⟨j,k,A,B,h1,h2,h3,h4,h5,h6⟩:=H
 refine Fn_mono (pop_run A n (by omega)) ?_
 rintro r m' ⟨s1,s2,s3⟩
 exact⟨nd_step hD A B h1 h2 h3 h4 h5 h6 s1 (JN.refl _ _) s2,s3⟩
theorem ND.remove(hD:∀ q,m.length≤q→D q) (H:ND D m a b xs ys) (x:Int):Fn GRem fifo_Line_Remove [.ptr a 0,.int .i64 x] m (fun r m'=>r = .bool (decide (x ∈ xs))∧SD D m a b (rmL xs x) ys m'):=by
 obtain⟨j,k,A,B,h1,h2,h3,h4,h5,h6⟩:=H
 by_cases hm:x ∈ xs
 ·have hs:=split_at (ahead_some hm).1
  have A':=A
  rw[hs] at A'
  refine Fn_mono (remove_run A') ?_
  rintro r m' ⟨rfl,s1,s2⟩
  have e:rmL xs x=xs.take (xs.idxOf x)++xs.drop (xs.idxOf x+1):=by unfold rmL;rw[if_pos hm]
  rw[e]
  exact⟨by rw[decide_eq_true hm],nd_step hD A B h1 h2 h3 h4 h5 h6 s1 (JN.refl _ _) s2⟩
 ·refine Fn_mono (remove_no A hm) ?_
  rintro r m' ⟨rfl,k1⟩
  have e:rmL xs x=xs:=by unfold rmL;rw[if_neg hm]
  rw[e]
  exact⟨by rw[decide_eq_false hm],ND.same ⟨j,k,A,B,h1,h2,h3,h4,h5,h6⟩ k1⟩
theorem ND.cells(H:ND D m a b xs ys):(∃ l,m[a]?=some (.cells 3 false l))∧(∃ l,m[b]?=some (.cells 3 false l))∧a≠b:=by
 obtain⟨j,k,A,B,h1,h2,h3,h4,h5,h6⟩:=H
 exact⟨A.cell,B.cell,h5⟩
end
def RZ(m:Mem X) (xs:List Int) (v:AV):Prop:=SI m true xs v∧(v = .nils∨∃ q l,v = .sl q 0 xs.length none∧m[q]?=some (Chunk.cells 1 false l)∧xs.length≤l.length)
theorem RZ.k1{m m':Mem X} {xs:List Int} {v:AV} (h:RZ m xs v) (k:K1 m m'):RZ m' xs v:=by
 refine⟨si_k1 h.1 k,?_⟩
 rcases h.2 with h|⟨q,l,h1,h2,h3⟩
 ·exact .inl h
 ·exact .inr ⟨q,l,h1,k.2 q false l h2,h3⟩
theorem RO.rz{m:Mem X} {xs:List Int} {v:AV} (h:RO m xs v):RZ m xs v:=by
 refine⟨h.rw.1,?_⟩
 rcases h with⟨h,_⟩|⟨q,h1,h2⟩
 ·exact .inl h
 ·exact .inr ⟨q,_,h1,h2,by rw[iC_len];omega⟩
theorem own_rz{m m1:Mem X} {xs:List Int} {v:AV} (h:Go.Am.Own m m1 1 xs.length (iC xs) v) {k:Nat} (hk:k≤xs.length):RZ m1 (xs.take k) (cutA v k)∧Lies (cutA v k) m.length m1.length:=by
 have L:=own_lv h
 have hl:(xs.take k).length=k:=by rw[List.length_take];omega
 refine⟨⟨(L.cut hk).1,?_⟩,?_⟩
 ·rcases h with⟨_,_,rfl⟩|⟨q,rfl,h2,h3,h4⟩
  ·exact .inl rfl
  ·exact .inr ⟨q,_,by rw[hl];rfl,h2,by rw[hl,iC_len];omega⟩
 ·rcases h with⟨_,_,rfl⟩|⟨q,rfl,h2,h3,h4⟩
  ·intro q n e;cases e
  ·intro q' n e;injection e with e;subst e;exact⟨h3,h4⟩
def RzI(a b:AV) (xs:List Int) (m0:Mem X) (k:Nat) (e:List AV) (m:Mem X):Prop:=∃ (j:Nat) (x4 x5:AV),
 e=[a,b,.bool false,.int .i64 j,x4,x5]∧k=xs.length - j∧j≤xs.length∧WO a m0 m∧∀ q,a = .sl q 0 xs.length none→∃ L,m[q]?=some (.cells 1 false L)∧xs.length≤L.length
theorem rowz_run{m:Mem X} {w:Bool} {xs ys:List Int} {a b:AV} (ha:RZ m xs a) (hb:SI m w ys b) (hx:xs.length < 10000) (he:xs=ys):Fn GRow law14_row [a,b] m (fun r m'=>r = .bool true∧WO a m m'):=by
 have a84:assoc (GRow (X:=X)) 84=some c_kit_SameInts:=rfl
 generalize (GRow (X:=X))=G at a84 ⊢
 have hs:c_kit_SameInts [a,b] m=some (.bool (decide (xs=ys)),m):=Fn_eq (same_run ha.1 hb (by unfold FUEL;omega))
 have hlen:=ha.1.len
 have hd:decide (xs=ys)=true:=decide_eq_true he
 rw[hd] at hs
 refine Fn_of rfl ?_
 simp(disch:=first|assumption|omega|(simp only[zl]<;>omega)|(simp only[zn])) only[law14_row,↓zd,zk,seval,reduceIte,List.map,AV.cells,List.all,AV.one,eqV,eqAll,splice,fillA,List.replicate,resAll,resA,zm,zg,a84,hs]
 refine W_loop (RzI a b xs m) xs.length (by unfold FUEL;omega) ⟨0,_,_,rfl,rfl,Nat.zero_le _,WO.refl a m,fun q e=>?_⟩ ?_
 ·rcases ha.2 with h|⟨q',l,h,h2,h3⟩
  ·rw[h] at e;cases e
  ·rw[h] at e;injection e with e;subst e
   exact⟨_,h2,h3⟩
 rintro k e m' ⟨j,x4,x5,rfl,rfl,hj,hw,hL⟩
 simp(disch:=first|assumption|omega|(simp only[zl]<;>omega)|(simp only[zn])) only[↓zd,zk,seval,reduceIte,List.map,AV.cells,List.all,AV.one,eqV,eqAll,splice,fillA,List.replicate,resAll,resA,zm,zg,ev_len,hlen]
 refine CW_of (fun hc=>?_) (fun hc=>?_)
 ·simp only[decide_eq_true_eq] at hc
  rcases ha.2 with h|⟨q,l,hvq,_,_⟩
  ·rw[h] at hlen
   simp only[lenA,Option.some.injEq] at hlen
   omega
  ·obtain⟨L,hq1,hq2⟩:=hL q hvq
   have lq:=(List.getElem?_eq_some_iff.1 hq1).1
   subst hvq
   simp(disch:=first|assumption|omega|(simp only[zl]<;>omega)|(simp only[zn])) only[↓zd,zk,seval,reduceIte,List.map,AV.cells,List.all,AV.one,eqV,eqAll,splice,fillA,List.replicate,resAll,resA,zm,zg,hq1]
   refine⟨_,by omega,j+1,_,_,rfl,rfl,by omega,hw.set rfl _,fun q' e=>?_⟩
   injection e with e;subst e
   exact⟨_,List.getElem?_set_self lq,by simpa using hq2⟩
 ·simp only[decide_eq_false_iff_not] at hc
  simp(disch:=first|assumption|omega|(simp only[zl]<;>omega)|(simp only[zn])) only[↓zd,zk,seval,reduceIte,List.map,AV.cells,List.all,AV.one,eqV,eqAll,splice,fillA,List.replicate,resAll,resA,zm,zg]
  exact hw
theorem RZ.not3{m:Mem X} {xs:List Int} {v:AV} (h:RZ m xs v) {q n:Nat} (e:v = .sl q 0 n none):∃ l,m[q]?=some (Chunk.cells 1 false l):=by
 rcases h.2 with h|⟨q',l,h1,h2,_⟩
 ·rw[h] at e;cases e
 ·rw[h1] at e;injection e with e;subst e;exact⟨l,h2⟩
theorem SD.wo{D:Nat→Prop} {m m' m'':Mem X} {a b:Nat} {xs ys zs:List Int} {v:AV} {hi:Nat} (h:SD D m a b xs ys m') (hr:RZ m' zs v) (hl:Lies v m.length hi) (hw:WO v m' m''):SD D m a b xs ys m'':=by
 obtain⟨⟨j,k,A,B,h1,h2,h3,h4,h5,h6⟩,s1,s2⟩:=h
 have key:∀ q,(∀ l,m'[q]?≠some (Chunk.cells 1 false l))→m''[q]?=m'[q]?:=fun q hq=>hw.2 q fun n e=>by
  obtain⟨l,hl⟩:=hr.not3 e
  exact hq l hl
 have kc:∀ {i:Nat} {j:Option Nat} {xs:List Int},LN m' i j xs→LN m'' i j xs:=fun A=>by
  refine A.at (key _ fun l e=>?_) (fun q e=>key _ fun l e'=>?_)
  ·obtain⟨l',hc⟩:=A.cell
   rw[hc] at e;cases e
  ·obtain⟨tb,c,ht⟩:=A.tab e
   rw[ht] at e';cases e'
 have old:∀ q,q < m.length→m''[q]?=m'[q]?:=fun q hq=>hw.2 q fun n e=>by have:=hl q n e;omega
 refine⟨⟨j,k,kc A,kc B,h1,h2,h3,h4,h5,h6⟩,⟨by rw[hw.1];exact s1.1,fun q a b=>(old q a).trans (s1.2 q a b)⟩,⟨by rw[hw.1];exact s2.1,fun q ro L e=>(old q (List.getElem?_eq_some_iff.1 e).1).trans (s2.2 q ro L e)⟩⟩
theorem SD.trans{D:Nat→Prop} {m m' m'':Mem X} {a b:Nat} {xs ys xs' ys':List Int} (h:SD D m a b xs ys m') (h':SD D m' a b xs' ys' m''):SD D m a b xs' ys' m'':=⟨h'.1,h.2.1.trans h'.2.1,h.2.2.trans h'.2.2⟩
section
variable {D:Nat→Prop} {m m':Mem X} {a b:Nat} {xs ys:List Int}
def PsD(D:Nat→Prop) (m:Mem X) (a b:Nat) (xs ys:List Int) (n:Int) (r:AV) (m':Mem X):Prop:=∃ v hi,r = .tup [v,.int .i64 (psE xs ys n)]∧SD D m a b (psX xs ys n) (psY xs ys n) m'∧RZ m' (psR xs ys n) v∧Lies v m.length hi
set_option maxHeartbeats 4000000 in
theorem ND.pass(hD:∀ q,m.length≤q→D q) (H:ND D m a b xs ys) (n:Int) (hx:xs.length < 5000) (hy:ys.length < 5000):Fn GPass fifo_Pass [.ptr a 0,.ptr b 0,.int .i64 n] m (PsD D m a b xs ys n):=by
 have a100:assoc (GPass (X:=X)) 100=some (amFunc GAll14 fifo_Line_All):=rfl
 have a123:assoc (GPass (X:=X)) 123=some c_fifo_Line_fits:=rfl
 have a103:assoc (GPass (X:=X)) 103=some (amFunc GPop fifo_Line_Pop):=rfl
 have a101:assoc (GPass (X:=X)) 101=some (amFunc GPush fifo_Line_Push):=rfl
 generalize (GPass (X:=X))=G at a100 a123 a103 a101 ⊢
 refine Fn_of rfl ?_
 simp(disch:=first|assumption|omega|(simp only[zl]<;>omega)|(simp only[zn])) only[fifo_Pass,↓zd,zk,seval,reduceIte,List.map,AV.cells,List.all,AV.one,eqV,eqAll,splice,fillA,List.replicate,resAll,resA,zm,zg,a100]
 refine OK_fn (nl_all H.fst (by omega)) ?_
 rintro v5 m1 ⟨k1,o1⟩
 have H1:=H.keep k1
 have L5:=own_lv o1
 have hl5:=L5.1.len
 have hpn:popN xs n≤xs.length:=by unfold popN;omega
 have hmin:(if (if (xs.length:Int) < n then(xs.length:Int) else n) > 0 then(if (xs.length:Int) < n then(xs.length:Int) else n) else 0)=((popN xs n:Nat):Int):=by unfold popN;split<;>split<;>omega
 have p0:(0≤((popN xs n:Nat):Int))=True:=eq_true (by omega)
 obtain⟨t1,t2⟩:=si_take L5.1 L5.nx (k:=popN xs n) hpn
 obtain⟨z6,l6⟩:=own_rz o1 hpn
 obtain⟨⟨la,ga⟩,⟨lb,gb⟩,hab⟩:=H1.cells
 simp(disch:=first|assumption|omega|(simp only[zl]<;>omega)|(simp only[zn])) only[↓zd,zk,seval,reduceIte,List.map,AV.cells,List.all,AV.one,eqV,eqAll,splice,fillA,List.replicate,resAll,resA,zm,zg,ev_len,hl5,hmin,p0,evA,Int.toNat_natCast,t1,hab,ga,gb,a123]
 refine OK_fn (nl_fits H1.snd t2 (by rw[List.length_take];omega)) ?_
 rintro _ m2 ⟨rfl,k2⟩
 have H2:=H1.keep k2
 have hk12:=(k1.trans k2).1
 cases hf:fitsB ys (xs.take (popN xs n)) with
 | false =>
  have hnil:RZ m2 (psR xs ys n) .nils:=by
   have e:psR xs ys n=[]:=by simp[psR,hf]
   rw[e];exact⟨Sl.nil,.inl rfl⟩
  simp(disch:=first|assumption|omega|(simp only[zl]<;>omega)|(simp only[zn])) only[↓zd,zk,seval,reduceIte,List.map,AV.cells,List.all,AV.one,eqV,eqAll,splice,fillA,List.replicate,resAll,resA,zm,zg]
  exact⟨.nils,0,by simp[psE,hf],by simpa [psX,psY,hf] using H.same (k1.trans k2),hnil,fun q n e=>by cases e⟩
 | true =>
  simp(disch:=first|assumption|omega|(simp only[zl]<;>omega)|(simp only[zn])) only[↓zd,zk,seval,reduceIte,List.map,AV.cells,List.all,AV.one,eqV,eqAll,splice,fillA,List.replicate,resAll,resA,zm,zg,a103]
  refine OK_fn (H2.pop (fun q hq=>hD q (by omega)) n (by omega)) ?_
  rintro v7 m3 ⟨S3,o3⟩
  have z63:=(z6.k1 k2.k1).k1 S3.2.2
  have hk3:=S3.2.1.1
  simp(disch:=first|assumption|omega|(simp only[zl]<;>omega)|(simp only[zn])) only[↓zd,zk,seval,reduceIte,List.map,AV.cells,List.all,AV.one,eqV,eqAll,splice,fillA,List.replicate,resAll,resA,zm,zg,a101]
  refine OK_fn (S3.1.symm.push (fun q hq=>hD q (by omega)) z63.1 (by rw[List.length_take];omega) (by omega)) ?_
  rintro _ m4 ⟨rfl,S4⟩
  rw[hf] at S4 ⊢
  have ST:=((H.same (k1.trans k2)).trans S3).trans S4.symm
  simp(disch:=first|assumption|omega|(simp only[zl]<;>omega)|(simp only[zn])) only[↓zd,zk,seval,reduceIte,List.map,AV.cells,List.all,AV.one,eqV,eqAll,splice,fillA,List.replicate,resAll,resA,zm,zg]
  exact⟨cutA v5 (popN xs n),m1.length,by simp[psE,hf],by simpa [psX,psY,hf] using ST,by simpa [psR,hf] using z63.k1 S4.2.2,l6⟩
end
end Go.Am.F15
end
section
namespace Go.Am.F15
open Go.Am.F10 (iC iC_at iC_len iC_one iC_app SI SI.val same_run Nx si_take si_drop si_row cutA dropA pick_eq)
open Go.Am.F06 (sqN sqT)
open Go.Am.F14 (law14_works law14_row law14_FifoFirst law14_FifoPasses law14_FifoPlays law14_few law14_does law14_is law14_FifoKnown fifo_Pass ref14_Pop ref14_Remove ref14_Pass)
variable {X:Type}
def few14B(l:List Act) (most:Nat):Bool:=((l.take (most+1)).all fun a=>decide (a.l.length≤40)) && decide (l.length≤most)
def Fw14Inv(l:List Act) (most:Nat) (lv:AV) (m0:Mem X) (k:Nat) (e:List AV) (m:Mem X):Prop:=∃ (n:Nat) (x4 x5:AV),
 e=[lv,.int .i64 most,.bool false,.int .i64 n,x4,x5]∧m=m0∧k=most+1 - n∧n≤most+1∧n≤l.length∧((l.take n).all fun a=>decide (a.l.length≤40))=true
theorem few14_run{m:Mem X} {l:List Act} {lv:AV} {most:Nat} (h:AS m l lv) (hm:most < 1000):Fn [] law14_few [lv,.int .i64 most] m (fun r m'=>r = .bool (few14B l most)∧m'=m):=by
 have hlen:=h.1.len
 refine Fn_of rfl ?_
 simp(disch:=first|assumption|omega|(simp only[zl]<;>omega)|(simp only[zn])) only[law14_few,↓zd,zk,seval,reduceIte,List.map,AV.cells,List.all,AV.one,eqV,eqAll,splice,fillA,List.replicate,resAll,resA,zm,zg]
 refine W_loop (Fw14Inv l most lv m) (most+1) (by unfold FUEL;omega) ⟨0,_,_,rfl,rfl,rfl,by omega,Nat.zero_le _,rfl⟩ ?_
 rintro k e m' ⟨n,x4,x5,rfl,rfl,rfl,hn,hnl,ha⟩
 simp(disch:=first|assumption|omega|(simp only[zl]<;>omega)|(simp only[zn])) only[↓zd,zk,seval,reduceIte,List.map,AV.cells,List.all,AV.one,eqV,eqAll,splice,fillA,List.replicate,resAll,resA,zm,zg,ev_len,hlen]
 have out:(n=most+1∨n=l.length)→few14B l most=decide (l.length≤most):=fun ho=>by
  have:l.take (most+1)=l.take n:=by
   rcases ho with rfl|rfl
   ·rfl
   ·rw[List.take_length,List.take_of_length_le hn]
  simp only[few14B,this,ha,Bool.true_and]
 have hdd:decide ((l.length:Int)≤(most:Int))=decide (l.length≤most):=by
  by_cases h:l.length≤most
  ·rw[decide_eq_true h,decide_eq_true (by omega)]
  ·rw[decide_eq_false h,decide_eq_false (by omega)]
 by_cases h1:n < l.length
 ·have d1:decide ((n:Int) < (l.length:Int))=true:=decide_eq_true (by omega)
  by_cases h2:n≤most
  ·have d2:decide ((n:Int)≤(most:Int))=true:=decide_eq_true (by omega)
   obtain⟨a,hai⟩:∃ a,l[n]?=some a:=⟨_,List.getElem?_eq_getElem h1⟩
   obtain⟨q,o,cap,ro,L,rfl,g1,g2,g3,g4,g5⟩:=h.get hai
   have hal:=(h.2 a (List.mem_of_getElem? hai)).len
   have htk:l.take (n+1)=l.take n++[a]:=by rw[List.take_add_one,hai];rfl
   by_cases h3:a.l.length≤40
   ·have d3:((40:Int) < (a.l.length:Int))=False:=eq_false (by omega)
    simp(disch:=first|assumption|omega|(simp only[zl]<;>omega)|(simp only[zn])) only[↓zd,zk,seval,reduceIte,List.map,AV.cells,List.all,AV.one,eqV,eqAll,splice,fillA,List.replicate,resAll,resA,zm,zg,d1,d2,g1,g5,ev_len,hal,d3]
    refine⟨_,by omega,n+1,_,_,rfl,rfl,rfl,by omega,by omega,?_⟩
    rw[htk,List.all_append,ha]
    simp[h3]
   ·have d3:((40:Int) < (a.l.length:Int))=True:=eq_true (by omega)
    simp(disch:=first|assumption|omega|(simp only[zl]<;>omega)|(simp only[zn])) only[↓zd,zk,seval,reduceIte,List.map,AV.cells,List.all,AV.one,eqV,eqAll,splice,fillA,List.replicate,resAll,resA,zm,zg,d1,d2,g1,g5,ev_len,hal,d3]
    have:few14B l most=false:=by
     simp only[few14B,Bool.and_eq_false_iff]
     left
     rw[List.all_eq_false]
     exact⟨a,List.mem_of_getElem? (i:=n) (by rw[List.getElem?_take,if_pos (by omega)];exact hai),by simpa using h3⟩
    rw[this]
  ·have d2:decide ((n:Int)≤(most:Int))=false:=decide_eq_false (by omega)
   simp(disch:=first|assumption|omega|(simp only[zl]<;>omega)|(simp only[zn])) only[↓zd,zk,seval,reduceIte,List.map,AV.cells,List.all,AV.one,eqV,eqAll,splice,fillA,List.replicate,resAll,resA,zm,zg,d1,d2,ev_len,hlen,hdd]
   rw[out (.inl (by omega)),decide_eq_false (by omega)]
 ·have d1:decide ((n:Int) < (l.length:Int))=false:=decide_eq_false (by omega)
  simp(disch:=first|assumption|omega|(simp only[zl]<;>omega)|(simp only[zn])) only[↓zd,zk,seval,reduceIte,List.map,AV.cells,List.all,AV.one,eqV,eqAll,splice,fillA,List.replicate,resAll,resA,zm,zg,d1,ev_len,hlen,hdd]
  rw[out (.inr (by omega))]
def GIs:List (Nat × AFun X):=[(100,amFunc GAll14 fifo_Line_All),(109,amFunc GRow law14_row),(118,c_fifo_Line_Head),(124,c_ref14_Ahead),(105,c_fifo_Line_Len),(102,aheadF),(119,c_fifo_Line_Has)]
def IsI(a0 a1 a2:AV) (m0:Mem X) (k:Nat) (e:List AV) (m:Mem X):Prop:=∃ (i:Nat) (x5 x6 x7 x8 x9 x10:AV),
 e=[a0,a1,a2,.bool false,.int .i64 i,x5,x6,x7,x8,x9,x10]∧k=2 - i∧i≤2∧Keep m0 m
set_option maxHeartbeats 8000000 in
theorem is14_run{m:Mem X} {a:Nat} {xs:List Int} {v:AV} (H:NL [] m a xs) (hv:RS m xs v) (n:Int) (hx:xs.length < 10000):Fn GIs law14_is [.ptr a 0,v,.int .i64 n] m (fun r m'=>r = .bool true∧Keep m m'):=by
 have a100:assoc (GIs (X:=X)) 100=some (amFunc GAll14 fifo_Line_All):=rfl
 have a109:assoc (GIs (X:=X)) 109=some (amFunc GRow law14_row):=rfl
 have a118:assoc (GIs (X:=X)) 118=some c_fifo_Line_Head:=rfl
 have a124:assoc (GIs (X:=X)) 124=some c_ref14_Ahead:=rfl
 have a105:assoc (GIs (X:=X)) 105=some c_fifo_Line_Len:=rfl
 have a102:assoc (GIs (X:=X)) 102=some aheadF:=rfl
 have a119:assoc (GIs (X:=X)) 119=some (amFunc [] fifo_Line_Has):=rfl
 generalize (GIs (X:=X))=G at a100 a109 a118 a124 a105 a102 a119 ⊢
 refine Fn_of rfl ?_
 simp(disch:=first|assumption|omega|(simp only[zl]<;>omega)|(simp only[zn])) only[law14_is,↓zd,zk,seval,reduceIte,List.map,AV.cells,List.all,AV.one,eqV,eqAll,splice,fillA,List.replicate,resAll,resA,zm,zg]
 refine W_loop (IsI (.ptr a 0) v (.int .i64 n) m) 2 (by unfold FUEL;omega) ⟨0,_,_,_,_,_,_,rfl,rfl,by decide,Keep.refl m⟩ ?_
 rintro k e m' ⟨i,x5,x6,x7,x8,x9,x10,rfl,rfl,hi,hk⟩
 have H':=H.keep hk
 have hv':=hv.k1 hk.k1
 simp(disch:=first|assumption|omega|(simp only[zl]<;>omega)|(simp only[zn])) only[↓zd,zk,seval,reduceIte,List.map,AV.cells,List.all,AV.one,eqV,eqAll,splice,fillA,List.replicate,resAll,resA,zm,zg]
 refine CW_of (fun hc=>?_) (fun hc=>?_)
 ·simp only[decide_eq_true_eq] at hc
  simp(disch:=first|assumption|omega|(simp only[zl]<;>omega)|(simp only[zn])) only[↓zd,zk,seval,reduceIte,List.map,AV.cells,List.all,AV.one,eqV,eqAll,splice,fillA,List.replicate,resAll,resA,zm,zg,a100]
  refine OK_fn (nl_all H' hx) ?_
  rintro v1 m1 ⟨k1,o1⟩
  simp(disch:=first|assumption|omega|(simp only[zl]<;>omega)|(simp only[zn])) only[↓zd,zk,seval,reduceIte,List.map,AV.cells,List.all,AV.one,eqV,eqAll,splice,fillA,List.replicate,resAll,resA,zm,zg,a109]
  refine OK_fn (rowz_run (own_ro o1).1.rz (hv'.k1 k1.k1).1 hx rfl) ?_
  rintro _ m2 ⟨rfl,w2⟩
  simp(disch:=first|assumption|omega|(simp only[zl]<;>omega)|(simp only[zn])) only[↓zd,zk,seval,reduceIte,List.map,AV.cells,List.all,AV.one,eqV,eqAll,splice,fillA,List.replicate,resAll,resA,zm,zg]
  exact⟨_,by omega,i+1,_,_,_,_,_,_,rfl,rfl,by omega,hk.trans (own_row k1 o1 w2)⟩
 ·simp only[decide_eq_false_iff_not] at hc
  have hlen:=hv'.1.len
  have hah:c_ref14_Ahead [v,.int .i64 n] m'=some (.int .i64 (aheadN xs n),m'):=Fn_eq (ahead_run hv'.1 n (by omega))
  have hal:=nl_ahead H' hx n
  have hae:aheadL xs n=aheadN xs n:=rfl
  rw[hae] at hal
  have hln:=nl_len H'
  have hd:decide (0≤aheadN xs n)=hasB xs n:=by
   unfold hasB
   by_cases h:n ∈ xs
   ·rw[decide_eq_true h,decide_eq_true (ahead_ge.2 h)]
   ·rw[decide_eq_false h,decide_eq_false (fun e=>h (ahead_ge.1 e))]
  cases xs with
  | nil =>
   have hh:=nl_head_nil H'
   have hlen0:lenA v=some 0:=hlen
   have hln0:c_fifo_Line_Len [.ptr a 0] m'=some (.int .i64 0,m'):=hln
   simp(disch:=first|assumption|omega|(simp only[zl]<;>omega)|(simp only[zn])) only[↓zd,zk,seval,reduceIte,List.map,AV.cells,List.all,AV.one,eqV,eqAll,splice,fillA,List.replicate,resAll,resA,zm,zg,a118,hh,ev_len,hlen0,a124,hah,a105,hln0,a102,hal,a119]
   refine OK_fn (nl_has H' n) ?_
   rintro _ m2 ⟨rfl,k2⟩
   simp(disch:=first|assumption|omega|(simp only[zl]<;>omega)|(simp only[zn])) only[↓zd,zk,seval,reduceIte,List.map,AV.cells,List.all,AV.one,eqV,eqAll,splice,fillA,List.replicate,resAll,resA,zm,zg,hd]
   exact hk.trans k2
  | cons x xs' =>
   have hh:=nl_head_cons H'
   obtain⟨q,o,cap,ro,L,hv0,h2,_,h4,h5⟩:=hv'.1.val (by simp)
   have hx0:L[o]?=some (.int .i64 x):=h5 0 x rfl
   have hpos:0 < (x :: xs').length:=by simp
   generalize hkk:(x :: xs').length=kk at hpos hv0 hlen hln
   have dg:decide (0 < ((kk:Nat):Int))=true:=decide_eq_true (by omega)
   have ig:(0 < ((kk:Nat):Int))=True:=eq_true (by omega)
   subst hv0
   simp(disch:=first|assumption|omega|(simp only[zl]<;>omega)|(simp only[zn])) only[↓zd,zk,seval,reduceIte,List.map,AV.cells,List.all,AV.one,eqV,eqAll,splice,fillA,List.replicate,resAll,resA,zm,zg,a118,hh,ev_len,hlen,dg,ig,h2,hx0,a124,hah,a105,hln,a102,hal,a119]
   refine OK_fn (nl_has H' n) ?_
   rintro _ m2 ⟨rfl,k2⟩
   simp(disch:=first|assumption|omega|(simp only[zl]<;>omega)|(simp only[zn])) only[↓zd,zk,seval,reduceIte,List.map,AV.cells,List.all,AV.one,eqV,eqAll,splice,fillA,List.replicate,resAll,resA,zm,zg,hd]
   exact hk.trans k2
end Go.Am.F15
end
