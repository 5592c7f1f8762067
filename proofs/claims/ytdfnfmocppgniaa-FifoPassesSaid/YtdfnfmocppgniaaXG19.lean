import Derived.Test.YtdfnfmocppgniaaXG18
set_option linter.unusedSimpArgs false
set_option linter.unusedVariables false
section
namespace Go.Am.F15
open Go.Am.F10 (iC iC_at iC_len iC_one iC_app SI SI.val same_run Nx si_take si_drop si_row cutA dropA pick_eq)
open Go.Am.F06 (sqN sqT)
open Go.Am.F14 (law14_works law14_row law14_FifoFirst law14_FifoPasses law14_FifoPlays law14_few law14_does law14_is law14_FifoKnown fifo_Pass ref14_Pop ref14_Remove ref14_Pass)
variable {X:Type}
theorem same_mt{m:Mem X}:c_kit_SameInts [.mt,.mt] m=some (.bool true,m):=by
 have h1:lenA .mt=some 0:=rfl
 refine Fn_eq (Fn_of rfl ?_)
 simp(disch:=first|assumption|omega|(simp only[zl]<;>omega)|(simp only[zn])) only[kit_SameInts,F10.kit_SameInts,↓zd,zk,seval,reduceIte,List.map,AV.cells,List.all,AV.one,eqV,eqAll,splice,fillA,List.replicate,resAll,resA,ev_len,h1]
 refine W_loop (fun k e m'=>∃ x4 x5 x6:AV,e=[.mt,.mt,.bool false,.int .i64 0,x4,x5,x6]∧m'=m) 0 (by simp[FUEL]) ⟨_,_,_,rfl,rfl⟩ ?_
 rintro k e m' ⟨x4,x5,x6,rfl,rfl⟩
 simp(disch:=first|assumption|omega|(simp only[zl]<;>omega)|(simp only[zn])) only[↓zd,zk,seval,reduceIte,List.map,AV.cells,List.all,AV.one,eqV,eqAll,splice,fillA,List.replicate,resAll,resA,ev_len,h1]
theorem row_mt{m:Mem X}:Fn GRow law14_row [.mt,.mt] m (fun r m'=>r = .bool true∧m'=m):=by
 have a84:assoc (GRow (X:=X)) 84=some c_kit_SameInts:=rfl
 generalize (GRow (X:=X))=G at a84 ⊢
 have h1:lenA .mt=some 0:=rfl
 have hs:=@same_mt X m
 refine Fn_of rfl ?_
 simp(disch:=first|assumption|omega|(simp only[zl]<;>omega)|(simp only[zn])) only[law14_row,↓zd,zk,seval,reduceIte,List.map,AV.cells,List.all,AV.one,eqV,eqAll,splice,fillA,List.replicate,resAll,resA,zm,zg,a84,hs]
 refine W_loop (fun k e m'=>∃ x4 x5:AV,e=[.mt,.mt,.bool false,.int .i64 0,x4,x5]∧m'=m) 0 (by simp[FUEL]) ⟨_,_,rfl,rfl⟩ ?_
 rintro k e m' ⟨x4,x5,rfl,rfl⟩
 simp(disch:=first|assumption|omega|(simp only[zl]<;>omega)|(simp only[zn])) only[↓zd,zk,seval,reduceIte,List.map,AV.cells,List.all,AV.one,eqV,eqAll,splice,fillA,List.replicate,resAll,resA,ev_len,h1]
theorem mt_app{m:Mem X} {w:Bool} {zs:List Int} {y:AV} (hy:SI m w zs y) (h0:zs≠[]) (hl:zs.length≤100000):appendA 1 8 .mt y m=some (.sl m.length 0 zs.length none,m++[Chunk.cells 1 false (iC zs)]):=by
 have hr:=si_row hy
 have hlen:=hy.len
 have hz:¬ zs.length=0:=fun e=>h0 (List.length_eq_zero_iff.1 e)
 simp only[appendA,hlen,hr]
 rw[if_neg hz,if_pos ⟨by omega,by omega,iC_one _⟩]
theorem mt_nil{m:Mem X} {w:Bool} {y:AV} (hy:SI m w [] y):appendA 1 8 .mt y m=some (.mt,m):=by
 have hr:=si_row hy
 have hlen:=hy.len
 simp only[appendA,hlen,hr,List.length_nil,if_true]
theorem ev_lit0{G:List (Nat × AFun X)} {m:Mem X}:amOp G .lit0 [] m=some (.mt,m):=rfl
def GPs:List (Nat × AFun X):=[(99,amFunc GW14 law14_works),(107,amFunc GOf fifo_Of),(108,amFunc GPass fifo_Pass),(100,amFunc GAll14 fifo_Line_All),(109,amFunc GRow law14_row),(84,c_kit_SameInts)]
set_option maxRecDepth 100000 in
set_option maxHeartbeats 16000000 in
theorem passes_run{m:Mem X} {xs ys:List Int} {a0 a1:AV} {n:Int} (hA:SI m false xs a0) (hB:SI m false ys a1) (sA:Sb m a0):Fn GPs law14_FifoPasses [a0,a1,.int .i64 n] m (fun r m'=>r = .bool true∧Keep m m'):=by
 have a99:assoc (GPs (X:=X)) 99=some (amFunc GW14 law14_works):=rfl
 have a107:assoc (GPs (X:=X)) 107=some (amFunc GOf fifo_Of):=rfl
 have a108:assoc (GPs (X:=X)) 108=some (amFunc GPass fifo_Pass):=rfl
 have a100:assoc (GPs (X:=X)) 100=some (amFunc GAll14 fifo_Line_All):=rfl
 have a109:assoc (GPs (X:=X)) 109=some (amFunc GRow law14_row):=rfl
 have a84:assoc (GPs (X:=X)) 84=some c_kit_SameInts:=rfl
 generalize (GPs (X:=X))=G at a99 a107 a108 a100 a109 a84 ⊢
 have hx:=hA.len
 have hy:=hB.len
 refine Fn_of rfl ?_
 by_cases b1:40 < xs.length
 ·have d1:decide (40 < (xs.length:Int))=true:=decide_eq_true (by omega)
  simp(disch:=first|assumption|omega|(simp only[zl]<;>omega)|(simp only[zn])) only[law14_FifoPasses,↓zd,zk,seval,reduceIte,List.map,AV.cells,List.all,AV.one,eqV,eqAll,splice,fillA,List.replicate,resAll,resA,zm,zg,ev_len,hx,d1,a99]
  refine OK_fn works14_run ?_
  rintro _ m1 ⟨rfl,k1⟩
  simp(disch:=first|assumption|omega|(simp only[zl]<;>omega)|(simp only[zn])) only[↓zd,zk,seval,reduceIte,List.map,AV.cells,List.all,AV.one,eqV,eqAll,splice,fillA,List.replicate,resAll,resA,zm,zg]
  exact k1
 have d1:decide (40 < (xs.length:Int))=false:=decide_eq_false (by omega)
 by_cases b2:40 < ys.length
 ·have d2:decide (40 < (ys.length:Int))=true:=decide_eq_true (by omega)
  simp(disch:=first|assumption|omega|(simp only[zl]<;>omega)|(simp only[zn])) only[law14_FifoPasses,↓zd,zk,seval,reduceIte,List.map,AV.cells,List.all,AV.one,eqV,eqAll,splice,fillA,List.replicate,resAll,resA,zm,zg,ev_len,hx,hy,d1,d2,a99]
  refine OK_fn works14_run ?_
  rintro _ m1 ⟨rfl,k1⟩
  simp(disch:=first|assumption|omega|(simp only[zl]<;>omega)|(simp only[zn])) only[↓zd,zk,seval,reduceIte,List.map,AV.cells,List.all,AV.one,eqV,eqAll,splice,fillA,List.replicate,resAll,resA,zm,zg]
  exact k1
 have d2:decide (40 < (ys.length:Int))=false:=decide_eq_false (by omega)
 by_cases n1:xs.Nodup
 ·simp(disch:=first|assumption|omega|(simp only[zl]<;>omega)|(simp only[zn])) only[law14_FifoPasses,↓zd,zk,seval,reduceIte,List.map,AV.cells,List.all,AV.one,eqV,eqAll,splice,fillA,List.replicate,resAll,resA,zm,zg,ev_len,hx,hy,d1,d2,a107]
  refine OK_fn (of_run hA (by omega) n1) ?_
  rintro _ m1 ⟨a,rfl,k1,j,A1,A2,A3⟩
  by_cases n2:ys.Nodup
  ·simp(disch:=first|assumption|omega|(simp only[zl]<;>omega)|(simp only[zn])) only[↓zd,zk,seval,reduceIte,List.map,AV.cells,List.all,AV.one,eqV,eqAll,splice,fillA,List.replicate,resAll,resA,zm,zg,a107]
   refine OK_fn (of_run (hB.keep k1) (by omega) n2) ?_
   rintro _ m2 ⟨b,rfl,k2,l,B1,B2,B3⟩
   have H:N2 m m2 a b xs ys:=⟨j,l,A1.keep k2,B1,A2,Nat.le_trans k1.1 B2,A3,fun q e=>Nat.le_trans k1.1 (B3 q e),by have:=A1.lt.1;omega,fun q e e'=>by have:=(A1.lt.2 q e).1;have:=B3 q e';omega⟩
   have K2:=k1.trans k2
   simp(disch:=first|assumption|omega|(simp only[zl]<;>omega)|(simp only[zn])) only[↓zd,zk,seval,reduceIte,List.map,AV.cells,List.all,AV.one,eqV,eqAll,splice,fillA,List.replicate,resAll,resA,zm,zg,a108]
   refine OK_fn (pass_run H K2 n (by omega) (by omega)) ?_
   rintro _ m3 ⟨v8,rfl,H3,K3,kk3,L8⟩
   cases hf:fitsB ys (xs.take (popN xs n)) with
   | false =>
    simp only[psE,psX,psY,psR,hf,Bool.false_eq_true,if_false] at H3 L8 ⊢
    have hl8:=L8.1.len
    simp(disch:=first|assumption|omega|(simp only[zl]<;>omega)|(simp only[zn])) only[↓zd,zk,seval,reduceIte,List.map,AV.cells,List.all,AV.one,eqV,eqAll,splice,fillA,List.replicate,resAll,resA,zm,zg,a100]
    refine OK_fn (nl_all H3.fst (by omega)) ?_
    rintro v4 m4 ⟨k4,o4⟩
    simp(disch:=first|assumption|omega|(simp only[zl]<;>omega)|(simp only[zn])) only[↓zd,zk,seval,reduceIte,List.map,AV.cells,List.all,AV.one,eqV,eqAll,splice,fillA,List.replicate,resAll,resA,zm,zg,a109]
    refine OK_fn (row_run (own_ro o4).1 (hA.keep (K3.trans k4)) (by omega)) ?_
    rintro _ m5 ⟨rfl,w5⟩
    have k5:=own_row k4 o4 w5
    simp(disch:=first|assumption|omega|(simp only[zl]<;>omega)|(simp only[zn])) only[↓zd,zk,seval,reduceIte,List.map,AV.cells,List.all,AV.one,eqV,eqAll,splice,fillA,List.replicate,resAll,resA,zm,zg,a100]
    refine OK_fn (nl_all (H3.snd.keep k5) (by omega)) ?_
    rintro v6 m6 ⟨k6,o6⟩
    simp(disch:=first|assumption|omega|(simp only[zl]<;>omega)|(simp only[zn])) only[↓zd,zk,seval,reduceIte,List.map,AV.cells,List.all,AV.one,eqV,eqAll,splice,fillA,List.replicate,resAll,resA,zm,zg,a109]
    refine OK_fn (row_run (own_ro o6).1 (hB.keep (K3.trans (k5.trans k6))) (by omega)) ?_
    rintro _ m7 ⟨rfl,w7⟩
    have k7:=own_row k6 o6 w7
    simp(disch:=first|assumption|omega|(simp only[zl]<;>omega)|(simp only[zn])) only[↓zd,zk,seval,reduceIte,List.map,AV.cells,List.all,AV.one,eqV,eqAll,splice,fillA,List.replicate,resAll,resA,zm,zg,ev_len,hl8,a99]
    refine OK_fn works14_run ?_
    rintro _ m8 ⟨rfl,k8⟩
    simp(disch:=first|assumption|omega|(simp only[zl]<;>omega)|(simp only[zn])) only[↓zd,zk,seval,reduceIte,List.map,AV.cells,List.all,AV.one,eqV,eqAll,splice,fillA,List.replicate,resAll,resA,zm,zg]
    exact K3.trans (k5.trans (k7.trans k8))
   | true =>
    simp only[psE,psX,psY,psR,hf,if_true] at H3 L8 ⊢
    have hpn:popN xs n≤xs.length:=by unfold popN;omega
    have hmin:(if (if (xs.length:Int) < n then(xs.length:Int) else n) > 0 then(if (xs.length:Int) < n then(xs.length:Int) else n) else 0)=((popN xs n:Nat):Int):=by unfold popN;split<;>split<;>omega
    have p0:(0≤((popN xs n:Nat):Int))=True:=eq_true (by omega)
    obtain⟨t1,t2,_⟩:=sb_take (hA.keep K3) (sA.keep K3) hpn
    obtain⟨u1,_,_⟩:=sb_drop (hA.keep K3) (sA.keep K3) hpn
    have hs:=same_eq L8.1 t2 (by rw[List.length_take];omega)
    have hde:decide (xs.take (popN xs n)=xs.take (popN xs n))=true:=decide_eq_true rfl
    rw[hde] at hs
    simp(disch:=first|assumption|omega|(simp only[zl]<;>omega)|(simp only[zn])) only[↓zd,zk,seval,reduceIte,List.map,AV.cells,List.all,AV.one,eqV,eqAll,splice,fillA,List.replicate,resAll,resA,zm,zg,ev_len,hx,hmin,p0,evA,Int.toNat_natCast,t1,a84,hs,a100]
    refine OKT_fn (nl_all H3.fst (by rw[List.length_drop];omega)) ?_
    rintro v4 m4 ⟨k4,o4⟩
    obtain⟨q1,q2,_⟩:=sb_drop (hA.keep (K3.trans k4)) (sA.keep (K3.trans k4)) hpn
    simp(disch:=first|assumption|omega|(simp only[zl]<;>omega)|(simp only[zn])) only[↓zd,zk,seval,reduceIte,List.map,AV.cells,List.all,AV.one,eqV,eqAll,splice,fillA,List.replicate,resAll,resA,zm,zg,evA,p0,Int.toNat_natCast,q1,a109]
    refine OKT_fn (row_run (own_ro o4).1 q2 (by rw[List.length_drop];omega)) ?_
    rintro _ m5 ⟨rfl,w5⟩
    have k5:=own_row k4 o4 w5
    have hdf:decide (xs.drop (popN xs n)=xs.drop (popN xs n))=true:=decide_eq_true rfl
    rw[hdf]
    have hzl:(ys++xs.take (popN xs n)).length≤80:=by rw[List.length_append,List.length_take];omega
    simp(disch:=first|assumption|omega|(simp only[zl]<;>omega)|(simp only[zn])) only[↓zd,zk,seval,reduceIte,List.map,AV.cells,List.all,AV.one,eqV,eqAll,splice,fillA,List.replicate,resAll,resA,zm,zg,ev_lit0,a100]
    refine OKT_fn (nl_all (H3.snd.keep k5) (by omega)) ?_
    rintro v6 m6 ⟨k6,o6⟩
    have K6:=K3.trans (k5.trans k6)
    have s6:=own_si o6
    by_cases hz:ys++xs.take (popN xs n)=[]
    ·rw[hz] at s6
     have hye:ys=[]:=(List.append_eq_nil_iff.1 hz).1
     have hxe:xs.take (popN xs n)=[]:=(List.append_eq_nil_iff.1 hz).2
     have e1:=mt_nil s6
     have sB:=hB.keep K6
     rw[hye] at sB
     have e2:=mt_nil sB
     have s8:=L8.1.keep (k5.trans k6)
     rw[hxe] at s8
     have e3:=mt_nil s8
     simp(disch:=first|assumption|omega|(simp only[zl]<;>omega)|(simp only[zn])) only[↓zd,zk,seval,reduceIte,List.map,AV.cells,List.all,AV.one,eqV,eqAll,splice,fillA,List.replicate,resAll,resA,zm,zg,ev_lit0,evA,e1,e2,e3,a109]
     refine OKT_fn row_mt ?_
     rintro _ m7 ⟨rfl,rfl⟩
     simp(disch:=first|assumption|omega|(simp only[zl]<;>omega)|(simp only[zn])) only[↓zd,zk,seval,reduceIte,List.map,AV.cells,List.all,AV.one,eqV,eqAll,splice,fillA,List.replicate,resAll,resA,zm,zg,a99]
     refine OKT_fn works14_run ?_
     rintro _ m8 ⟨rfl,k8⟩
     simp(disch:=first|assumption|omega|(simp only[zl]<;>omega)|(simp only[zn])) only[↓zd,zk,seval,reduceIte,List.map,AV.cells,List.all,AV.one,eqV,eqAll,splice,fillA,List.replicate,resAll,resA,zm,zg,u1,q1,evA,p0,Int.toNat_natCast]
     exact K6.trans k8
    ·have e1:=mt_app s6 hz (by omega)
     generalize hzs:ys++xs.take (popN xs n)=zs at e1 hz hzl
     have k7:=Keep.app m6 [Chunk.cells 1 false (iC zs)]
     have g7:(m6++[Chunk.cells 1 false (iC zs)])[m6.length]?=some (.cells 1 false (iC zs)):=get_concat
     obtain⟨w2,m8,e2,Q2,K8,_⟩:=qm_app (m0:=m6++[Chunk.cells 1 false (iC zs)]) (xs:=[]) (.inl ⟨rfl,rfl⟩) (Keep.refl _) (hB.keep (K6.trans k7)) (by simp) (by omega)
     obtain⟨w3,m9,e3,Q3,K9,_⟩:=qm_app Q2 K8 (L8.1.keep ((k5.trans k6).trans (k7.trans K8))) (by simp;omega) (by rw[List.length_take];omega)
     rw[List.nil_append,hzs] at Q3
     obtain⟨_,L3⟩:=Q3.resolve_left (fun h=>hz h.1)
     have ro1:RO m9 zs (.sl m6.length 0 zs.length none):=.inr ⟨m6.length,rfl,K9.get g7⟩
     simp(disch:=first|assumption|omega|(simp only[zl]<;>omega)|(simp only[zn])) only[↓zd,zk,seval,reduceIte,List.map,AV.cells,List.all,AV.one,eqV,eqAll,splice,fillA,List.replicate,resAll,resA,zm,zg,ev_lit0,evA,e1,e2,e3,a109]
     refine OKT_fn (row_run ro1 L3.1 (by omega)) ?_
     rintro _ m10 ⟨rfl,w10⟩
     have hdz:decide (zs=zs)=true:=decide_eq_true rfl
     rw[hdz]
     have k10:Keep m6 m10:=keep_wo (k7.trans K9) (a:=m6.length) (b:=m6.length+1) (fun q n e=>by injection e with e;omega) (Nat.le_refl _) w10
     simp(disch:=first|assumption|omega|(simp only[zl]<;>omega)|(simp only[zn])) only[↓zd,zk,seval,reduceIte,List.map,AV.cells,List.all,AV.one,eqV,eqAll,splice,fillA,List.replicate,resAll,resA,zm,zg,a99]
     refine OKT_fn works14_run ?_
     rintro _ m11 ⟨rfl,k11⟩
     simp(disch:=first|assumption|omega|(simp only[zl]<;>omega)|(simp only[zn])) only[↓zd,zk,seval,reduceIte,List.map,AV.cells,List.all,AV.one,eqV,eqAll,splice,fillA,List.replicate,resAll,resA,zm,zg,u1,q1,evA,p0,Int.toNat_natCast]
     exact K6.trans (k10.trans k11)
  ·simp(disch:=first|assumption|omega|(simp only[zl]<;>omega)|(simp only[zn])) only[↓zd,zk,seval,reduceIte,List.map,AV.cells,List.all,AV.one,eqV,eqAll,splice,fillA,List.replicate,resAll,resA,zm,zg,a107]
   refine OK_fn (of_no (hB.keep k1) (by omega) n2) ?_
   rintro _ m2 ⟨rfl,k2⟩
   simp(disch:=first|assumption|omega|(simp only[zl]<;>omega)|(simp only[zn])) only[↓zd,zk,seval,reduceIte,List.map,AV.cells,List.all,AV.one,eqV,eqAll,splice,fillA,List.replicate,resAll,resA,zm,zg,a99]
   refine OK_fn works14_run ?_
   rintro _ m3 ⟨rfl,k3⟩
   simp(disch:=first|assumption|omega|(simp only[zl]<;>omega)|(simp only[zn])) only[↓zd,zk,seval,reduceIte,List.map,AV.cells,List.all,AV.one,eqV,eqAll,splice,fillA,List.replicate,resAll,resA,zm,zg]
   exact k1.trans (k2.trans k3)
 ·simp(disch:=first|assumption|omega|(simp only[zl]<;>omega)|(simp only[zn])) only[law14_FifoPasses,↓zd,zk,seval,reduceIte,List.map,AV.cells,List.all,AV.one,eqV,eqAll,splice,fillA,List.replicate,resAll,resA,zm,zg,ev_len,hx,hy,d1,d2,a107]
  refine OK_fn (of_no hA (by omega) n1) ?_
  rintro _ m1 ⟨rfl,k1⟩
  by_cases n2:ys.Nodup
  ·simp(disch:=first|assumption|omega|(simp only[zl]<;>omega)|(simp only[zn])) only[↓zd,zk,seval,reduceIte,List.map,AV.cells,List.all,AV.one,eqV,eqAll,splice,fillA,List.replicate,resAll,resA,zm,zg,a107]
   refine OK_fn (of_run (hB.keep k1) (by omega) n2) ?_
   rintro _ m2 ⟨b,rfl,k2,l,B1,B2,B3⟩
   simp(disch:=first|assumption|omega|(simp only[zl]<;>omega)|(simp only[zn])) only[↓zd,zk,seval,reduceIte,List.map,AV.cells,List.all,AV.one,eqV,eqAll,splice,fillA,List.replicate,resAll,resA,zm,zg,a99]
   refine OK_fn works14_run ?_
   rintro _ m3 ⟨rfl,k3⟩
   simp(disch:=first|assumption|omega|(simp only[zl]<;>omega)|(simp only[zn])) only[↓zd,zk,seval,reduceIte,List.map,AV.cells,List.all,AV.one,eqV,eqAll,splice,fillA,List.replicate,resAll,resA,zm,zg]
   exact k1.trans (k2.trans k3)
  ·simp(disch:=first|assumption|omega|(simp only[zl]<;>omega)|(simp only[zn])) only[↓zd,zk,seval,reduceIte,List.map,AV.cells,List.all,AV.one,eqV,eqAll,splice,fillA,List.replicate,resAll,resA,zm,zg,a107]
   refine OK_fn (of_no (hB.keep k1) (by omega) n2) ?_
   rintro _ m2 ⟨rfl,k2⟩
   simp(disch:=first|assumption|omega|(simp only[zl]<;>omega)|(simp only[zn])) only[↓zd,zk,seval,reduceIte,List.map,AV.cells,List.all,AV.one,eqV,eqAll,splice,fillA,List.replicate,resAll,resA,zm,zg,a99]
   refine OK_fn works14_run ?_
   rintro _ m3 ⟨rfl,k3⟩
   simp(disch:=first|assumption|omega|(simp only[zl]<;>omega)|(simp only[zn])) only[↓zd,zk,seval,reduceIte,List.map,AV.cells,List.all,AV.one,eqV,eqAll,splice,fillA,List.replicate,resAll,resA,zm,zg]
   exact k1.trans (k2.trans k3)
end Go.Am.F15
end
section
namespace Go.Am.F15
open Go.Am.F10 (iC iC_at iC_len iC_one iC_app SI SI.val rows_arg)
open Go.ChangeShapes Go.WideShapes Go.ChangeAt Go.RowKit
variable {X:Type}
theorem Fit.nil:Fit .nils:=fun _ _ _ _ e=>by cases e
theorem Fit.sl{q o n c:Nat} (h:n≤c):Fit (.sl q o n (some c)):=fun _ _ _ _ e=>by injection e with _ _ e1 e2;injection e2 with e2;omega
end Go.Am.F15
end
