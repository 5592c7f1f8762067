import Derived.Test.YtdfnfmocppgniaaXG18
set_option linter.unusedSimpArgs false
set_option linter.unusedVariables false
section
namespace Go.Am.F15
open Go.Am.F10 (iC iC_at iC_len iC_one iC_app SI SI.val same_run Nx si_take si_drop si_row cutA dropA pick_eq)
open Go.Am.F06 (sqN sqT)
open Go.Am.F14 (law14_works law14_row law14_FifoFirst law14_FifoPasses law14_FifoPlays law14_few law14_does law14_is law14_FifoKnown fifo_Pass ref14_Pop ref14_Remove ref14_Pass)
variable {X:Type}
theorem fits_one{xs:List Int} {x:Int}:fitsB xs [x]=decide (x ∉ xs):=by simp[fitsB]
def FfP(e0:AV→AV→AV→AV→List AV) (last:Int) (xs:List Int) (n:Nat) (m0:Mem X) (k:Nat) (e:List AV) (m:Mem X):Prop:=∃ (j:Nat) (lst:Int) (x19 x20:AV),
 e=e0 (.int .i64 lst) (.int .i64 j) x19 x20∧m=m0∧k=n - j∧j≤n∧(last :: xs)[j]?=some lst
theorem Up.lt{last lst x:Int} {xs:List Int} {i:Int} {j:Nat} (h:Up last xs i) (h1:(last :: xs)[j]?=some lst) (h2:xs[j]?=some x):lst < x:=by
 have h3:(last :: xs)[j+1]?=some x:=h2
 have l3:=(List.getElem?_eq_some_iff.1 h3)
 have l1:=(List.getElem?_eq_some_iff.1 h1)
 have:=List.pairwise_iff_getElem.1 h.1 j (j+1) l1.1 l3.1 (by omega)
 rw[l1.2,l3.2] at this
 exact this
set_option maxRecDepth 100000 in
set_option maxHeartbeats 16000000 in
theorem ffSW_run{m0 m:Mem X} {a0:AV} {lb i:Nat} {ops xs:List Int} {last z g:Int} {v5 x7 x8 x9 x10 x11 x12 x13 x14 x15 x16 x17 x18 x19 x20 x21 x22 x23:AV} (hA:SI m0 false ops a0) (hz:ops[i]?=some z) (hi:i < 100) (hg0:0≤g) (hg5:g < 5)
  (hk:Keep m0 m) (H:NL m0 m lb xs) (h5:LV m0 m xs v5) (hu:Up last xs i) (hl:xs.length≤i) :
  W GFf ffSW (fun y e m'=>y = .normal∧FfA m0 a0 lb i e m') [a0,.bool false,.ptr lb 0,.int .i64 last,.int .i64 i,v5,.int .i64 g,x7,x8,x9,x10,x11,x12,x13,x14,x15,x16,x17,x18,x19,x20,x21,x22,x23] m:=by
 have a87:assoc (GFf (X:=X)) 87=some c_kit_Pick:=rfl
 have a101:assoc (GFf (X:=X)) 101=some (amFunc GPush fifo_Line_Push):=rfl
 have a102:assoc (GFf (X:=X)) 102=some aheadF:=rfl
 have a103:assoc (GFf (X:=X)) 103=some (amFunc GPop fifo_Line_Pop):=rfl
 have a104:assoc (GFf (X:=X)) 104=some (amFunc GRem fifo_Line_Remove):=rfl
 generalize (GFf (X:=X))=G at a87 a101 a102 a103 a104 ⊢
 obtain⟨q,o,cap,ro,L,rfl,q0,_,q4,q5⟩:=hA.val (by have:=(List.getElem?_eq_some_iff.1 hz).1;omega)
 have hil:=(List.getElem?_eq_some_iff.1 hz).1
 have qz:=q5 i z hz
 have q0':=hk.get q0
 have hpick:∀ (M:Mem X) (k:Int),c_kit_Pick [.int .i64 k,.int .i64 4] M=some (.int .i64 (k % 4),M):=fun M k=>pick_eq M k 4 (by decide) (by decide)
 have hk0:0≤z % 4:=Int.emod_nonneg _ (by decide)
 have hk8:z % 4 < 4:=Int.emod_lt_of_pos _ (by decide)
 generalize hkk:z % 4=kk at hk0 hk8
 have hlen:=h5.1.len
 have hin:(i:Int) ∉ xs:=fun h=>by have:=hu.2 i (List.mem_cons_of_mem _ h);omega
 have fT:fitsB xs [(i:Int)]=true:=by rw[fits_one];exact decide_eq_true hin
 have fF:fitsB (xs++[(i:Int)]) [(i:Int)]=false:=by rw[fits_one];exact decide_eq_false (by simp)
 have d1:(kk=0∨kk=1)∨kk=2∨kk=3:=by omega
 rcases d1 with d1|rfl|rfl
 ·have k1:=Keep.app m [Chunk.cells 1 false [AV.int .i64 i]]
  have s1:SI (m++[Chunk.cells 1 false [AV.int .i64 i]]) true [(i:Int)] (.sl m.length 0 1 (some 1)):=lit_si
  have hpush:=nl_push (H.keep k1) (hk.trans k1) s1 (by simp) (by omega)
  rw[fT] at hpush
  rcases d1 with rfl|rfl
  all_goals
   simp(disch:=first|assumption|omega|(simp only[zl]<;>omega)|(simp only[zn])) only[ffSW,ffB,ffLoop,sqN,law14_FifoFirst,↓zd,zk,seval,reduceIte,List.map,AV.cells,List.all,AV.one,eqV,eqAll,splice,fillA,List.replicate,resAll,resA,zm,zg,q0',qz,a87,hpick,hkk,evA,repeatL_one,a101]
   refine OK_fn hpush ?_
   rintro _ m2 ⟨rfl,H2,K2,kk2⟩
   have k3:=Keep.app m2 [Chunk.cells 1 false [AV.int .i64 i]]
   have s3:SI (m2++[Chunk.cells 1 false [AV.int .i64 i]]) true [(i:Int)] (.sl m2.length 0 1 (some 1)):=lit_si
   simp(disch:=first|assumption|omega|(simp only[zl]<;>omega)|(simp only[zn])) only[↓zd,zk,seval,reduceIte,List.map,AV.cells,List.all,AV.one,eqV,eqAll,splice,fillA,List.replicate,resAll,resA,zm,zg,evA,repeatL_one,a101]
   refine OK_fn (nl_push (H2.keep k3) (K2.trans k3) s3 (by simp) (by simp;omega)) ?_
   rintro _ m4 ⟨rfl,H4,K4,kk4⟩
   simp only[if_true] at H4
   rw[fF] at H4
   have H4:NL m0 m4 lb (xs++[(i:Int)]):=H4
   have ea:=nl_ahead H4 (by simp;omega) i
   rw[ahead_end hin] at ea
   have h5':=h5.kk (k1.kk.trans (kk2.trans (k3.kk.trans kk4)))
   have k6:=Keep.app m4 [Chunk.cells 1 false [AV.int .i64 i]]
   have s6:SI (m4++[Chunk.cells 1 false [AV.int .i64 i]]) true [(i:Int)] (.sl m4.length 0 1 (some 1)):=lit_si
   obtain⟨v',m7,hap,L7,K7,H7⟩:=nl_app (H4.keep k6) (K4.trans k6) (h5'.keep k6) s6 (by omega) (by simp)
   simp(disch:=first|assumption|omega|(simp only[zl]<;>omega)|(simp only[zn])) only[↓zd,zk,seval,reduceIte,List.map,AV.cells,List.all,AV.one,eqV,eqAll,splice,fillA,List.replicate,resAll,resA,zm,zg,fF,a102,ea,ev_len,hlen,evA,repeatL_one,hap]
   exact⟨last,xs++[(i:Int)],_,_,_,_,_,_,_,_,_,_,_,_,_,_,_,_,_,_,_,rfl,K7,H7,L7,hu.push,by simp;omega⟩
 ·simp(disch:=first|assumption|omega|(simp only[zl]<;>omega)|(simp only[zn])) only[ffSW,ffB,ffLoop,sqN,law14_FifoFirst,↓zd,zk,seval,reduceIte,List.map,AV.cells,List.all,AV.one,eqV,eqAll,splice,fillA,List.replicate,resAll,resA,zm,zg,q0',qz,a87,hpick,hkk,a103]
  refine OK_fn (nl_pop H hk g (by omega)) ?_
  rintro v7 m2 ⟨⟨H2,K2,kk2⟩,o2⟩
  have hl7:=(own_si o2).len
  have hpn:popN xs g≤xs.length:=by unfold popN;omega
  have hlt:(xs.take (popN xs g)).length=popN xs g:=by rw[List.length_take];omega
  have hmin:(if (xs.length:Int) < g then(xs.length:Int) else g)=((popN xs g:Nat):Int):=by unfold popN;split<;>omega
  rw[hlt] at hl7
  have h5':=h5.kk kk2
  have hlen5:=h5'.1.len
  simp(disch:=first|assumption|omega|(simp only[zl]<;>omega)|(simp only[zn])) only[↓zd,zk,seval,reduceIte,List.map,AV.cells,List.all,AV.one,eqV,eqAll,splice,fillA,List.replicate,resAll,resA,zm,zg,ev_len,hl7,hlen,hmin]
  refine W_loop (FfP (fun l j y19 y20=>[.sl q o ops.length cap,.bool false,.ptr lb 0,l,.int .i64 i,v5,.int .i64 g,v7,j,x9,x10,x11,.int .i64 2,x13,x14,.bool false,x16,.bool true,.bool false,y19,y20,x21,x22,x23]) last xs (popN xs g) m2) (popN xs g) (by unfold FUEL;omega) ⟨0,last,_,_,rfl,rfl,rfl,Nat.zero_le _,rfl⟩ ?_
  rintro k e m' ⟨j,lst,y19,y20,rfl,rfl,rfl,hj,hlst⟩
  simp(disch:=first|assumption|omega|(simp only[zl]<;>omega)|(simp only[zn])) only[↓zd,zk,seval,reduceIte,List.map,AV.cells,List.all,AV.one,eqV,eqAll,splice,fillA,List.replicate,resAll,resA,zm,zg,ev_len,hl7]
  refine CW_of (fun hc=>?_) (fun hc=>?_)
  ·simp only[decide_eq_true_eq] at hc
   obtain⟨x,hx⟩:∃ x,xs[j]?=some x:=⟨_,List.getElem?_eq_getElem (by omega)⟩
   have hx7:(xs.take (popN xs g))[j]?=some x:=by rw[List.getElem?_take,if_pos (by omega)];exact hx
   obtain⟨p7,o7,c7,r7,L7,hv7,g7,_,b7,at7⟩:=(own_si o2).val (by omega)
   obtain⟨p5,o5,c5,r5,L5,hv5,g5,_,b5,at5⟩:=h5'.1.val (by omega)
   rw[hlt] at hv7
   subst hv7
   subst hv5
   have hlx:=hu.lt hlst hx
   have dle:decide (x≤lst)=false:=decide_eq_false (by omega)
   simp(disch:=first|assumption|omega|(simp only[zl]<;>omega)|(simp only[zn])) only[↓zd,zk,seval,reduceIte,List.map,AV.cells,List.all,AV.one,eqV,eqAll,splice,fillA,List.replicate,resAll,resA,zm,zg,g7,at7 j x hx7,g5,at5 j x hx,dle]
   exact⟨_,by omega,j+1,x,_,_,rfl,rfl,rfl,by omega,hx⟩
  ·simp only[decide_eq_false_iff_not] at hc
   have hjn:j=popN xs g:=by omega
   subst hjn
   obtain⟨t1,t2⟩:=si_drop h5'.1 h5'.nx (k:=popN xs g) hpn
   have p0:(0≤((popN xs g:Nat):Int))=True:=eq_true (by omega)
   simp(disch:=first|assumption|omega|(simp only[zl]<;>omega)|(simp only[zn])) only[↓zd,zk,seval,reduceIte,List.map,AV.cells,List.all,AV.one,eqV,eqAll,splice,fillA,List.replicate,resAll,resA,zm,zg,evA,ev_len,hl7,p0,Int.toNat_natCast,t1]
   exact⟨lst,xs.drop (popN xs g),_,_,_,_,_,_,_,_,_,_,_,_,_,_,_,_,_,_,_,rfl,K2,H2,h5'.drop hpn,(hu.drop hlst).next,by rw[List.length_drop];omega⟩
 ·by_cases hx0:xs.length=0
  ·have hx:xs=[]:=List.length_eq_zero_iff.1 hx0
   simp(disch:=first|assumption|omega|(simp only[zl]<;>omega)|(simp only[zn])) only[ffSW,ffB,ffLoop,sqN,law14_FifoFirst,↓zd,zk,seval,reduceIte,List.map,AV.cells,List.all,AV.one,eqV,eqAll,splice,fillA,List.replicate,resAll,resA,zm,zg,q0',qz,a87,hpick,hkk,ev_len,hlen,hx0]
   exact⟨last,xs,_,_,_,_,_,_,_,_,_,_,_,_,_,_,_,_,_,_,_,rfl,hk,H,h5,hu.next,by omega⟩
  ·have n0:0≤g.tmod xs.length:=Int.tmod_nonneg _ hg0
   have n1:g.tmod xs.length < xs.length:=Int.tmod_lt_of_pos _ (by omega)
   obtain⟨n,hn⟩:∃ n:Nat,g.tmod (xs.length:Int)=n:=⟨(g.tmod xs.length).toNat,(Int.toNat_of_nonneg n0).symm⟩
   rw[hn] at n0 n1
   obtain⟨x,hx⟩:∃ x,xs[n]?=some x:=⟨_,List.getElem?_eq_getElem (by omega)⟩
   have hsp:xs=xs.take n++x :: xs.drop (n+1):=by
    have hl:=(List.getElem?_eq_some_iff.1 hx).1
    have:xs.drop n=x :: xs.drop (n+1):=by rw[List.drop_eq_getElem_cons hl,(List.getElem?_eq_some_iff.1 hx).2]
    rw[← this,List.take_append_drop]
   have nd:=H.nodup
   have hxn:x ∉ xs.take n++xs.drop (n+1):=by
    rw[hsp] at nd
    have h1:=List.nodup_append.1 nd
    have h2:=List.nodup_cons.1 h1.2.1
    rw[List.mem_append]
    rintro(h|h)
    ·exact h1.2.2 x h x (by simp) rfl
    ·exact h2.1 h
   have hsub:(xs.take n++xs.drop (n+1)).Sublist xs:=by
    conv=>rhs;rw[hsp]
    exact List.Sublist.append (List.Sublist.refl _) (List.sublist_cons_self _ _)
   obtain⟨p5,o5,c5,r5,L5,hv5,g5,_,b5,at5⟩:=h5.1.val (by omega)
   have at5n:=at5 n x hx
   have hdx:decide (0 < (xs.length:Int))=true:=decide_eq_true (by omega)
   have hz0:(((xs.length:Nat):Int)=0)=False:=eq_false (by omega)
   subst hv5
   simp(disch:=first|assumption|omega|(simp only[zl]<;>omega)|(simp only[zn])) only[ffSW,ffB,ffLoop,sqN,law14_FifoFirst,↓zd,zk,seval,reduceIte,List.map,AV.cells,List.all,AV.one,eqV,eqAll,splice,fillA,List.replicate,resAll,resA,zm,zg,q0',qz,a87,hpick,hkk,ev_len,hlen,hdx,hz0,hn,g5,at5n,a104]
   have H':=H
   rw[hsp] at H'
   refine OK_fn (nl_remove H' hk) ?_
   rintro _ m2 ⟨rfl,H2,K2,kk2⟩
   have h52:=h5.kk kk2
   have g52:=kk2.2 _ _ _ _ g5 (by decide) (by decide)
   simp(disch:=first|assumption|omega|(simp only[zl]<;>omega)|(simp only[zn])) only[↓zd,zk,seval,reduceIte,List.map,AV.cells,List.all,AV.one,eqV,eqAll,splice,fillA,List.replicate,resAll,resA,zm,zg,g52,at5n,a104]
   refine OK_fn (nl_remove_no H2 hxn) ?_
   rintro _ m3 ⟨rfl,k3⟩
   have h53:=h52.kk k3.kk
   obtain⟨t1,t2⟩:=si_take h53.1 h53.nx (k:=n) (by omega)
   obtain⟨u1,u2⟩:=si_drop h53.1 h53.nx (k:=n+1) (by omega)
   obtain⟨v',m7,hap,L7,K7,H7⟩:=nl_app (H2.keep k3) (K2.trans k3) (h53.cut (k:=n) (by omega)) u2 (by rw[List.length_take];omega) (by rw[List.length_drop];omega)
   have p0:(0≤(n:Int))=True:=eq_true (by omega)
   have p1:(0≤(n:Int)+1)=True:=eq_true (by omega)
   have p2:((n:Int)+1).toNat=n+1:=by omega
   simp(disch:=first|assumption|omega|(simp only[zl]<;>omega)|(simp only[zn])) only[↓zd,zk,seval,reduceIte,List.map,AV.cells,List.all,AV.one,eqV,eqAll,splice,fillA,List.replicate,resAll,resA,zm,zg,evA,p0,p1,p2,Int.toNat_natCast,t1,u1,hap]
   exact⟨last,xs.take n++xs.drop (n+1),_,_,_,_,_,_,_,_,_,_,_,_,_,_,_,_,_,_,_,rfl,K7,H7,L7,(hu.sub hsub).next,by rw[List.length_append,List.length_take,List.length_drop];omega⟩
end Go.Am.F15
end
section
namespace Go.Am.F15
open Go.Am.F10 (iC iC_at iC_len iC_one iC_app SI SI.val same_run Nx si_take si_drop si_row cutA dropA pick_eq)
open Go.Am.F06 (sqN sqT)
open Go.Am.F14 (law14_works law14_row law14_FifoFirst law14_FifoPasses law14_FifoPlays law14_few law14_does law14_is law14_FifoKnown fifo_Pass ref14_Pop ref14_Remove ref14_Pass)
variable {X:Type}
def FfT(e0:AV→AV→AV→List AV) (n:Nat) (m0:Mem X) (k:Nat) (e:List AV) (m:Mem X):Prop:=∃ (j:Nat) (x21 x22:AV),e=e0 (.int .i64 j) x21 x22∧m=m0∧k=n - j∧j≤n
set_option maxRecDepth 100000 in
set_option maxHeartbeats 8000000 in
theorem ffT_run{m0 m:Mem X} {a0:AV} {lb i:Nat} {e:List AV} (hi:i < 100) (h:FfA m0 a0 lb i e m):W GFf ffT (fun y e' m'=>y = .normal∧FfA m0 a0 lb i e' m') e m:=by
 have a102:assoc (GFf (X:=X)) 102=some aheadF:=rfl
 have a105:assoc (GFf (X:=X)) 105=some c_fifo_Line_Len:=rfl
 generalize (GFf (X:=X))=G at a102 a105 ⊢
 obtain⟨last,xs,v5,x6,x7,x8,x9,x10,x11,x12,x13,x14,x15,x16,x17,x18,x19,x20,x21,x22,x23,rfl,hk,H,h5,hu,hl⟩:=h
 have hlen:=h5.1.len
 have hln:=nl_len H
 simp(disch:=first|assumption|omega|(simp only[zl]<;>omega)|(simp only[zn])) only[ffT,ffB,ffLoop,sqN,sqT,law14_FifoFirst,↓zd,zk,seval,reduceIte,List.map,AV.cells,List.all,AV.one,eqV,eqAll,splice,fillA,List.replicate,resAll,resA,zm,zg]
 refine W_loop (FfT (fun j y21 y22=>[a0,.bool false,.ptr lb 0,.int .i64 last,.int .i64 i,v5,x6,x7,x8,j,x10,x11,x12,x13,x14,x15,x16,x17,x18,x19,x20,y21,y22,x23]) xs.length m) xs.length (by unfold FUEL;omega) ⟨0,_,_,rfl,rfl,rfl,Nat.zero_le _⟩ ?_
 rintro k e m' ⟨j,y21,y22,rfl,rfl,rfl,hj⟩
 simp(disch:=first|assumption|omega|(simp only[zl]<;>omega)|(simp only[zn])) only[↓zd,zk,seval,reduceIte,List.map,AV.cells,List.all,AV.one,eqV,eqAll,splice,fillA,List.replicate,resAll,resA,zm,zg,ev_len,hlen]
 refine CW_of (fun hc=>?_) (fun hc=>?_)
 ·simp only[decide_eq_true_eq] at hc
  obtain⟨x,hx⟩:∃ x,xs[j]?=some x:=⟨_,List.getElem?_eq_getElem (by omega)⟩
  obtain⟨p5,o5,c5,r5,L5,rfl,g5,_,b5,at5⟩:=h5.1.val (by omega)
  have ea:=nl_ahead H (by omega) x
  rw[ahead_nth hx H.nodup] at ea
  simp(disch:=first|assumption|omega|(simp only[zl]<;>omega)|(simp only[zn])) only[↓zd,zk,seval,reduceIte,List.map,AV.cells,List.all,AV.one,eqV,eqAll,splice,fillA,List.replicate,resAll,resA,zm,zg,g5,at5 j x hx,a102,ea]
  exact⟨_,by omega,j+1,_,_,rfl,rfl,rfl,by omega⟩
 ·simp only[decide_eq_false_iff_not] at hc
  simp(disch:=first|assumption|omega|(simp only[zl]<;>omega)|(simp only[zn])) only[↓zd,zk,seval,reduceIte,List.map,AV.cells,List.all,AV.one,eqV,eqAll,splice,fillA,List.replicate,resAll,resA,zm,zg,a105,hln,ev_len,hlen]
  exact⟨last,xs,_,_,_,_,_,_,_,_,_,_,_,_,_,_,_,_,_,_,_,rfl,hk,H,h5,hu,hl⟩
def FfN(m0:Mem X) (a0:AV) (lb n:Nat) (k:Nat) (e:List AV) (m:Mem X):Prop:=∃ (i:Nat) (last:Int) (xs:List Int) (v5 x6 x7 x8 x9 x10 x11 x12 x13 x14 x15 x16 x17 x18 x19 x20 x21 x22 x23:AV),
 e=[a0,.bool false,.ptr lb 0,.int .i64 last,.int .i64 i,v5,x6,x7,x8,x9,x10,x11,x12,x13,x14,x15,x16,x17,x18,x19,x20,x21,x22,x23]∧k=n - i∧i≤n∧Keep m0 m∧NL m0 m lb xs∧Up last xs i∧xs.length≤i
set_option maxRecDepth 100000 in
set_option maxHeartbeats 8000000 in
theorem first14_run{m:Mem X} {ops:List Int} {a0:AV} (hA:SI m false ops a0):Fn GFf law14_FifoFirst [a0] m (fun r m'=>r = .bool true∧Keep m m'):=by
 have a99:assoc (GFf (X:=X)) 99=some (amFunc GW14 law14_works):=rfl
 have a100:assoc (GFf (X:=X)) 100=some (amFunc GAll14 fifo_Line_All):=rfl
 have a87:assoc (GFf (X:=X)) 87=some c_kit_Pick:=rfl
 have hT:=@ffT_run X
 have hS:=@ffSW_run X
 generalize (GFf (X:=X))=G at a99 a100 a87 hT hS ⊢
 have hlen:=hA.len
 refine Fn_of rfl ?_
 rw[ff_body]
 by_cases hb:100 < ops.length
 ·have d:decide (100 < (ops.length:Int))=true:=decide_eq_true (by omega)
  simp(disch:=first|assumption|omega|(simp only[zl]<;>omega)|(simp only[zn])) only[sqN,law14_FifoFirst,↓zd,zk,seval,reduceIte,List.map,AV.cells,List.all,AV.one,eqV,eqAll,splice,fillA,List.replicate,resAll,resA,zm,zg,ev_len,hlen,d,a99]
  refine OK_fn works14_run ?_
  rintro _ m1 ⟨rfl,k1⟩
  simp(disch:=first|assumption|omega|(simp only[zl]<;>omega)|(simp only[zn])) only[↓zd,zk,seval,reduceIte,List.map,AV.cells,List.all,AV.one,eqV,eqAll,splice,fillA,List.replicate,resAll,resA,zm,zg]
  exact k1
 ·have d:decide (100 < (ops.length:Int))=false:=decide_eq_false (by omega)
  have k0:=Keep.app m [Chunk.cells 3 false [AV.nilm,.int .i64 0,.int .i64 0]]
  have H0:NL m (m++[Chunk.cells 3 false [AV.nilm,.int .i64 0,.int .i64 0]]) m.length []:=⟨none,.inl ⟨rfl,rfl,0,0,get_concat⟩,Nat.le_refl _,fun k e=>by cases e⟩
  simp(disch:=first|assumption|omega|(simp only[zl]<;>omega)|(simp only[zn])) only[sqN,law14_FifoFirst,↓zd,zk,seval,reduceIte,List.map,AV.cells,List.all,AV.one,eqV,eqAll,splice,fillA,List.replicate,resAll,resA,zm,zg,ev_len,hlen,d,ffR]
  refine W_loop (FfN m a0 m.length ops.length) ops.length (by unfold FUEL;omega) ⟨0,-1,[],_,_,_,_,_,_,_,_,_,_,_,_,_,_,_,_,_,_,_,rfl,rfl,Nat.zero_le _,k0,H0,⟨by simp,fun x hx=>by simp at hx;omega⟩,by simp⟩ ?_
  rintro k e m' ⟨i,last,xs,v5,x6,x7,x8,x9,x10,x11,x12,x13,x14,x15,x16,x17,x18,x19,x20,x21,x22,x23,rfl,rfl,hi,hk,H,hu,hl⟩
  simp(disch:=first|assumption|omega|(simp only[zl]<;>omega)|(simp only[zn])) only[↓zd,zk,seval,reduceIte,List.map,AV.cells,List.all,AV.one,eqV,eqAll,splice,fillA,List.replicate,resAll,resA,zm,zg,ffC,ffLoop,sqN,law14_FifoFirst,ev_len,hlen]
  refine CW_of (fun hc=>?_) (fun hc=>?_)
  ·simp only[decide_eq_true_eq] at hc
   obtain⟨z,hz⟩:∃ z,ops[i]?=some z:=⟨_,List.getElem?_eq_getElem (by omega)⟩
   obtain⟨q,o,cap,ro,L,rfl,q0,_,q4,q5⟩:=hA.val (by omega)
   have hpick:∀ (M:Mem X) (k:Int),c_kit_Pick [.int .i64 k,.int .i64 5] M=some (.int .i64 (k % 5),M):=fun M k=>pick_eq M k 5 (by decide) (by decide)
   simp(disch:=first|assumption|omega|(simp only[zl]<;>omega)|(simp only[zn])) only[↓zd,zk,seval,reduceIte,List.map,AV.cells,List.all,AV.one,eqV,eqAll,splice,fillA,List.replicate,resAll,resA,zm,zg,ffB,ffLoop,sqN,law14_FifoFirst,a100]
   refine OK_fn (nl_all H (by omega)) ?_
   rintro v5 m1 ⟨k1,o1⟩
   have q0':=(hk.trans k1).get q0
   have L1:LV m m1 xs v5:=(own_lv o1).up hk.1
   simp(disch:=first|assumption|omega|(simp only[zl]<;>omega)|(simp only[zn])) only[↓zd,zk,seval,reduceIte,List.map,AV.cells,List.all,AV.one,eqV,eqAll,splice,fillA,List.replicate,resAll,resA,zm,zg,q0',q5 i z hz,a87,hpick]
   refine W_mono (hS hA hz (by omega) (Int.emod_nonneg _ (by decide)) (Int.emod_lt_of_pos _ (by decide)) (hk.trans k1) (H.keep k1) L1 hu hl) ?_
   rintro y e1 m2 ⟨rfl,hF⟩
   rw[thenQ_normal]
   refine W_mono (hT (by omega) hF) ?_
   rintro y e2 m3 ⟨rfl,last2,xs2,y5,y6,y7,y8,y9,y10,y11,y12,y13,y14,y15,y16,y17,y18,y19,y20,y21,y22,y23,rfl,K2,H2,L2,U2,l2⟩
   simp(disch:=first|assumption|omega|(simp only[zl]<;>omega)|(simp only[zn])) only[↓zd,zk,seval,reduceIte,List.map,AV.cells,List.all,AV.one,eqV,eqAll,splice,fillA,List.replicate,resAll,resA,zm,zg,ffI,ffLoop,sqN,law14_FifoFirst]
   exact⟨_,by omega,i+1,last2,xs2,_,_,_,_,_,_,_,_,_,_,_,_,_,_,_,_,_,_,_,rfl,rfl,by omega,K2,H2,by simpa using U2,l2⟩
  ·simp only[decide_eq_false_iff_not] at hc
   simp(disch:=first|assumption|omega|(simp only[zl]<;>omega)|(simp only[zn])) only[↓zd,zk,seval,reduceIte,List.map,AV.cells,List.all,AV.one,eqV,eqAll,splice,fillA,List.replicate,resAll,resA,zm,zg,ffEnd,sqT,law14_FifoFirst,a99]
   refine OK_fn works14_run ?_
   rintro _ m9 ⟨rfl,k9⟩
   simp(disch:=first|assumption|omega|(simp only[zl]<;>omega)|(simp only[zn])) only[↓zd,zk,seval,reduceIte,List.map,AV.cells,List.all,AV.one,eqV,eqAll,splice,fillA,List.replicate,resAll,resA,zm,zg]
   exact hk.trans k9
end Go.Am.F15
end
section
namespace Go.Am.F15
open Go.Am.F10 (iC iC_at iC_len iC_one iC_app SI SI.val rows_arg)
open Go.ChangeShapes Go.WideShapes Go.ChangeAt Go.RowKit
variable {X:Type}
theorem Fit.nil:Fit .nils:=fun _ _ _ _ e=>by cases e
theorem Fit.sl{q o n c:Nat} (h:n≤c):Fit (.sl q o n (some c)):=fun _ _ _ _ e=>by injection e with _ _ e1 e2;injection e2 with e2;omega
end Go.Am.F15
end
