import Derived.Test.YtdfnfmocppgniaaXG19
set_option linter.unusedSimpArgs false
set_option linter.unusedVariables false
section
namespace Go.Am.F15
open Go.Am.F10 (iC iC_at iC_len iC_one iC_app SI SI.val same_run Nx si_take si_drop si_row cutA dropA pick_eq)
open Go.Am.F06 (sqN sqT)
open Go.Am.F14 (law14_works law14_row law14_FifoFirst law14_FifoPasses law14_FifoPlays law14_few law14_does law14_is law14_FifoKnown fifo_Pass ref14_Pop ref14_Remove ref14_Pass)
variable {X:Type}
theorem of_no{m:Mem X} {xs:List Int} {w:Bool} {v:AV} (hv:SI m w xs v) (hx:xs.length < 10000) (hnd:¬ xs.Nodup):Fn GOf fifo_Of [v] m (fun r m'=>r = .tup [.nilp,.int .i64 140]∧Keep m m'):=by
 have a101:assoc (GOf (X:=X)) 101=some (amFunc [(123,c_fifo_Line_fits)] fifo_Line_Push):=rfl
 generalize (GOf (X:=X))=G at a101 ⊢
 refine Fn_of rfl ?_
 have hk0:=Keep.app m [Chunk.cells 3 false [AV.nilm,.int .i64 0,.int .i64 0]]
 have H0:LN (m++[Chunk.cells 3 false [AV.nilm,.int .i64 0,.int .i64 0]]) m.length none []:=.inl ⟨rfl,rfl,0,0,get_concat⟩
 simp(disch:=first|assumption|omega|(simp only[zl]<;>omega)|(simp only[zn])) only[fifo_Of,↓zd,zk,seval,reduceIte,List.map,AV.cells,List.all,AV.one,eqV,eqAll,splice,fillA,List.replicate,resAll,resA,zm,zg,a101]
 refine OK_fn (push_run H0 (hv.keep hk0) (by omega) (by simp)) ?_
 rintro _ m1 ⟨rfl,j',hkl,hj,hL⟩
 have hf:fitsB [] xs=false:=by rw[fits_nil];exact decide_eq_false hnd
 rw[hf]
 simp(disch:=first|assumption|omega|(simp only[zl]<;>omega)|(simp only[zn])) only[↓zd,zk,seval,reduceIte,List.map,AV.cells,List.all,AV.one,eqV,eqAll,splice,fillA,List.replicate,resAll,resA,zm,zg]
 refine⟨Nat.le_trans hk0.1 hkl.1,fun k hk=>(hkl.2 k (by simp;omega) (by omega) (fun e=>by cases e)).trans (hk0.2 k hk)⟩
def GW14:List (Nat × AFun X):=[(107,amFunc GOf fifo_Of),(101,amFunc GPush fifo_Line_Push),(100,amFunc GAll14 fifo_Line_All),(109,amFunc GRow law14_row),(102,aheadF),(104,amFunc GRem fifo_Line_Remove),(103,amFunc GPop fifo_Line_Pop)]
set_option maxHeartbeats 8000000 in
theorem works14_run{m:Mem X}:Fn GW14 law14_works [] m (fun r m'=>r = .bool true∧Keep m m'):=by
 have a107:assoc (GW14 (X:=X)) 107=some (amFunc GOf fifo_Of):=rfl
 have a101:assoc (GW14 (X:=X)) 101=some (amFunc GPush fifo_Line_Push):=rfl
 have a100:assoc (GW14 (X:=X)) 100=some (amFunc GAll14 fifo_Line_All):=rfl
 have a109:assoc (GW14 (X:=X)) 109=some (amFunc GRow law14_row):=rfl
 have a102:assoc (GW14 (X:=X)) 102=some aheadF:=rfl
 have a104:assoc (GW14 (X:=X)) 104=some (amFunc GRem fifo_Line_Remove):=rfl
 have a103:assoc (GW14 (X:=X)) 103=some (amFunc GPop fifo_Line_Pop):=rfl
 generalize (GW14 (X:=X))=G at a107 a101 a100 a109 a102 a104 a103 ⊢
 have r2:repeatL 2 [AV.int .i64 0]=[.int .i64 0,.int .i64 0]:=rfl
 have r3:repeatL 3 [AV.int .i64 0]=[.int .i64 0,.int .i64 0,.int .i64 0]:=rfl
 refine Fn_of rfl ?_
 have k0:=Keep.app m [Chunk.cells 1 false [AV.int .i64 5,.int .i64 3,.int .i64 9]]
 have s0:SI (m++[Chunk.cells 1 false [AV.int .i64 5,.int .i64 3,.int .i64 9]]) true [5,3,9] (.sl m.length 0 3 (some 3)):=lits_si (xs:=[5,3,9]) rfl
 simp(disch:=first|assumption|omega|(simp only[zl]<;>omega)|(simp only[zn])) only[law14_works,↓zd,zk,seval,reduceIte,List.map,AV.cells,List.all,AV.one,eqV,eqAll,splice,fillA,List.replicate,resAll,resA,zm,zg,evA,r3,a107]
 refine OK_fn (of_run s0 (by decide) (by decide)) ?_
 rintro _ m1 ⟨i,rfl,k1,H1⟩
 have H1:NL m m1 i [5,3,9]:=by
  obtain⟨j,h1,h2,h3⟩:=H1
  exact⟨j,h1,Nat.le_trans k0.1 h2,fun k e=>Nat.le_trans k0.1 (h3 k e)⟩
 have K1:=k0.trans k1
 have s2:SI (m1++[Chunk.cells 1 false [AV.int .i64 7,.int .i64 3]]) true [7,3] (.sl m1.length 0 2 (some 2)):=lits_si (xs:=[7,3]) rfl
 have k2:=Keep.app m1 [Chunk.cells 1 false [AV.int .i64 7,.int .i64 3]]
 simp(disch:=first|assumption|omega|(simp only[zl]<;>omega)|(simp only[zn])) only[↓zd,zk,seval,reduceIte,List.map,AV.cells,List.all,AV.one,eqV,eqAll,splice,fillA,List.replicate,resAll,resA,zm,zg,evA,r2,a101]
 refine OK_fn (nl_push (H1.keep k2) (K1.trans k2) s2 (by decide) (by decide)) ?_
 rintro _ m2 ⟨rfl,H2,K2,_⟩
 have f2:fitsB [5,3,9] [7,3]=false:=by decide
 rw[f2] at H2 ⊢
 simp(disch:=first|assumption|omega|(simp only[zl]<;>omega)|(simp only[zn])) only[↓zd,zk,seval,reduceIte,List.map,AV.cells,List.all,AV.one,eqV,eqAll,splice,fillA,List.replicate,resAll,resA,zm,zg,a100]
 refine OK_fn (nl_all H2 (by decide)) ?_
 rintro v3 m3 ⟨k3,o3⟩
 have s4:SI (m3++[Chunk.cells 1 false [AV.int .i64 5,.int .i64 3,.int .i64 9]]) true [5,3,9] (.sl m3.length 0 3 (some 3)):=lits_si (xs:=[5,3,9]) rfl
 have k4:=Keep.app m3 [Chunk.cells 1 false [AV.int .i64 5,.int .i64 3,.int .i64 9]]
 simp(disch:=first|assumption|omega|(simp only[zl]<;>omega)|(simp only[zn])) only[↓zd,zk,seval,reduceIte,List.map,AV.cells,List.all,AV.one,eqV,eqAll,splice,fillA,List.replicate,resAll,resA,zm,zg,evA,r3,a109]
 refine OK_fn (row_run ((own_ro (own_keep o3 k4)).1) s4 (by decide)) ?_
 rintro _ m5 ⟨rfl,w5⟩
 have k5:=own_row (k3.trans k4) (own_keep o3 k4) w5
 have K5:=K2.trans k5
 have H5:=H2.keep k5
 have s6:SI (m5++[Chunk.cells 1 false [AV.int .i64 7]]) true [7] (.sl m5.length 0 1 (some 1)):=lits_si (xs:=[7]) rfl
 have k6:=Keep.app m5 [Chunk.cells 1 false [AV.int .i64 7]]
 simp(disch:=first|assumption|omega|(simp only[zl]<;>omega)|(simp only[zn])) only[↓zd,zk,seval,reduceIte,List.map,AV.cells,List.all,AV.one,eqV,eqAll,splice,fillA,List.replicate,resAll,resA,zm,zg,evA,repeatL_one,a101]
 refine OK_fn (nl_push (H5.keep k6) (K5.trans k6) s6 (by decide) (by decide)) ?_
 rintro _ m6 ⟨rfl,H6,K6,_⟩
 have f6:fitsB [5,3,9] [7]=true:=by decide
 have H6:NL m m6 i [5,3,9,7]:=by simpa [f6] using H6
 have e6:=nl_ahead H6 (by decide) 7
 have d6:aheadL [5,3,9,7] 7=3:=by decide
 rw[d6] at e6
 simp(disch:=first|assumption|omega|(simp only[zl]<;>omega)|(simp only[zn])) only[↓zd,zk,seval,reduceIte,List.map,AV.cells,List.all,AV.one,eqV,eqAll,splice,fillA,List.replicate,resAll,resA,zm,zg,f6,a102,e6,a104]
 refine OK_fn (nl_remove (p:=[5]) (q:=[9,7]) H6 K6) ?_
 rintro _ m7 ⟨rfl,H7,K7,_⟩
 have H7:NL m m7 i [5,9,7]:=H7
 simp(disch:=first|assumption|omega|(simp only[zl]<;>omega)|(simp only[zn])) only[↓zd,zk,seval,reduceIte,List.map,AV.cells,List.all,AV.one,eqV,eqAll,splice,fillA,List.replicate,resAll,resA,zm,zg,a103]
 refine OK_fn (nl_pop H7 K7 2 (by decide)) ?_
 rintro v8 m8 ⟨⟨H8,K8,_⟩,o8⟩
 have p8:popN [5,9,7] 2=2:=by decide
 rw[p8] at H8 o8
 have H8:NL m m8 i [7]:=H8
 have s9:SI (m8++[Chunk.cells 1 false [AV.int .i64 5,.int .i64 9]]) true [5,9] (.sl m8.length 0 2 (some 2)):=lits_si (xs:=[5,9]) rfl
 have k9:=Keep.app m8 [Chunk.cells 1 false [AV.int .i64 5,.int .i64 9]]
 simp(disch:=first|assumption|omega|(simp only[zl]<;>omega)|(simp only[zn])) only[↓zd,zk,seval,reduceIte,List.map,AV.cells,List.all,AV.one,eqV,eqAll,splice,fillA,List.replicate,resAll,resA,zm,zg,evA,r2,a109]
 refine OK_fn (row_run (xs:=[5,9]) ((own_ro (own_keep o8 k9)).1) s9 (by decide)) ?_
 rintro _ m9 ⟨rfl,w9⟩
 obtain⟨ro8,li8⟩:=own_ro (xs:=[5,9]) o8
 have rk8:=(own_ro (xs:=[5,9]) (own_keep o8 k9)).1
 have H9:NL m m9 i [7]:=(H8.keep k9).wo rk8 w9
 have K9:Keep m m9:=keep_wo (K8.trans k9) li8 K7.1 w9
 simp(disch:=first|assumption|omega|(simp only[zl]<;>omega)|(simp only[zn])) only[↓zd,zk,seval,reduceIte,List.map,AV.cells,List.all,AV.one,eqV,eqAll,splice,fillA,List.replicate,resAll,resA,zm,zg,a100]
 refine OK_fn (nl_all H9 (by decide)) ?_
 rintro v10 m10 ⟨k10,o10⟩
 have s11:SI (m10++[Chunk.cells 1 false [AV.int .i64 7]]) true [7] (.sl m10.length 0 1 (some 1)):=lits_si (xs:=[7]) rfl
 have k11:=Keep.app m10 [Chunk.cells 1 false [AV.int .i64 7]]
 simp(disch:=first|assumption|omega|(simp only[zl]<;>omega)|(simp only[zn])) only[↓zd,zk,seval,reduceIte,List.map,AV.cells,List.all,AV.one,eqV,eqAll,splice,fillA,List.replicate,resAll,resA,zm,zg,evA,repeatL_one,a109]
 refine OK_fn (row_run ((own_ro (own_keep o10 k11)).1) s11 (by decide)) ?_
 rintro _ m11 ⟨rfl,w11⟩
 simp(disch:=first|assumption|omega|(simp only[zl]<;>omega)|(simp only[zn])) only[↓zd,zk,seval,reduceIte,List.map,AV.cells,List.all,AV.one,eqV,eqAll,splice,fillA,List.replicate,resAll,resA,zm,zg]
 exact K9.trans (own_row (k10.trans k11) (own_keep o10 k11) w11)
end Go.Am.F15
end
section
namespace Go.Am.F15
open Go.Am.F10 (iC iC_at iC_len iC_one iC_app SI SI.val same_run Cf cfC rightP right_run Nx si_take si_drop si_row cutA dropA pick_eq)
open Go.Am.F06 (sqN sqT)
variable {X:Type}
theorem JN.up{m m1:Mem X} {j j':Option Nat} (h:JN m1 j j') (hl:m.length≤m1.length):JN m j j':=(JN.refl m _).trans h hl
theorem PN.up{m m1:Mem X} {P P':Pla} (h:PN m1 P P') (hl:m.length≤m1.length):PN m P P':=by
 obtain⟨a1,a2,a3,a4,a5,a6,a7⟩:=h
 exact⟨a1,a2,a3,a4,a5.up hl,a6.up hl,a7.up hl⟩
def InJ(A B C:List AV) (n:Nat) (v:AV) (m0:Mem X) (k:Nat) (e:List AV) (m:Mem X):Prop:=∃ (j:Nat) (x36:AV),
 e=A ++ .int .i64 j :: (B++x36 :: C)∧k=n - j∧j≤n∧WO v m0 m∧∀ q,v = .sl q 0 n none→∃ L,m[q]?=some (.cells 1 false L)∧L.length=n
end Go.Am.F15
end
section
namespace Go.Am.F15
open Go.Am.F10 (iC iC_at iC_len iC_one iC_app SI SI.val same_run Cf cfC rightP right_run Nx si_take si_drop si_row cutA dropA pick_eq)
open Go.Am.F06 (sqN sqT)
variable {X:Type}
def RB(m:Mem X) (b:Nat) (s:Pc):Prop:=∃ gv pv mv,m[b]?=some (.cells 10 false (rC s.c gv pv mv s.spin))∧RW m s.g gv∧RW m s.ps pv∧RW m s.ms mv
theorem RB.keep{m m':Mem X} {b:Nat} {s:Pc} (h:RB m b s) (k:Keep m m'):RB m' b s:=by
 obtain⟨gv,pv,mv,h0,h1,h2,h3⟩:=h
 exact⟨gv,pv,mv,k.get h0,h1.k1 k.k1,h2.k1 k.k1,h3.k1 k.k1⟩
theorem AS.row{m:Mem X} {l:List Act} {v:AV} (h:AS m l v) {i:Nat} {a:Act} (ha:l[i]?=some a):∃ q o cap ro L,v = .sl q o l.length cap∧m[q]?=some (.cells 3 ro L)∧o+l.length * 3≤L.length∧L[o+i * 3+2]?=some a.v∧(L.drop (o+i * 3)).take 3=aC a:=by
 have hi:i < l.length:=(List.getElem?_eq_some_iff.1 ha).1
 obtain⟨q,o,cap,ro,L,h1,h2,h3,h4,_⟩:=h.1.at (by omega)
 refine⟨q,o,cap,ro,L,h1,h2,h4,?_,?_⟩
 ·rw[Nat.add_assoc,sl_get h3 (by omega),rows_at aC_len ha (by decide:2 < 3)];rfl
 ·have:=rows_part aC_len ha
  rw[← h3,List.drop_take,List.take_take,List.drop_drop,Nat.min_eq_left (by omega)] at this
  exact this
end Go.Am.F15
end
section
namespace Go.Am.F15
open Go.Am.F10 (iC iC_at iC_len iC_one iC_app SI SI.val same_run Cf cfC rightP right_run Nx si_take si_drop si_row cutA dropA pick_eq)
open Go.Am.F06 (sqN sqT)
variable {X:Type}
end Go.Am.F15
end
section
namespace Go.Am.F15
open Go.Am.F10 (iC iC_at iC_len iC_one iC_app SI SI.val same_run Cf cfC rightP right_run Nx si_take si_drop si_row cutA dropA madeC made_eq pick_eq)
open Go.Am.F06 (sqN sqT)
variable {X:Type}
end Go.Am.F15
end
section
namespace Go.Am.F15
open Go.Am.F10 (iC iC_at iC_len iC_one iC_app SI SI.val same_run Cf cfC rightP right_run Nx si_take si_drop si_row cutA dropA pick_eq)
open Go.Am.F06 (sqN sqT)
variable {X:Type}
end Go.Am.F15
end
section
namespace Go.Am.F15
open Go.Am.F10 (iC iC_at iC_len iC_one iC_app SI SI.val same_run Nx si_take si_drop si_row cutA dropA pick_eq)
open Go.Am.F06 (sqN sqT)
open Go.Am.F14 (law14_works law14_row law14_FifoFirst law14_FifoPasses law14_FifoPlays law14_few law14_does law14_is law14_FifoKnown fifo_Pass ref14_Pop ref14_Remove ref14_Pass)
variable {X:Type}
theorem own_lv{m m1:Mem X} {xs:List Int} {v:AV} (h:Go.Am.Own m m1 1 xs.length (iC xs) v):LV m m1 xs v:=by
 refine⟨own_si h,?_⟩
 rcases h with⟨_,_,rfl⟩|⟨q,rfl,h2,h3,h4⟩
 ·exact .inl rfl
 ·exact .inr ⟨q,0,_,_,rfl,h2,h3,h4,by rw[iC_len];omega⟩
theorem LV.cut{m0 m:Mem X} {xs:List Int} {v:AV} (h:LV m0 m xs v) {k:Nat} (hk:k≤xs.length):LV m0 m (xs.take k) (cutA v k):=by
 refine⟨(si_take h.1 h.nx hk).2,?_⟩
 rcases h.2 with rfl|⟨q,o,n,l,rfl,h2,h3,h4⟩
 ·exact .inl rfl
 ·have hn:n=xs.length:=by have:=h.1.len;simp only[lenA,Option.some.injEq] at this;exact this
  exact .inr ⟨q,o,k,l,rfl,h2,h3,h4.1,by omega⟩
theorem NL.push{m0 m m':Mem X} {i:Nat} {xs:List Int} (h:NL m0 m i xs) (hk:∀ k,k < m.length→(∀ l,m[k]?≠some (Chunk.cells 1 false l))→m'[k]?=m[k]?):NL m0 m' i xs:=by
 obtain⟨j,H,b,c⟩:=h
 refine⟨j,H.at (hk _ H.lt.1 fun l e=>?_) (fun k e=>hk _ (H.lt.2 k e).1 fun l e'=>?_),b,c⟩
 ·obtain⟨l',hc⟩:=H.cell
  rw[hc] at e;cases e
 ·obtain⟨tb,c,ht⟩:=H.tab e
  rw[ht] at e';cases e'
def Up(last:Int) (xs:List Int) (i:Int):Prop:=(last :: xs).Pairwise (· < ·)∧∀ x ∈ last :: xs,x < i
theorem Up.push{last:Int} {xs:List Int} {i:Int} (h:Up last xs i):Up last (xs++[i]) (i+1):=by
 obtain⟨h1,h2⟩:=h
 refine⟨?_,fun x hx=>?_⟩
 ·rw[← List.cons_append,List.pairwise_append]
  exact⟨h1,by simp,fun a ha b hb=>by simp at hb;subst hb;exact h2 a ha⟩
 ·rw[← List.cons_append,List.mem_append] at hx
  rcases hx with hx|hx
  ·have:=h2 x hx;omega
  ·simp at hx;omega
theorem Up.next{last:Int} {xs:List Int} {i:Int} (h:Up last xs i):Up last xs (i+1):=⟨h.1,fun x hx=>by have:=h.2 x hx;omega⟩
theorem Up.sub{last:Int} {xs ys:List Int} {i:Int} (h:Up last xs i) (hs:ys.Sublist xs):Up last ys i:=⟨h.1.sublist (hs.cons_cons last),fun x hx=>h.2 x ((hs.cons_cons last).subset hx)⟩
theorem Up.drop{last lst:Int} {xs:List Int} {i:Int} {n:Nat} (h:Up last xs i) (hn:(last :: xs)[n]?=some lst):Up lst (xs.drop n) i:=by
 have hd:lst :: xs.drop n=(last :: xs).drop n:=by
  have hl:=(List.getElem?_eq_some_iff.1 hn).1
  rw[List.drop_eq_getElem_cons hl,(List.getElem?_eq_some_iff.1 hn).2]
  rfl
 exact⟨by rw[hd];exact h.1.sublist (List.drop_sublist _ _),fun x hx=>h.2 x ((List.drop_sublist n (last :: xs)).subset (by rw[← hd];exact hx))⟩
end Go.Am.F15
end
section
namespace Go.Am.F15
open Go.Am.F10 (iC iC_at iC_len iC_one iC_app SI SI.val same_run Nx si_take si_drop si_row cutA dropA pick_eq)
open Go.Am.F06 (sqN sqT)
open Go.Am.F14 (law14_works law14_row law14_FifoFirst law14_FifoPasses law14_FifoPlays law14_few law14_does law14_is law14_FifoKnown fifo_Pass ref14_Pop ref14_Remove ref14_Pass)
variable {X:Type}
theorem Up.lt{last lst x:Int} {xs:List Int} {i:Int} {j:Nat} (h:Up last xs i) (h1:(last :: xs)[j]?=some lst) (h2:xs[j]?=some x):lst < x:=by
 have h3:(last :: xs)[j+1]?=some x:=h2
 have l3:=(List.getElem?_eq_some_iff.1 h3)
 have l1:=(List.getElem?_eq_some_iff.1 h1)
 have:=List.pairwise_iff_getElem.1 h.1 j (j+1) l1.1 l3.1 (by omega)
 rw[l1.2,l3.2] at this
 exact this
end Go.Am.F15
end
section
namespace Go.Am.F15
open Go.Am.F10 (iC iC_at iC_len iC_one iC_app SI SI.val same_run Nx si_take si_drop si_row cutA dropA pick_eq)
open Go.Am.F06 (sqN sqT)
open Go.Am.F14 (law14_works law14_row law14_FifoFirst law14_FifoPasses law14_FifoPlays law14_few law14_does law14_is law14_FifoKnown fifo_Pass ref14_Pop ref14_Remove ref14_Pass)
variable {X:Type}
end Go.Am.F15
end
section
namespace Go.Am.F15
open Go.Am.F10 (iC iC_at iC_len iC_one iC_app SI SI.val same_run Nx si_take si_drop si_row cutA dropA pick_eq)
open Go.Am.F06 (sqN sqT)
open Go.Am.F14 (law14_works law14_row law14_FifoFirst law14_FifoPasses law14_FifoPlays law14_few law14_does law14_is law14_FifoKnown fifo_Pass ref14_Pop ref14_Remove ref14_Pass)
variable {X:Type}
def N2(m0 m:Mem X) (a b:Nat) (xs ys:List Int):Prop:=∃ j k,LN m a j xs∧LN m b k ys∧m0.length≤a∧m0.length≤b∧(∀ q,j=some q→m0.length≤q)∧(∀ q,k=some q→m0.length≤q)∧a≠b∧(∀ q,j=some q→k≠some q)
theorem N2.fst{m0 m:Mem X} {a b:Nat} {xs ys:List Int} (h:N2 m0 m a b xs ys):NL m0 m a xs:=by
 obtain⟨j,k,A,B,h1,h2,h3,h4,h5,h6⟩:=h
 exact⟨j,A,h1,h3⟩
theorem N2.snd{m0 m:Mem X} {a b:Nat} {xs ys:List Int} (h:N2 m0 m a b xs ys):NL m0 m b ys:=by
 obtain⟨j,k,A,B,h1,h2,h3,h4,h5,h6⟩:=h
 exact⟨k,B,h2,h4⟩
theorem N2.symm{m0 m:Mem X} {a b:Nat} {xs ys:List Int} (h:N2 m0 m a b xs ys):N2 m0 m b a ys xs:=by
 obtain⟨j,k,A,B,h1,h2,h3,h4,h5,h6⟩:=h
 exact⟨k,j,B,A,h2,h1,h4,h3,h5.symm,fun q e e'=>h6 q e' e⟩
theorem N2.keep{m0 m m':Mem X} {a b:Nat} {xs ys:List Int} (h:N2 m0 m a b xs ys) (k:Keep m m'):N2 m0 m' a b xs ys:=by
 obtain⟨j,l,A,B,h1,h2,h3,h4,h5,h6⟩:=h
 exact⟨j,l,A.keep k,B.keep k,h1,h2,h3,h4,h5,h6⟩
theorem N2.step{m0 m m':Mem X} {a b:Nat} {j j' k:Option Nat} {xs ys zs:List Int} (hk:Keep m0 m) (A:LN m a j xs) (B:LN m b k ys) (h1:m0.length≤a) (h2:m0.length≤b) (h3:∀ q,j=some q→m0.length≤q) (h4:∀ q,k=some q→m0.length≤q) (h5:a≠b) (h6:∀ q,j=some q→k≠some q)
  (s1:KL m m' a j) (s2:JN m j j') (s3:LN m' a j' zs):N2 m0 m' a b zs ys∧Keep m0 m'∧KK m m':=by
 obtain⟨⟨_,q1,q2,q3⟩,q4,q5⟩:=ls_of hk A h1 h3 s1 s2 s3
 refine⟨⟨j',k,s3,B.at (s1.2 b B.lt.1 (fun e=>h5 e.symm) (ln_ij B A)) (fun q e=>s1.2 q (B.lt.2 q e).1 (ln_ji B A e) (fun e'=>h6 q e' e)),h1,h2,fun q e=>?_,h4,h5,fun q e e'=>?_⟩,q4,q5⟩
 ·rcases s2 with rfl|⟨q',e',hq⟩
  ·exact h3 q e
  ·rw[e'] at e;injection e with e;subst e;exact Nat.le_trans hk.1 hq
 ·exact h6 q (s2.back (B.lt.2 q e').1 e) e'
theorem N2.push{m0 m:Mem X} {a b:Nat} {xs ys l:List Int} {w:Bool} {lv:AV} (H:N2 m0 m a b xs ys) (hk:Keep m0 m) (hl:SI m w l lv) (hf:l.length < 10000) (hx:xs.length < 10000) :
  Fn GPush fifo_Line_Push [.ptr a 0,lv] m (fun r m'=>r = .int .i64 (if fitsB xs l=true then 0 else 140)∧N2 m0 m' a b (if fitsB xs l=true then xs++l else xs) ys∧Keep m0 m'∧KK m m'):=by
 obtain⟨j,k,A,B,h1,h2,h3,h4,h5,h6⟩:=H
 refine Fn_mono (push_run A hl (by omega) (by omega)) ?_
 rintro r m' ⟨rfl,j',s1,s2,s3⟩
 exact⟨rfl,N2.step hk A B h1 h2 h3 h4 h5 h6 s1 s2 s3⟩
theorem N2.pop{m0 m:Mem X} {a b:Nat} {xs ys:List Int} (H:N2 m0 m a b xs ys) (hk:Keep m0 m) (n:Int) (hx:xs.length < 10000) :
  Fn GPop fifo_Line_Pop [.ptr a 0,.int .i64 n] m (fun r m'=>(N2 m0 m' a b (xs.drop (popN xs n)) ys∧Keep m0 m'∧KK m m')∧Go.Am.Own m m' 1 (xs.take (popN xs n)).length (iC (xs.take (popN xs n))) r):=by
 obtain⟨j,k,A,B,h1,h2,h3,h4,h5,h6⟩:=H
 refine Fn_mono (pop_run A n (by omega)) ?_
 rintro r m' ⟨s1,s2,s3⟩
 exact⟨N2.step hk A B h1 h2 h3 h4 h5 h6 s1 (JN.refl _ _) s2,s3⟩
theorem nl_fits{m0 m:Mem X} {i:Nat} {xs l:List Int} {w:Bool} {lv:AV} (H:NL m0 m i xs) (hl:SI m w l lv) (hf:l.length < 10000):Fn [(119,c_fifo_Line_Has)] fifo_Line_fits [.ptr i 0,lv] m (fun r m'=>r = .bool (fitsB xs l)∧Keep m m'):=by
 obtain⟨j,H,_⟩:=H
 exact fits_run H hl (by omega)
def GPass:List (Nat × AFun X):=[(100,amFunc GAll14 fifo_Line_All),(123,c_fifo_Line_fits),(103,amFunc GPop fifo_Line_Pop),(101,amFunc GPush fifo_Line_Push)]
def psE(xs ys:List Int) (n:Int):Int:=if fitsB ys (xs.take (popN xs n))=true then 0 else 140
def psX(xs ys:List Int) (n:Int):List Int:=if fitsB ys (xs.take (popN xs n))=true then xs.drop (popN xs n) else xs
def psY(xs ys:List Int) (n:Int):List Int:=if fitsB ys (xs.take (popN xs n))=true then ys++xs.take (popN xs n) else ys
def psR(xs ys:List Int) (n:Int):List Int:=if fitsB ys (xs.take (popN xs n))=true then xs.take (popN xs n) else []
theorem pass_self{m0 m:Mem X} {a:Nat} {xs:List Int} (H:NL m0 m a xs) (n:Int) (hx:xs.length < 5000):Fn GPass fifo_Pass [.ptr a 0,.ptr a 0,.int .i64 n] m (fun r m'=>r = .tup [.nils,.int .i64 140]∧Keep m m'):=by
 have a100:assoc (GPass (X:=X)) 100=some (amFunc GAll14 fifo_Line_All):=rfl
 generalize (GPass (X:=X))=G at a100 ⊢
 refine Fn_of rfl ?_
 simp(disch:=first|assumption|omega|(simp only[zl]<;>omega)|(simp only[zn])) only[fifo_Pass,↓zd,zk,seval,reduceIte,List.map,AV.cells,List.all,AV.one,eqV,eqAll,splice,fillA,List.replicate,resAll,resA,zm,zg,a100]
 refine OK_fn (nl_all H (by omega)) ?_
 rintro v5 m1 ⟨k1,o1⟩
 have L5:=own_lv o1
 have hl5:=L5.1.len
 have hpn:popN xs n≤xs.length:=by unfold popN;omega
 have hmin:(if (if (xs.length:Int) < n then(xs.length:Int) else n) > 0 then(if (xs.length:Int) < n then(xs.length:Int) else n) else 0)=((popN xs n:Nat):Int):=by unfold popN;split<;>split<;>omega
 have p0:(0≤((popN xs n:Nat):Int))=True:=eq_true (by omega)
 obtain⟨t1,t2⟩:=si_take L5.1 L5.nx (k:=popN xs n) hpn
 simp(disch:=first|assumption|omega|(simp only[zl]<;>omega)|(simp only[zn])) only[↓zd,zk,seval,reduceIte,List.map,AV.cells,List.all,AV.one,eqV,eqAll,splice,fillA,List.replicate,resAll,resA,zm,zg,ev_len,hl5,hmin,p0,evA,Int.toNat_natCast,t1]
 exact k1
end Go.Am.F15
end
section
namespace Go.Am.F15
open Go.Am.F10 (iC iC_at iC_len iC_one iC_app SI SI.val same_run Nx si_take si_drop si_row cutA dropA pick_eq)
open Go.Am.F06 (sqN sqT)
variable {X:Type}
def Sb(m:Mem X) (v:AV):Prop:=v = .nils∨(∃ q o n c,v = .sl q o n (some c)∧n≤c)∨∃ q o n l,v = .sl q o n none∧m[q]?=some (.cells 1 false l)
theorem Sb.keep{m m':Mem X} {v:AV} (h:Sb m v) (k:Keep m m'):Sb m' v:=by
 rcases h with h|h|⟨q,o,n,l,h1,h2⟩
 ·exact .inl h
 ·exact .inr (.inl h)
 ·exact .inr (.inr ⟨q,o,n,l,h1,k.get h2⟩)
theorem LV.sb{m0 m:Mem X} {xs:List Int} {v:AV} (h:LV m0 m xs v):Sb m v:=by
 rcases h.nx with h|⟨q,o,n,l,h1,h2⟩
 ·exact .inl h
 ·exact .inr (.inr ⟨q,o,n,l,h1,h2⟩)
theorem Sb.fit{m:Mem X} {v:AV} (h:Sb m v):Fit v:=by
 rcases h with rfl|⟨q,o,n,c,rfl,h⟩|⟨q,o,n,l,rfl,_⟩
 ·exact fun _ _ _ _ e=>by cases e
 ·exact fun _ _ _ _ e=>by injection e with _ _ e1 e2;injection e2 with e2;omega
 ·exact fun _ _ _ _ e=>by injection e with _ _ e1 e2;cases e2
def cutB(v:AV) (k:Nat):AV:=match v with | .sl q o _ c=>.sl q o k c|v=>v
def dropB(v:AV) (k:Nat):AV:=match v with | .sl q o n none=>.sl q (o+k) (n - k) none | .sl q o n (some c)=>.sl q (if c=k then o else o+k) (n - k) (some (c - k))|v=>v
theorem sb_take{m:Mem X} {w:Bool} {xs:List Int} {v:AV} (h:SI m w xs v) (hs:Sb m v) {k:Nat} (hk:k≤xs.length):sliceA m 1 v none (some k) none=some (cutB v k)∧SI m w (xs.take k) (cutB v k)∧Sb m (cutB v k):=by
 rcases hs with rfl|⟨q,o,n,c,rfl,hnc⟩|⟨q,o,n,l,rfl,hq⟩
 ·have hx:xs=[]:=List.length_eq_zero_iff.1 (by have:=h.len;simp only[lenA,Option.some.injEq] at this;exact this.symm)
  subst hx
  have:k=0:=by simpa using hk
  subst this
  exact⟨rfl,Sl.nil,.inl rfl⟩
 ·have hn:n=xs.length:=by have:=h.len;simp only[lenA,Option.some.injEq] at this;exact this
  subst hn
  have hl:(xs.take k).length=k:=by rw[List.length_take];omega
  refine⟨?_,⟨by rw[iC_len];omega,.inr ⟨q,o,some c,by rw[hl];rfl,fun h0=>?_⟩⟩,.inr (.inl ⟨q,o,k,c,rfl,by omega⟩)⟩
  ·simp only[sliceA,Option.getD_some,Option.getD_none]
   rw[if_pos ⟨by omega,by omega,by omega,.inl trivial⟩]
   simp[cutB]
  ·rw[hl] at h0 ⊢
   obtain⟨q',o',cap',ro,L,hv,h2,h3,h4,h5⟩:=h.at (by omega)
   injection hv with v1 v2 v3 v4;subst v1;subst v2;subst v4
   refine⟨ro,L,h2,?_,by omega,h5⟩
   rw[iC,List.map_take,← iC,← h3,List.take_take]
   congr 1;omega
 ·obtain⟨a,b⟩:=si_take h (.inr ⟨q,o,n,l,rfl,hq⟩) hk
  exact⟨a,b,.inr (.inr ⟨q,o,k,l,rfl,hq⟩)⟩
theorem sb_drop{m:Mem X} {w:Bool} {xs:List Int} {v:AV} (h:SI m w xs v) (hs:Sb m v) {k:Nat} (hk:k≤xs.length):sliceA m 1 v (some k) none none=some (dropB v k)∧SI m w (xs.drop k) (dropB v k)∧Sb m (dropB v k):=by
 rcases hs with rfl|⟨q,o,n,c,rfl,hnc⟩|⟨q,o,n,l,rfl,hq⟩
 ·have hx:xs=[]:=List.length_eq_zero_iff.1 (by have:=h.len;simp only[lenA,Option.some.injEq] at this;exact this.symm)
  subst hx
  have:k=0:=by simpa using hk
  subst this
  exact⟨rfl,Sl.nil,.inl rfl⟩
 ·have hn:n=xs.length:=by have:=h.len;simp only[lenA,Option.some.injEq] at this;exact this
  subst hn
  have hl:(xs.drop k).length=xs.length - k:=List.length_drop
  refine⟨?_,⟨by rw[iC_len];omega,.inr ⟨q,if c=k then o else o+k,some (c - k),by rw[hl];rfl,fun h0=>?_⟩⟩,.inr (.inl ⟨q,_,_,_,rfl,by omega⟩)⟩
  ·simp only[sliceA,Option.getD_some,Option.getD_none]
   rw[if_pos ⟨by omega,by omega,by omega,.inl trivial⟩,Nat.mul_one]
   rfl
  ·rw[hl] at h0 ⊢
   rw[if_neg (by omega)]
   obtain⟨q',o',cap',ro,L,hv,h2,h3,h4,h5⟩:=h.at (by omega)
   injection hv with v1 v2 v3 v4;subst v1;subst v2;subst v4
   refine⟨ro,L,h2,?_,by omega,h5⟩
   rw[iC,List.map_drop,← iC,← h3,List.drop_take,List.drop_drop]
   congr 1;omega
 ·obtain⟨a,b⟩:=si_drop h (.inr ⟨q,o,n,l,rfl,hq⟩) hk
  exact⟨a,b,.inr (.inr ⟨q,o+k,n - k,l,rfl,hq⟩)⟩
end Go.Am.F15
end
section
namespace Go.Am.F15
open Go.Am.F10 (iC iC_at iC_len iC_one iC_app SI SI.val same_run Nx si_take si_drop si_row cutA dropA pick_eq)
open Go.Am.F06 (sqN sqT)
open Go.Am.F14 (law14_works law14_row law14_FifoFirst law14_FifoPasses law14_FifoPlays law14_few law14_does law14_is law14_FifoKnown fifo_Pass ref14_Pop ref14_Remove ref14_Pass)
variable {X:Type}
end Go.Am.F15
end
section
namespace Go.Am.F15
open Go.Am.F10 (iC iC_at iC_len iC_one iC_app SI SI.val same_run Cf cfC rightP right_run Nx si_take si_drop si_row cutA dropA madeC made_eq pick_eq)
open Go.Am.F06 (sqN sqT)
variable {X:Type}
def KnA(m0 m:Mem X) (ats:List Act) (v:AV):Prop:=Own m0 m 3 ats.length (ats.flatMap aC) v∧∀ a ∈ ats,SI m false a.l a.v∧Fit a.v∧a.v.one=true
theorem KnA.keep{m0 m m':Mem X} {ats:List Act} {v:AV} (h:KnA m0 m ats v) (k:Keep m m'):KnA m0 m' ats v:=by
 refine⟨?_,fun a ha=>⟨(h.2 a ha).1.keep k,(h.2 a ha).2⟩⟩
 rcases h.1 with h|⟨q,h1,h2,h3,h4⟩
 ·exact .inl h
 ·exact .inr ⟨q,h1,k.get h2,h3,Nat.lt_of_lt_of_le h4 k.1⟩
theorem flat_len(ats:List Act):(ats.flatMap aC).length=ats.length * 3:=rows_len aC_len ats
theorem KnA.as{m0 m:Mem X} {ats:List Act} {v:AV} (h:KnA m0 m ats v):AS m ats v:=⟨(h.1.sl (flat_len ats)).1.ro,fun a ha=>(h.2 a ha).1⟩
theorem KnA.fit{m0 m:Mem X} {ats:List Act} {v:AV} (h:KnA m0 m ats v):∀ a ∈ ats,Fit a.v:=fun a ha=>(h.2 a ha).2.1
theorem si_k1{m m':Mem X} {w:Bool} {l:List Int} {v:AV} (h:SI m w l v) (k:K1 m m'):SI m' w l v:=by
 obtain⟨h0,h⟩:=h
 refine⟨h0,?_⟩
 rcases h with h|⟨q,o,cap,h1,h2⟩
 ·exact .inl h
 ·refine .inr ⟨q,o,cap,h1,fun hn=>?_⟩
  obtain⟨ro,L,h3,h4⟩:=h2 hn
  exact⟨ro,L,k.2 q ro L h3,h4⟩
end Go.Am.F15
end
section
namespace Go.Am.F15
open Go.Am.F10 (iC iC_at iC_len iC_one iC_app SI SI.val same_run Nx si_take si_drop si_row cutA dropA pick_eq)
open Go.Am.F06 (sqN sqT)
open Go.Am.F14 (law14_works law14_row law14_FifoFirst law14_FifoPasses law14_FifoPlays law14_few law14_does law14_is law14_FifoKnown fifo_Pass ref14_Pop ref14_Remove ref14_Pass)
variable {X:Type}
def RS(m:Mem X) (xs:List Int) (v:AV):Prop:=SI m false xs v∧Sb m v
theorem Sb.k1{m m':Mem X} {v:AV} (h:Sb m v) (k:K1 m m'):Sb m' v:=by
 rcases h with h|h|⟨q,o,n,l,h1,h2⟩
 ·exact .inl h
 ·exact .inr (.inl h)
 ·exact .inr (.inr ⟨q,o,n,l,h1,k.2 q false l h2⟩)
theorem RS.k1{m m':Mem X} {xs:List Int} {v:AV} (h:RS m xs v) (k:K1 m m'):RS m' xs v:=⟨si_k1 h.1 k,h.2.k1 k⟩
theorem LV.rs{m0 m:Mem X} {xs:List Int} {v:AV} (h:LV m0 m xs v):RS m xs v:=⟨h.1.ro,h.sb⟩
theorem Of.rs{m m':Mem X} {a r:AV} {xs ys:List Int} (h:Of m a xs ys r m') (ha:RS m xs a):RS m' ys r:=by
 obtain⟨hk,⟨rfl,rfl⟩|h⟩:=h
 ·exact ha.k1 hk.k1
 ·exact h.rs
theorem rpop14_run{m:Mem X} {xs:List Int} {v:AV} (h:RS m xs v) (n:Int):Fn [] ref14_Pop [v,.int .i64 n] m (fun r m'=>m'=m∧∃ a b,r = .tup [a,b]∧RS m (xs.drop (popN xs n)) a∧RS m (xs.take (popN xs n)) b):=by
 have hlen:=h.1.len
 have hpn:popN xs n≤xs.length:=by unfold popN;omega
 have hmin:(if (if (xs.length:Int) < n then(xs.length:Int) else n) > 0 then(if (xs.length:Int) < n then(xs.length:Int) else n) else 0)=((popN xs n:Nat):Int):=by unfold popN;split<;>split<;>omega
 have p0:(0≤((popN xs n:Nat):Int))=True:=eq_true (by omega)
 obtain⟨t1,t2,t3⟩:=sb_take h.1 h.2 hpn
 obtain⟨u1,u2,u3⟩:=sb_drop h.1 h.2 hpn
 refine Fn_of rfl ?_
 simp(disch:=first|assumption|omega|(simp only[zl]<;>omega)|(simp only[zn])) only[ref14_Pop,↓zd,zk,seval,reduceIte,List.map,AV.cells,List.all,AV.one,eqV,eqAll,splice,fillA,List.replicate,resAll,resA,zm,zg,ev_len,hlen,hmin,p0,evA,Int.toNat_natCast,t1,u1]
 exact⟨_,_,rfl,⟨u2,u3⟩,t2,t3⟩
theorem split_at{xs:List Int} {n:Nat} {x:Int} (h:xs[n]?=some x):xs=xs.take n++x :: xs.drop (n+1):=by
 have hl:=(List.getElem?_eq_some_iff.1 h).1
 have:xs.drop n=x :: xs.drop (n+1):=by rw[List.drop_eq_getElem_cons hl,(List.getElem?_eq_some_iff.1 h).2]
 rw[← this,List.take_append_drop]
theorem ahead_some{xs:List Int} {x:Int} (h:x ∈ xs):xs[xs.idxOf x]?=some x∧aheadN xs x=(xs.idxOf x:Nat):=by
 have hl:=List.idxOf_lt_length_of_mem h
 exact⟨by rw[List.getElem?_eq_getElem hl,List.getElem_idxOf],by unfold aheadN;rw[if_pos h]⟩
def rmL(xs:List Int) (x:Int):List Int:=if x ∈ xs then xs.take (xs.idxOf x)++xs.drop (xs.idxOf x+1) else xs
theorem rremove14_run{m:Mem X} {xs:List Int} {v:AV} (h:RS m xs v) (x:Int) (hx:xs.length < 10000):Fn G14 ref14_Remove [v,.int .i64 x] m (fun r m'=>Keep m m'∧∃ a,r = .tup [a,.bool (decide (x ∈ xs))]∧RS m' (rmL xs x) a):=by
 have a124:assoc (G14 (X:=X)) 124=some c_ref14_Ahead:=rfl
 have a125:assoc (G14 (X:=X)) 125=some (amFunc [] ref14_join):=rfl
 generalize (G14 (X:=X))=G at a124 a125 ⊢
 have hah:c_ref14_Ahead [v,.int .i64 x] m=some (.int .i64 (aheadN xs x),m):=Fn_eq (ahead_run h.1 x (by omega))
 refine Fn_of rfl ?_
 by_cases hm:x ∈ xs
 ·obtain⟨g1,g2⟩:=ahead_some hm
  rw[g2] at hah
  generalize hn:xs.idxOf x=n at g1 g2 hah
  have hnl:=(List.getElem?_eq_some_iff.1 g1).1
  obtain⟨t1,t2,t3⟩:=sb_take h.1 h.2 (k:=n) (by omega)
  obtain⟨u1,u2,u3⟩:=sb_drop h.1 h.2 (k:=n+1) (by omega)
  have dn:decide ((n:Int) < 0)=false:=decide_eq_false (by omega)
  have p0:(0≤(n:Int))=True:=eq_true (by omega)
  have p1:(0≤(n:Int)+1)=True:=eq_true (by omega)
  have p2:((n:Int)+1).toNat=n+1:=by omega
  simp(disch:=first|assumption|omega|(simp only[zl]<;>omega)|(simp only[zn])) only[ref14_Remove,↓zd,zk,seval,reduceIte,List.map,AV.cells,List.all,AV.one,eqV,eqAll,splice,fillA,List.replicate,resAll,resA,zm,zg,a124,hah,dn,evA,p0,p1,p2,Int.toNat_natCast,t1,u1,a125]
  refine OK_fn (join_run t2 u2 (by rw[List.length_take];omega) (by rw[List.length_drop];omega)) ?_
  rintro v2 m2 ⟨k2,L2⟩
  simp(disch:=first|assumption|omega|(simp only[zl]<;>omega)|(simp only[zn])) only[↓zd,zk,seval,reduceIte,List.map,AV.cells,List.all,AV.one,eqV,eqAll,splice,fillA,List.replicate,resAll,resA,zm,zg]
  exact⟨k2,v2,by simp[hm],by unfold rmL;rw[if_pos hm,hn];exact L2.rs⟩
 ·have g2:aheadN xs x=-1:=by unfold aheadN;rw[if_neg hm]
  rw[g2] at hah
  simp(disch:=first|assumption|omega|(simp only[zl]<;>omega)|(simp only[zn])) only[ref14_Remove,↓zd,zk,seval,reduceIte,List.map,AV.cells,List.all,AV.one,eqV,eqAll,splice,fillA,List.replicate,resAll,resA,zm,zg,a124,hah]
  exact⟨Keep.refl m,v,by simp[hm],by unfold rmL;rw[if_neg hm];exact h⟩
def GRp:List (Nat × AFun X):=[(126,amFunc [] ref14_Pop),(111,amFunc G14 ref14_Push)]
theorem rpass14_run{m:Mem X} {xs ys:List Int} {a b:AV} (ha:RS m xs a) (hb:RS m ys b) (n:Int) (hx:xs.length < 5000) (hy:ys.length < 5000) :
  Fn GRp ref14_Pass [a,b,.int .i64 n] m (fun r m'=>Keep m m'∧∃ v w z,r = .tup [v,w,z,.int .i64 (psE xs ys n)]∧RS m' (psX xs ys n) v∧RS m' (psY xs ys n) w∧RS m' (psR xs ys n) z):=by
 have a126:assoc (GRp (X:=X)) 126=some (amFunc [] ref14_Pop):=rfl
 have a111:assoc (GRp (X:=X)) 111=some (amFunc G14 ref14_Push):=rfl
 generalize (GRp (X:=X))=G at a126 a111 ⊢
 refine Fn_of rfl ?_
 simp(disch:=first|assumption|omega|(simp only[zl]<;>omega)|(simp only[zn])) only[ref14_Pass,↓zd,zk,seval,reduceIte,List.map,AV.cells,List.all,AV.one,eqV,eqAll,splice,fillA,List.replicate,resAll,resA,zm,zg,a126]
 refine OK_fn (rpop14_run ha n) ?_
 rintro _ _ ⟨rfl,v1,v2,rfl,s1,s2⟩
 simp(disch:=first|assumption|omega|(simp only[zl]<;>omega)|(simp only[zn])) only[↓zd,zk,seval,reduceIte,List.map,AV.cells,List.all,AV.one,eqV,eqAll,splice,fillA,List.replicate,resAll,resA,zm,zg,a111]
 refine OK_fn (push14_run hb.1 s2.1 s2.2.fit (by omega) (by rw[List.length_take];omega)) ?_
 rintro _ m2 ⟨v3,rfl,ho⟩
 cases hf:fitsB ys (xs.take (popN xs n)) with
 | false =>
  simp only[hf,Bool.false_eq_true,if_false] at ho ⊢
  simp(disch:=first|assumption|omega|(simp only[zl]<;>omega)|(simp only[zn])) only[↓zd,zk,seval,reduceIte,List.map,AV.cells,List.all,AV.one,eqV,eqAll,splice,fillA,List.replicate,resAll,resA,zm,zg]
  exact⟨ho.1,a,b,.nils,by simp[psE,hf],by simpa [psX,hf] using ha.k1 ho.1.k1,by simpa [psY,hf] using hb.k1 ho.1.k1,by simpa [psR,hf] using (LV.nil (m0:=m2)).rs⟩
 | true =>
  simp only[hf,if_true] at ho ⊢
  simp(disch:=first|assumption|omega|(simp only[zl]<;>omega)|(simp only[zn])) only[↓zd,zk,seval,reduceIte,List.map,AV.cells,List.all,AV.one,eqV,eqAll,splice,fillA,List.replicate,resAll,resA,zm,zg]
  exact⟨ho.1,v1,v3,v2,by simp[psE,hf],by simpa [psX,hf] using s1.k1 ho.1.k1,by simpa [psY,hf] using ho.rs hb,by simpa [psR,hf] using s2.k1 ho.1.k1⟩
theorem nl_has{m0 m:Mem X} {i:Nat} {xs:List Int} (H:NL m0 m i xs) (x:Int):Fn [] fifo_Line_Has [.ptr i 0,.int .i64 x] m (fun r m'=>r = .bool (hasB xs x)∧Keep m m'):=by
 obtain⟨j,H,_⟩:=H
 exact has_run H x
theorem nl_head_nil{m0 m:Mem X} {i:Nat} (H:NL m0 m i []):c_fifo_Line_Head [.ptr i 0] m=some (.tup [.int .i64 0,.bool false],m):=by
 obtain⟨j,H,_⟩:=H
 exact H.head_nil
theorem nl_head_cons{m0 m:Mem X} {i:Nat} {x:Int} {xs:List Int} (H:NL m0 m i (x :: xs)):c_fifo_Line_Head [.ptr i 0] m=some (.tup [.int .i64 x,.bool true],m):=by
 obtain⟨j,H,_⟩:=H
 exact H.head_cons
end Go.Am.F15
end
section
namespace Go.Am.F15
open Go.Am.F10 (iC iC_at iC_len iC_one iC_app SI SI.val same_run Nx si_take si_drop si_row cutA dropA pick_eq)
open Go.Am.F06 (sqN sqT)
open Go.Am.F14 (law14_works law14_row law14_FifoFirst law14_FifoPasses law14_FifoPlays law14_few law14_does law14_is law14_FifoKnown fifo_Pass ref14_Pop ref14_Remove ref14_Pass)
variable {X:Type}
def KD(D:Nat→Prop) (m m':Mem X):Prop:=m.length≤m'.length∧∀ q,q < m.length→¬ D q→m'[q]?=m[q]?
theorem KD.trans{D:Nat→Prop} {m m' m'':Mem X} (h:KD D m m') (h':KD D m' m''):KD D m m'':=⟨Nat.le_trans h.1 h'.1,fun q a b=>(h'.2 q (Nat.lt_of_lt_of_le a h.1) b).trans (h.2 q a b)⟩
theorem _root_.Go.Am.Keep.kd{m m':Mem X} (h:Keep m m') (D:Nat→Prop):KD D m m':=⟨h.1,fun q a _=>h.2 q a⟩
def ND(D:Nat→Prop) (m:Mem X) (a b:Nat) (xs ys:List Int):Prop:=∃ j k,LN m a j xs∧LN m b k ys∧D a∧D b∧(∀ q,j=some q→D q)∧(∀ q,k=some q→D q)∧a≠b∧(∀ q,j=some q→k≠some q)
def SD(D:Nat→Prop) (m:Mem X) (a b:Nat) (xs ys:List Int) (m':Mem X):Prop:=ND D m' a b xs ys∧KD D m m'∧K1 m m'
section
variable {D:Nat→Prop} {m m':Mem X} {a b:Nat} {xs ys:List Int}
theorem ND.fst(h:ND D m a b xs ys):NL [] m a xs:=by
 obtain⟨j,k,A,B,h1,h2,h3,h4,h5,h6⟩:=h
 exact⟨j,A,Nat.zero_le _,fun _ _=>Nat.zero_le _⟩
theorem ND.snd(h:ND D m a b xs ys):NL [] m b ys:=by
 obtain⟨j,k,A,B,h1,h2,h3,h4,h5,h6⟩:=h
 exact⟨k,B,Nat.zero_le _,fun _ _=>Nat.zero_le _⟩
theorem ND.symm(h:ND D m a b xs ys):ND D m b a ys xs:=by
 obtain⟨j,k,A,B,h1,h2,h3,h4,h5,h6⟩:=h
 exact⟨k,j,B,A,h2,h1,h4,h3,h5.symm,fun q e e'=>h6 q e' e⟩
theorem SD.symm(h:SD D m a b xs ys m'):SD D m b a ys xs m':=⟨h.1.symm,h.2⟩
theorem ND.keep(h:ND D m a b xs ys) (k:Keep m m'):ND D m' a b xs ys:=by
 obtain⟨j,l,A,B,h1,h2,h3,h4,h5,h6⟩:=h
 exact⟨j,l,A.keep k,B.keep k,h1,h2,h3,h4,h5,h6⟩
theorem ND.same(h:ND D m a b xs ys) (k:Keep m m'):SD D m a b xs ys m':=⟨h.keep k,k.kd D,k.k1⟩
theorem ND.mono{D':Nat→Prop} (h:ND D m a b xs ys) (k:∀ q,D q→D' q):ND D' m a b xs ys:=by
 obtain⟨j,l,A,B,h1,h2,h3,h4,h5,h6⟩:=h
 exact⟨j,l,A,B,k _ h1,k _ h2,fun q e=>k _ (h3 q e),fun q e=>k _ (h4 q e),h5,h6⟩
theorem nd_step{j j' k:Option Nat} {zs:List Int} (hD:∀ q,m.length≤q→D q) (A:LN m a j xs) (B:LN m b k ys) (h1:D a) (h2:D b) (h3:∀ q,j=some q→D q) (h4:∀ q,k=some q→D q) (h5:a≠b) (h6:∀ q,j=some q→k≠some q)
  (s1:KL m m' a j) (s2:JN m j j') (s3:LN m' a j' zs):SD D m a b zs ys m':=by
 refine⟨⟨j',k,s3,B.at (s1.2 b B.lt.1 (fun e=>h5 e.symm) (ln_ij B A)) (fun q e=>s1.2 q (B.lt.2 q e).1 (ln_ji B A e) (fun e'=>h6 q e' e)),h1,h2,fun q e=>?_,h4,h5,fun q e e'=>?_⟩,⟨s1.1,fun q hq hd=>s1.2 q hq (fun e=>hd (e ▸ h1)) (fun e=>hd (h3 q e))⟩,(ln_kk A s1).k1⟩
 ·rcases s2 with rfl|⟨q',e',hq⟩
  ·exact h3 q e
  ·rw[e'] at e;injection e with e;subst e;exact hD _ hq
 ·exact h6 q (s2.back (B.lt.2 q e').1 e) e'
theorem ND.push{l:List Int} {w:Bool} {lv:AV} (hD:∀ q,m.length≤q→D q) (H:ND D m a b xs ys) (hl:SI m w l lv) (hf:l.length < 10000) (hx:xs.length < 10000) :
  Fn GPush fifo_Line_Push [.ptr a 0,lv] m (fun r m'=>r = .int .i64 (if fitsB xs l=true then 0 else 140)∧SD D m a b (if fitsB xs l=true then xs++l else xs) ys m'):=by
 obtain⟨j,k,A,B,h1,h2,h3,h4,h5,h6⟩:=H
 refine Fn_mono (push_run A hl (by omega) (by omega)) ?_
 rintro r m' ⟨rfl,j',s1,s2,s3⟩
 exact⟨rfl,nd_step hD A B h1 h2 h3 h4 h5 h6 s1 s2 s3⟩
theorem ND.pop(hD:∀ q,m.length≤q→D q) (H:ND D m a b xs ys) (n:Int) (hx:xs.length < 10000) :
  Fn GPop fifo_Line_Pop [.ptr a 0,.int .i64 n] m (fun r m'=>SD D m a b (xs.drop (popN xs n)) ys m'∧Go.Am.Own m m' 1 (xs.take (popN xs n)).length (iC (xs.take (popN xs n))) r):=by
 obtain⟨j,k,A,B,h1,h2,h3,h4,h5,h6⟩:=H
 refine Fn_mono (pop_run A n (by omega)) ?_
 rintro r m' ⟨s1,s2,s3⟩
 exact⟨nd_step hD A B h1 h2 h3 h4 h5 h6 s1 (JN.refl _ _) s2,s3⟩
theorem ND.remove(hD:∀ q,m.length≤q→D q) (H:ND D m a b xs ys) (x:Int):Fn GRem fifo_Line_Remove [.ptr a 0,.int .i64 x] m (fun r m'=>r = .bool (decide (x ∈ xs))∧SD D m a b (rmL xs x) ys m'):=by
 obtain⟨j,k,A,B,h1,h2,h3,h4,h5,h6⟩:=H
 by_cases hm:x ∈ xs
 ·have hs:=split_at (ahead_some hm).1
  have A':=A
  rw[hs] at A'
  refine Fn_mono (remove_run A') ?_
  rintro r m' ⟨rfl,s1,s2⟩
  have e:rmL xs x=xs.take (xs.idxOf x)++xs.drop (xs.idxOf x+1):=by unfold rmL;rw[if_pos hm]
  rw[e]
  exact⟨by rw[decide_eq_true hm],nd_step hD A B h1 h2 h3 h4 h5 h6 s1 (JN.refl _ _) s2⟩
 ·refine Fn_mono (remove_no A hm) ?_
  rintro r m' ⟨rfl,k1⟩
  have e:rmL xs x=xs:=by unfold rmL;rw[if_neg hm]
  rw[e]
  exact⟨by rw[decide_eq_false hm],ND.same ⟨j,k,A,B,h1,h2,h3,h4,h5,h6⟩ k1⟩
theorem ND.cells(H:ND D m a b xs ys):(∃ l,m[a]?=some (.cells 3 false l))∧(∃ l,m[b]?=some (.cells 3 false l))∧a≠b:=by
 obtain⟨j,k,A,B,h1,h2,h3,h4,h5,h6⟩:=H
 exact⟨A.cell,B.cell,h5⟩
end
def RZ(m:Mem X) (xs:List Int) (v:AV):Prop:=SI m true xs v∧(v = .nils∨∃ q l,v = .sl q 0 xs.length none∧m[q]?=some (Chunk.cells 1 false l)∧xs.length≤l.length)
theorem RZ.k1{m m':Mem X} {xs:List Int} {v:AV} (h:RZ m xs v) (k:K1 m m'):RZ m' xs v:=by
 refine⟨si_k1 h.1 k,?_⟩
 rcases h.2 with h|⟨q,l,h1,h2,h3⟩
 ·exact .inl h
 ·exact .inr ⟨q,l,h1,k.2 q false l h2,h3⟩
theorem RO.rz{m:Mem X} {xs:List Int} {v:AV} (h:RO m xs v):RZ m xs v:=by
 refine⟨h.rw.1,?_⟩
 rcases h with⟨h,_⟩|⟨q,h1,h2⟩
 ·exact .inl h
 ·exact .inr ⟨q,_,h1,h2,by rw[iC_len];omega⟩
theorem own_rz{m m1:Mem X} {xs:List Int} {v:AV} (h:Go.Am.Own m m1 1 xs.length (iC xs) v) {k:Nat} (hk:k≤xs.length):RZ m1 (xs.take k) (cutA v k)∧Lies (cutA v k) m.length m1.length:=by
 have L:=own_lv h
 have hl:(xs.take k).length=k:=by rw[List.length_take];omega
 refine⟨⟨(L.cut hk).1,?_⟩,?_⟩
 ·rcases h with⟨_,_,rfl⟩|⟨q,rfl,h2,h3,h4⟩
  ·exact .inl rfl
  ·exact .inr ⟨q,_,by rw[hl];rfl,h2,by rw[hl,iC_len];omega⟩
 ·rcases h with⟨_,_,rfl⟩|⟨q,rfl,h2,h3,h4⟩
  ·intro q n e;cases e
  ·intro q' n e;injection e with e;subst e;exact⟨h3,h4⟩
def RzI(a b:AV) (xs:List Int) (m0:Mem X) (k:Nat) (e:List AV) (m:Mem X):Prop:=∃ (j:Nat) (x4 x5:AV),
 e=[a,b,.bool false,.int .i64 j,x4,x5]∧k=xs.length - j∧j≤xs.length∧WO a m0 m∧∀ q,a = .sl q 0 xs.length none→∃ L,m[q]?=some (.cells 1 false L)∧xs.length≤L.length
theorem rowz_run{m:Mem X} {w:Bool} {xs ys:List Int} {a b:AV} (ha:RZ m xs a) (hb:SI m w ys b) (hx:xs.length < 10000) (he:xs=ys):Fn GRow law14_row [a,b] m (fun r m'=>r = .bool true∧WO a m m'):=by
 have a84:assoc (GRow (X:=X)) 84=some c_kit_SameInts:=rfl
 generalize (GRow (X:=X))=G at a84 ⊢
 have hs:c_kit_SameInts [a,b] m=some (.bool (decide (xs=ys)),m):=Fn_eq (same_run ha.1 hb (by unfold FUEL;omega))
 have hlen:=ha.1.len
 have hd:decide (xs=ys)=true:=decide_eq_true he
 rw[hd] at hs
 refine Fn_of rfl ?_
 simp(disch:=first|assumption|omega|(simp only[zl]<;>omega)|(simp only[zn])) only[law14_row,↓zd,zk,seval,reduceIte,List.map,AV.cells,List.all,AV.one,eqV,eqAll,splice,fillA,List.replicate,resAll,resA,zm,zg,a84,hs]
 refine W_loop (RzI a b xs m) xs.length (by unfold FUEL;omega) ⟨0,_,_,rfl,rfl,Nat.zero_le _,WO.refl a m,fun q e=>?_⟩ ?_
 ·rcases ha.2 with h|⟨q',l,h,h2,h3⟩
  ·rw[h] at e;cases e
  ·rw[h] at e;injection e with e;subst e
   exact⟨_,h2,h3⟩
 rintro k e m' ⟨j,x4,x5,rfl,rfl,hj,hw,hL⟩
 simp(disch:=first|assumption|omega|(simp only[zl]<;>omega)|(simp only[zn])) only[↓zd,zk,seval,reduceIte,List.map,AV.cells,List.all,AV.one,eqV,eqAll,splice,fillA,List.replicate,resAll,resA,zm,zg,ev_len,hlen]
 refine CW_of (fun hc=>?_) (fun hc=>?_)
 ·simp only[decide_eq_true_eq] at hc
  rcases ha.2 with h|⟨q,l,hvq,_,_⟩
  ·rw[h] at hlen
   simp only[lenA,Option.some.injEq] at hlen
   omega
  ·obtain⟨L,hq1,hq2⟩:=hL q hvq
   have lq:=(List.getElem?_eq_some_iff.1 hq1).1
   subst hvq
   simp(disch:=first|assumption|omega|(simp only[zl]<;>omega)|(simp only[zn])) only[↓zd,zk,seval,reduceIte,List.map,AV.cells,List.all,AV.one,eqV,eqAll,splice,fillA,List.replicate,resAll,resA,zm,zg,hq1]
   refine⟨_,by omega,j+1,_,_,rfl,rfl,by omega,hw.set rfl _,fun q' e=>?_⟩
   injection e with e;subst e
   exact⟨_,List.getElem?_set_self lq,by simpa using hq2⟩
 ·simp only[decide_eq_false_iff_not] at hc
  simp(disch:=first|assumption|omega|(simp only[zl]<;>omega)|(simp only[zn])) only[↓zd,zk,seval,reduceIte,List.map,AV.cells,List.all,AV.one,eqV,eqAll,splice,fillA,List.replicate,resAll,resA,zm,zg]
  exact hw
theorem RZ.not3{m:Mem X} {xs:List Int} {v:AV} (h:RZ m xs v) {q n:Nat} (e:v = .sl q 0 n none):∃ l,m[q]?=some (Chunk.cells 1 false l):=by
 rcases h.2 with h|⟨q',l,h1,h2,_⟩
 ·rw[h] at e;cases e
 ·rw[h1] at e;injection e with e;subst e;exact⟨l,h2⟩
theorem SD.wo{D:Nat→Prop} {m m' m'':Mem X} {a b:Nat} {xs ys zs:List Int} {v:AV} {hi:Nat} (h:SD D m a b xs ys m') (hr:RZ m' zs v) (hl:Lies v m.length hi) (hw:WO v m' m''):SD D m a b xs ys m'':=by
 obtain⟨⟨j,k,A,B,h1,h2,h3,h4,h5,h6⟩,s1,s2⟩:=h
 have key:∀ q,(∀ l,m'[q]?≠some (Chunk.cells 1 false l))→m''[q]?=m'[q]?:=fun q hq=>hw.2 q fun n e=>by
  obtain⟨l,hl⟩:=hr.not3 e
  exact hq l hl
 have kc:∀ {i:Nat} {j:Option Nat} {xs:List Int},LN m' i j xs→LN m'' i j xs:=fun A=>by
  refine A.at (key _ fun l e=>?_) (fun q e=>key _ fun l e'=>?_)
  ·obtain⟨l',hc⟩:=A.cell
   rw[hc] at e;cases e
  ·obtain⟨tb,c,ht⟩:=A.tab e
   rw[ht] at e';cases e'
 have old:∀ q,q < m.length→m''[q]?=m'[q]?:=fun q hq=>hw.2 q fun n e=>by have:=hl q n e;omega
 refine⟨⟨j,k,kc A,kc B,h1,h2,h3,h4,h5,h6⟩,⟨by rw[hw.1];exact s1.1,fun q a b=>(old q a).trans (s1.2 q a b)⟩,⟨by rw[hw.1];exact s2.1,fun q ro L e=>(old q (List.getElem?_eq_some_iff.1 e).1).trans (s2.2 q ro L e)⟩⟩
theorem SD.trans{D:Nat→Prop} {m m' m'':Mem X} {a b:Nat} {xs ys xs' ys':List Int} (h:SD D m a b xs ys m') (h':SD D m' a b xs' ys' m''):SD D m a b xs' ys' m'':=⟨h'.1,h.2.1.trans h'.2.1,h.2.2.trans h'.2.2⟩
section
variable {D:Nat→Prop} {m m':Mem X} {a b:Nat} {xs ys:List Int}
def PsD(D:Nat→Prop) (m:Mem X) (a b:Nat) (xs ys:List Int) (n:Int) (r:AV) (m':Mem X):Prop:=∃ v hi,r = .tup [v,.int .i64 (psE xs ys n)]∧SD D m a b (psX xs ys n) (psY xs ys n) m'∧RZ m' (psR xs ys n) v∧Lies v m.length hi
set_option maxHeartbeats 4000000 in
theorem ND.pass(hD:∀ q,m.length≤q→D q) (H:ND D m a b xs ys) (n:Int) (hx:xs.length < 5000) (hy:ys.length < 5000):Fn GPass fifo_Pass [.ptr a 0,.ptr b 0,.int .i64 n] m (PsD D m a b xs ys n):=by
 have a100:assoc (GPass (X:=X)) 100=some (amFunc GAll14 fifo_Line_All):=rfl
 have a123:assoc (GPass (X:=X)) 123=some c_fifo_Line_fits:=rfl
 have a103:assoc (GPass (X:=X)) 103=some (amFunc GPop fifo_Line_Pop):=rfl
 have a101:assoc (GPass (X:=X)) 101=some (amFunc GPush fifo_Line_Push):=rfl
 generalize (GPass (X:=X))=G at a100 a123 a103 a101 ⊢
 refine Fn_of rfl ?_
 simp(disch:=first|assumption|omega|(simp only[zl]<;>omega)|(simp only[zn])) only[fifo_Pass,↓zd,zk,seval,reduceIte,List.map,AV.cells,List.all,AV.one,eqV,eqAll,splice,fillA,List.replicate,resAll,resA,zm,zg,a100]
 refine OK_fn (nl_all H.fst (by omega)) ?_
 rintro v5 m1 ⟨k1,o1⟩
 have H1:=H.keep k1
 have L5:=own_lv o1
 have hl5:=L5.1.len
 have hpn:popN xs n≤xs.length:=by unfold popN;omega
 have hmin:(if (if (xs.length:Int) < n then(xs.length:Int) else n) > 0 then(if (xs.length:Int) < n then(xs.length:Int) else n) else 0)=((popN xs n:Nat):Int):=by unfold popN;split<;>split<;>omega
 have p0:(0≤((popN xs n:Nat):Int))=True:=eq_true (by omega)
 obtain⟨t1,t2⟩:=si_take L5.1 L5.nx (k:=popN xs n) hpn
 obtain⟨z6,l6⟩:=own_rz o1 hpn
 obtain⟨⟨la,ga⟩,⟨lb,gb⟩,hab⟩:=H1.cells
 simp(disch:=first|assumption|omega|(simp only[zl]<;>omega)|(simp only[zn])) only[↓zd,zk,seval,reduceIte,List.map,AV.cells,List.all,AV.one,eqV,eqAll,splice,fillA,List.replicate,resAll,resA,zm,zg,ev_len,hl5,hmin,p0,evA,Int.toNat_natCast,t1,hab,ga,gb,a123]
 refine OK_fn (nl_fits H1.snd t2 (by rw[List.length_take];omega)) ?_
 rintro _ m2 ⟨rfl,k2⟩
 have H2:=H1.keep k2
 have hk12:=(k1.trans k2).1
 cases hf:fitsB ys (xs.take (popN xs n)) with
 | false =>
  have hnil:RZ m2 (psR xs ys n) .nils:=by
   have e:psR xs ys n=[]:=by simp[psR,hf]
   rw[e];exact⟨Sl.nil,.inl rfl⟩
  simp(disch:=first|assumption|omega|(simp only[zl]<;>omega)|(simp only[zn])) only[↓zd,zk,seval,reduceIte,List.map,AV.cells,List.all,AV.one,eqV,eqAll,splice,fillA,List.replicate,resAll,resA,zm,zg]
  exact⟨.nils,0,by simp[psE,hf],by simpa [psX,psY,hf] using H.same (k1.trans k2),hnil,fun q n e=>by cases e⟩
 | true =>
  simp(disch:=first|assumption|omega|(simp only[zl]<;>omega)|(simp only[zn])) only[↓zd,zk,seval,reduceIte,List.map,AV.cells,List.all,AV.one,eqV,eqAll,splice,fillA,List.replicate,resAll,resA,zm,zg,a103]
  refine OK_fn (H2.pop (fun q hq=>hD q (by omega)) n (by omega)) ?_
  rintro v7 m3 ⟨S3,o3⟩
  have z63:=(z6.k1 k2.k1).k1 S3.2.2
  have hk3:=S3.2.1.1
  simp(disch:=first|assumption|omega|(simp only[zl]<;>omega)|(simp only[zn])) only[↓zd,zk,seval,reduceIte,List.map,AV.cells,List.all,AV.one,eqV,eqAll,splice,fillA,List.replicate,resAll,resA,zm,zg,a101]
  refine OK_fn (S3.1.symm.push (fun q hq=>hD q (by omega)) z63.1 (by rw[List.length_take];omega) (by omega)) ?_
  rintro _ m4 ⟨rfl,S4⟩
  rw[hf] at S4 ⊢
  have ST:=((H.same (k1.trans k2)).trans S3).trans S4.symm
  simp(disch:=first|assumption|omega|(simp only[zl]<;>omega)|(simp only[zn])) only[↓zd,zk,seval,reduceIte,List.map,AV.cells,List.all,AV.one,eqV,eqAll,splice,fillA,List.replicate,resAll,resA,zm,zg]
  exact⟨cutA v5 (popN xs n),m1.length,by simp[psE,hf],by simpa [psX,psY,hf] using ST,by simpa [psR,hf] using z63.k1 S4.2.2,l6⟩
end
end Go.Am.F15
end
section
namespace Go.Am.F15
open Go.Am.F10 (iC iC_at iC_len iC_one iC_app SI SI.val same_run Nx si_take si_drop si_row cutA dropA pick_eq)
open Go.Am.F06 (sqN sqT)
open Go.Am.F14 (law14_works law14_row law14_FifoFirst law14_FifoPasses law14_FifoPlays law14_few law14_does law14_is law14_FifoKnown fifo_Pass ref14_Pop ref14_Remove ref14_Pass)
variable {X:Type}
def few14B(l:List Act) (most:Nat):Bool:=((l.take (most+1)).all fun a=>decide (a.l.length≤40)) && decide (l.length≤most)
def Fw14Inv(l:List Act) (most:Nat) (lv:AV) (m0:Mem X) (k:Nat) (e:List AV) (m:Mem X):Prop:=∃ (n:Nat) (x4 x5:AV),
 e=[lv,.int .i64 most,.bool false,.int .i64 n,x4,x5]∧m=m0∧k=most+1 - n∧n≤most+1∧n≤l.length∧((l.take n).all fun a=>decide (a.l.length≤40))=true
theorem few14_run{m:Mem X} {l:List Act} {lv:AV} {most:Nat} (h:AS m l lv) (hm:most < 1000):Fn [] law14_few [lv,.int .i64 most] m (fun r m'=>r = .bool (few14B l most)∧m'=m):=by
 have hlen:=h.1.len
 refine Fn_of rfl ?_
 simp(disch:=first|assumption|omega|(simp only[zl]<;>omega)|(simp only[zn])) only[law14_few,↓zd,zk,seval,reduceIte,List.map,AV.cells,List.all,AV.one,eqV,eqAll,splice,fillA,List.replicate,resAll,resA,zm,zg]
 refine W_loop (Fw14Inv l most lv m) (most+1) (by unfold FUEL;omega) ⟨0,_,_,rfl,rfl,rfl,by omega,Nat.zero_le _,rfl⟩ ?_
 rintro k e m' ⟨n,x4,x5,rfl,rfl,rfl,hn,hnl,ha⟩
 simp(disch:=first|assumption|omega|(simp only[zl]<;>omega)|(simp only[zn])) only[↓zd,zk,seval,reduceIte,List.map,AV.cells,List.all,AV.one,eqV,eqAll,splice,fillA,List.replicate,resAll,resA,zm,zg,ev_len,hlen]
 have out:(n=most+1∨n=l.length)→few14B l most=decide (l.length≤most):=fun ho=>by
  have:l.take (most+1)=l.take n:=by
   rcases ho with rfl|rfl
   ·rfl
   ·rw[List.take_length,List.take_of_length_le hn]
  simp only[few14B,this,ha,Bool.true_and]
 have hdd:decide ((l.length:Int)≤(most:Int))=decide (l.length≤most):=by
  by_cases h:l.length≤most
  ·rw[decide_eq_true h,decide_eq_true (by omega)]
  ·rw[decide_eq_false h,decide_eq_false (by omega)]
 by_cases h1:n < l.length
 ·have d1:decide ((n:Int) < (l.length:Int))=true:=decide_eq_true (by omega)
  by_cases h2:n≤most
  ·have d2:decide ((n:Int)≤(most:Int))=true:=decide_eq_true (by omega)
   obtain⟨a,hai⟩:∃ a,l[n]?=some a:=⟨_,List.getElem?_eq_getElem h1⟩
   obtain⟨q,o,cap,ro,L,rfl,g1,g2,g3,g4,g5⟩:=h.get hai
   have hal:=(h.2 a (List.mem_of_getElem? hai)).len
   have htk:l.take (n+1)=l.take n++[a]:=by rw[List.take_add_one,hai];rfl
   by_cases h3:a.l.length≤40
   ·have d3:((40:Int) < (a.l.length:Int))=False:=eq_false (by omega)
    simp(disch:=first|assumption|omega|(simp only[zl]<;>omega)|(simp only[zn])) only[↓zd,zk,seval,reduceIte,List.map,AV.cells,List.all,AV.one,eqV,eqAll,splice,fillA,List.replicate,resAll,resA,zm,zg,d1,d2,g1,g5,ev_len,hal,d3]
    refine⟨_,by omega,n+1,_,_,rfl,rfl,rfl,by omega,by omega,?_⟩
    rw[htk,List.all_append,ha]
    simp[h3]
   ·have d3:((40:Int) < (a.l.length:Int))=True:=eq_true (by omega)
    simp(disch:=first|assumption|omega|(simp only[zl]<;>omega)|(simp only[zn])) only[↓zd,zk,seval,reduceIte,List.map,AV.cells,List.all,AV.one,eqV,eqAll,splice,fillA,List.replicate,resAll,resA,zm,zg,d1,d2,g1,g5,ev_len,hal,d3]
    have:few14B l most=false:=by
     simp only[few14B,Bool.and_eq_false_iff]
     left
     rw[List.all_eq_false]
     exact⟨a,List.mem_of_getElem? (i:=n) (by rw[List.getElem?_take,if_pos (by omega)];exact hai),by simpa using h3⟩
    rw[this]
  ·have d2:decide ((n:Int)≤(most:Int))=false:=decide_eq_false (by omega)
   simp(disch:=first|assumption|omega|(simp only[zl]<;>omega)|(simp only[zn])) only[↓zd,zk,seval,reduceIte,List.map,AV.cells,List.all,AV.one,eqV,eqAll,splice,fillA,List.replicate,resAll,resA,zm,zg,d1,d2,ev_len,hlen,hdd]
   rw[out (.inl (by omega)),decide_eq_false (by omega)]
 ·have d1:decide ((n:Int) < (l.length:Int))=false:=decide_eq_false (by omega)
  simp(disch:=first|assumption|omega|(simp only[zl]<;>omega)|(simp only[zn])) only[↓zd,zk,seval,reduceIte,List.map,AV.cells,List.all,AV.one,eqV,eqAll,splice,fillA,List.replicate,resAll,resA,zm,zg,d1,ev_len,hlen,hdd]
  rw[out (.inr (by omega))]
def GIs:List (Nat × AFun X):=[(100,amFunc GAll14 fifo_Line_All),(109,amFunc GRow law14_row),(118,c_fifo_Line_Head),(124,c_ref14_Ahead),(105,c_fifo_Line_Len),(102,aheadF),(119,c_fifo_Line_Has)]
def IsI(a0 a1 a2:AV) (m0:Mem X) (k:Nat) (e:List AV) (m:Mem X):Prop:=∃ (i:Nat) (x5 x6 x7 x8 x9 x10:AV),
 e=[a0,a1,a2,.bool false,.int .i64 i,x5,x6,x7,x8,x9,x10]∧k=2 - i∧i≤2∧Keep m0 m
set_option maxHeartbeats 8000000 in
theorem is14_run{m:Mem X} {a:Nat} {xs:List Int} {v:AV} (H:NL [] m a xs) (hv:RS m xs v) (n:Int) (hx:xs.length < 10000):Fn GIs law14_is [.ptr a 0,v,.int .i64 n] m (fun r m'=>r = .bool true∧Keep m m'):=by
 have a100:assoc (GIs (X:=X)) 100=some (amFunc GAll14 fifo_Line_All):=rfl
 have a109:assoc (GIs (X:=X)) 109=some (amFunc GRow law14_row):=rfl
 have a118:assoc (GIs (X:=X)) 118=some c_fifo_Line_Head:=rfl
 have a124:assoc (GIs (X:=X)) 124=some c_ref14_Ahead:=rfl
 have a105:assoc (GIs (X:=X)) 105=some c_fifo_Line_Len:=rfl
 have a102:assoc (GIs (X:=X)) 102=some aheadF:=rfl
 have a119:assoc (GIs (X:=X)) 119=some (amFunc [] fifo_Line_Has):=rfl
 generalize (GIs (X:=X))=G at a100 a109 a118 a124 a105 a102 a119 ⊢
 refine Fn_of rfl ?_
 simp(disch:=first|assumption|omega|(simp only[zl]<;>omega)|(simp only[zn])) only[law14_is,↓zd,zk,seval,reduceIte,List.map,AV.cells,List.all,AV.one,eqV,eqAll,splice,fillA,List.replicate,resAll,resA,zm,zg]
 refine W_loop (IsI (.ptr a 0) v (.int .i64 n) m) 2 (by unfold FUEL;omega) ⟨0,_,_,_,_,_,_,rfl,rfl,by decide,Keep.refl m⟩ ?_
 rintro k e m' ⟨i,x5,x6,x7,x8,x9,x10,rfl,rfl,hi,hk⟩
 have H':=H.keep hk
 have hv':=hv.k1 hk.k1
 simp(disch:=first|assumption|omega|(simp only[zl]<;>omega)|(simp only[zn])) only[↓zd,zk,seval,reduceIte,List.map,AV.cells,List.all,AV.one,eqV,eqAll,splice,fillA,List.replicate,resAll,resA,zm,zg]
 refine CW_of (fun hc=>?_) (fun hc=>?_)
 ·simp only[decide_eq_true_eq] at hc
  simp(disch:=first|assumption|omega|(simp only[zl]<;>omega)|(simp only[zn])) only[↓zd,zk,seval,reduceIte,List.map,AV.cells,List.all,AV.one,eqV,eqAll,splice,fillA,List.replicate,resAll,resA,zm,zg,a100]
  refine OK_fn (nl_all H' hx) ?_
  rintro v1 m1 ⟨k1,o1⟩
  simp(disch:=first|assumption|omega|(simp only[zl]<;>omega)|(simp only[zn])) only[↓zd,zk,seval,reduceIte,List.map,AV.cells,List.all,AV.one,eqV,eqAll,splice,fillA,List.replicate,resAll,resA,zm,zg,a109]
  refine OK_fn (rowz_run (own_ro o1).1.rz (hv'.k1 k1.k1).1 hx rfl) ?_
  rintro _ m2 ⟨rfl,w2⟩
  simp(disch:=first|assumption|omega|(simp only[zl]<;>omega)|(simp only[zn])) only[↓zd,zk,seval,reduceIte,List.map,AV.cells,List.all,AV.one,eqV,eqAll,splice,fillA,List.replicate,resAll,resA,zm,zg]
  exact⟨_,by omega,i+1,_,_,_,_,_,_,rfl,rfl,by omega,hk.trans (own_row k1 o1 w2)⟩
 ·simp only[decide_eq_false_iff_not] at hc
  have hlen:=hv'.1.len
  have hah:c_ref14_Ahead [v,.int .i64 n] m'=some (.int .i64 (aheadN xs n),m'):=Fn_eq (ahead_run hv'.1 n (by omega))
  have hal:=nl_ahead H' hx n
  have hae:aheadL xs n=aheadN xs n:=rfl
  rw[hae] at hal
  have hln:=nl_len H'
  have hd:decide (0≤aheadN xs n)=hasB xs n:=by
   unfold hasB
   by_cases h:n ∈ xs
   ·rw[decide_eq_true h,decide_eq_true (ahead_ge.2 h)]
   ·rw[decide_eq_false h,decide_eq_false (fun e=>h (ahead_ge.1 e))]
  cases xs with
  | nil =>
   have hh:=nl_head_nil H'
   have hlen0:lenA v=some 0:=hlen
   have hln0:c_fifo_Line_Len [.ptr a 0] m'=some (.int .i64 0,m'):=hln
   simp(disch:=first|assumption|omega|(simp only[zl]<;>omega)|(simp only[zn])) only[↓zd,zk,seval,reduceIte,List.map,AV.cells,List.all,AV.one,eqV,eqAll,splice,fillA,List.replicate,resAll,resA,zm,zg,a118,hh,ev_len,hlen0,a124,hah,a105,hln0,a102,hal,a119]
   refine OK_fn (nl_has H' n) ?_
   rintro _ m2 ⟨rfl,k2⟩
   simp(disch:=first|assumption|omega|(simp only[zl]<;>omega)|(simp only[zn])) only[↓zd,zk,seval,reduceIte,List.map,AV.cells,List.all,AV.one,eqV,eqAll,splice,fillA,List.replicate,resAll,resA,zm,zg,hd]
   exact hk.trans k2
  | cons x xs' =>
   have hh:=nl_head_cons H'
   obtain⟨q,o,cap,ro,L,hv0,h2,_,h4,h5⟩:=hv'.1.val (by simp)
   have hx0:L[o]?=some (.int .i64 x):=h5 0 x rfl
   have hpos:0 < (x :: xs').length:=by simp
   generalize hkk:(x :: xs').length=kk at hpos hv0 hlen hln
   have dg:decide (0 < ((kk:Nat):Int))=true:=decide_eq_true (by omega)
   have ig:(0 < ((kk:Nat):Int))=True:=eq_true (by omega)
   subst hv0
   simp(disch:=first|assumption|omega|(simp only[zl]<;>omega)|(simp only[zn])) only[↓zd,zk,seval,reduceIte,List.map,AV.cells,List.all,AV.one,eqV,eqAll,splice,fillA,List.replicate,resAll,resA,zm,zg,a118,hh,ev_len,hlen,dg,ig,h2,hx0,a124,hah,a105,hln,a102,hal,a119]
   refine OK_fn (nl_has H' n) ?_
   rintro _ m2 ⟨rfl,k2⟩
   simp(disch:=first|assumption|omega|(simp only[zl]<;>omega)|(simp only[zn])) only[↓zd,zk,seval,reduceIte,List.map,AV.cells,List.all,AV.one,eqV,eqAll,splice,fillA,List.replicate,resAll,resA,zm,zg,hd]
   exact hk.trans k2
end Go.Am.F15
end
