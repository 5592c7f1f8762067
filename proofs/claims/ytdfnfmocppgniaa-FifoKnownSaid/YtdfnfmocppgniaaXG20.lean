import Derived.Test.YtdfnfmocppgniaaXG19
set_option linter.unusedSimpArgs false
set_option linter.unusedVariables false
section
namespace Go.Am.F15
open Go.Am.F10 (iC iC_at iC_len iC_one iC_app SI SI.val same_run Nx si_take si_drop si_row cutA dropA pick_eq)
open Go.Am.F06 (sqN sqT)
open Go.Am.F14 (law14_works law14_row law14_FifoFirst law14_FifoPasses law14_FifoPlays law14_few law14_does law14_is law14_FifoKnown fifo_Pass ref14_Pop ref14_Remove ref14_Pass)
variable {X:Type}
theorem of_no{m:Mem X} {xs:List Int} {w:Bool} {v:AV} (hv:SI m w xs v) (hx:xs.length < 10000) (hnd:¬ xs.Nodup):Fn GOf fifo_Of [v] m (fun r m'=>r = .tup [.nilp,.int .i64 140]∧Keep m m'):=by
 have a101:assoc (GOf (X:=X)) 101=some (amFunc [(123,c_fifo_Line_fits)] fifo_Line_Push):=rfl
 generalize (GOf (X:=X))=G at a101 ⊢
 refine Fn_of rfl ?_
 have hk0:=Keep.app m [Chunk.cells 3 false [AV.nilm,.int .i64 0,.int .i64 0]]
 have H0:LN (m++[Chunk.cells 3 false [AV.nilm,.int .i64 0,.int .i64 0]]) m.length none []:=.inl ⟨rfl,rfl,0,0,get_concat⟩
 simp(disch:=first|assumption|omega|(simp only[zl]<;>omega)|(simp only[zn])) only[fifo_Of,↓zd,zk,seval,reduceIte,List.map,AV.cells,List.all,AV.one,eqV,eqAll,splice,fillA,List.replicate,resAll,resA,zm,zg,a101]
 refine OK_fn (push_run H0 (hv.keep hk0) (by omega) (by simp)) ?_
 rintro _ m1 ⟨rfl,j',hkl,hj,hL⟩
 have hf:fitsB [] xs=false:=by rw[fits_nil];exact decide_eq_false hnd
 rw[hf]
 simp(disch:=first|assumption|omega|(simp only[zl]<;>omega)|(simp only[zn])) only[↓zd,zk,seval,reduceIte,List.map,AV.cells,List.all,AV.one,eqV,eqAll,splice,fillA,List.replicate,resAll,resA,zm,zg]
 refine⟨Nat.le_trans hk0.1 hkl.1,fun k hk=>(hkl.2 k (by simp;omega) (by omega) (fun e=>by cases e)).trans (hk0.2 k hk)⟩
def GW14:List (Nat × AFun X):=[(107,amFunc GOf fifo_Of),(101,amFunc GPush fifo_Line_Push),(100,amFunc GAll14 fifo_Line_All),(109,amFunc GRow law14_row),(102,aheadF),(104,amFunc GRem fifo_Line_Remove),(103,amFunc GPop fifo_Line_Pop)]
set_option maxHeartbeats 8000000 in
theorem works14_run{m:Mem X}:Fn GW14 law14_works [] m (fun r m'=>r = .bool true∧Keep m m'):=by
 have a107:assoc (GW14 (X:=X)) 107=some (amFunc GOf fifo_Of):=rfl
 have a101:assoc (GW14 (X:=X)) 101=some (amFunc GPush fifo_Line_Push):=rfl
 have a100:assoc (GW14 (X:=X)) 100=some (amFunc GAll14 fifo_Line_All):=rfl
 have a109:assoc (GW14 (X:=X)) 109=some (amFunc GRow law14_row):=rfl
 have a102:assoc (GW14 (X:=X)) 102=some aheadF:=rfl
 have a104:assoc (GW14 (X:=X)) 104=some (amFunc GRem fifo_Line_Remove):=rfl
 have a103:assoc (GW14 (X:=X)) 103=some (amFunc GPop fifo_Line_Pop):=rfl
 generalize (GW14 (X:=X))=G at a107 a101 a100 a109 a102 a104 a103 ⊢
 have r2:repeatL 2 [AV.int .i64 0]=[.int .i64 0,.int .i64 0]:=rfl
 have r3:repeatL 3 [AV.int .i64 0]=[.int .i64 0,.int .i64 0,.int .i64 0]:=rfl
 refine Fn_of rfl ?_
 have k0:=Keep.app m [Chunk.cells 1 false [AV.int .i64 5,.int .i64 3,.int .i64 9]]
 have s0:SI (m++[Chunk.cells 1 false [AV.int .i64 5,.int .i64 3,.int .i64 9]]) true [5,3,9] (.sl m.length 0 3 (some 3)):=lits_si (xs:=[5,3,9]) rfl
 simp(disch:=first|assumption|omega|(simp only[zl]<;>omega)|(simp only[zn])) only[law14_works,↓zd,zk,seval,reduceIte,List.map,AV.cells,List.all,AV.one,eqV,eqAll,splice,fillA,List.replicate,resAll,resA,zm,zg,evA,r3,a107]
 refine OK_fn (of_run s0 (by decide) (by decide)) ?_
 rintro _ m1 ⟨i,rfl,k1,H1⟩
 have H1:NL m m1 i [5,3,9]:=by
  obtain⟨j,h1,h2,h3⟩:=H1
  exact⟨j,h1,Nat.le_trans k0.1 h2,fun k e=>Nat.le_trans k0.1 (h3 k e)⟩
 have K1:=k0.trans k1
 have s2:SI (m1++[Chunk.cells 1 false [AV.int .i64 7,.int .i64 3]]) true [7,3] (.sl m1.length 0 2 (some 2)):=lits_si (xs:=[7,3]) rfl
 have k2:=Keep.app m1 [Chunk.cells 1 false [AV.int .i64 7,.int .i64 3]]
 simp(disch:=first|assumption|omega|(simp only[zl]<;>omega)|(simp only[zn])) only[↓zd,zk,seval,reduceIte,List.map,AV.cells,List.all,AV.one,eqV,eqAll,splice,fillA,List.replicate,resAll,resA,zm,zg,evA,r2,a101]
 refine OK_fn (nl_push (H1.keep k2) (K1.trans k2) s2 (by decide) (by decide)) ?_
 rintro _ m2 ⟨rfl,H2,K2,_⟩
 have f2:fitsB [5,3,9] [7,3]=false:=by decide
 rw[f2] at H2 ⊢
 simp(disch:=first|assumption|omega|(simp only[zl]<;>omega)|(simp only[zn])) only[↓zd,zk,seval,reduceIte,List.map,AV.cells,List.all,AV.one,eqV,eqAll,splice,fillA,List.replicate,resAll,resA,zm,zg,a100]
 refine OK_fn (nl_all H2 (by decide)) ?_
 rintro v3 m3 ⟨k3,o3⟩
 have s4:SI (m3++[Chunk.cells 1 false [AV.int .i64 5,.int .i64 3,.int .i64 9]]) true [5,3,9] (.sl m3.length 0 3 (some 3)):=lits_si (xs:=[5,3,9]) rfl
 have k4:=Keep.app m3 [Chunk.cells 1 false [AV.int .i64 5,.int .i64 3,.int .i64 9]]
 simp(disch:=first|assumption|omega|(simp only[zl]<;>omega)|(simp only[zn])) only[↓zd,zk,seval,reduceIte,List.map,AV.cells,List.all,AV.one,eqV,eqAll,splice,fillA,List.replicate,resAll,resA,zm,zg,evA,r3,a109]
 refine OK_fn (row_run ((own_ro (own_keep o3 k4)).1) s4 (by decide)) ?_
 rintro _ m5 ⟨rfl,w5⟩
 have k5:=own_row (k3.trans k4) (own_keep o3 k4) w5
 have K5:=K2.trans k5
 have H5:=H2.keep k5
 have s6:SI (m5++[Chunk.cells 1 false [AV.int .i64 7]]) true [7] (.sl m5.length 0 1 (some 1)):=lits_si (xs:=[7]) rfl
 have k6:=Keep.app m5 [Chunk.cells 1 false [AV.int .i64 7]]
 simp(disch:=first|assumption|omega|(simp only[zl]<;>omega)|(simp only[zn])) only[↓zd,zk,seval,reduceIte,List.map,AV.cells,List.all,AV.one,eqV,eqAll,splice,fillA,List.replicate,resAll,resA,zm,zg,evA,repeatL_one,a101]
 refine OK_fn (nl_push (H5.keep k6) (K5.trans k6) s6 (by decide) (by decide)) ?_
 rintro _ m6 ⟨rfl,H6,K6,_⟩
 have f6:fitsB [5,3,9] [7]=true:=by decide
 have H6:NL m m6 i [5,3,9,7]:=by simpa [f6] using H6
 have e6:=nl_ahead H6 (by decide) 7
 have d6:aheadL [5,3,9,7] 7=3:=by decide
 rw[d6] at e6
 simp(disch:=first|assumption|omega|(simp only[zl]<;>omega)|(simp only[zn])) only[↓zd,zk,seval,reduceIte,List.map,AV.cells,List.all,AV.one,eqV,eqAll,splice,fillA,List.replicate,resAll,resA,zm,zg,f6,a102,e6,a104]
 refine OK_fn (nl_remove (p:=[5]) (q:=[9,7]) H6 K6) ?_
 rintro _ m7 ⟨rfl,H7,K7,_⟩
 have H7:NL m m7 i [5,9,7]:=H7
 simp(disch:=first|assumption|omega|(simp only[zl]<;>omega)|(simp only[zn])) only[↓zd,zk,seval,reduceIte,List.map,AV.cells,List.all,AV.one,eqV,eqAll,splice,fillA,List.replicate,resAll,resA,zm,zg,a103]
 refine OK_fn (nl_pop H7 K7 2 (by decide)) ?_
 rintro v8 m8 ⟨⟨H8,K8,_⟩,o8⟩
 have p8:popN [5,9,7] 2=2:=by decide
 rw[p8] at H8 o8
 have H8:NL m m8 i [7]:=H8
 have s9:SI (m8++[Chunk.cells 1 false [AV.int .i64 5,.int .i64 9]]) true [5,9] (.sl m8.length 0 2 (some 2)):=lits_si (xs:=[5,9]) rfl
 have k9:=Keep.app m8 [Chunk.cells 1 false [AV.int .i64 5,.int .i64 9]]
 simp(disch:=first|assumption|omega|(simp only[zl]<;>omega)|(simp only[zn])) only[↓zd,zk,seval,reduceIte,List.map,AV.cells,List.all,AV.one,eqV,eqAll,splice,fillA,List.replicate,resAll,resA,zm,zg,evA,r2,a109]
 refine OK_fn (row_run (xs:=[5,9]) ((own_ro (own_keep o8 k9)).1) s9 (by decide)) ?_
 rintro _ m9 ⟨rfl,w9⟩
 obtain⟨ro8,li8⟩:=own_ro (xs:=[5,9]) o8
 have rk8:=(own_ro (xs:=[5,9]) (own_keep o8 k9)).1
 have H9:NL m m9 i [7]:=(H8.keep k9).wo rk8 w9
 have K9:Keep m m9:=keep_wo (K8.trans k9) li8 K7.1 w9
 simp(disch:=first|assumption|omega|(simp only[zl]<;>omega)|(simp only[zn])) only[↓zd,zk,seval,reduceIte,List.map,AV.cells,List.all,AV.one,eqV,eqAll,splice,fillA,List.replicate,resAll,resA,zm,zg,a100]
 refine OK_fn (nl_all H9 (by decide)) ?_
 rintro v10 m10 ⟨k10,o10⟩
 have s11:SI (m10++[Chunk.cells 1 false [AV.int .i64 7]]) true [7] (.sl m10.length 0 1 (some 1)):=lits_si (xs:=[7]) rfl
 have k11:=Keep.app m10 [Chunk.cells 1 false [AV.int .i64 7]]
 simp(disch:=first|assumption|omega|(simp only[zl]<;>omega)|(simp only[zn])) only[↓zd,zk,seval,reduceIte,List.map,AV.cells,List.all,AV.one,eqV,eqAll,splice,fillA,List.replicate,resAll,resA,zm,zg,evA,repeatL_one,a109]
 refine OK_fn (row_run ((own_ro (own_keep o10 k11)).1) s11 (by decide)) ?_
 rintro _ m11 ⟨rfl,w11⟩
 simp(disch:=first|assumption|omega|(simp only[zl]<;>omega)|(simp only[zn])) only[↓zd,zk,seval,reduceIte,List.map,AV.cells,List.all,AV.one,eqV,eqAll,splice,fillA,List.replicate,resAll,resA,zm,zg]
 exact K9.trans (own_row (k10.trans k11) (own_keep o10 k11) w11)
end Go.Am.F15
end
section
namespace Go.Am.F15
open Go.Am.F10 (iC iC_at iC_len iC_one iC_app SI SI.val same_run Cf cfC rightP right_run Nx si_take si_drop si_row cutA dropA pick_eq)
open Go.Am.F06 (sqN sqT)
variable {X:Type}
theorem JN.up{m m1:Mem X} {j j':Option Nat} (h:JN m1 j j') (hl:m.length≤m1.length):JN m j j':=(JN.refl m _).trans h hl
theorem PN.up{m m1:Mem X} {P P':Pla} (h:PN m1 P P') (hl:m.length≤m1.length):PN m P P':=by
 obtain⟨a1,a2,a3,a4,a5,a6,a7⟩:=h
 exact⟨a1,a2,a3,a4,a5.up hl,a6.up hl,a7.up hl⟩
def InJ(A B C:List AV) (n:Nat) (v:AV) (m0:Mem X) (k:Nat) (e:List AV) (m:Mem X):Prop:=∃ (j:Nat) (x36:AV),
 e=A ++ .int .i64 j :: (B++x36 :: C)∧k=n - j∧j≤n∧WO v m0 m∧∀ q,v = .sl q 0 n none→∃ L,m[q]?=some (.cells 1 false L)∧L.length=n
end Go.Am.F15
end
section
namespace Go.Am.F15
open Go.Am.F10 (iC iC_at iC_len iC_one iC_app SI SI.val same_run Cf cfC rightP right_run Nx si_take si_drop si_row cutA dropA pick_eq)
open Go.Am.F06 (sqN sqT)
variable {X:Type}
def RB(m:Mem X) (b:Nat) (s:Pc):Prop:=∃ gv pv mv,m[b]?=some (.cells 10 false (rC s.c gv pv mv s.spin))∧RW m s.g gv∧RW m s.ps pv∧RW m s.ms mv
theorem RB.keep{m m':Mem X} {b:Nat} {s:Pc} (h:RB m b s) (k:Keep m m'):RB m' b s:=by
 obtain⟨gv,pv,mv,h0,h1,h2,h3⟩:=h
 exact⟨gv,pv,mv,k.get h0,h1.k1 k.k1,h2.k1 k.k1,h3.k1 k.k1⟩
theorem AS.row{m:Mem X} {l:List Act} {v:AV} (h:AS m l v) {i:Nat} {a:Act} (ha:l[i]?=some a):∃ q o cap ro L,v = .sl q o l.length cap∧m[q]?=some (.cells 3 ro L)∧o+l.length * 3≤L.length∧L[o+i * 3+2]?=some a.v∧(L.drop (o+i * 3)).take 3=aC a:=by
 have hi:i < l.length:=(List.getElem?_eq_some_iff.1 ha).1
 obtain⟨q,o,cap,ro,L,h1,h2,h3,h4,_⟩:=h.1.at (by omega)
 refine⟨q,o,cap,ro,L,h1,h2,h4,?_,?_⟩
 ·rw[Nat.add_assoc,sl_get h3 (by omega),rows_at aC_len ha (by decide:2 < 3)];rfl
 ·have:=rows_part aC_len ha
  rw[← h3,List.drop_take,List.take_take,List.drop_drop,Nat.min_eq_left (by omega)] at this
  exact this
end Go.Am.F15
end
section
namespace Go.Am.F15
open Go.Am.F10 (iC iC_at iC_len iC_one iC_app SI SI.val same_run Cf cfC rightP right_run Nx si_take si_drop si_row cutA dropA pick_eq)
open Go.Am.F06 (sqN sqT)
variable {X:Type}
end Go.Am.F15
end
section
namespace Go.Am.F15
open Go.Am.F10 (iC iC_at iC_len iC_one iC_app SI SI.val same_run Cf cfC rightP right_run Nx si_take si_drop si_row cutA dropA madeC made_eq pick_eq)
open Go.Am.F06 (sqN sqT)
variable {X:Type}
end Go.Am.F15
end
section
namespace Go.Am.F15
open Go.Am.F10 (iC iC_at iC_len iC_one iC_app SI SI.val same_run Cf cfC rightP right_run Nx si_take si_drop si_row cutA dropA pick_eq)
open Go.Am.F06 (sqN sqT)
variable {X:Type}
end Go.Am.F15
end
section
namespace Go.Am.F15
open Go.Am.F10 (iC iC_at iC_len iC_one iC_app SI SI.val same_run Nx si_take si_drop si_row cutA dropA pick_eq)
open Go.Am.F06 (sqN sqT)
open Go.Am.F14 (law14_works law14_row law14_FifoFirst law14_FifoPasses law14_FifoPlays law14_few law14_does law14_is law14_FifoKnown fifo_Pass ref14_Pop ref14_Remove ref14_Pass)
variable {X:Type}
theorem own_lv{m m1:Mem X} {xs:List Int} {v:AV} (h:Go.Am.Own m m1 1 xs.length (iC xs) v):LV m m1 xs v:=by
 refine⟨own_si h,?_⟩
 rcases h with⟨_,_,rfl⟩|⟨q,rfl,h2,h3,h4⟩
 ·exact .inl rfl
 ·exact .inr ⟨q,0,_,_,rfl,h2,h3,h4,by rw[iC_len];omega⟩
theorem LV.cut{m0 m:Mem X} {xs:List Int} {v:AV} (h:LV m0 m xs v) {k:Nat} (hk:k≤xs.length):LV m0 m (xs.take k) (cutA v k):=by
 refine⟨(si_take h.1 h.nx hk).2,?_⟩
 rcases h.2 with rfl|⟨q,o,n,l,rfl,h2,h3,h4⟩
 ·exact .inl rfl
 ·have hn:n=xs.length:=by have:=h.1.len;simp only[lenA,Option.some.injEq] at this;exact this
  exact .inr ⟨q,o,k,l,rfl,h2,h3,h4.1,by omega⟩
theorem NL.push{m0 m m':Mem X} {i:Nat} {xs:List Int} (h:NL m0 m i xs) (hk:∀ k,k < m.length→(∀ l,m[k]?≠some (Chunk.cells 1 false l))→m'[k]?=m[k]?):NL m0 m' i xs:=by
 obtain⟨j,H,b,c⟩:=h
 refine⟨j,H.at (hk _ H.lt.1 fun l e=>?_) (fun k e=>hk _ (H.lt.2 k e).1 fun l e'=>?_),b,c⟩
 ·obtain⟨l',hc⟩:=H.cell
  rw[hc] at e;cases e
 ·obtain⟨tb,c,ht⟩:=H.tab e
  rw[ht] at e';cases e'
theorem nl_app{m0 m:Mem X} {i:Nat} {w:Bool} {xs zs ys:List Int} {v y:AV} (H:NL m0 m i zs) (hk:Keep m0 m) (h:LV m0 m xs v) (hy:SI m w ys y) (hl:xs.length≤100000) (hl2:ys.length≤100000) :
  ∃ v' m',appendA 1 8 v y m=some (v',m')∧LV m0 m' (xs++ys) v'∧Keep m0 m'∧NL m0 m' i zs:=by
 obtain⟨v',m',h1,h2,h3,h4⟩:=lv_push h hy hl hl2 hk.1
 exact⟨v',m',h1,h2,⟨Nat.le_trans hk.1 h3,fun k hl=>(h4 k (Nat.lt_of_lt_of_le hl hk.1) (.inr hl)).trans (hk.2 k hl)⟩,H.push fun k a b=>h4 k a (.inl b)⟩
def GFf:List (Nat × AFun X):=[(99,amFunc GW14 law14_works),(100,amFunc GAll14 fifo_Line_All),(87,c_kit_Pick),(101,amFunc GPush fifo_Line_Push),(102,aheadF),(103,amFunc GPop fifo_Line_Pop),(104,amFunc GRem fifo_Line_Remove),(105,c_fifo_Line_Len)]
def ffLoop:AC:=match sqN 4 law14_FifoFirst.body with | .seq _ (.block _ (.loop b))=>b|c=>c
def ffB:AC:=match ffLoop with | .seq _ (.seq (.block _ b) _)=>b|c=>c
def ffC:AC:=match ffLoop with | .seq c _=>c|c=>c
def ffI:AC:=match ffLoop with | .seq _ (.seq _ i)=>i|c=>c
def ffR:AC:=.region [⟨.mov,[.c (.int .i64 0)],some 4,none⟩]
def ffEnd:AC:=sqT 5 law14_FifoFirst.body
def ffSW:AC:=sqN 2 ffB
def ffT:AC:=sqT 3 ffB
theorem ff_body:law14_FifoFirst.body = .seq (sqN 0 law14_FifoFirst.body) (.seq (sqN 1 law14_FifoFirst.body) (.seq (sqN 2 law14_FifoFirst.body) (.seq (sqN 3 law14_FifoFirst.body)
  (.seq (.seq ffR (.block 0 (.loop (.seq ffC (.seq (.block 1 (.seq (sqN 0 ffB) (.seq (sqN 1 ffB) (.seq ffSW ffT)))) ffI))))) ffEnd)))):=rfl
def Up(last:Int) (xs:List Int) (i:Int):Prop:=(last :: xs).Pairwise (· < ·)∧∀ x ∈ last :: xs,x < i
def FfA(m0:Mem X) (a0:AV) (lb i:Nat) (e:List AV) (m:Mem X):Prop:=∃ (last:Int) (xs:List Int) (v5 x6 x7 x8 x9 x10 x11 x12 x13 x14 x15 x16 x17 x18 x19 x20 x21 x22 x23:AV),
 e=[a0,.bool false,.ptr lb 0,.int .i64 last,.int .i64 i,v5,x6,x7,x8,x9,x10,x11,x12,x13,x14,x15,x16,x17,x18,x19,x20,x21,x22,x23]∧Keep m0 m∧NL m0 m lb xs∧LV m0 m xs v5∧Up last xs (i+1)∧xs.length≤i+1
theorem Up.push{last:Int} {xs:List Int} {i:Int} (h:Up last xs i):Up last (xs++[i]) (i+1):=by
 obtain⟨h1,h2⟩:=h
 refine⟨?_,fun x hx=>?_⟩
 ·rw[← List.cons_append,List.pairwise_append]
  exact⟨h1,by simp,fun a ha b hb=>by simp at hb;subst hb;exact h2 a ha⟩
 ·rw[← List.cons_append,List.mem_append] at hx
  rcases hx with hx|hx
  ·have:=h2 x hx;omega
  ·simp at hx;omega
theorem Up.next{last:Int} {xs:List Int} {i:Int} (h:Up last xs i):Up last xs (i+1):=⟨h.1,fun x hx=>by have:=h.2 x hx;omega⟩
theorem Up.sub{last:Int} {xs ys:List Int} {i:Int} (h:Up last xs i) (hs:ys.Sublist xs):Up last ys i:=⟨h.1.sublist (hs.cons_cons last),fun x hx=>h.2 x ((hs.cons_cons last).subset hx)⟩
theorem Up.drop{last lst:Int} {xs:List Int} {i:Int} {n:Nat} (h:Up last xs i) (hn:(last :: xs)[n]?=some lst):Up lst (xs.drop n) i:=by
 have hd:lst :: xs.drop n=(last :: xs).drop n:=by
  have hl:=(List.getElem?_eq_some_iff.1 hn).1
  rw[List.drop_eq_getElem_cons hl,(List.getElem?_eq_some_iff.1 hn).2]
  rfl
 exact⟨by rw[hd];exact h.1.sublist (List.drop_sublist _ _),fun x hx=>h.2 x ((List.drop_sublist n (last :: xs)).subset (by rw[← hd];exact hx))⟩
theorem ahead_end{xs:List Int} {x:Int} (h:x ∉ xs):aheadL (xs++[x]) x=xs.length:=by
 unfold aheadL
 rw[if_pos (by simp),List.idxOf_append,if_neg h]
 simp
theorem ahead_nth{xs:List Int} {x:Int} {n:Nat} (h:xs[n]?=some x) (nd:xs.Nodup):aheadL xs x=n:=by
 have hl:=(List.getElem?_eq_some_iff.1 h).1
 have he:=(List.getElem?_eq_some_iff.1 h).2
 unfold aheadL
 rw[if_pos (List.mem_of_getElem? h),← he,nd.idxOf_getElem]
end Go.Am.F15
end
section
namespace Go.Am.F15
open Go.Am.F10 (iC iC_at iC_len iC_one iC_app SI SI.val same_run Nx si_take si_drop si_row cutA dropA pick_eq)
open Go.Am.F06 (sqN sqT)
open Go.Am.F14 (law14_works law14_row law14_FifoFirst law14_FifoPasses law14_FifoPlays law14_few law14_does law14_is law14_FifoKnown fifo_Pass ref14_Pop ref14_Remove ref14_Pass)
variable {X:Type}
theorem fits_one{xs:List Int} {x:Int}:fitsB xs [x]=decide (x ∉ xs):=by simp[fitsB]
def FfP(e0:AV→AV→AV→AV→List AV) (last:Int) (xs:List Int) (n:Nat) (m0:Mem X) (k:Nat) (e:List AV) (m:Mem X):Prop:=∃ (j:Nat) (lst:Int) (x19 x20:AV),
 e=e0 (.int .i64 lst) (.int .i64 j) x19 x20∧m=m0∧k=n - j∧j≤n∧(last :: xs)[j]?=some lst
theorem Up.lt{last lst x:Int} {xs:List Int} {i:Int} {j:Nat} (h:Up last xs i) (h1:(last :: xs)[j]?=some lst) (h2:xs[j]?=some x):lst < x:=by
 have h3:(last :: xs)[j+1]?=some x:=h2
 have l3:=(List.getElem?_eq_some_iff.1 h3)
 have l1:=(List.getElem?_eq_some_iff.1 h1)
 have:=List.pairwise_iff_getElem.1 h.1 j (j+1) l1.1 l3.1 (by omega)
 rw[l1.2,l3.2] at this
 exact this
set_option maxRecDepth 100000 in
set_option maxHeartbeats 16000000 in
theorem ffSW_run{m0 m:Mem X} {a0:AV} {lb i:Nat} {ops xs:List Int} {last z g:Int} {v5 x7 x8 x9 x10 x11 x12 x13 x14 x15 x16 x17 x18 x19 x20 x21 x22 x23:AV} (hA:SI m0 false ops a0) (hz:ops[i]?=some z) (hi:i < 100) (hg0:0≤g) (hg5:g < 5)
  (hk:Keep m0 m) (H:NL m0 m lb xs) (h5:LV m0 m xs v5) (hu:Up last xs i) (hl:xs.length≤i) :
  W GFf ffSW (fun y e m'=>y = .normal∧FfA m0 a0 lb i e m') [a0,.bool false,.ptr lb 0,.int .i64 last,.int .i64 i,v5,.int .i64 g,x7,x8,x9,x10,x11,x12,x13,x14,x15,x16,x17,x18,x19,x20,x21,x22,x23] m:=by
 have a87:assoc (GFf (X:=X)) 87=some c_kit_Pick:=rfl
 have a101:assoc (GFf (X:=X)) 101=some (amFunc GPush fifo_Line_Push):=rfl
 have a102:assoc (GFf (X:=X)) 102=some aheadF:=rfl
 have a103:assoc (GFf (X:=X)) 103=some (amFunc GPop fifo_Line_Pop):=rfl
 have a104:assoc (GFf (X:=X)) 104=some (amFunc GRem fifo_Line_Remove):=rfl
 generalize (GFf (X:=X))=G at a87 a101 a102 a103 a104 ⊢
 obtain⟨q,o,cap,ro,L,rfl,q0,_,q4,q5⟩:=hA.val (by have:=(List.getElem?_eq_some_iff.1 hz).1;omega)
 have hil:=(List.getElem?_eq_some_iff.1 hz).1
 have qz:=q5 i z hz
 have q0':=hk.get q0
 have hpick:∀ (M:Mem X) (k:Int),c_kit_Pick [.int .i64 k,.int .i64 4] M=some (.int .i64 (k % 4),M):=fun M k=>pick_eq M k 4 (by decide) (by decide)
 have hk0:0≤z % 4:=Int.emod_nonneg _ (by decide)
 have hk8:z % 4 < 4:=Int.emod_lt_of_pos _ (by decide)
 generalize hkk:z % 4=kk at hk0 hk8
 have hlen:=h5.1.len
 have hin:(i:Int) ∉ xs:=fun h=>by have:=hu.2 i (List.mem_cons_of_mem _ h);omega
 have fT:fitsB xs [(i:Int)]=true:=by rw[fits_one];exact decide_eq_true hin
 have fF:fitsB (xs++[(i:Int)]) [(i:Int)]=false:=by rw[fits_one];exact decide_eq_false (by simp)
 have d1:(kk=0∨kk=1)∨kk=2∨kk=3:=by omega
 rcases d1 with d1|rfl|rfl
 ·have k1:=Keep.app m [Chunk.cells 1 false [AV.int .i64 i]]
  have s1:SI (m++[Chunk.cells 1 false [AV.int .i64 i]]) true [(i:Int)] (.sl m.length 0 1 (some 1)):=lit_si
  have hpush:=nl_push (H.keep k1) (hk.trans k1) s1 (by simp) (by omega)
  rw[fT] at hpush
  rcases d1 with rfl|rfl
  all_goals
   simp(disch:=first|assumption|omega|(simp only[zl]<;>omega)|(simp only[zn])) only[ffSW,ffB,ffLoop,sqN,law14_FifoFirst,↓zd,zk,seval,reduceIte,List.map,AV.cells,List.all,AV.one,eqV,eqAll,splice,fillA,List.replicate,resAll,resA,zm,zg,q0',qz,a87,hpick,hkk,evA,repeatL_one,a101]
   refine OK_fn hpush ?_
   rintro _ m2 ⟨rfl,H2,K2,kk2⟩
   have k3:=Keep.app m2 [Chunk.cells 1 false [AV.int .i64 i]]
   have s3:SI (m2++[Chunk.cells 1 false [AV.int .i64 i]]) true [(i:Int)] (.sl m2.length 0 1 (some 1)):=lit_si
   simp(disch:=first|assumption|omega|(simp only[zl]<;>omega)|(simp only[zn])) only[↓zd,zk,seval,reduceIte,List.map,AV.cells,List.all,AV.one,eqV,eqAll,splice,fillA,List.replicate,resAll,resA,zm,zg,evA,repeatL_one,a101]
   refine OK_fn (nl_push (H2.keep k3) (K2.trans k3) s3 (by simp) (by simp;omega)) ?_
   rintro _ m4 ⟨rfl,H4,K4,kk4⟩
   simp only[if_true] at H4
   rw[fF] at H4
   have H4:NL m0 m4 lb (xs++[(i:Int)]):=H4
   have ea:=nl_ahead H4 (by simp;omega) i
   rw[ahead_end hin] at ea
   have h5':=h5.kk (k1.kk.trans (kk2.trans (k3.kk.trans kk4)))
   have k6:=Keep.app m4 [Chunk.cells 1 false [AV.int .i64 i]]
   have s6:SI (m4++[Chunk.cells 1 false [AV.int .i64 i]]) true [(i:Int)] (.sl m4.length 0 1 (some 1)):=lit_si
   obtain⟨v',m7,hap,L7,K7,H7⟩:=nl_app (H4.keep k6) (K4.trans k6) (h5'.keep k6) s6 (by omega) (by simp)
   simp(disch:=first|assumption|omega|(simp only[zl]<;>omega)|(simp only[zn])) only[↓zd,zk,seval,reduceIte,List.map,AV.cells,List.all,AV.one,eqV,eqAll,splice,fillA,List.replicate,resAll,resA,zm,zg,fF,a102,ea,ev_len,hlen,evA,repeatL_one,hap]
   exact⟨last,xs++[(i:Int)],_,_,_,_,_,_,_,_,_,_,_,_,_,_,_,_,_,_,_,rfl,K7,H7,L7,hu.push,by simp;omega⟩
 ·simp(disch:=first|assumption|omega|(simp only[zl]<;>omega)|(simp only[zn])) only[ffSW,ffB,ffLoop,sqN,law14_FifoFirst,↓zd,zk,seval,reduceIte,List.map,AV.cells,List.all,AV.one,eqV,eqAll,splice,fillA,List.replicate,resAll,resA,zm,zg,q0',qz,a87,hpick,hkk,a103]
  refine OK_fn (nl_pop H hk g (by omega)) ?_
  rintro v7 m2 ⟨⟨H2,K2,kk2⟩,o2⟩
  have hl7:=(own_si o2).len
  have hpn:popN xs g≤xs.length:=by unfold popN;omega
  have hlt:(xs.take (popN xs g)).length=popN xs g:=by rw[List.length_take];omega
  have hmin:(if (xs.length:Int) < g then(xs.length:Int) else g)=((popN xs g:Nat):Int):=by unfold popN;split<;>omega
  rw[hlt] at hl7
  have h5':=h5.kk kk2
  have hlen5:=h5'.1.len
  simp(disch:=first|assumption|omega|(simp only[zl]<;>omega)|(simp only[zn])) only[↓zd,zk,seval,reduceIte,List.map,AV.cells,List.all,AV.one,eqV,eqAll,splice,fillA,List.replicate,resAll,resA,zm,zg,ev_len,hl7,hlen,hmin]
  refine W_loop (FfP (fun l j y19 y20=>[.sl q o ops.length cap,.bool false,.ptr lb 0,l,.int .i64 i,v5,.int .i64 g,v7,j,x9,x10,x11,.int .i64 2,x13,x14,.bool false,x16,.bool true,.bool false,y19,y20,x21,x22,x23]) last xs (popN xs g) m2) (popN xs g) (by unfold FUEL;omega) ⟨0,last,_,_,rfl,rfl,rfl,Nat.zero_le _,rfl⟩ ?_
  rintro k e m' ⟨j,lst,y19,y20,rfl,rfl,rfl,hj,hlst⟩
  simp(disch:=first|assumption|omega|(simp only[zl]<;>omega)|(simp only[zn])) only[↓zd,zk,seval,reduceIte,List.map,AV.cells,List.all,AV.one,eqV,eqAll,splice,fillA,List.replicate,resAll,resA,zm,zg,ev_len,hl7]
  refine CW_of (fun hc=>?_) (fun hc=>?_)
  ·simp only[decide_eq_true_eq] at hc
   obtain⟨x,hx⟩:∃ x,xs[j]?=some x:=⟨_,List.getElem?_eq_getElem (by omega)⟩
   have hx7:(xs.take (popN xs g))[j]?=some x:=by rw[List.getElem?_take,if_pos (by omega)];exact hx
   obtain⟨p7,o7,c7,r7,L7,hv7,g7,_,b7,at7⟩:=(own_si o2).val (by omega)
   obtain⟨p5,o5,c5,r5,L5,hv5,g5,_,b5,at5⟩:=h5'.1.val (by omega)
   rw[hlt] at hv7
   subst hv7
   subst hv5
   have hlx:=hu.lt hlst hx
   have dle:decide (x≤lst)=false:=decide_eq_false (by omega)
   simp(disch:=first|assumption|omega|(simp only[zl]<;>omega)|(simp only[zn])) only[↓zd,zk,seval,reduceIte,List.map,AV.cells,List.all,AV.one,eqV,eqAll,splice,fillA,List.replicate,resAll,resA,zm,zg,g7,at7 j x hx7,g5,at5 j x hx,dle]
   exact⟨_,by omega,j+1,x,_,_,rfl,rfl,rfl,by omega,hx⟩
  ·simp only[decide_eq_false_iff_not] at hc
   have hjn:j=popN xs g:=by omega
   subst hjn
   obtain⟨t1,t2⟩:=si_drop h5'.1 h5'.nx (k:=popN xs g) hpn
   have p0:(0≤((popN xs g:Nat):Int))=True:=eq_true (by omega)
   simp(disch:=first|assumption|omega|(simp only[zl]<;>omega)|(simp only[zn])) only[↓zd,zk,seval,reduceIte,List.map,AV.cells,List.all,AV.one,eqV,eqAll,splice,fillA,List.replicate,resAll,resA,zm,zg,evA,ev_len,hl7,p0,Int.toNat_natCast,t1]
   exact⟨lst,xs.drop (popN xs g),_,_,_,_,_,_,_,_,_,_,_,_,_,_,_,_,_,_,_,rfl,K2,H2,h5'.drop hpn,(hu.drop hlst).next,by rw[List.length_drop];omega⟩
 ·by_cases hx0:xs.length=0
  ·have hx:xs=[]:=List.length_eq_zero_iff.1 hx0
   simp(disch:=first|assumption|omega|(simp only[zl]<;>omega)|(simp only[zn])) only[ffSW,ffB,ffLoop,sqN,law14_FifoFirst,↓zd,zk,seval,reduceIte,List.map,AV.cells,List.all,AV.one,eqV,eqAll,splice,fillA,List.replicate,resAll,resA,zm,zg,q0',qz,a87,hpick,hkk,ev_len,hlen,hx0]
   exact⟨last,xs,_,_,_,_,_,_,_,_,_,_,_,_,_,_,_,_,_,_,_,rfl,hk,H,h5,hu.next,by omega⟩
  ·have n0:0≤g.tmod xs.length:=Int.tmod_nonneg _ hg0
   have n1:g.tmod xs.length < xs.length:=Int.tmod_lt_of_pos _ (by omega)
   obtain⟨n,hn⟩:∃ n:Nat,g.tmod (xs.length:Int)=n:=⟨(g.tmod xs.length).toNat,(Int.toNat_of_nonneg n0).symm⟩
   rw[hn] at n0 n1
   obtain⟨x,hx⟩:∃ x,xs[n]?=some x:=⟨_,List.getElem?_eq_getElem (by omega)⟩
   have hsp:xs=xs.take n++x :: xs.drop (n+1):=by
    have hl:=(List.getElem?_eq_some_iff.1 hx).1
    have:xs.drop n=x :: xs.drop (n+1):=by rw[List.drop_eq_getElem_cons hl,(List.getElem?_eq_some_iff.1 hx).2]
    rw[← this,List.take_append_drop]
   have nd:=H.nodup
   have hxn:x ∉ xs.take n++xs.drop (n+1):=by
    rw[hsp] at nd
    have h1:=List.nodup_append.1 nd
    have h2:=List.nodup_cons.1 h1.2.1
    rw[List.mem_append]
    rintro(h|h)
    ·exact h1.2.2 x h x (by simp) rfl
    ·exact h2.1 h
   have hsub:(xs.take n++xs.drop (n+1)).Sublist xs:=by
    conv=>rhs;rw[hsp]
    exact List.Sublist.append (List.Sublist.refl _) (List.sublist_cons_self _ _)
   obtain⟨p5,o5,c5,r5,L5,hv5,g5,_,b5,at5⟩:=h5.1.val (by omega)
   have at5n:=at5 n x hx
   have hdx:decide (0 < (xs.length:Int))=true:=decide_eq_true (by omega)
   have hz0:(((xs.length:Nat):Int)=0)=False:=eq_false (by omega)
   subst hv5
   simp(disch:=first|assumption|omega|(simp only[zl]<;>omega)|(simp only[zn])) only[ffSW,ffB,ffLoop,sqN,law14_FifoFirst,↓zd,zk,seval,reduceIte,List.map,AV.cells,List.all,AV.one,eqV,eqAll,splice,fillA,List.replicate,resAll,resA,zm,zg,q0',qz,a87,hpick,hkk,ev_len,hlen,hdx,hz0,hn,g5,at5n,a104]
   have H':=H
   rw[hsp] at H'
   refine OK_fn (nl_remove H' hk) ?_
   rintro _ m2 ⟨rfl,H2,K2,kk2⟩
   have h52:=h5.kk kk2
   have g52:=kk2.2 _ _ _ _ g5 (by decide) (by decide)
   simp(disch:=first|assumption|omega|(simp only[zl]<;>omega)|(simp only[zn])) only[↓zd,zk,seval,reduceIte,List.map,AV.cells,List.all,AV.one,eqV,eqAll,splice,fillA,List.replicate,resAll,resA,zm,zg,g52,at5n,a104]
   refine OK_fn (nl_remove_no H2 hxn) ?_
   rintro _ m3 ⟨rfl,k3⟩
   have h53:=h52.kk k3.kk
   obtain⟨t1,t2⟩:=si_take h53.1 h53.nx (k:=n) (by omega)
   obtain⟨u1,u2⟩:=si_drop h53.1 h53.nx (k:=n+1) (by omega)
   obtain⟨v',m7,hap,L7,K7,H7⟩:=nl_app (H2.keep k3) (K2.trans k3) (h53.cut (k:=n) (by omega)) u2 (by rw[List.length_take];omega) (by rw[List.length_drop];omega)
   have p0:(0≤(n:Int))=True:=eq_true (by omega)
   have p1:(0≤(n:Int)+1)=True:=eq_true (by omega)
   have p2:((n:Int)+1).toNat=n+1:=by omega
   simp(disch:=first|assumption|omega|(simp only[zl]<;>omega)|(simp only[zn])) only[↓zd,zk,seval,reduceIte,List.map,AV.cells,List.all,AV.one,eqV,eqAll,splice,fillA,List.replicate,resAll,resA,zm,zg,evA,p0,p1,p2,Int.toNat_natCast,t1,u1,hap]
   exact⟨last,xs.take n++xs.drop (n+1),_,_,_,_,_,_,_,_,_,_,_,_,_,_,_,_,_,_,_,rfl,K7,H7,L7,(hu.sub hsub).next,by rw[List.length_append,List.length_take,List.length_drop];omega⟩
end Go.Am.F15
end
section
namespace Go.Am.F15
open Go.Am.F10 (iC iC_at iC_len iC_one iC_app SI SI.val same_run Nx si_take si_drop si_row cutA dropA pick_eq)
open Go.Am.F06 (sqN sqT)
open Go.Am.F14 (law14_works law14_row law14_FifoFirst law14_FifoPasses law14_FifoPlays law14_few law14_does law14_is law14_FifoKnown fifo_Pass ref14_Pop ref14_Remove ref14_Pass)
variable {X:Type}
def FfT(e0:AV→AV→AV→List AV) (n:Nat) (m0:Mem X) (k:Nat) (e:List AV) (m:Mem X):Prop:=∃ (j:Nat) (x21 x22:AV),e=e0 (.int .i64 j) x21 x22∧m=m0∧k=n - j∧j≤n
set_option maxRecDepth 100000 in
set_option maxHeartbeats 8000000 in
theorem ffT_run{m0 m:Mem X} {a0:AV} {lb i:Nat} {e:List AV} (hi:i < 100) (h:FfA m0 a0 lb i e m):W GFf ffT (fun y e' m'=>y = .normal∧FfA m0 a0 lb i e' m') e m:=by
 have a102:assoc (GFf (X:=X)) 102=some aheadF:=rfl
 have a105:assoc (GFf (X:=X)) 105=some c_fifo_Line_Len:=rfl
 generalize (GFf (X:=X))=G at a102 a105 ⊢
 obtain⟨last,xs,v5,x6,x7,x8,x9,x10,x11,x12,x13,x14,x15,x16,x17,x18,x19,x20,x21,x22,x23,rfl,hk,H,h5,hu,hl⟩:=h
 have hlen:=h5.1.len
 have hln:=nl_len H
 simp(disch:=first|assumption|omega|(simp only[zl]<;>omega)|(simp only[zn])) only[ffT,ffB,ffLoop,sqN,sqT,law14_FifoFirst,↓zd,zk,seval,reduceIte,List.map,AV.cells,List.all,AV.one,eqV,eqAll,splice,fillA,List.replicate,resAll,resA,zm,zg]
 refine W_loop (FfT (fun j y21 y22=>[a0,.bool false,.ptr lb 0,.int .i64 last,.int .i64 i,v5,x6,x7,x8,j,x10,x11,x12,x13,x14,x15,x16,x17,x18,x19,x20,y21,y22,x23]) xs.length m) xs.length (by unfold FUEL;omega) ⟨0,_,_,rfl,rfl,rfl,Nat.zero_le _⟩ ?_
 rintro k e m' ⟨j,y21,y22,rfl,rfl,rfl,hj⟩
 simp(disch:=first|assumption|omega|(simp only[zl]<;>omega)|(simp only[zn])) only[↓zd,zk,seval,reduceIte,List.map,AV.cells,List.all,AV.one,eqV,eqAll,splice,fillA,List.replicate,resAll,resA,zm,zg,ev_len,hlen]
 refine CW_of (fun hc=>?_) (fun hc=>?_)
 ·simp only[decide_eq_true_eq] at hc
  obtain⟨x,hx⟩:∃ x,xs[j]?=some x:=⟨_,List.getElem?_eq_getElem (by omega)⟩
  obtain⟨p5,o5,c5,r5,L5,rfl,g5,_,b5,at5⟩:=h5.1.val (by omega)
  have ea:=nl_ahead H (by omega) x
  rw[ahead_nth hx H.nodup] at ea
  simp(disch:=first|assumption|omega|(simp only[zl]<;>omega)|(simp only[zn])) only[↓zd,zk,seval,reduceIte,List.map,AV.cells,List.all,AV.one,eqV,eqAll,splice,fillA,List.replicate,resAll,resA,zm,zg,g5,at5 j x hx,a102,ea]
  exact⟨_,by omega,j+1,_,_,rfl,rfl,rfl,by omega⟩
 ·simp only[decide_eq_false_iff_not] at hc
  simp(disch:=first|assumption|omega|(simp only[zl]<;>omega)|(simp only[zn])) only[↓zd,zk,seval,reduceIte,List.map,AV.cells,List.all,AV.one,eqV,eqAll,splice,fillA,List.replicate,resAll,resA,zm,zg,a105,hln,ev_len,hlen]
  exact⟨last,xs,_,_,_,_,_,_,_,_,_,_,_,_,_,_,_,_,_,_,_,rfl,hk,H,h5,hu,hl⟩
def FfN(m0:Mem X) (a0:AV) (lb n:Nat) (k:Nat) (e:List AV) (m:Mem X):Prop:=∃ (i:Nat) (last:Int) (xs:List Int) (v5 x6 x7 x8 x9 x10 x11 x12 x13 x14 x15 x16 x17 x18 x19 x20 x21 x22 x23:AV),
 e=[a0,.bool false,.ptr lb 0,.int .i64 last,.int .i64 i,v5,x6,x7,x8,x9,x10,x11,x12,x13,x14,x15,x16,x17,x18,x19,x20,x21,x22,x23]∧k=n - i∧i≤n∧Keep m0 m∧NL m0 m lb xs∧Up last xs i∧xs.length≤i
set_option maxRecDepth 100000 in
set_option maxHeartbeats 8000000 in
theorem first14_run{m:Mem X} {ops:List Int} {a0:AV} (hA:SI m false ops a0):Fn GFf law14_FifoFirst [a0] m (fun r m'=>r = .bool true∧Keep m m'):=by
 have a99:assoc (GFf (X:=X)) 99=some (amFunc GW14 law14_works):=rfl
 have a100:assoc (GFf (X:=X)) 100=some (amFunc GAll14 fifo_Line_All):=rfl
 have a87:assoc (GFf (X:=X)) 87=some c_kit_Pick:=rfl
 have hT:=@ffT_run X
 have hS:=@ffSW_run X
 generalize (GFf (X:=X))=G at a99 a100 a87 hT hS ⊢
 have hlen:=hA.len
 refine Fn_of rfl ?_
 rw[ff_body]
 by_cases hb:100 < ops.length
 ·have d:decide (100 < (ops.length:Int))=true:=decide_eq_true (by omega)
  simp(disch:=first|assumption|omega|(simp only[zl]<;>omega)|(simp only[zn])) only[sqN,law14_FifoFirst,↓zd,zk,seval,reduceIte,List.map,AV.cells,List.all,AV.one,eqV,eqAll,splice,fillA,List.replicate,resAll,resA,zm,zg,ev_len,hlen,d,a99]
  refine OK_fn works14_run ?_
  rintro _ m1 ⟨rfl,k1⟩
  simp(disch:=first|assumption|omega|(simp only[zl]<;>omega)|(simp only[zn])) only[↓zd,zk,seval,reduceIte,List.map,AV.cells,List.all,AV.one,eqV,eqAll,splice,fillA,List.replicate,resAll,resA,zm,zg]
  exact k1
 ·have d:decide (100 < (ops.length:Int))=false:=decide_eq_false (by omega)
  have k0:=Keep.app m [Chunk.cells 3 false [AV.nilm,.int .i64 0,.int .i64 0]]
  have H0:NL m (m++[Chunk.cells 3 false [AV.nilm,.int .i64 0,.int .i64 0]]) m.length []:=⟨none,.inl ⟨rfl,rfl,0,0,get_concat⟩,Nat.le_refl _,fun k e=>by cases e⟩
  simp(disch:=first|assumption|omega|(simp only[zl]<;>omega)|(simp only[zn])) only[sqN,law14_FifoFirst,↓zd,zk,seval,reduceIte,List.map,AV.cells,List.all,AV.one,eqV,eqAll,splice,fillA,List.replicate,resAll,resA,zm,zg,ev_len,hlen,d,ffR]
  refine W_loop (FfN m a0 m.length ops.length) ops.length (by unfold FUEL;omega) ⟨0,-1,[],_,_,_,_,_,_,_,_,_,_,_,_,_,_,_,_,_,_,_,rfl,rfl,Nat.zero_le _,k0,H0,⟨by simp,fun x hx=>by simp at hx;omega⟩,by simp⟩ ?_
  rintro k e m' ⟨i,last,xs,v5,x6,x7,x8,x9,x10,x11,x12,x13,x14,x15,x16,x17,x18,x19,x20,x21,x22,x23,rfl,rfl,hi,hk,H,hu,hl⟩
  simp(disch:=first|assumption|omega|(simp only[zl]<;>omega)|(simp only[zn])) only[↓zd,zk,seval,reduceIte,List.map,AV.cells,List.all,AV.one,eqV,eqAll,splice,fillA,List.replicate,resAll,resA,zm,zg,ffC,ffLoop,sqN,law14_FifoFirst,ev_len,hlen]
  refine CW_of (fun hc=>?_) (fun hc=>?_)
  ·simp only[decide_eq_true_eq] at hc
   obtain⟨z,hz⟩:∃ z,ops[i]?=some z:=⟨_,List.getElem?_eq_getElem (by omega)⟩
   obtain⟨q,o,cap,ro,L,rfl,q0,_,q4,q5⟩:=hA.val (by omega)
   have hpick:∀ (M:Mem X) (k:Int),c_kit_Pick [.int .i64 k,.int .i64 5] M=some (.int .i64 (k % 5),M):=fun M k=>pick_eq M k 5 (by decide) (by decide)
   simp(disch:=first|assumption|omega|(simp only[zl]<;>omega)|(simp only[zn])) only[↓zd,zk,seval,reduceIte,List.map,AV.cells,List.all,AV.one,eqV,eqAll,splice,fillA,List.replicate,resAll,resA,zm,zg,ffB,ffLoop,sqN,law14_FifoFirst,a100]
   refine OK_fn (nl_all H (by omega)) ?_
   rintro v5 m1 ⟨k1,o1⟩
   have q0':=(hk.trans k1).get q0
   have L1:LV m m1 xs v5:=(own_lv o1).up hk.1
   simp(disch:=first|assumption|omega|(simp only[zl]<;>omega)|(simp only[zn])) only[↓zd,zk,seval,reduceIte,List.map,AV.cells,List.all,AV.one,eqV,eqAll,splice,fillA,List.replicate,resAll,resA,zm,zg,q0',q5 i z hz,a87,hpick]
   refine W_mono (hS hA hz (by omega) (Int.emod_nonneg _ (by decide)) (Int.emod_lt_of_pos _ (by decide)) (hk.trans k1) (H.keep k1) L1 hu hl) ?_
   rintro y e1 m2 ⟨rfl,hF⟩
   rw[thenQ_normal]
   refine W_mono (hT (by omega) hF) ?_
   rintro y e2 m3 ⟨rfl,last2,xs2,y5,y6,y7,y8,y9,y10,y11,y12,y13,y14,y15,y16,y17,y18,y19,y20,y21,y22,y23,rfl,K2,H2,L2,U2,l2⟩
   simp(disch:=first|assumption|omega|(simp only[zl]<;>omega)|(simp only[zn])) only[↓zd,zk,seval,reduceIte,List.map,AV.cells,List.all,AV.one,eqV,eqAll,splice,fillA,List.replicate,resAll,resA,zm,zg,ffI,ffLoop,sqN,law14_FifoFirst]
   exact⟨_,by omega,i+1,last2,xs2,_,_,_,_,_,_,_,_,_,_,_,_,_,_,_,_,_,_,_,rfl,rfl,by omega,K2,H2,by simpa using U2,l2⟩
  ·simp only[decide_eq_false_iff_not] at hc
   simp(disch:=first|assumption|omega|(simp only[zl]<;>omega)|(simp only[zn])) only[↓zd,zk,seval,reduceIte,List.map,AV.cells,List.all,AV.one,eqV,eqAll,splice,fillA,List.replicate,resAll,resA,zm,zg,ffEnd,sqT,law14_FifoFirst,a99]
   refine OK_fn works14_run ?_
   rintro _ m9 ⟨rfl,k9⟩
   simp(disch:=first|assumption|omega|(simp only[zl]<;>omega)|(simp only[zn])) only[↓zd,zk,seval,reduceIte,List.map,AV.cells,List.all,AV.one,eqV,eqAll,splice,fillA,List.replicate,resAll,resA,zm,zg]
   exact hk.trans k9
end Go.Am.F15
end
section
namespace Go.Am.F15
open Go.Am.F10 (iC iC_at iC_len iC_one iC_app SI SI.val same_run Nx si_take si_drop si_row cutA dropA pick_eq)
open Go.Am.F06 (sqN sqT)
open Go.Am.F14 (law14_works law14_row law14_FifoFirst law14_FifoPasses law14_FifoPlays law14_few law14_does law14_is law14_FifoKnown fifo_Pass ref14_Pop ref14_Remove ref14_Pass)
variable {X:Type}
def N2(m0 m:Mem X) (a b:Nat) (xs ys:List Int):Prop:=∃ j k,LN m a j xs∧LN m b k ys∧m0.length≤a∧m0.length≤b∧(∀ q,j=some q→m0.length≤q)∧(∀ q,k=some q→m0.length≤q)∧a≠b∧(∀ q,j=some q→k≠some q)
theorem N2.fst{m0 m:Mem X} {a b:Nat} {xs ys:List Int} (h:N2 m0 m a b xs ys):NL m0 m a xs:=by
 obtain⟨j,k,A,B,h1,h2,h3,h4,h5,h6⟩:=h
 exact⟨j,A,h1,h3⟩
theorem N2.snd{m0 m:Mem X} {a b:Nat} {xs ys:List Int} (h:N2 m0 m a b xs ys):NL m0 m b ys:=by
 obtain⟨j,k,A,B,h1,h2,h3,h4,h5,h6⟩:=h
 exact⟨k,B,h2,h4⟩
theorem N2.symm{m0 m:Mem X} {a b:Nat} {xs ys:List Int} (h:N2 m0 m a b xs ys):N2 m0 m b a ys xs:=by
 obtain⟨j,k,A,B,h1,h2,h3,h4,h5,h6⟩:=h
 exact⟨k,j,B,A,h2,h1,h4,h3,h5.symm,fun q e e'=>h6 q e' e⟩
theorem N2.keep{m0 m m':Mem X} {a b:Nat} {xs ys:List Int} (h:N2 m0 m a b xs ys) (k:Keep m m'):N2 m0 m' a b xs ys:=by
 obtain⟨j,l,A,B,h1,h2,h3,h4,h5,h6⟩:=h
 exact⟨j,l,A.keep k,B.keep k,h1,h2,h3,h4,h5,h6⟩
theorem N2.step{m0 m m':Mem X} {a b:Nat} {j j' k:Option Nat} {xs ys zs:List Int} (hk:Keep m0 m) (A:LN m a j xs) (B:LN m b k ys) (h1:m0.length≤a) (h2:m0.length≤b) (h3:∀ q,j=some q→m0.length≤q) (h4:∀ q,k=some q→m0.length≤q) (h5:a≠b) (h6:∀ q,j=some q→k≠some q)
  (s1:KL m m' a j) (s2:JN m j j') (s3:LN m' a j' zs):N2 m0 m' a b zs ys∧Keep m0 m'∧KK m m':=by
 obtain⟨⟨_,q1,q2,q3⟩,q4,q5⟩:=ls_of hk A h1 h3 s1 s2 s3
 refine⟨⟨j',k,s3,B.at (s1.2 b B.lt.1 (fun e=>h5 e.symm) (ln_ij B A)) (fun q e=>s1.2 q (B.lt.2 q e).1 (ln_ji B A e) (fun e'=>h6 q e' e)),h1,h2,fun q e=>?_,h4,h5,fun q e e'=>?_⟩,q4,q5⟩
 ·rcases s2 with rfl|⟨q',e',hq⟩
  ·exact h3 q e
  ·rw[e'] at e;injection e with e;subst e;exact Nat.le_trans hk.1 hq
 ·exact h6 q (s2.back (B.lt.2 q e').1 e) e'
theorem N2.push{m0 m:Mem X} {a b:Nat} {xs ys l:List Int} {w:Bool} {lv:AV} (H:N2 m0 m a b xs ys) (hk:Keep m0 m) (hl:SI m w l lv) (hf:l.length < 10000) (hx:xs.length < 10000) :
  Fn GPush fifo_Line_Push [.ptr a 0,lv] m (fun r m'=>r = .int .i64 (if fitsB xs l=true then 0 else 140)∧N2 m0 m' a b (if fitsB xs l=true then xs++l else xs) ys∧Keep m0 m'∧KK m m'):=by
 obtain⟨j,k,A,B,h1,h2,h3,h4,h5,h6⟩:=H
 refine Fn_mono (push_run A hl (by omega) (by omega)) ?_
 rintro r m' ⟨rfl,j',s1,s2,s3⟩
 exact⟨rfl,N2.step hk A B h1 h2 h3 h4 h5 h6 s1 s2 s3⟩
theorem N2.pop{m0 m:Mem X} {a b:Nat} {xs ys:List Int} (H:N2 m0 m a b xs ys) (hk:Keep m0 m) (n:Int) (hx:xs.length < 10000) :
  Fn GPop fifo_Line_Pop [.ptr a 0,.int .i64 n] m (fun r m'=>(N2 m0 m' a b (xs.drop (popN xs n)) ys∧Keep m0 m'∧KK m m')∧Go.Am.Own m m' 1 (xs.take (popN xs n)).length (iC (xs.take (popN xs n))) r):=by
 obtain⟨j,k,A,B,h1,h2,h3,h4,h5,h6⟩:=H
 refine Fn_mono (pop_run A n (by omega)) ?_
 rintro r m' ⟨s1,s2,s3⟩
 exact⟨N2.step hk A B h1 h2 h3 h4 h5 h6 s1 (JN.refl _ _) s2,s3⟩
theorem nl_fits{m0 m:Mem X} {i:Nat} {xs l:List Int} {w:Bool} {lv:AV} (H:NL m0 m i xs) (hl:SI m w l lv) (hf:l.length < 10000):Fn [(119,c_fifo_Line_Has)] fifo_Line_fits [.ptr i 0,lv] m (fun r m'=>r = .bool (fitsB xs l)∧Keep m m'):=by
 obtain⟨j,H,_⟩:=H
 exact fits_run H hl (by omega)
def GPass:List (Nat × AFun X):=[(100,amFunc GAll14 fifo_Line_All),(123,c_fifo_Line_fits),(103,amFunc GPop fifo_Line_Pop),(101,amFunc GPush fifo_Line_Push)]
def psE(xs ys:List Int) (n:Int):Int:=if fitsB ys (xs.take (popN xs n))=true then 0 else 140
def psX(xs ys:List Int) (n:Int):List Int:=if fitsB ys (xs.take (popN xs n))=true then xs.drop (popN xs n) else xs
def psY(xs ys:List Int) (n:Int):List Int:=if fitsB ys (xs.take (popN xs n))=true then ys++xs.take (popN xs n) else ys
def psR(xs ys:List Int) (n:Int):List Int:=if fitsB ys (xs.take (popN xs n))=true then xs.take (popN xs n) else []
def PsP(m0 m:Mem X) (a b:Nat) (xs ys:List Int) (n:Int) (r:AV) (m':Mem X):Prop:=∃ v,r = .tup [v,.int .i64 (psE xs ys n)]∧N2 m0 m' a b (psX xs ys n) (psY xs ys n)∧Keep m0 m'∧KK m m'∧LV m m' (psR xs ys n) v
set_option maxHeartbeats 4000000 in
theorem pass_run{m0 m:Mem X} {a b:Nat} {xs ys:List Int} (H:N2 m0 m a b xs ys) (hk:Keep m0 m) (n:Int) (hx:xs.length < 5000) (hy:ys.length < 5000):Fn GPass fifo_Pass [.ptr a 0,.ptr b 0,.int .i64 n] m (PsP m0 m a b xs ys n):=by
 have a100:assoc (GPass (X:=X)) 100=some (amFunc GAll14 fifo_Line_All):=rfl
 have a123:assoc (GPass (X:=X)) 123=some c_fifo_Line_fits:=rfl
 have a103:assoc (GPass (X:=X)) 103=some (amFunc GPop fifo_Line_Pop):=rfl
 have a101:assoc (GPass (X:=X)) 101=some (amFunc GPush fifo_Line_Push):=rfl
 generalize (GPass (X:=X))=G at a100 a123 a103 a101 ⊢
 have hab:a≠b:=by obtain⟨j,k,A,B,h1,h2,h3,h4,h5,h6⟩:=H;exact h5
 refine Fn_of rfl ?_
 simp(disch:=first|assumption|omega|(simp only[zl]<;>omega)|(simp only[zn])) only[fifo_Pass,↓zd,zk,seval,reduceIte,List.map,AV.cells,List.all,AV.one,eqV,eqAll,splice,fillA,List.replicate,resAll,resA,zm,zg,a100]
 refine OK_fn (nl_all H.fst (by omega)) ?_
 rintro v5 m1 ⟨k1,o1⟩
 have H1:=H.keep k1
 have L5:=own_lv o1
 have hl5:=L5.1.len
 have hpn:popN xs n≤xs.length:=by unfold popN;omega
 have hmin:(if (if (xs.length:Int) < n then(xs.length:Int) else n) > 0 then(if (xs.length:Int) < n then(xs.length:Int) else n) else 0)=((popN xs n:Nat):Int):=by unfold popN;split<;>split<;>omega
 have p0:(0≤((popN xs n:Nat):Int))=True:=eq_true (by omega)
 obtain⟨t1,t2⟩:=si_take L5.1 L5.nx (k:=popN xs n) hpn
 have L6:=L5.cut hpn
 obtain⟨la,ga⟩:∃ l,m1[a]?=some (.cells 3 false l):=by obtain⟨j,k,A,_⟩:=H1;exact A.cell
 obtain⟨lb,gb⟩:∃ l,m1[b]?=some (.cells 3 false l):=by obtain⟨j,k,_,B,_⟩:=H1;exact B.cell
 simp(disch:=first|assumption|omega|(simp only[zl]<;>omega)|(simp only[zn])) only[↓zd,zk,seval,reduceIte,List.map,AV.cells,List.all,AV.one,eqV,eqAll,splice,fillA,List.replicate,resAll,resA,zm,zg,ev_len,hl5,hmin,p0,evA,Int.toNat_natCast,t1,hab,ga,gb,a123]
 refine OK_fn (nl_fits H1.snd t2 (by rw[List.length_take];omega)) ?_
 rintro _ m2 ⟨rfl,k2⟩
 have H2:=H1.keep k2
 have K2:=hk.trans (k1.trans k2)
 cases hf:fitsB ys (xs.take (popN xs n)) with
 | false =>
  simp(disch:=first|assumption|omega|(simp only[zl]<;>omega)|(simp only[zn])) only[↓zd,zk,seval,reduceIte,List.map,AV.cells,List.all,AV.one,eqV,eqAll,splice,fillA,List.replicate,resAll,resA,zm,zg]
  exact⟨.nils,by simp[psE,hf],by simpa [psX,psY,hf] using H2,K2,(k1.trans k2).kk,by simpa [psR,hf] using LV.nil⟩
 | true =>
  simp(disch:=first|assumption|omega|(simp only[zl]<;>omega)|(simp only[zn])) only[↓zd,zk,seval,reduceIte,List.map,AV.cells,List.all,AV.one,eqV,eqAll,splice,fillA,List.replicate,resAll,resA,zm,zg,a103]
  refine OK_fn (H2.pop K2 n (by omega)) ?_
  rintro v7 m3 ⟨⟨H3,K3,kk3⟩,o3⟩
  have L63:=(L6.keep k2).kk kk3
  simp(disch:=first|assumption|omega|(simp only[zl]<;>omega)|(simp only[zn])) only[↓zd,zk,seval,reduceIte,List.map,AV.cells,List.all,AV.one,eqV,eqAll,splice,fillA,List.replicate,resAll,resA,zm,zg,a101]
  refine OK_fn (H3.symm.push K3 L63.1 (by rw[List.length_take];omega) (by omega)) ?_
  rintro _ m4 ⟨rfl,H4,K4,kk4⟩
  rw[hf] at H4 ⊢
  simp(disch:=first|assumption|omega|(simp only[zl]<;>omega)|(simp only[zn])) only[↓zd,zk,seval,reduceIte,List.map,AV.cells,List.all,AV.one,eqV,eqAll,splice,fillA,List.replicate,resAll,resA,zm,zg]
  exact⟨cutA v5 (popN xs n),by simp[psE,hf],by simpa [psX,psY,hf] using H4.symm,K4,(k1.trans k2).kk.trans (kk3.trans kk4),by simpa [psR,hf] using L63.kk kk4⟩
theorem pass_self{m0 m:Mem X} {a:Nat} {xs:List Int} (H:NL m0 m a xs) (n:Int) (hx:xs.length < 5000):Fn GPass fifo_Pass [.ptr a 0,.ptr a 0,.int .i64 n] m (fun r m'=>r = .tup [.nils,.int .i64 140]∧Keep m m'):=by
 have a100:assoc (GPass (X:=X)) 100=some (amFunc GAll14 fifo_Line_All):=rfl
 generalize (GPass (X:=X))=G at a100 ⊢
 refine Fn_of rfl ?_
 simp(disch:=first|assumption|omega|(simp only[zl]<;>omega)|(simp only[zn])) only[fifo_Pass,↓zd,zk,seval,reduceIte,List.map,AV.cells,List.all,AV.one,eqV,eqAll,splice,fillA,List.replicate,resAll,resA,zm,zg,a100]
 refine OK_fn (nl_all H (by omega)) ?_
 rintro v5 m1 ⟨k1,o1⟩
 have L5:=own_lv o1
 have hl5:=L5.1.len
 have hpn:popN xs n≤xs.length:=by unfold popN;omega
 have hmin:(if (if (xs.length:Int) < n then(xs.length:Int) else n) > 0 then(if (xs.length:Int) < n then(xs.length:Int) else n) else 0)=((popN xs n:Nat):Int):=by unfold popN;split<;>split<;>omega
 have p0:(0≤((popN xs n:Nat):Int))=True:=eq_true (by omega)
 obtain⟨t1,t2⟩:=si_take L5.1 L5.nx (k:=popN xs n) hpn
 simp(disch:=first|assumption|omega|(simp only[zl]<;>omega)|(simp only[zn])) only[↓zd,zk,seval,reduceIte,List.map,AV.cells,List.all,AV.one,eqV,eqAll,splice,fillA,List.replicate,resAll,resA,zm,zg,ev_len,hl5,hmin,p0,evA,Int.toNat_natCast,t1]
 exact k1
end Go.Am.F15
end
section
namespace Go.Am.F15
open Go.Am.F10 (iC iC_at iC_len iC_one iC_app SI SI.val same_run Nx si_take si_drop si_row cutA dropA pick_eq)
open Go.Am.F06 (sqN sqT)
variable {X:Type}
def Sb(m:Mem X) (v:AV):Prop:=v = .nils∨(∃ q o n c,v = .sl q o n (some c)∧n≤c)∨∃ q o n l,v = .sl q o n none∧m[q]?=some (.cells 1 false l)
theorem Sb.keep{m m':Mem X} {v:AV} (h:Sb m v) (k:Keep m m'):Sb m' v:=by
 rcases h with h|h|⟨q,o,n,l,h1,h2⟩
 ·exact .inl h
 ·exact .inr (.inl h)
 ·exact .inr (.inr ⟨q,o,n,l,h1,k.get h2⟩)
theorem LV.sb{m0 m:Mem X} {xs:List Int} {v:AV} (h:LV m0 m xs v):Sb m v:=by
 rcases h.nx with h|⟨q,o,n,l,h1,h2⟩
 ·exact .inl h
 ·exact .inr (.inr ⟨q,o,n,l,h1,h2⟩)
theorem Sb.fit{m:Mem X} {v:AV} (h:Sb m v):Fit v:=by
 rcases h with rfl|⟨q,o,n,c,rfl,h⟩|⟨q,o,n,l,rfl,_⟩
 ·exact fun _ _ _ _ e=>by cases e
 ·exact fun _ _ _ _ e=>by injection e with _ _ e1 e2;injection e2 with e2;omega
 ·exact fun _ _ _ _ e=>by injection e with _ _ e1 e2;cases e2
def cutB(v:AV) (k:Nat):AV:=match v with | .sl q o _ c=>.sl q o k c|v=>v
def dropB(v:AV) (k:Nat):AV:=match v with | .sl q o n none=>.sl q (o+k) (n - k) none | .sl q o n (some c)=>.sl q (if c=k then o else o+k) (n - k) (some (c - k))|v=>v
theorem sb_take{m:Mem X} {w:Bool} {xs:List Int} {v:AV} (h:SI m w xs v) (hs:Sb m v) {k:Nat} (hk:k≤xs.length):sliceA m 1 v none (some k) none=some (cutB v k)∧SI m w (xs.take k) (cutB v k)∧Sb m (cutB v k):=by
 rcases hs with rfl|⟨q,o,n,c,rfl,hnc⟩|⟨q,o,n,l,rfl,hq⟩
 ·have hx:xs=[]:=List.length_eq_zero_iff.1 (by have:=h.len;simp only[lenA,Option.some.injEq] at this;exact this.symm)
  subst hx
  have:k=0:=by simpa using hk
  subst this
  exact⟨rfl,Sl.nil,.inl rfl⟩
 ·have hn:n=xs.length:=by have:=h.len;simp only[lenA,Option.some.injEq] at this;exact this
  subst hn
  have hl:(xs.take k).length=k:=by rw[List.length_take];omega
  refine⟨?_,⟨by rw[iC_len];omega,.inr ⟨q,o,some c,by rw[hl];rfl,fun h0=>?_⟩⟩,.inr (.inl ⟨q,o,k,c,rfl,by omega⟩)⟩
  ·simp only[sliceA,Option.getD_some,Option.getD_none]
   rw[if_pos ⟨by omega,by omega,by omega,.inl trivial⟩]
   simp[cutB]
  ·rw[hl] at h0 ⊢
   obtain⟨q',o',cap',ro,L,hv,h2,h3,h4,h5⟩:=h.at (by omega)
   injection hv with v1 v2 v3 v4;subst v1;subst v2;subst v4
   refine⟨ro,L,h2,?_,by omega,h5⟩
   rw[iC,List.map_take,← iC,← h3,List.take_take]
   congr 1;omega
 ·obtain⟨a,b⟩:=si_take h (.inr ⟨q,o,n,l,rfl,hq⟩) hk
  exact⟨a,b,.inr (.inr ⟨q,o,k,l,rfl,hq⟩)⟩
theorem sb_drop{m:Mem X} {w:Bool} {xs:List Int} {v:AV} (h:SI m w xs v) (hs:Sb m v) {k:Nat} (hk:k≤xs.length):sliceA m 1 v (some k) none none=some (dropB v k)∧SI m w (xs.drop k) (dropB v k)∧Sb m (dropB v k):=by
 rcases hs with rfl|⟨q,o,n,c,rfl,hnc⟩|⟨q,o,n,l,rfl,hq⟩
 ·have hx:xs=[]:=List.length_eq_zero_iff.1 (by have:=h.len;simp only[lenA,Option.some.injEq] at this;exact this.symm)
  subst hx
  have:k=0:=by simpa using hk
  subst this
  exact⟨rfl,Sl.nil,.inl rfl⟩
 ·have hn:n=xs.length:=by have:=h.len;simp only[lenA,Option.some.injEq] at this;exact this
  subst hn
  have hl:(xs.drop k).length=xs.length - k:=List.length_drop
  refine⟨?_,⟨by rw[iC_len];omega,.inr ⟨q,if c=k then o else o+k,some (c - k),by rw[hl];rfl,fun h0=>?_⟩⟩,.inr (.inl ⟨q,_,_,_,rfl,by omega⟩)⟩
  ·simp only[sliceA,Option.getD_some,Option.getD_none]
   rw[if_pos ⟨by omega,by omega,by omega,.inl trivial⟩,Nat.mul_one]
   rfl
  ·rw[hl] at h0 ⊢
   rw[if_neg (by omega)]
   obtain⟨q',o',cap',ro,L,hv,h2,h3,h4,h5⟩:=h.at (by omega)
   injection hv with v1 v2 v3 v4;subst v1;subst v2;subst v4
   refine⟨ro,L,h2,?_,by omega,h5⟩
   rw[iC,List.map_drop,← iC,← h3,List.drop_take,List.drop_drop]
   congr 1;omega
 ·obtain⟨a,b⟩:=si_drop h (.inr ⟨q,o,n,l,rfl,hq⟩) hk
  exact⟨a,b,.inr (.inr ⟨q,o+k,n - k,l,rfl,hq⟩)⟩
def Qm(m0 m:Mem X) (xs:List Int) (v:AV):Prop:=(xs=[]∧v = .mt)∨(xs≠[]∧LV m0 m xs v)
theorem qm_app{m0 m:Mem X} {w:Bool} {xs ys:List Int} {v y:AV} (h:Qm m0 m xs v) (hk:Keep m0 m) (hy:SI m w ys y) (hl:xs.length≤100000) (hl2:ys.length≤100000) :
  ∃ v' m',appendA 1 8 v y m=some (v',m')∧Qm m0 m' (xs++ys) v'∧Keep m0 m'∧m.length≤m'.length∧(∀ k,k < m.length→(∀ l,m[k]?≠some (Chunk.cells 1 false l))∨k < m0.length→m'[k]?=m[k]?):=by
 rcases h with⟨rfl,rfl⟩|⟨hne,hL⟩
 ·have hr:=si_row hy
  have hlen:=hy.len
  by_cases h0:ys.length=0
  ·have hx:ys=[]:=List.length_eq_zero_iff.1 h0
   subst hx
   exact⟨.mt,m,by simp only[appendA,hlen,hr,List.length_nil,if_true],.inl ⟨rfl,rfl⟩,hk,Nat.le_refl _,fun _ _ _=>rfl⟩
  ·have hg:(m++[Chunk.cells 1 false (iC ys)])[m.length]?=some (.cells 1 false (iC ys)):=get_concat
   refine⟨.sl m.length 0 ys.length none,m++[.cells 1 false (iC ys)],?_,.inr ⟨fun e=>h0 (by simp at e;rw[e];rfl),⟨?_,.inr ⟨m.length,0,_,_,rfl,hg,hk.1,by simp,by rw[iC_len];omega⟩⟩⟩,hk.trans (Keep.app _ _),by simp,fun k hk _=>List.getElem?_append_left hk⟩
   ·simp only[appendA,hlen,hr]
    rw[if_neg h0,if_pos ⟨by omega,by omega,iC_one _⟩]
   ·rw[List.nil_append]
    exact⟨by rw[iC_len];omega,.inr ⟨m.length,0,none,rfl,fun _=>⟨false,_,hg,by rw[List.drop_zero,List.take_of_length_le (by rw[iC_len];omega)],by rw[iC_len];omega,fun _=>rfl⟩⟩⟩
 ·obtain⟨v',m',h1,h2,h3,h4⟩:=lv_push hL hy hl hl2 hk.1
  exact⟨v',m',h1,.inr ⟨by simp[hne],h2⟩,⟨Nat.le_trans hk.1 h3,fun k hl=>(h4 k (Nat.lt_of_lt_of_le hl hk.1) (.inr hl)).trans (hk.2 k hl)⟩,h3,h4⟩
end Go.Am.F15
end
