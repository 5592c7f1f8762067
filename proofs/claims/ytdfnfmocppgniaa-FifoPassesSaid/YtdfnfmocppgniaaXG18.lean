import Derived.Test.YtdfnfmocppgniaaXG17
set_option linter.unusedSimpArgs false
set_option linter.unusedVariables false
section
namespace Go.Am.F15
open Go.Am.F10 (iC iC_at iC_len iC_one iC_app SI SI.val same_run Cf cfC rightP right_run Nx si_take si_drop si_row cutA dropA madeC made_eq pick_eq)
open Go.Am.F06 (sqN sqT)
variable {X:Type}
def LV(m0 m:Mem X) (xs:List Int) (v:AV):Prop:=SI m true xs v∧(v = .nils∨∃ q o n l,v = .sl q o n none∧m[q]?=some (.cells 1 false l)∧m0.length≤q∧q < m.length∧o+n≤l.length)
theorem LV.nx{m0 m:Mem X} {xs:List Int} {v:AV} (h:LV m0 m xs v):Nx m v:=by
 rcases h.2 with h|⟨q,o,n,l,h1,h2,_⟩
 ·exact .inl h
 ·exact .inr ⟨q,o,n,l,h1,h2⟩
theorem LV.kk{m0 m m':Mem X} {xs:List Int} {v:AV} (h:LV m0 m xs v) (k:KK m m'):LV m0 m' xs v:=by
 refine⟨si_kk h.1 k,?_⟩
 rcases h.2 with h|⟨q,o,n,l,h1,h2,h3,h4⟩
 ·exact .inl h
 ·exact .inr ⟨q,o,n,l,h1,k.2 q 1 false l h2 (by decide) (by decide),h3,Nat.lt_of_lt_of_le h4.1 k.1,h4.2⟩
theorem LV.drop{m0 m:Mem X} {xs:List Int} {v:AV} (h:LV m0 m xs v) {k:Nat} (hk:k≤xs.length):LV m0 m (xs.drop k) (dropA v k):=by
 refine⟨(si_drop h.1 h.nx hk).2,?_⟩
 rcases h.2 with rfl|⟨q,o,n,l,rfl,h2,h3,h4⟩
 ·exact .inl rfl
 ·have hn:n=xs.length:=by have:=h.1.len;simp only[lenA,Option.some.injEq] at this;exact this
  exact .inr ⟨q,o+k,n - k,l,rfl,h2,h3,h4.1,by omega⟩
theorem lv_push{m0 m:Mem X} {w:Bool} {xs ys:List Int} {v y:AV} (h:LV m0 m xs v) (hy:SI m w ys y) (hl:xs.length≤100000) (hl2:ys.length≤100000) (hm:m0.length≤m.length) :
  ∃ v' m',appendA 1 8 v y m=some (v',m')∧LV m0 m' (xs++ys) v'∧m.length≤m'.length∧(∀ k,k < m.length→(∀ l,m[k]?≠some (.cells 1 false l))∨k < m0.length→m'[k]?=m[k]?):=by
 have hr:=si_row hy
 have hlen:=hy.len
 have hxl:=h.1.len
 by_cases h0:ys.length=0
 ·have hx:ys=[]:=List.length_eq_zero_iff.1 h0
  subst hx
  rw[List.append_nil]
  refine⟨v,m,?_,h,Nat.le_refl _,fun _ _ _=>rfl⟩
  rcases h.2 with rfl|⟨q,o,n,l,rfl,_⟩<;>simp only[appendA,hlen,hr,List.length_nil,if_true]
 have new:∀ (v:AV) (M:Mem X),M.length=m.length→SI (M++[Chunk.cells 1 false (iC (xs++ys))]) true (xs++ys) (.sl m.length 0 (xs++ys).length none)∧LV m0 (M++[Chunk.cells 1 false (iC (xs++ys))]) (xs++ys) (.sl m.length 0 (xs++ys).length none):=fun v M hM=>by
  have hg:(M++[Chunk.cells 1 false (iC (xs++ys))])[m.length]?=some (.cells 1 false (iC (xs++ys))):=by rw[← hM];exact get_concat
  have hs:SI (M++[Chunk.cells 1 false (iC (xs++ys))]) true (xs++ys) (.sl m.length 0 (xs++ys).length none):=⟨by rw[iC_len];omega,.inr ⟨m.length,0,none,rfl,fun _=>⟨false,_,hg,by rw[List.drop_zero,List.take_of_length_le (by rw[iC_len];omega)],by rw[iC_len];omega,fun _=>rfl⟩⟩⟩
  exact⟨hs,hs,.inr ⟨m.length,0,_,_,rfl,hg,hm,by simp;omega,by rw[iC_len];omega⟩⟩
 rcases h.2 with rfl|⟨q,o,n,l,rfl,hq,hq1,hq2,hq3⟩
 ·have hxs:xs=[]:=List.length_eq_zero_iff.1 (by simp only[lenA,Option.some.injEq] at hxl;exact hxl.symm)
  subst hxs
  refine⟨.sl m.length 0 ys.length none,m++[.cells 1 false (iC ys)],?_,by simpa using (new .nils m rfl).2,by simp,fun k hk _=>List.getElem?_append_left hk⟩
  simp only[appendA,hlen,hr]
  rw[if_neg h0,if_pos ⟨by omega,by omega,iC_one _⟩]
 ·have hn:n=xs.length:=by simp only[lenA,Option.some.injEq] at hxl;exact hxl
  subst hn
  have hcut:(l.drop o).take (xs.length * 1)=iC xs:=by
   rcases Nat.eq_zero_or_pos xs.length with h|hp
   ·rw[List.length_eq_zero_iff.1 h];simp[iC]
   ·obtain⟨q',o',cap',ro,L,hv,h2,h3,h4,_⟩:=h.1.at hp
    injection hv with e1 e2 e3 e4
    subst e1;subst e2
    rw[hq] at h2;injection h2 with h2;injection h2 with _ _ h2;subst h2
    exact h3
  refine⟨.sl m.length 0 (xs.length+ys.length) none,m.set q .dead++[.cells 1 false (iC xs++iC ys)],?_,?_,by simp,fun k hk ho=>?_⟩
  ·simp only[appendA,hlen,hr,Am.getC,hq,hcut]
   rw[if_neg h0,if_pos]
   exact⟨trivial,by omega,by omega,by omega,by rw[List.all_append,iC_one,iC_one];rfl⟩
  ·have:=(new .nils (m.set q .dead) (by simp)).2
   simpa [iC] using this
  ·have hqk:q≠k:=by
    rintro rfl
    rcases ho with ho|ho
    ·exact ho _ hq
    ·omega
   rw[List.getElem?_append_left (by simpa using hk),List.getElem?_set_ne hqk]
theorem PO.ne1{m:Mem X} {P:Pla} {s:Pc} (H:PO m P s) {k:Nat} (hk:P.has k) (l:List AV):m[k]?≠some (.cells 1 false l):=fun e=>by
 have key:∀ {i j xs},LN m i j xs→k≠i:=fun hl hki=>by
  obtain⟨l,hc⟩:=hl.cell
  rw[hki,hc] at e;cases e
 have key2:∀ {i j xs},LN m i j xs→j≠some k:=fun hl hj=>by
  obtain⟨tb,c,ht⟩:=hl.tab hj
  rw[ht] at e;cases e
 rcases hk with hk|hk|hk|hk|hk|hk|hk
 ·rw[hk,H.gp] at e;cases e
 ·exact key H.l1 hk
 ·exact key H.l2 hk
 ·exact key H.l3 hk
 ·exact key2 H.l1 hk
 ·exact key2 H.l2 hk
 ·exact key2 H.l3 hk
theorem WP.push{m0 m m':Mem X} {p:Nat} {s:Pc} (H:WP m0 m p s) (h:∀ k,k < m.length→(∀ l,m[k]?≠some (.cells 1 false l))→m'[k]?=m[k]?):WP m0 m' p s:=by
 obtain⟨P,h1,h2,h3⟩:=H
 exact⟨P,h1,h2.at fun k hk=>h k (h2.lt hk) (h2.ne1 hk),h3⟩
theorem WP.nd{m0 m:Mem X} {p:Nat} {s:Pc} (H:WP m0 m p s):s.g.Nodup∧s.ps.Nodup∧s.ms.Nodup:=by
 obtain⟨P,_,H,_⟩:=H
 exact⟨H.l1.nodup,H.l2.nodup,H.l3.nodup⟩
end Go.Am.F15
end
section
namespace Go.Am.F15
open Go.Am.F10 (iC iC_at iC_len iC_one iC_app SI SI.val same_run Cf cfC rightP right_run Nx si_take si_drop si_row cutA dropA)
variable {X:Type}
theorem LV.keep{m0 m m':Mem X} {xs:List Int} {v:AV} (h:LV m0 m xs v) (k:Keep m m'):LV m0 m' xs v:=h.kk k.kk
theorem LV.nil{m0 m:Mem X}:LV m0 m [] .nils:=⟨Sl.nil,.inl rfl⟩
def Fit(v:AV):Prop:=∀ q o n c,v = .sl q o n (some c)→n≤c
theorem si_w{m:Mem X} {w:Bool} {xs:List Int} {v:AV} (h:SI m true xs v):SI m w xs v:=by
 cases w
 ·exact h.ro
 ·exact h
def Of(m:Mem X) (a:AV) (xs ys:List Int) (r:AV) (m':Mem X):Prop:=Keep m m'∧((r=a∧ys=xs)∨LV m m' ys r)
theorem Of.si{m m':Mem X} {w:Bool} {a r:AV} {xs ys:List Int} (h:Of m a xs ys r m') (ha:SI m w xs a):SI m' w ys r:=by
 obtain⟨hk,⟨rfl,rfl⟩|h⟩:=h
 ·exact ha.keep hk
 ·exact si_w h.1
theorem Of.nx{m m':Mem X} {a r:AV} {xs ys:List Int} (h:Of m a xs ys r m') (ha:Nx m a):Nx m' r:=by
 obtain⟨hk,⟨rfl,rfl⟩|h⟩:=h
 ·exact ha.keep hk
 ·exact h.nx
end Go.Am.F15
end
section
namespace Go.Am.F15
open Go.Am.F10 (iC iC_at iC_len iC_one iC_app SI SI.val same_run Cf cfC rightP right_run Nx si_take si_drop si_row cutA dropA)
variable {X:Type}
def K1(m m':Mem X):Prop:=m.length≤m'.length∧∀ (k:Nat) (ro:Bool) (L:List AV),m[k]?=some (Chunk.cells 1 ro L)→m'[k]?=some (Chunk.cells 1 ro L)
theorem K1.refl(m:Mem X):K1 m m:=⟨Nat.le_refl _,fun _ _ _ h=>h⟩
theorem K1.trans{m m' m'':Mem X} (h:K1 m m') (h':K1 m' m''):K1 m m'':=⟨Nat.le_trans h.1 h'.1,fun k ro L e=>h'.2 k ro L (h.2 k ro L e)⟩
theorem KK.k1{m m':Mem X} (h:KK m m'):K1 m m':=⟨h.1,fun k ro L e=>h.2 k 1 ro L e (by decide) (by decide)⟩
theorem _root_.Go.Am.Keep.k1{m m':Mem X} (h:Keep m m'):K1 m m':=h.kk.k1
theorem K1.set{m m':Mem X} (h:K1 m m') {q sz:Nat} {ro:Bool} {l:List AV} (hq:m'[q]?=some (.cells sz ro l)) (hs:sz≠1) (C:Chunk X):K1 m (m'.set q C):=by
 refine⟨by simpa using h.1,fun k ro L e=>?_⟩
 have:=h.2 k ro L e
 rw[List.getElem?_set_ne]
 ·exact this
 ·rintro rfl
  rw[hq] at this;injection this with this;injection this with this
  exact hs this
def RW(m:Mem X) (xs:List Int) (v:AV):Prop:=SI m true xs v∧Nx m v
theorem RW.k1{m m':Mem X} {xs:List Int} {v:AV} (h:RW m xs v) (k:K1 m m'):RW m' xs v:=by
 obtain⟨⟨h0,h⟩,hn⟩:=h
 refine⟨⟨h0,?_⟩,?_⟩
 ·rcases h with h|⟨q,o,cap,h1,h2⟩
  ·exact .inl h
  ·refine .inr ⟨q,o,cap,h1,fun hn=>?_⟩
   obtain⟨ro,L,h3,h4⟩:=h2 hn
   exact⟨ro,L,k.2 q ro L h3,h4⟩
 ·rcases hn with hn|⟨q,o,n,l,h1,h2⟩
  ·exact .inl hn
  ·exact .inr ⟨q,o,n,l,h1,k.2 q false l h2⟩
theorem LV.rw{m0 m:Mem X} {xs:List Int} {v:AV} (h:LV m0 m xs v):RW m xs v:=⟨h.1,h.nx⟩
theorem Of.rw{m m':Mem X} {a r:AV} {xs ys:List Int} (h:Of m a xs ys r m') (ha:RW m xs a):RW m' ys r:=⟨h.si ha.1,h.nx ha.2⟩
theorem RW.nil{m:Mem X}:RW m [] .nils:=⟨Sl.nil,.inl rfl⟩
def rC(c:Cf) (gv pv mv:AV) (spin:Int):List AV:=[.int .i64 c.n,.int .i64 c.q,.int .i64 c.g,.int .i64 c.m,.int .i64 c.t,.int .i64 c.s,gv,pv,mv,.int .i64 spin]
def RP(m:Mem X) (s:Pc) (v:AV):Prop:=∃ gv pv mv,v = .agg (rC s.c gv pv mv s.spin)∧RW m s.g gv∧RW m s.ps pv∧RW m s.ms mv
theorem RP.k1{m m':Mem X} {s:Pc} {v:AV} (h:RP m s v) (k:K1 m m'):RP m' s v:=by
 obtain⟨gv,pv,mv,h0,h1,h2,h3⟩:=h
 exact⟨gv,pv,mv,h0,h1.k1 k,h2.k1 k,h3.k1 k⟩
theorem Fit.one(q o:Nat):Fit (.sl q o 1 (some 1)):=fun _ _ _ _ e=>by injection e with _ _ e1 e2;injection e2 with e2;omega
section
variable {m:Mem X} {s:Pc} {v:AV}
end
end Go.Am.F15
end
section
namespace Go.Am.F15
open Go.Am.F10 (iC iC_at iC_len iC_one iC_app SI SI.val same_run Cf cfC rightP right_run Nx si_take si_drop si_row cutA dropA madeC made_eq pick_eq)
open Go.Am.F06 (sqN sqT)
variable {X:Type}
end Go.Am.F15
end
section
namespace Go.Am.F15
open Go.Am.F10 (iC iC_at iC_len iC_one iC_app SI SI.val same_run Cf cfC rightP right_run Nx si_take si_drop si_row cutA dropA)
variable {X:Type}
section
variable {m:Mem X} {s:Pc} {v:AV}
end
end Go.Am.F15
end
section
namespace Go.Am.F15
open Go.Am.F10 (iC iC_at iC_len iC_one iC_app SI SI.val same_run Cf cfC rightP right_run Nx si_take si_drop si_row cutA dropA)
variable {X:Type}
section
variable {m:Mem X} {s:Pc} {v:AV}
end
end Go.Am.F15
end
section
namespace Go.Am.F15
open Go.Am.F10 (iC iC_at iC_len iC_one iC_app SI SI.val same_run Cf cfC rightP right_run Nx si_take si_drop si_row cutA dropA)
open Go.Am.F06 (sqN sqT)
variable {X:Type}
def RO(m:Mem X) (xs:List Int) (v:AV):Prop:=(v = .nils∧xs=[])∨∃ q,v = .sl q 0 xs.length none∧m[q]?=some (.cells 1 false (iC xs))
theorem RO.rw{m:Mem X} {xs:List Int} {v:AV} (h:RO m xs v):RW m xs v:=by
 rcases h with⟨rfl,rfl⟩|⟨q,rfl,h⟩
 ·exact RW.nil
 ·exact⟨⟨by rw[iC_len];omega,.inr ⟨q,0,none,rfl,fun _=>⟨false,_,h,by rw[List.drop_zero,List.take_of_length_le (by rw[iC_len];omega)],by rw[iC_len];omega,fun _=>rfl⟩⟩⟩,.inr ⟨q,0,_,_,rfl,h⟩⟩
def Lies(v:AV) (a b:Nat):Prop:=∀ q n,v = .sl q 0 n none→a≤q∧q < b
theorem own_ro{m0 m:Mem X} {xs:List Int} {v:AV} (h:Go.Am.Own m0 m 1 xs.length (iC xs) v):RO m xs v∧Lies v m0.length m.length:=by
 rcases h with⟨h1,h2,rfl⟩|⟨q,rfl,h2,h3,h4⟩
 ·exact⟨.inl ⟨rfl,List.length_eq_zero_iff.1 h1⟩,fun q n e=>by cases e⟩
 ·exact⟨.inr ⟨q,rfl,h2⟩,fun q' n e=>by injection e with e;subst e;exact⟨h3,h4⟩⟩
theorem RO.at{m m':Mem X} {xs:List Int} {v:AV} (h:RO m xs v) (e:∀ q n,v = .sl q 0 n none→m'[q]?=m[q]?):RO m' xs v:=by
 rcases h with h|⟨q,h1,h2⟩
 ·exact .inl h
 ·exact .inr ⟨q,h1,(e q _ h1).trans h2⟩
def WO(v:AV) (m m':Mem X):Prop:=m'.length=m.length∧∀ k,(∀ n,v ≠ .sl k 0 n none)→m'[k]?=m[k]?
theorem WO.refl(v:AV) (m:Mem X):WO v m m:=⟨rfl,fun _ _=>rfl⟩
theorem WO.set{v:AV} {m m':Mem X} (h:WO v m m') {q n:Nat} (hv:v = .sl q 0 n none) (C:Chunk X):WO v m (m'.set q C) :=
 ⟨by simpa using h.1,fun k hk=>by
  rw[List.getElem?_set_ne]
  ·exact h.2 k hk
  ·rintro rfl;exact hk n hv⟩
end Go.Am.F15
end
section
namespace Go.Am.F15
open Go.Am.F10 (iC iC_at iC_len iC_one iC_app SI SI.val same_run Nx si_take si_drop si_row cutA dropA pick_eq)
open Go.Am.F06 (sqN sqT)
open Go.Am.F14 (law14_works law14_row law14_FifoFirst law14_FifoPasses law14_FifoPlays law14_few law14_does law14_is law14_FifoKnown fifo_Pass ref14_Pop ref14_Remove ref14_Pass)
variable {X:Type}
theorem ln_kk{m m':Mem X} {i:Nat} {j:Option Nat} {xs:List Int} (H:LN m i j xs) (h:KL m m' i j):KK m m':=by
 refine⟨h.1,fun k sz ro L e h1 h2=>(h.2 k (List.getElem?_eq_some_iff.1 e).1 (fun hk=>?_) (fun hj=>?_)).trans e⟩
 ·obtain⟨l,hc⟩:=H.cell
  rw[hk,hc] at e;injection e with e;injection e with e;exact h1 e.symm
 ·obtain⟨tb,c,ht⟩:=H.tab hj
  rw[ht] at e;cases e
theorem NL.keep{m0 m m':Mem X} {i:Nat} {xs:List Int} (h:NL m0 m i xs) (k:Keep m m'):NL m0 m' i xs:=by
 obtain⟨j,a,b,c⟩:=h
 exact⟨j,a.keep k,b,c⟩
def LS(m0 m:Mem X) (i:Nat) (xs:List Int) (m':Mem X):Prop:=NL m0 m' i xs∧Keep m0 m'∧KK m m'
theorem ls_of{m0 m m':Mem X} {i:Nat} {j j':Option Nat} {xs ys:List Int} (hk:Keep m0 m) (H:LN m i j xs) (b:m0.length≤i) (c:∀ k,j=some k→m0.length≤k) (h1:KL m m' i j) (h2:JN m j j') (h3:LN m' i j' ys):LS m0 m i ys m':=by
 refine⟨⟨j',h3,b,fun k e=>?_⟩,⟨Nat.le_trans hk.1 h1.1,fun k hl=>?_⟩,ln_kk H h1⟩
 ·rcases h2 with rfl|⟨q,e',hq⟩
  ·exact c k e
  ·rw[e'] at e;injection e with e;subst e
   exact Nat.le_trans hk.1 hq
 ·exact(h1.2 k (Nat.lt_of_lt_of_le hl hk.1) (by omega) (fun e=>by have:=c k e;omega)).trans (hk.2 k hl)
theorem nl_push{m0 m:Mem X} {i:Nat} {xs l:List Int} {w:Bool} {lv:AV} (H:NL m0 m i xs) (hk:Keep m0 m) (hl:SI m w l lv) (hf:l.length < 10000) (hx:xs.length < 10000) :
  Fn GPush fifo_Line_Push [.ptr i 0,lv] m (fun r m'=>r = .int .i64 (if fitsB xs l=true then 0 else 140)∧LS m0 m i (if fitsB xs l=true then xs++l else xs) m'):=by
 obtain⟨j,H,b,c⟩:=H
 refine Fn_mono (push_run H hl (by omega) (by omega)) ?_
 rintro r m' ⟨rfl,j',h1,h2,h3⟩
 exact⟨rfl,ls_of hk H b c h1 h2 h3⟩
theorem nl_pop{m0 m:Mem X} {i:Nat} {xs:List Int} (H:NL m0 m i xs) (hk:Keep m0 m) (n:Int) (hx:xs.length < 10000) :
  Fn GPop fifo_Line_Pop [.ptr i 0,.int .i64 n] m (fun r m'=>LS m0 m i (xs.drop (popN xs n)) m'∧Go.Am.Own m m' 1 (xs.take (popN xs n)).length (iC (xs.take (popN xs n))) r):=by
 obtain⟨j,H,b,c⟩:=H
 refine Fn_mono (pop_run H n (by omega)) ?_
 rintro r m' ⟨h1,h2,h3⟩
 exact⟨ls_of hk H b c h1 (JN.refl _ _) h2,h3⟩
def GRem:List (Nat × AFun X):=[(119,c_fifo_Line_Has)]
theorem nl_remove{m0 m:Mem X} {i:Nat} {p q:List Int} {x:Int} (H:NL m0 m i (p++x :: q)) (hk:Keep m0 m):Fn GRem fifo_Line_Remove [.ptr i 0,.int .i64 x] m (fun r m'=>r = .bool true∧LS m0 m i (p++q) m'):=by
 obtain⟨j,H,b,c⟩:=H
 refine Fn_mono (remove_run H) ?_
 rintro r m' ⟨rfl,h1,h2⟩
 exact⟨rfl,ls_of hk H b c h1 (JN.refl _ _) h2⟩
theorem nl_all{m0 m:Mem X} {i:Nat} {xs:List Int} (H:NL m0 m i xs) (hx:xs.length < 10000):Fn GAll14 fifo_Line_All [.ptr i 0] m (AllP m xs):=by
 obtain⟨j,H,b,c⟩:=H
 exact all_run14 H (by omega)
theorem nl_ahead{m0 m:Mem X} {i:Nat} {xs:List Int} (H:NL m0 m i xs) (hx:xs.length < 10000) (x:Int):aheadF [.ptr i 0,.int .i64 x] m=some (.int .i64 (aheadL xs x),m):=by
 obtain⟨j,H,b,c⟩:=H
 simp only[aheadF,H.rows]
 rw[if_pos (by omega)]
theorem NL.nodup{m0 m:Mem X} {i:Nat} {xs:List Int} (H:NL m0 m i xs):xs.Nodup:=by
 obtain⟨j,H,b,c⟩:=H
 exact H.nodup
theorem LS.keep{m0 m m' m'':Mem X} {i:Nat} {xs:List Int} (h:LS m0 m i xs m') (k:Keep m' m''):LS m0 m i xs m'':=⟨h.1.keep k,h.2.1.trans k,h.2.2.trans k.kk⟩
def GRow:List (Nat × AFun X):=[(84,c_kit_SameInts)]
def RwI(a b:AV) (xs:List Int) (m0:Mem X) (k:Nat) (e:List AV) (m:Mem X):Prop:=∃ (j:Nat) (x4 x5:AV),
 e=[a,b,.bool false,.int .i64 j,x4,x5]∧k=xs.length - j∧j≤xs.length∧WO a m0 m∧∀ q,a = .sl q 0 xs.length none→∃ L,m[q]?=some (.cells 1 false L)∧L.length=xs.length
theorem row_run{m:Mem X} {w:Bool} {xs ys:List Int} {a b:AV} (ha:RO m xs a) (hb:SI m w ys b) (hx:xs.length < 1000):Fn GRow law14_row [a,b] m (fun r m'=>r = .bool (decide (xs=ys))∧WO a m m'):=by
 have a84:assoc (GRow (X:=X)) 84=some c_kit_SameInts:=rfl
 generalize (GRow (X:=X))=G at a84 ⊢
 have hs:=same_eq ha.rw.1 hb hx
 have hlen:=ha.rw.1.len
 refine Fn_of rfl ?_
 by_cases he:xs=ys
 ·have hd:decide (xs=ys)=true:=decide_eq_true he
  rw[hd] at hs
  simp(disch:=first|assumption|omega|(simp only[zl]<;>omega)|(simp only[zn])) only[law14_row,↓zd,zk,seval,reduceIte,List.map,AV.cells,List.all,AV.one,eqV,eqAll,splice,fillA,List.replicate,resAll,resA,zm,zg,a84,hs]
  refine W_loop (RwI a b xs m) xs.length (by unfold FUEL;omega) ⟨0,_,_,rfl,rfl,Nat.zero_le _,WO.refl a m,fun q e=>?_⟩ ?_
  ·rcases ha with⟨h,_⟩|⟨q',h,h2⟩
   ·rw[h] at e;cases e
   ·rw[h] at e;injection e with e;subst e
    exact⟨_,h2,iC_len xs⟩
  rintro k e m' ⟨j,x4,x5,rfl,rfl,hj,hw,hL⟩
  simp(disch:=first|assumption|omega|(simp only[zl]<;>omega)|(simp only[zn])) only[↓zd,zk,seval,reduceIte,List.map,AV.cells,List.all,AV.one,eqV,eqAll,splice,fillA,List.replicate,resAll,resA,zm,zg,ev_len,hlen]
  refine CW_of (fun hc=>?_) (fun hc=>?_)
  ·simp only[decide_eq_true_eq] at hc
   rcases ha with⟨_,hx0⟩|⟨q,hvq,_⟩
   ·rw[hx0] at hc;simp at hc;omega
   ·obtain⟨L,hq1,hq2⟩:=hL q hvq
    have lq:=(List.getElem?_eq_some_iff.1 hq1).1
    subst hvq
    simp(disch:=first|assumption|omega|(simp only[zl]<;>omega)|(simp only[zn])) only[↓zd,zk,seval,reduceIte,List.map,AV.cells,List.all,AV.one,eqV,eqAll,splice,fillA,List.replicate,resAll,resA,zm,zg,hq1]
    refine⟨_,by omega,j+1,_,_,rfl,rfl,by omega,hw.set rfl _,fun q' e=>?_⟩
    injection e with e;subst e
    exact⟨_,List.getElem?_set_self lq,by simp[hq2]⟩
  ·simp only[decide_eq_false_iff_not] at hc
   simp(disch:=first|assumption|omega|(simp only[zl]<;>omega)|(simp only[zn])) only[↓zd,zk,seval,reduceIte,List.map,AV.cells,List.all,AV.one,eqV,eqAll,splice,fillA,List.replicate,resAll,resA,zm,zg]
   first|exact hw|exact⟨by first|exact hd.symm|rfl|simp[he],hw⟩
 ·have hd:decide (xs=ys)=false:=decide_eq_false he
  rw[hd] at hs
  simp(disch:=first|assumption|omega|(simp only[zl]<;>omega)|(simp only[zn])) only[law14_row,↓zd,zk,seval,reduceIte,List.map,AV.cells,List.all,AV.one,eqV,eqAll,splice,fillA,List.replicate,resAll,resA,zm,zg,a84,hs]
  first|exact WO.refl a m|exact⟨by first|rfl|simp[he],WO.refl a m⟩
theorem own_row{m m1 m2:Mem X} {xs:List Int} {v:AV} (hk:Keep m m1) (ho:Go.Am.Own m m1 1 xs.length (iC xs) v) (hw:WO v m1 m2):Keep m m2:=by
 obtain⟨_,hl⟩:=own_ro ho
 refine⟨by rw[hw.1];exact hk.1,fun k hl'=>(hw.2 k fun n e=>?_).trans (hk.2 k hl')⟩
 have:=hl k n e;omega
theorem keep_wo{m0 m m':Mem X} {v:AV} {a b:Nat} (hk:Keep m0 m) (hl:Lies v a b) (ha:m0.length≤a) (hw:WO v m m'):Keep m0 m' :=
 ⟨by rw[hw.1];exact hk.1,fun k hk'=>(hw.2 k fun n e=>by have:=hl k n e;omega).trans (hk.2 k hk')⟩
theorem NL.wo{m0 m m':Mem X} {i:Nat} {xs ys:List Int} {v:AV} (h:NL m0 m i xs) (hr:RO m ys v) (hw:WO v m m'):NL m0 m' i xs:=by
 obtain⟨j,H,b,c⟩:=h
 have key:∀ k:Nat,(∀ l:List AV,m[k]?≠some (Chunk.cells 1 false l))→m'[k]?=m[k]?:=fun k hk=>hw.2 k fun n e=>by
  rcases hr with⟨h,_⟩|⟨q,h,h2⟩
  ·rw[h] at e;cases e
  ·rw[h] at e;injection e with e;subst e;exact hk _ h2
 refine⟨j,H.at (key _ fun l e=>?_) (fun k e=>key _ fun l e'=>?_),b,c⟩
 ·obtain⟨l',hc⟩:=H.cell
  rw[hc] at e;cases e
 ·obtain⟨tb,c,ht⟩:=H.tab e
  rw[ht] at e';cases e'
end Go.Am.F15
end
section
namespace Go.Am.F15
open Go.Am.F10 (iC iC_at iC_len iC_one iC_app SI SI.val same_run Nx si_take si_drop si_row cutA dropA pick_eq)
open Go.Am.F06 (sqN sqT)
open Go.Am.F14 (law14_works law14_row law14_FifoFirst law14_FifoPasses law14_FifoPlays law14_few law14_does law14_is law14_FifoKnown fifo_Pass ref14_Pop ref14_Remove ref14_Pass)
variable {X:Type}
theorem of_no{m:Mem X} {xs:List Int} {w:Bool} {v:AV} (hv:SI m w xs v) (hx:xs.length < 10000) (hnd:¬ xs.Nodup):Fn GOf fifo_Of [v] m (fun r m'=>r = .tup [.nilp,.int .i64 140]∧Keep m m'):=by
 have a101:assoc (GOf (X:=X)) 101=some (amFunc [(123,c_fifo_Line_fits)] fifo_Line_Push):=rfl
 generalize (GOf (X:=X))=G at a101 ⊢
 refine Fn_of rfl ?_
 have hk0:=Keep.app m [Chunk.cells 3 false [AV.nilm,.int .i64 0,.int .i64 0]]
 have H0:LN (m++[Chunk.cells 3 false [AV.nilm,.int .i64 0,.int .i64 0]]) m.length none []:=.inl ⟨rfl,rfl,0,0,get_concat⟩
 simp(disch:=first|assumption|omega|(simp only[zl]<;>omega)|(simp only[zn])) only[fifo_Of,↓zd,zk,seval,reduceIte,List.map,AV.cells,List.all,AV.one,eqV,eqAll,splice,fillA,List.replicate,resAll,resA,zm,zg,a101]
 refine OK_fn (push_run H0 (hv.keep hk0) (by omega) (by simp)) ?_
 rintro _ m1 ⟨rfl,j',hkl,hj,hL⟩
 have hf:fitsB [] xs=false:=by rw[fits_nil];exact decide_eq_false hnd
 rw[hf]
 simp(disch:=first|assumption|omega|(simp only[zl]<;>omega)|(simp only[zn])) only[↓zd,zk,seval,reduceIte,List.map,AV.cells,List.all,AV.one,eqV,eqAll,splice,fillA,List.replicate,resAll,resA,zm,zg]
 refine⟨Nat.le_trans hk0.1 hkl.1,fun k hk=>(hkl.2 k (by simp;omega) (by omega) (fun e=>by cases e)).trans (hk0.2 k hk)⟩
def GW14:List (Nat × AFun X):=[(107,amFunc GOf fifo_Of),(101,amFunc GPush fifo_Line_Push),(100,amFunc GAll14 fifo_Line_All),(109,amFunc GRow law14_row),(102,aheadF),(104,amFunc GRem fifo_Line_Remove),(103,amFunc GPop fifo_Line_Pop)]
set_option maxHeartbeats 8000000 in
theorem works14_run{m:Mem X}:Fn GW14 law14_works [] m (fun r m'=>r = .bool true∧Keep m m'):=by
 have a107:assoc (GW14 (X:=X)) 107=some (amFunc GOf fifo_Of):=rfl
 have a101:assoc (GW14 (X:=X)) 101=some (amFunc GPush fifo_Line_Push):=rfl
 have a100:assoc (GW14 (X:=X)) 100=some (amFunc GAll14 fifo_Line_All):=rfl
 have a109:assoc (GW14 (X:=X)) 109=some (amFunc GRow law14_row):=rfl
 have a102:assoc (GW14 (X:=X)) 102=some aheadF:=rfl
 have a104:assoc (GW14 (X:=X)) 104=some (amFunc GRem fifo_Line_Remove):=rfl
 have a103:assoc (GW14 (X:=X)) 103=some (amFunc GPop fifo_Line_Pop):=rfl
 generalize (GW14 (X:=X))=G at a107 a101 a100 a109 a102 a104 a103 ⊢
 have r2:repeatL 2 [AV.int .i64 0]=[.int .i64 0,.int .i64 0]:=rfl
 have r3:repeatL 3 [AV.int .i64 0]=[.int .i64 0,.int .i64 0,.int .i64 0]:=rfl
 refine Fn_of rfl ?_
 have k0:=Keep.app m [Chunk.cells 1 false [AV.int .i64 5,.int .i64 3,.int .i64 9]]
 have s0:SI (m++[Chunk.cells 1 false [AV.int .i64 5,.int .i64 3,.int .i64 9]]) true [5,3,9] (.sl m.length 0 3 (some 3)):=lits_si (xs:=[5,3,9]) rfl
 simp(disch:=first|assumption|omega|(simp only[zl]<;>omega)|(simp only[zn])) only[law14_works,↓zd,zk,seval,reduceIte,List.map,AV.cells,List.all,AV.one,eqV,eqAll,splice,fillA,List.replicate,resAll,resA,zm,zg,evA,r3,a107]
 refine OK_fn (of_run s0 (by decide) (by decide)) ?_
 rintro _ m1 ⟨i,rfl,k1,H1⟩
 have H1:NL m m1 i [5,3,9]:=by
  obtain⟨j,h1,h2,h3⟩:=H1
  exact⟨j,h1,Nat.le_trans k0.1 h2,fun k e=>Nat.le_trans k0.1 (h3 k e)⟩
 have K1:=k0.trans k1
 have s2:SI (m1++[Chunk.cells 1 false [AV.int .i64 7,.int .i64 3]]) true [7,3] (.sl m1.length 0 2 (some 2)):=lits_si (xs:=[7,3]) rfl
 have k2:=Keep.app m1 [Chunk.cells 1 false [AV.int .i64 7,.int .i64 3]]
 simp(disch:=first|assumption|omega|(simp only[zl]<;>omega)|(simp only[zn])) only[↓zd,zk,seval,reduceIte,List.map,AV.cells,List.all,AV.one,eqV,eqAll,splice,fillA,List.replicate,resAll,resA,zm,zg,evA,r2,a101]
 refine OK_fn (nl_push (H1.keep k2) (K1.trans k2) s2 (by decide) (by decide)) ?_
 rintro _ m2 ⟨rfl,H2,K2,_⟩
 have f2:fitsB [5,3,9] [7,3]=false:=by decide
 rw[f2] at H2 ⊢
 simp(disch:=first|assumption|omega|(simp only[zl]<;>omega)|(simp only[zn])) only[↓zd,zk,seval,reduceIte,List.map,AV.cells,List.all,AV.one,eqV,eqAll,splice,fillA,List.replicate,resAll,resA,zm,zg,a100]
 refine OK_fn (nl_all H2 (by decide)) ?_
 rintro v3 m3 ⟨k3,o3⟩
 have s4:SI (m3++[Chunk.cells 1 false [AV.int .i64 5,.int .i64 3,.int .i64 9]]) true [5,3,9] (.sl m3.length 0 3 (some 3)):=lits_si (xs:=[5,3,9]) rfl
 have k4:=Keep.app m3 [Chunk.cells 1 false [AV.int .i64 5,.int .i64 3,.int .i64 9]]
 simp(disch:=first|assumption|omega|(simp only[zl]<;>omega)|(simp only[zn])) only[↓zd,zk,seval,reduceIte,List.map,AV.cells,List.all,AV.one,eqV,eqAll,splice,fillA,List.replicate,resAll,resA,zm,zg,evA,r3,a109]
 refine OK_fn (row_run ((own_ro (own_keep o3 k4)).1) s4 (by decide)) ?_
 rintro _ m5 ⟨rfl,w5⟩
 have k5:=own_row (k3.trans k4) (own_keep o3 k4) w5
 have K5:=K2.trans k5
 have H5:=H2.keep k5
 have s6:SI (m5++[Chunk.cells 1 false [AV.int .i64 7]]) true [7] (.sl m5.length 0 1 (some 1)):=lits_si (xs:=[7]) rfl
 have k6:=Keep.app m5 [Chunk.cells 1 false [AV.int .i64 7]]
 simp(disch:=first|assumption|omega|(simp only[zl]<;>omega)|(simp only[zn])) only[↓zd,zk,seval,reduceIte,List.map,AV.cells,List.all,AV.one,eqV,eqAll,splice,fillA,List.replicate,resAll,resA,zm,zg,evA,repeatL_one,a101]
 refine OK_fn (nl_push (H5.keep k6) (K5.trans k6) s6 (by decide) (by decide)) ?_
 rintro _ m6 ⟨rfl,H6,K6,_⟩
 have f6:fitsB [5,3,9] [7]=true:=by decide
 have H6:NL m m6 i [5,3,9,7]:=by simpa [f6] using H6
 have e6:=nl_ahead H6 (by decide) 7
 have d6:aheadL [5,3,9,7] 7=3:=by decide
 rw[d6] at e6
 simp(disch:=first|assumption|omega|(simp only[zl]<;>omega)|(simp only[zn])) only[↓zd,zk,seval,reduceIte,List.map,AV.cells,List.all,AV.one,eqV,eqAll,splice,fillA,List.replicate,resAll,resA,zm,zg,f6,a102,e6,a104]
 refine OK_fn (nl_remove (p:=[5]) (q:=[9,7]) H6 K6) ?_
 rintro _ m7 ⟨rfl,H7,K7,_⟩
 have H7:NL m m7 i [5,9,7]:=H7
 simp(disch:=first|assumption|omega|(simp only[zl]<;>omega)|(simp only[zn])) only[↓zd,zk,seval,reduceIte,List.map,AV.cells,List.all,AV.one,eqV,eqAll,splice,fillA,List.replicate,resAll,resA,zm,zg,a103]
 refine OK_fn (nl_pop H7 K7 2 (by decide)) ?_
 rintro v8 m8 ⟨⟨H8,K8,_⟩,o8⟩
 have p8:popN [5,9,7] 2=2:=by decide
 rw[p8] at H8 o8
 have H8:NL m m8 i [7]:=H8
 have s9:SI (m8++[Chunk.cells 1 false [AV.int .i64 5,.int .i64 9]]) true [5,9] (.sl m8.length 0 2 (some 2)):=lits_si (xs:=[5,9]) rfl
 have k9:=Keep.app m8 [Chunk.cells 1 false [AV.int .i64 5,.int .i64 9]]
 simp(disch:=first|assumption|omega|(simp only[zl]<;>omega)|(simp only[zn])) only[↓zd,zk,seval,reduceIte,List.map,AV.cells,List.all,AV.one,eqV,eqAll,splice,fillA,List.replicate,resAll,resA,zm,zg,evA,r2,a109]
 refine OK_fn (row_run (xs:=[5,9]) ((own_ro (own_keep o8 k9)).1) s9 (by decide)) ?_
 rintro _ m9 ⟨rfl,w9⟩
 obtain⟨ro8,li8⟩:=own_ro (xs:=[5,9]) o8
 have rk8:=(own_ro (xs:=[5,9]) (own_keep o8 k9)).1
 have H9:NL m m9 i [7]:=(H8.keep k9).wo rk8 w9
 have K9:Keep m m9:=keep_wo (K8.trans k9) li8 K7.1 w9
 simp(disch:=first|assumption|omega|(simp only[zl]<;>omega)|(simp only[zn])) only[↓zd,zk,seval,reduceIte,List.map,AV.cells,List.all,AV.one,eqV,eqAll,splice,fillA,List.replicate,resAll,resA,zm,zg,a100]
 refine OK_fn (nl_all H9 (by decide)) ?_
 rintro v10 m10 ⟨k10,o10⟩
 have s11:SI (m10++[Chunk.cells 1 false [AV.int .i64 7]]) true [7] (.sl m10.length 0 1 (some 1)):=lits_si (xs:=[7]) rfl
 have k11:=Keep.app m10 [Chunk.cells 1 false [AV.int .i64 7]]
 simp(disch:=first|assumption|omega|(simp only[zl]<;>omega)|(simp only[zn])) only[↓zd,zk,seval,reduceIte,List.map,AV.cells,List.all,AV.one,eqV,eqAll,splice,fillA,List.replicate,resAll,resA,zm,zg,evA,repeatL_one,a109]
 refine OK_fn (row_run ((own_ro (own_keep o10 k11)).1) s11 (by decide)) ?_
 rintro _ m11 ⟨rfl,w11⟩
 simp(disch:=first|assumption|omega|(simp only[zl]<;>omega)|(simp only[zn])) only[↓zd,zk,seval,reduceIte,List.map,AV.cells,List.all,AV.one,eqV,eqAll,splice,fillA,List.replicate,resAll,resA,zm,zg]
 exact K9.trans (own_row (k10.trans k11) (own_keep o10 k11) w11)
end Go.Am.F15
end
section
namespace Go.Am.F15
open Go.Am.F10 (iC iC_at iC_len iC_one iC_app SI SI.val same_run Cf cfC rightP right_run Nx si_take si_drop si_row cutA dropA pick_eq)
open Go.Am.F06 (sqN sqT)
variable {X:Type}
end Go.Am.F15
end
section
namespace Go.Am.F15
open Go.Am.F10 (iC iC_at iC_len iC_one iC_app SI SI.val same_run Cf cfC rightP right_run Nx si_take si_drop si_row cutA dropA pick_eq)
open Go.Am.F06 (sqN sqT)
variable {X:Type}
def RB(m:Mem X) (b:Nat) (s:Pc):Prop:=∃ gv pv mv,m[b]?=some (.cells 10 false (rC s.c gv pv mv s.spin))∧RW m s.g gv∧RW m s.ps pv∧RW m s.ms mv
theorem RB.keep{m m':Mem X} {b:Nat} {s:Pc} (h:RB m b s) (k:Keep m m'):RB m' b s:=by
 obtain⟨gv,pv,mv,h0,h1,h2,h3⟩:=h
 exact⟨gv,pv,mv,k.get h0,h1.k1 k.k1,h2.k1 k.k1,h3.k1 k.k1⟩
theorem AS.row{m:Mem X} {l:List Act} {v:AV} (h:AS m l v) {i:Nat} {a:Act} (ha:l[i]?=some a):∃ q o cap ro L,v = .sl q o l.length cap∧m[q]?=some (.cells 3 ro L)∧o+l.length * 3≤L.length∧L[o+i * 3+2]?=some a.v∧(L.drop (o+i * 3)).take 3=aC a:=by
 have hi:i < l.length:=(List.getElem?_eq_some_iff.1 ha).1
 obtain⟨q,o,cap,ro,L,h1,h2,h3,h4,_⟩:=h.1.at (by omega)
 refine⟨q,o,cap,ro,L,h1,h2,h4,?_,?_⟩
 ·rw[Nat.add_assoc,sl_get h3 (by omega),rows_at aC_len ha (by decide:2 < 3)];rfl
 ·have:=rows_part aC_len ha
  rw[← h3,List.drop_take,List.take_take,List.drop_drop,Nat.min_eq_left (by omega)] at this
  exact this
end Go.Am.F15
end
section
namespace Go.Am.F15
open Go.Am.F10 (iC iC_at iC_len iC_one iC_app SI SI.val same_run Cf cfC rightP right_run Nx si_take si_drop si_row cutA dropA pick_eq)
open Go.Am.F06 (sqN sqT)
variable {X:Type}
end Go.Am.F15
end
section
namespace Go.Am.F15
open Go.Am.F10 (iC iC_at iC_len iC_one iC_app SI SI.val same_run Cf cfC rightP right_run Nx si_take si_drop si_row cutA dropA madeC made_eq pick_eq)
open Go.Am.F06 (sqN sqT)
variable {X:Type}
end Go.Am.F15
end
section
namespace Go.Am.F15
open Go.Am.F10 (iC iC_at iC_len iC_one iC_app SI SI.val same_run Cf cfC rightP right_run Nx si_take si_drop si_row cutA dropA pick_eq)
open Go.Am.F06 (sqN sqT)
variable {X:Type}
end Go.Am.F15
end
section
namespace Go.Am.F15
open Go.Am.F10 (iC iC_at iC_len iC_one iC_app SI SI.val same_run Nx si_take si_drop si_row cutA dropA pick_eq)
open Go.Am.F06 (sqN sqT)
open Go.Am.F14 (law14_works law14_row law14_FifoFirst law14_FifoPasses law14_FifoPlays law14_few law14_does law14_is law14_FifoKnown fifo_Pass ref14_Pop ref14_Remove ref14_Pass)
variable {X:Type}
theorem own_lv{m m1:Mem X} {xs:List Int} {v:AV} (h:Go.Am.Own m m1 1 xs.length (iC xs) v):LV m m1 xs v:=by
 refine⟨own_si h,?_⟩
 rcases h with⟨_,_,rfl⟩|⟨q,rfl,h2,h3,h4⟩
 ·exact .inl rfl
 ·exact .inr ⟨q,0,_,_,rfl,h2,h3,h4,by rw[iC_len];omega⟩
theorem LV.cut{m0 m:Mem X} {xs:List Int} {v:AV} (h:LV m0 m xs v) {k:Nat} (hk:k≤xs.length):LV m0 m (xs.take k) (cutA v k):=by
 refine⟨(si_take h.1 h.nx hk).2,?_⟩
 rcases h.2 with rfl|⟨q,o,n,l,rfl,h2,h3,h4⟩
 ·exact .inl rfl
 ·have hn:n=xs.length:=by have:=h.1.len;simp only[lenA,Option.some.injEq] at this;exact this
  exact .inr ⟨q,o,k,l,rfl,h2,h3,h4.1,by omega⟩
theorem NL.push{m0 m m':Mem X} {i:Nat} {xs:List Int} (h:NL m0 m i xs) (hk:∀ k,k < m.length→(∀ l,m[k]?≠some (Chunk.cells 1 false l))→m'[k]?=m[k]?):NL m0 m' i xs:=by
 obtain⟨j,H,b,c⟩:=h
 refine⟨j,H.at (hk _ H.lt.1 fun l e=>?_) (fun k e=>hk _ (H.lt.2 k e).1 fun l e'=>?_),b,c⟩
 ·obtain⟨l',hc⟩:=H.cell
  rw[hc] at e;cases e
 ·obtain⟨tb,c,ht⟩:=H.tab e
  rw[ht] at e';cases e'
def Up(last:Int) (xs:List Int) (i:Int):Prop:=(last :: xs).Pairwise (· < ·)∧∀ x ∈ last :: xs,x < i
theorem Up.push{last:Int} {xs:List Int} {i:Int} (h:Up last xs i):Up last (xs++[i]) (i+1):=by
 obtain⟨h1,h2⟩:=h
 refine⟨?_,fun x hx=>?_⟩
 ·rw[← List.cons_append,List.pairwise_append]
  exact⟨h1,by simp,fun a ha b hb=>by simp at hb;subst hb;exact h2 a ha⟩
 ·rw[← List.cons_append,List.mem_append] at hx
  rcases hx with hx|hx
  ·have:=h2 x hx;omega
  ·simp at hx;omega
theorem Up.next{last:Int} {xs:List Int} {i:Int} (h:Up last xs i):Up last xs (i+1):=⟨h.1,fun x hx=>by have:=h.2 x hx;omega⟩
theorem Up.sub{last:Int} {xs ys:List Int} {i:Int} (h:Up last xs i) (hs:ys.Sublist xs):Up last ys i:=⟨h.1.sublist (hs.cons_cons last),fun x hx=>h.2 x ((hs.cons_cons last).subset hx)⟩
theorem Up.drop{last lst:Int} {xs:List Int} {i:Int} {n:Nat} (h:Up last xs i) (hn:(last :: xs)[n]?=some lst):Up lst (xs.drop n) i:=by
 have hd:lst :: xs.drop n=(last :: xs).drop n:=by
  have hl:=(List.getElem?_eq_some_iff.1 hn).1
  rw[List.drop_eq_getElem_cons hl,(List.getElem?_eq_some_iff.1 hn).2]
  rfl
 exact⟨by rw[hd];exact h.1.sublist (List.drop_sublist _ _),fun x hx=>h.2 x ((List.drop_sublist n (last :: xs)).subset (by rw[← hd];exact hx))⟩
end Go.Am.F15
end
section
namespace Go.Am.F15
open Go.Am.F10 (iC iC_at iC_len iC_one iC_app SI SI.val same_run Nx si_take si_drop si_row cutA dropA pick_eq)
open Go.Am.F06 (sqN sqT)
open Go.Am.F14 (law14_works law14_row law14_FifoFirst law14_FifoPasses law14_FifoPlays law14_few law14_does law14_is law14_FifoKnown fifo_Pass ref14_Pop ref14_Remove ref14_Pass)
variable {X:Type}
theorem Up.lt{last lst x:Int} {xs:List Int} {i:Int} {j:Nat} (h:Up last xs i) (h1:(last :: xs)[j]?=some lst) (h2:xs[j]?=some x):lst < x:=by
 have h3:(last :: xs)[j+1]?=some x:=h2
 have l3:=(List.getElem?_eq_some_iff.1 h3)
 have l1:=(List.getElem?_eq_some_iff.1 h1)
 have:=List.pairwise_iff_getElem.1 h.1 j (j+1) l1.1 l3.1 (by omega)
 rw[l1.2,l3.2] at this
 exact this
end Go.Am.F15
end
section
namespace Go.Am.F15
open Go.Am.F10 (iC iC_at iC_len iC_one iC_app SI SI.val same_run Nx si_take si_drop si_row cutA dropA pick_eq)
open Go.Am.F06 (sqN sqT)
open Go.Am.F14 (law14_works law14_row law14_FifoFirst law14_FifoPasses law14_FifoPlays law14_few law14_does law14_is law14_FifoKnown fifo_Pass ref14_Pop ref14_Remove ref14_Pass)
variable {X:Type}
end Go.Am.F15
end
section
namespace Go.Am.F15
open Go.Am.F10 (iC iC_at iC_len iC_one iC_app SI SI.val same_run Nx si_take si_drop si_row cutA dropA pick_eq)
open Go.Am.F06 (sqN sqT)
open Go.Am.F14 (law14_works law14_row law14_FifoFirst law14_FifoPasses law14_FifoPlays law14_few law14_does law14_is law14_FifoKnown fifo_Pass ref14_Pop ref14_Remove ref14_Pass)
variable {X:Type}
def N2(m0 m:Mem X) (a b:Nat) (xs ys:List Int):Prop:=∃ j k,LN m a j xs∧LN m b k ys∧m0.length≤a∧m0.length≤b∧(∀ q,j=some q→m0.length≤q)∧(∀ q,k=some q→m0.length≤q)∧a≠b∧(∀ q,j=some q→k≠some q)
theorem N2.fst{m0 m:Mem X} {a b:Nat} {xs ys:List Int} (h:N2 m0 m a b xs ys):NL m0 m a xs:=by
 obtain⟨j,k,A,B,h1,h2,h3,h4,h5,h6⟩:=h
 exact⟨j,A,h1,h3⟩
theorem N2.snd{m0 m:Mem X} {a b:Nat} {xs ys:List Int} (h:N2 m0 m a b xs ys):NL m0 m b ys:=by
 obtain⟨j,k,A,B,h1,h2,h3,h4,h5,h6⟩:=h
 exact⟨k,B,h2,h4⟩
theorem N2.symm{m0 m:Mem X} {a b:Nat} {xs ys:List Int} (h:N2 m0 m a b xs ys):N2 m0 m b a ys xs:=by
 obtain⟨j,k,A,B,h1,h2,h3,h4,h5,h6⟩:=h
 exact⟨k,j,B,A,h2,h1,h4,h3,h5.symm,fun q e e'=>h6 q e' e⟩
theorem N2.keep{m0 m m':Mem X} {a b:Nat} {xs ys:List Int} (h:N2 m0 m a b xs ys) (k:Keep m m'):N2 m0 m' a b xs ys:=by
 obtain⟨j,l,A,B,h1,h2,h3,h4,h5,h6⟩:=h
 exact⟨j,l,A.keep k,B.keep k,h1,h2,h3,h4,h5,h6⟩
theorem N2.step{m0 m m':Mem X} {a b:Nat} {j j' k:Option Nat} {xs ys zs:List Int} (hk:Keep m0 m) (A:LN m a j xs) (B:LN m b k ys) (h1:m0.length≤a) (h2:m0.length≤b) (h3:∀ q,j=some q→m0.length≤q) (h4:∀ q,k=some q→m0.length≤q) (h5:a≠b) (h6:∀ q,j=some q→k≠some q)
  (s1:KL m m' a j) (s2:JN m j j') (s3:LN m' a j' zs):N2 m0 m' a b zs ys∧Keep m0 m'∧KK m m':=by
 obtain⟨⟨_,q1,q2,q3⟩,q4,q5⟩:=ls_of hk A h1 h3 s1 s2 s3
 refine⟨⟨j',k,s3,B.at (s1.2 b B.lt.1 (fun e=>h5 e.symm) (ln_ij B A)) (fun q e=>s1.2 q (B.lt.2 q e).1 (ln_ji B A e) (fun e'=>h6 q e' e)),h1,h2,fun q e=>?_,h4,h5,fun q e e'=>?_⟩,q4,q5⟩
 ·rcases s2 with rfl|⟨q',e',hq⟩
  ·exact h3 q e
  ·rw[e'] at e;injection e with e;subst e;exact Nat.le_trans hk.1 hq
 ·exact h6 q (s2.back (B.lt.2 q e').1 e) e'
theorem N2.push{m0 m:Mem X} {a b:Nat} {xs ys l:List Int} {w:Bool} {lv:AV} (H:N2 m0 m a b xs ys) (hk:Keep m0 m) (hl:SI m w l lv) (hf:l.length < 10000) (hx:xs.length < 10000) :
  Fn GPush fifo_Line_Push [.ptr a 0,lv] m (fun r m'=>r = .int .i64 (if fitsB xs l=true then 0 else 140)∧N2 m0 m' a b (if fitsB xs l=true then xs++l else xs) ys∧Keep m0 m'∧KK m m'):=by
 obtain⟨j,k,A,B,h1,h2,h3,h4,h5,h6⟩:=H
 refine Fn_mono (push_run A hl (by omega) (by omega)) ?_
 rintro r m' ⟨rfl,j',s1,s2,s3⟩
 exact⟨rfl,N2.step hk A B h1 h2 h3 h4 h5 h6 s1 s2 s3⟩
theorem N2.pop{m0 m:Mem X} {a b:Nat} {xs ys:List Int} (H:N2 m0 m a b xs ys) (hk:Keep m0 m) (n:Int) (hx:xs.length < 10000) :
  Fn GPop fifo_Line_Pop [.ptr a 0,.int .i64 n] m (fun r m'=>(N2 m0 m' a b (xs.drop (popN xs n)) ys∧Keep m0 m'∧KK m m')∧Go.Am.Own m m' 1 (xs.take (popN xs n)).length (iC (xs.take (popN xs n))) r):=by
 obtain⟨j,k,A,B,h1,h2,h3,h4,h5,h6⟩:=H
 refine Fn_mono (pop_run A n (by omega)) ?_
 rintro r m' ⟨s1,s2,s3⟩
 exact⟨N2.step hk A B h1 h2 h3 h4 h5 h6 s1 (JN.refl _ _) s2,s3⟩
theorem nl_fits{m0 m:Mem X} {i:Nat} {xs l:List Int} {w:Bool} {lv:AV} (H:NL m0 m i xs) (hl:SI m w l lv) (hf:l.length < 10000):Fn [(119,c_fifo_Line_Has)] fifo_Line_fits [.ptr i 0,lv] m (fun r m'=>r = .bool (fitsB xs l)∧Keep m m'):=by
 obtain⟨j,H,_⟩:=H
 exact fits_run H hl (by omega)
def GPass:List (Nat × AFun X):=[(100,amFunc GAll14 fifo_Line_All),(123,c_fifo_Line_fits),(103,amFunc GPop fifo_Line_Pop),(101,amFunc GPush fifo_Line_Push)]
def psE(xs ys:List Int) (n:Int):Int:=if fitsB ys (xs.take (popN xs n))=true then 0 else 140
def psX(xs ys:List Int) (n:Int):List Int:=if fitsB ys (xs.take (popN xs n))=true then xs.drop (popN xs n) else xs
def psY(xs ys:List Int) (n:Int):List Int:=if fitsB ys (xs.take (popN xs n))=true then ys++xs.take (popN xs n) else ys
def psR(xs ys:List Int) (n:Int):List Int:=if fitsB ys (xs.take (popN xs n))=true then xs.take (popN xs n) else []
def PsP(m0 m:Mem X) (a b:Nat) (xs ys:List Int) (n:Int) (r:AV) (m':Mem X):Prop:=∃ v,r = .tup [v,.int .i64 (psE xs ys n)]∧N2 m0 m' a b (psX xs ys n) (psY xs ys n)∧Keep m0 m'∧KK m m'∧LV m m' (psR xs ys n) v
set_option maxHeartbeats 4000000 in
theorem pass_run{m0 m:Mem X} {a b:Nat} {xs ys:List Int} (H:N2 m0 m a b xs ys) (hk:Keep m0 m) (n:Int) (hx:xs.length < 5000) (hy:ys.length < 5000):Fn GPass fifo_Pass [.ptr a 0,.ptr b 0,.int .i64 n] m (PsP m0 m a b xs ys n):=by
 have a100:assoc (GPass (X:=X)) 100=some (amFunc GAll14 fifo_Line_All):=rfl
 have a123:assoc (GPass (X:=X)) 123=some c_fifo_Line_fits:=rfl
 have a103:assoc (GPass (X:=X)) 103=some (amFunc GPop fifo_Line_Pop):=rfl
 have a101:assoc (GPass (X:=X)) 101=some (amFunc GPush fifo_Line_Push):=rfl
 generalize (GPass (X:=X))=G at a100 a123 a103 a101 ⊢
 have hab:a≠b:=by obtain⟨j,k,A,B,h1,h2,h3,h4,h5,h6⟩:=H;exact h5
 refine Fn_of rfl ?_
 simp(disch:=first|assumption|omega|(simp only[zl]<;>omega)|(simp only[zn])) only[fifo_Pass,↓zd,zk,seval,reduceIte,List.map,AV.cells,List.all,AV.one,eqV,eqAll,splice,fillA,List.replicate,resAll,resA,zm,zg,a100]
 refine OK_fn (nl_all H.fst (by omega)) ?_
 rintro v5 m1 ⟨k1,o1⟩
 have H1:=H.keep k1
 have L5:=own_lv o1
 have hl5:=L5.1.len
 have hpn:popN xs n≤xs.length:=by unfold popN;omega
 have hmin:(if (if (xs.length:Int) < n then(xs.length:Int) else n) > 0 then(if (xs.length:Int) < n then(xs.length:Int) else n) else 0)=((popN xs n:Nat):Int):=by unfold popN;split<;>split<;>omega
 have p0:(0≤((popN xs n:Nat):Int))=True:=eq_true (by omega)
 obtain⟨t1,t2⟩:=si_take L5.1 L5.nx (k:=popN xs n) hpn
 have L6:=L5.cut hpn
 obtain⟨la,ga⟩:∃ l,m1[a]?=some (.cells 3 false l):=by obtain⟨j,k,A,_⟩:=H1;exact A.cell
 obtain⟨lb,gb⟩:∃ l,m1[b]?=some (.cells 3 false l):=by obtain⟨j,k,_,B,_⟩:=H1;exact B.cell
 simp(disch:=first|assumption|omega|(simp only[zl]<;>omega)|(simp only[zn])) only[↓zd,zk,seval,reduceIte,List.map,AV.cells,List.all,AV.one,eqV,eqAll,splice,fillA,List.replicate,resAll,resA,zm,zg,ev_len,hl5,hmin,p0,evA,Int.toNat_natCast,t1,hab,ga,gb,a123]
 refine OK_fn (nl_fits H1.snd t2 (by rw[List.length_take];omega)) ?_
 rintro _ m2 ⟨rfl,k2⟩
 have H2:=H1.keep k2
 have K2:=hk.trans (k1.trans k2)
 cases hf:fitsB ys (xs.take (popN xs n)) with
 | false =>
  simp(disch:=first|assumption|omega|(simp only[zl]<;>omega)|(simp only[zn])) only[↓zd,zk,seval,reduceIte,List.map,AV.cells,List.all,AV.one,eqV,eqAll,splice,fillA,List.replicate,resAll,resA,zm,zg]
  exact⟨.nils,by simp[psE,hf],by simpa [psX,psY,hf] using H2,K2,(k1.trans k2).kk,by simpa [psR,hf] using LV.nil⟩
 | true =>
  simp(disch:=first|assumption|omega|(simp only[zl]<;>omega)|(simp only[zn])) only[↓zd,zk,seval,reduceIte,List.map,AV.cells,List.all,AV.one,eqV,eqAll,splice,fillA,List.replicate,resAll,resA,zm,zg,a103]
  refine OK_fn (H2.pop K2 n (by omega)) ?_
  rintro v7 m3 ⟨⟨H3,K3,kk3⟩,o3⟩
  have L63:=(L6.keep k2).kk kk3
  simp(disch:=first|assumption|omega|(simp only[zl]<;>omega)|(simp only[zn])) only[↓zd,zk,seval,reduceIte,List.map,AV.cells,List.all,AV.one,eqV,eqAll,splice,fillA,List.replicate,resAll,resA,zm,zg,a101]
  refine OK_fn (H3.symm.push K3 L63.1 (by rw[List.length_take];omega) (by omega)) ?_
  rintro _ m4 ⟨rfl,H4,K4,kk4⟩
  rw[hf] at H4 ⊢
  simp(disch:=first|assumption|omega|(simp only[zl]<;>omega)|(simp only[zn])) only[↓zd,zk,seval,reduceIte,List.map,AV.cells,List.all,AV.one,eqV,eqAll,splice,fillA,List.replicate,resAll,resA,zm,zg]
  exact⟨cutA v5 (popN xs n),by simp[psE,hf],by simpa [psX,psY,hf] using H4.symm,K4,(k1.trans k2).kk.trans (kk3.trans kk4),by simpa [psR,hf] using L63.kk kk4⟩
end Go.Am.F15
end
section
namespace Go.Am.F15
open Go.Am.F10 (iC iC_at iC_len iC_one iC_app SI SI.val same_run Nx si_take si_drop si_row cutA dropA pick_eq)
open Go.Am.F06 (sqN sqT)
variable {X:Type}
def Sb(m:Mem X) (v:AV):Prop:=v = .nils∨(∃ q o n c,v = .sl q o n (some c)∧n≤c)∨∃ q o n l,v = .sl q o n none∧m[q]?=some (.cells 1 false l)
theorem Sb.keep{m m':Mem X} {v:AV} (h:Sb m v) (k:Keep m m'):Sb m' v:=by
 rcases h with h|h|⟨q,o,n,l,h1,h2⟩
 ·exact .inl h
 ·exact .inr (.inl h)
 ·exact .inr (.inr ⟨q,o,n,l,h1,k.get h2⟩)
def cutB(v:AV) (k:Nat):AV:=match v with | .sl q o _ c=>.sl q o k c|v=>v
def dropB(v:AV) (k:Nat):AV:=match v with | .sl q o n none=>.sl q (o+k) (n - k) none | .sl q o n (some c)=>.sl q (if c=k then o else o+k) (n - k) (some (c - k))|v=>v
theorem sb_take{m:Mem X} {w:Bool} {xs:List Int} {v:AV} (h:SI m w xs v) (hs:Sb m v) {k:Nat} (hk:k≤xs.length):sliceA m 1 v none (some k) none=some (cutB v k)∧SI m w (xs.take k) (cutB v k)∧Sb m (cutB v k):=by
 rcases hs with rfl|⟨q,o,n,c,rfl,hnc⟩|⟨q,o,n,l,rfl,hq⟩
 ·have hx:xs=[]:=List.length_eq_zero_iff.1 (by have:=h.len;simp only[lenA,Option.some.injEq] at this;exact this.symm)
  subst hx
  have:k=0:=by simpa using hk
  subst this
  exact⟨rfl,Sl.nil,.inl rfl⟩
 ·have hn:n=xs.length:=by have:=h.len;simp only[lenA,Option.some.injEq] at this;exact this
  subst hn
  have hl:(xs.take k).length=k:=by rw[List.length_take];omega
  refine⟨?_,⟨by rw[iC_len];omega,.inr ⟨q,o,some c,by rw[hl];rfl,fun h0=>?_⟩⟩,.inr (.inl ⟨q,o,k,c,rfl,by omega⟩)⟩
  ·simp only[sliceA,Option.getD_some,Option.getD_none]
   rw[if_pos ⟨by omega,by omega,by omega,.inl trivial⟩]
   simp[cutB]
  ·rw[hl] at h0 ⊢
   obtain⟨q',o',cap',ro,L,hv,h2,h3,h4,h5⟩:=h.at (by omega)
   injection hv with v1 v2 v3 v4;subst v1;subst v2;subst v4
   refine⟨ro,L,h2,?_,by omega,h5⟩
   rw[iC,List.map_take,← iC,← h3,List.take_take]
   congr 1;omega
 ·obtain⟨a,b⟩:=si_take h (.inr ⟨q,o,n,l,rfl,hq⟩) hk
  exact⟨a,b,.inr (.inr ⟨q,o,k,l,rfl,hq⟩)⟩
theorem sb_drop{m:Mem X} {w:Bool} {xs:List Int} {v:AV} (h:SI m w xs v) (hs:Sb m v) {k:Nat} (hk:k≤xs.length):sliceA m 1 v (some k) none none=some (dropB v k)∧SI m w (xs.drop k) (dropB v k)∧Sb m (dropB v k):=by
 rcases hs with rfl|⟨q,o,n,c,rfl,hnc⟩|⟨q,o,n,l,rfl,hq⟩
 ·have hx:xs=[]:=List.length_eq_zero_iff.1 (by have:=h.len;simp only[lenA,Option.some.injEq] at this;exact this.symm)
  subst hx
  have:k=0:=by simpa using hk
  subst this
  exact⟨rfl,Sl.nil,.inl rfl⟩
 ·have hn:n=xs.length:=by have:=h.len;simp only[lenA,Option.some.injEq] at this;exact this
  subst hn
  have hl:(xs.drop k).length=xs.length - k:=List.length_drop
  refine⟨?_,⟨by rw[iC_len];omega,.inr ⟨q,if c=k then o else o+k,some (c - k),by rw[hl];rfl,fun h0=>?_⟩⟩,.inr (.inl ⟨q,_,_,_,rfl,by omega⟩)⟩
  ·simp only[sliceA,Option.getD_some,Option.getD_none]
   rw[if_pos ⟨by omega,by omega,by omega,.inl trivial⟩,Nat.mul_one]
   rfl
  ·rw[hl] at h0 ⊢
   rw[if_neg (by omega)]
   obtain⟨q',o',cap',ro,L,hv,h2,h3,h4,h5⟩:=h.at (by omega)
   injection hv with v1 v2 v3 v4;subst v1;subst v2;subst v4
   refine⟨ro,L,h2,?_,by omega,h5⟩
   rw[iC,List.map_drop,← iC,← h3,List.drop_take,List.drop_drop]
   congr 1;omega
 ·obtain⟨a,b⟩:=si_drop h (.inr ⟨q,o,n,l,rfl,hq⟩) hk
  exact⟨a,b,.inr (.inr ⟨q,o+k,n - k,l,rfl,hq⟩)⟩
def Qm(m0 m:Mem X) (xs:List Int) (v:AV):Prop:=(xs=[]∧v = .mt)∨(xs≠[]∧LV m0 m xs v)
theorem qm_app{m0 m:Mem X} {w:Bool} {xs ys:List Int} {v y:AV} (h:Qm m0 m xs v) (hk:Keep m0 m) (hy:SI m w ys y) (hl:xs.length≤100000) (hl2:ys.length≤100000) :
  ∃ v' m',appendA 1 8 v y m=some (v',m')∧Qm m0 m' (xs++ys) v'∧Keep m0 m'∧m.length≤m'.length∧(∀ k,k < m.length→(∀ l,m[k]?≠some (Chunk.cells 1 false l))∨k < m0.length→m'[k]?=m[k]?):=by
 rcases h with⟨rfl,rfl⟩|⟨hne,hL⟩
 ·have hr:=si_row hy
  have hlen:=hy.len
  by_cases h0:ys.length=0
  ·have hx:ys=[]:=List.length_eq_zero_iff.1 h0
   subst hx
   exact⟨.mt,m,by simp only[appendA,hlen,hr,List.length_nil,if_true],.inl ⟨rfl,rfl⟩,hk,Nat.le_refl _,fun _ _ _=>rfl⟩
  ·have hg:(m++[Chunk.cells 1 false (iC ys)])[m.length]?=some (.cells 1 false (iC ys)):=get_concat
   refine⟨.sl m.length 0 ys.length none,m++[.cells 1 false (iC ys)],?_,.inr ⟨fun e=>h0 (by simp at e;rw[e];rfl),⟨?_,.inr ⟨m.length,0,_,_,rfl,hg,hk.1,by simp,by rw[iC_len];omega⟩⟩⟩,hk.trans (Keep.app _ _),by simp,fun k hk _=>List.getElem?_append_left hk⟩
   ·simp only[appendA,hlen,hr]
    rw[if_neg h0,if_pos ⟨by omega,by omega,iC_one _⟩]
   ·rw[List.nil_append]
    exact⟨by rw[iC_len];omega,.inr ⟨m.length,0,none,rfl,fun _=>⟨false,_,hg,by rw[List.drop_zero,List.take_of_length_le (by rw[iC_len];omega)],by rw[iC_len];omega,fun _=>rfl⟩⟩⟩
 ·obtain⟨v',m',h1,h2,h3,h4⟩:=lv_push hL hy hl hl2 hk.1
  exact⟨v',m',h1,.inr ⟨by simp[hne],h2⟩,⟨Nat.le_trans hk.1 h3,fun k hl=>(h4 k (Nat.lt_of_lt_of_le hl hk.1) (.inr hl)).trans (hk.2 k hl)⟩,h3,h4⟩
end Go.Am.F15
end
