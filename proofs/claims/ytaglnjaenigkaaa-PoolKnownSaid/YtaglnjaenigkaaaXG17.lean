import Derived.Test.YtaglnjaenigkaaaXG16
set_option linter.unusedSimpArgs false
set_option linter.unusedVariables false
section
namespace Go.Am.F15
open Go.Am.F10 (iC iC_at iC_len iC_one iC_app SI SI.val same_run Cf cfC rightP right_run Nx si_take si_drop si_row cutA dropA)
variable {X:Type}
theorem LV.keep{m0 m m':Mem X} {xs:List Int} {v:AV} (h:LV m0 m xs v) (k:Keep m m'):LV m0 m' xs v:=h.kk k.kk
theorem LV.up{m0 m1 m:Mem X} {xs:List Int} {v:AV} (h:LV m1 m xs v) (k:m0.length≤m1.length):LV m0 m xs v:=by
 refine⟨h.1,?_⟩
 rcases h.2 with h|⟨q,o,n,l,h1,h2,h3,h4⟩
 ·exact .inl h
 ·exact .inr ⟨q,o,n,l,h1,h2,Nat.le_trans k h3,h4⟩
theorem LV.nil{m0 m:Mem X}:LV m0 m [] .nils:=⟨Sl.nil,.inl rfl⟩
theorem lv_app{m0 m:Mem X} {w:Bool} {xs ys:List Int} {v y:AV} (h:LV m0 m xs v) (hk:Keep m0 m) (hy:SI m w ys y) (hl:xs.length≤100000) (hl2:ys.length≤100000) :
  ∃ v' m',appendA 1 8 v y m=some (v',m')∧LV m0 m' (xs++ys) v'∧Keep m0 m':=by
 obtain⟨v',m',h1,h2,h3,h4⟩:=lv_push h hy hl hl2 hk.1
 exact⟨v',m',h1,h2,Nat.le_trans hk.1 h3,fun k hl=>(h4 k (Nat.lt_of_lt_of_le hl hk.1) (.inr hl)).trans (hk.2 k hl)⟩
theorem lv_new{m:Mem X} {w:Bool} {ys:List Int} {y:AV} (hy:SI m w ys y) (hl2:ys.length≤100000) :
  ∃ v' m',appendA 1 8 .nils y m=some (v',m')∧LV m m' ys v'∧Keep m m':=by
 have:=lv_app (LV.nil (m0:=m)) (Keep.refl m) hy (by simp) hl2
 simpa using this
def Fit(v:AV):Prop:=∀ q o n c,v = .sl q o n (some c)→n≤c
theorem si_w{m:Mem X} {w:Bool} {xs:List Int} {v:AV} (h:SI m true xs v):SI m w xs v:=by
 cases w
 ·exact h.ro
 ·exact h
theorem si_one{m:Mem X} {w:Bool} {xs:List Int} {v:AV} {i:Nat} {x:Int} (h:SI m w xs v) (hc:Fit v) (hx:xs[i]?=some x):∃ r,sliceA m 1 v (some i) (some (i+1)) none=some r∧SI m w [x] r:=by
 have hi:=(List.getElem?_eq_some_iff.1 hx).1
 obtain⟨q,o,cap,ro,L,rfl,h2,h3,h4,h5⟩:=h.at (by omega)
 have hget:L[o+i]?=some (.int .i64 x):=by
  have:=sl_get h3 (j:=i) (by omega)
  rw[this,iC_at hx]
 have hrow:(L.drop (o+i)).take 1=iC [x]:=by
  have hlt:=(List.getElem?_eq_some_iff.1 hget).1
  have he:=(List.getElem?_eq_some_iff.1 hget).2
  rw[List.drop_eq_getElem_cons hlt,he];rfl
 cases cap with
 | none =>
  refine⟨.sl q (o+i * 1) (i+1 - i) none,?_,?_⟩
  ·simp only[sliceA,Am.getC,h2,Option.getD_some]
   rw[if_pos ⟨trivial,by omega,by omega⟩]
  ·refine⟨rfl,.inr ⟨q,o+i,none,?_,fun _=>⟨ro,L,h2,hrow,by simp;omega,h5⟩⟩⟩
   rw[Nat.mul_one,Nat.add_sub_cancel_left];rfl
 | some c =>
  have hcc:=hc q o xs.length c rfl
  refine⟨.sl q (o+i) 1 (some (c - i)),?_,rfl,.inr ⟨q,o+i,some (c - i),rfl,fun _=>⟨ro,L,h2,hrow,by simp;omega,h5⟩⟩⟩
  simp only[sliceA,Option.getD_some,Option.getD_none]
  rw[if_pos ⟨by omega,by omega,by omega,.inl trivial⟩,if_neg (by omega),Nat.mul_one,Nat.add_sub_cancel_left]
def aheadN(xs:List Int) (x:Int):Int:=if x ∈ xs then((xs.idxOf x:Nat):Int) else -1
theorem ahead_ge{xs:List Int} {x:Int}:0≤aheadN xs x ↔ x ∈ xs:=by
 unfold aheadN;split
 ·exact⟨fun _=>by assumption,fun _=>by omega⟩
 ·exact⟨fun h=>by omega,fun h=>absurd h (by assumption)⟩
theorem ahead_at{xs:List Int} {x:Int} {n:Nat} (h:xs[n]?=some x) (hn:x ∉ xs.take n):aheadN xs x=n:=by
 unfold aheadN
 rw[if_pos (List.mem_of_getElem? h)]
 have hl:=(List.getElem?_eq_some_iff.1 h).1
 have hs:xs=xs.take n++x :: xs.drop (n+1):=by
  have:xs.drop n=x :: xs.drop (n+1):=by rw[List.drop_eq_getElem_cons hl,(List.getElem?_eq_some_iff.1 h).2]
  rw[← this,List.take_append_drop]
 have hidx:xs.idxOf x=n:=by
  rw[hs,List.idxOf_append,if_neg hn,List.idxOf_cons_self,List.length_take];omega
 rw[hidx]
def AhI(xs:List Int) (x:Int) (v:AV) (m0:Mem X) (k:Nat) (e:List AV) (m:Mem X):Prop:=∃ (n:Nat) (x4 x5:AV),
 e=[v,.int .i64 x,.int .i64 0,.int .i64 n,x4,x5]∧m=m0∧k=xs.length - n∧n≤xs.length∧x ∉ xs.take n
theorem ahead_run{m:Mem X} {w:Bool} {xs:List Int} {v:AV} (h:SI m w xs v) (x:Int) (hx:xs.length < 100000):Fn [] ref14_Ahead [v,.int .i64 x] m (fun r m'=>r = .int .i64 (aheadN xs x)∧m'=m):=by
 have hlen:=h.len
 refine Fn_of rfl ?_
 simp(disch:=first|assumption|omega|(simp only[zl]<;>omega)|(simp only[zn])) only[ref14_Ahead,↓zd,zk,seval,reduceIte,List.map,AV.cells,List.all,AV.one,eqV,eqAll,splice,fillA,List.replicate,resAll,resA,zm,zg]
 refine W_loop (AhI xs x v m) xs.length (by unfold FUEL;omega) ⟨0,_,_,rfl,rfl,rfl,Nat.zero_le _,by simp⟩ ?_
 rintro k e m' ⟨n,x4,x5,rfl,rfl,rfl,hn,hx⟩
 simp(disch:=first|assumption|omega|(simp only[zl]<;>omega)|(simp only[zn])) only[↓zd,zk,seval,reduceIte,List.map,AV.cells,List.all,AV.one,eqV,eqAll,splice,fillA,List.replicate,resAll,resA,zm,zg,ev_len,hlen]
 refine CW_of (fun hc=>?_) (fun hc=>?_)
 ·simp only[decide_eq_true_eq] at hc
  obtain⟨q,o,cap,ro,L,rfl,h2,_,h4,h5⟩:=h.val (by omega)
  obtain⟨y,hy⟩:∃ y,xs[n]?=some y:=⟨_,List.getElem?_eq_getElem (by omega)⟩
  by_cases hxy:y=x
  ·subst hxy
   have ha:=ahead_at hy hx
   simp(disch:=first|assumption|omega|(simp only[zl]<;>omega)|(simp only[zn])) only[↓zd,zk,seval,reduceIte,List.map,AV.cells,List.all,AV.one,eqV,eqAll,splice,fillA,List.replicate,resAll,resA,zm,zg,h2,h5 n y hy]
   rw[ha]
  ·simp(disch:=first|assumption|omega|(simp only[zl]<;>omega)|(simp only[zn])) only[↓zd,zk,seval,reduceIte,List.map,AV.cells,List.all,AV.one,eqV,eqAll,splice,fillA,List.replicate,resAll,resA,zm,zg,h2,h5 n y hy,hxy]
   refine⟨_,by omega,n+1,_,_,rfl,rfl,rfl,by omega,?_⟩
   rw[take_succ hy,List.mem_append]
   rintro(h|h)
   ·exact hx h
   ·simp at h;exact hxy h.symm
 ·simp only[decide_eq_false_iff_not] at hc
  have hnl:n=xs.length:=by omega
  rw[hnl,List.take_length] at hx
  have ha:aheadN xs x=-1:=by unfold aheadN;rw[if_neg hx]
  simp(disch:=first|assumption|omega|(simp only[zl]<;>omega)|(simp only[zn])) only[↓zd,zk,seval,reduceIte,List.map,AV.cells,List.all,AV.one,eqV,eqAll,splice,fillA,List.replicate,resAll,resA,zm,zg,ha]
def JoP(m:Mem X) (xs:List Int) (r:AV) (m':Mem X):Prop:=Keep m m'∧LV m m' xs r
theorem join_run{m:Mem X} {w1 w2:Bool} {xs ys:List Int} {a b:AV} (ha:SI m w1 xs a) (hb:SI m w2 ys b) (h1:xs.length≤100000) (h2:ys.length≤100000):Fn [] ref14_join [a,b] m (JoP m (xs++ys)):=by
 obtain⟨v1,m1,e1,L1,k1⟩:=lv_new ha h1
 obtain⟨v2,m2,e2,L2,k2⟩:=lv_app L1 k1 (hb.keep k1) h1 h2
 refine Fn_of rfl ?_
 simp(disch:=first|assumption|omega|(simp only[zl]<;>omega)|(simp only[zn])) only[ref14_join,↓zd,zk,seval,reduceIte,List.map,AV.cells,List.all,AV.one,eqV,eqAll,splice,fillA,List.replicate,resAll,resA,zm,zg,evA,e1,e2]
 exact⟨k2,L2⟩
theorem fits_succ{xs l:List Int} {n:Nat} {x:Int} (h:l[n]?=some x) (hf:fitsB xs (l.take n)=true) (hx:x ∉ xs++l.take n):fitsB xs (l.take (n+1))=true:=by
 simp only[fitsB,decide_eq_true_eq] at hf ⊢
 rw[List.mem_append] at hx
 rw[take_succ h]
 refine⟨List.nodup_append.2 ⟨hf.1,by simp,fun a ha b hb=>?_⟩,fun y hy=>?_⟩
 ·simp at hb;subst hb;rintro rfl;exact hx (.inr ha)
 ·rcases List.mem_append.1 hy with hy|hy
  ·exact hf.2 y hy
  ·simp at hy;subst hy;exact fun h=>hx (.inl h)
theorem fits_not{xs l:List Int} {n:Nat} {x:Int} (h:l[n]?=some x) (hx:x ∈ xs++l.take n):fitsB xs l=false:=by
 cases hb:fitsB xs l with
 | false=>rfl
 | true =>
  simp only[fitsB,decide_eq_true_eq] at hb
  rcases List.mem_append.1 hx with hx|hx
  ·exact absurd hx (hb.2 x (List.mem_of_getElem? h))
  ·have nd:=hb.1.sublist (List.take_sublist (n+1) l)
   rw[take_succ h,List.nodup_append] at nd
   exact absurd rfl (nd.2.2 x hx x (by simp))
def Of(m:Mem X) (a:AV) (xs ys:List Int) (r:AV) (m':Mem X):Prop:=Keep m m'∧((r=a∧ys=xs)∨LV m m' ys r)
def PuI(m0:Mem X) (w:Bool) (xs l:List Int) (a0 a1:AV) (k:Nat) (e:List AV) (m:Mem X):Prop:=∃ (n:Nat) (v x6 x7:AV),
 e=[a0,a1,.nils,.int .i64 0,v,.int .i64 n,x6,x7]∧k=l.length - n∧n≤l.length∧fitsB xs (l.take n)=true∧Of m0 a0 xs (xs++l.take n) v m
def G14:List (Nat × AFun X):=[(124,c_ref14_Ahead),(125,amFunc [] ref14_join)]
theorem Of.si{m m':Mem X} {w:Bool} {a r:AV} {xs ys:List Int} (h:Of m a xs ys r m') (ha:SI m w xs a):SI m' w ys r:=by
 obtain⟨hk,⟨rfl,rfl⟩|h⟩:=h
 ·exact ha.keep hk
 ·exact si_w h.1
theorem Of.nx{m m':Mem X} {a r:AV} {xs ys:List Int} (h:Of m a xs ys r m') (ha:Nx m a):Nx m' r:=by
 obtain⟨hk,⟨rfl,rfl⟩|h⟩:=h
 ·exact ha.keep hk
 ·exact h.nx
set_option maxHeartbeats 2000000 in
theorem push14_run{m:Mem X} {w w2:Bool} {xs l:List Int} {a b:AV} (ha:SI m w xs a) (hb:SI m w2 l b) (hf:Fit b) (h1:xs.length < 10000) (h2:l.length < 10000) :
  Fn G14 ref14_Push [a,b] m (fun r m'=>∃ v,r = .tup [v,.int .i64 (if fitsB xs l=true then 0 else 140)]∧Of m a xs (if fitsB xs l=true then xs++l else xs) v m'):=by
 have a124:assoc (G14 (X:=X)) 124=some c_ref14_Ahead:=rfl
 have a125:assoc (G14 (X:=X)) 125=some (amFunc [] ref14_join):=rfl
 generalize (G14 (X:=X))=G at a124 a125 ⊢
 have hlen:=hb.len
 refine Fn_of rfl ?_
 simp(disch:=first|assumption|omega|(simp only[zl]<;>omega)|(simp only[zn])) only[ref14_Push,↓zd,zk,seval,reduceIte,List.map,AV.cells,List.all,AV.one,eqV,eqAll,splice,fillA,List.replicate,resAll,resA,zm,zg]
 refine W_loop (PuI m w xs l a b) l.length (by unfold FUEL;omega) ⟨0,_,_,_,rfl,rfl,Nat.zero_le _,by simp[fitsB],Keep.refl m,.inl ⟨rfl,by simp⟩⟩ ?_
 rintro k e m' ⟨n,v,x6,x7,rfl,rfl,hn,hft,ho⟩
 have hb':SI m' w2 l b:=hb.keep ho.1
 simp(disch:=first|assumption|omega|(simp only[zl]<;>omega)|(simp only[zn])) only[↓zd,zk,seval,reduceIte,List.map,AV.cells,List.all,AV.one,eqV,eqAll,splice,fillA,List.replicate,resAll,resA,zm,zg,ev_len,hlen]
 refine CW_of (fun hc=>?_) (fun hc=>?_)
 ·simp only[decide_eq_true_eq] at hc
  obtain⟨q,o,cap,ro,L,rfl,g2,_,g4,g5⟩:=hb'.val (by omega)
  obtain⟨y,hy⟩:∃ y,l[n]?=some y:=⟨_,List.getElem?_eq_getElem (by omega)⟩
  have hsi:=ho.si ha
  have hxl:(xs++l.take n).length < 100000:=by rw[List.length_append,List.length_take];omega
  have hah:c_ref14_Ahead [v,.int .i64 y] m'=some (.int .i64 (aheadN (xs++l.take n) y),m'):=Fn_eq (ahead_run hsi y hxl)
  by_cases hm:y ∈ xs++l.take n
  ·have d:decide (0≤aheadN (xs++l.take n) y)=true:=decide_eq_true (ahead_ge.2 hm)
   have hno:=fits_not hy hm
   simp(disch:=first|assumption|omega|(simp only[zl]<;>omega)|(simp only[zn])) only[↓zd,zk,seval,reduceIte,List.map,AV.cells,List.all,AV.one,eqV,eqAll,splice,fillA,List.replicate,resAll,resA,zm,zg,g2,g5 n y hy,a124,hah,d]
   exact⟨a,by rw[hno];rfl,ho.1,.inl ⟨rfl,by rw[hno];rfl⟩⟩
  ·have d:decide (0≤aheadN (xs++l.take n) y)=false:=decide_eq_false (fun h=>hm (ahead_ge.1 h))
   obtain⟨r1,hr1,hs1⟩:=si_one hb' hf hy
   have hw:IntKind.i64.wrap ((n:Int)+1)=((n+1:Nat):Int):=by rw[wrapI (by omega) (by omega)];omega
   simp(disch:=first|assumption|omega|(simp only[zl]<;>omega)|(simp only[zn])) only[↓zd,zk,seval,reduceIte,List.map,AV.cells,List.all,AV.one,eqV,eqAll,splice,fillA,List.replicate,resAll,resA,zm,zg,g2,g5 n y hy,a124,hah,d,evA,hw,hr1,a125]
   refine OK_fn (join_run hsi hs1 (by omega) (by simp)) ?_
   rintro v2 m2 ⟨k2,L2⟩
   simp(disch:=first|assumption|omega|(simp only[zl]<;>omega)|(simp only[zn])) only[↓zd,zk,seval,reduceIte,List.map,AV.cells,List.all,AV.one,eqV,eqAll,splice,fillA,List.replicate,resAll,resA,zm,zg]
   refine⟨_,by omega,n+1,_,_,_,rfl,rfl,by omega,fits_succ hy hft hm,ho.1.trans k2,.inr ?_⟩
   rw[take_succ hy,← List.append_assoc]
   exact L2.up ho.1.1
 ·simp only[decide_eq_false_iff_not] at hc
  have hnl:n=l.length:=by omega
  subst hnl
  rw[List.take_length] at hft ho
  simp(disch:=first|assumption|omega|(simp only[zl]<;>omega)|(simp only[zn])) only[↓zd,zk,seval,reduceIte,List.map,AV.cells,List.all,AV.one,eqV,eqAll,splice,fillA,List.replicate,resAll,resA,zm,zg]
  exact⟨v,by first|rfl|(rw[hft];rfl),by first|exact ho|(rw[hft];exact ho)⟩
def G15a:List (Nat × AFun X):=[(111,amFunc G14 ref14_Push)]
def AdI(most:Int) (l:List Int) (a0 a1:AV) (m0:Mem X) (k:Nat) (e:List AV) (m:Mem X):Prop:=∃ (n:Nat) (x6 x7:AV),
 e=[a0,a1,.int .i64 most,.nils,.int .i64 0,.int .i64 n,x6,x7]∧m=m0∧k=l.length - n∧n≤l.length∧inbB most (l.take n)=true
set_option maxHeartbeats 2000000 in
theorem radd_run{m:Mem X} {w w2:Bool} {xs l:List Int} {a b:AV} (ha:SI m w xs a) (hb:SI m w2 l b) (hf:Fit b) (h1:xs.length < 10000) (h2:l.length < 10000) (most:Int) :
  Fn G15a ref15_add [a,b,.int .i64 most] m (fun r m'=>∃ v,r = .tup [v,.int .i64 (addE xs most l)]∧Of m a xs (addL xs most l) v m'):=by
 have a111:assoc (G15a (X:=X)) 111=some (amFunc G14 ref14_Push):=rfl
 generalize (G15a (X:=X))=G at a111 ⊢
 have hlen:=hb.len
 refine Fn_of rfl ?_
 simp(disch:=first|assumption|omega|(simp only[zl]<;>omega)|(simp only[zn])) only[ref15_add,↓zd,zk,seval,reduceIte,List.map,AV.cells,List.all,AV.one,eqV,eqAll,splice,fillA,List.replicate,resAll,resA,zm,zg]
 refine W_loop (AdI most l a b m) l.length (by unfold FUEL;omega) ⟨0,_,_,rfl,rfl,rfl,Nat.zero_le _,rfl⟩ ?_
 rintro k e m' ⟨n,x6,x7,rfl,rfl,rfl,hn,hin⟩
 simp(disch:=first|assumption|omega|(simp only[zl]<;>omega)|(simp only[zn])) only[↓zd,zk,seval,reduceIte,List.map,AV.cells,List.all,AV.one,eqV,eqAll,splice,fillA,List.replicate,resAll,resA,zm,zg,ev_len,hlen]
 refine CW_of (fun h=>?_) (fun h=>?_)
 ·simp only[decide_eq_true_eq] at h
  obtain⟨q,o,cap,ro,L,rfl,hq,_,hL,hat⟩:=hb.val (by omega)
  obtain⟨x,hxi⟩:∃ x,l[n]?=some x:=⟨_,List.getElem?_eq_getElem (by omega)⟩
  have bad:(decide (0≤x) && decide (x < most))=false→inbB most l=false:=fun h=>by
   unfold inbB
   rw[List.all_eq_false]
   exact⟨x,List.mem_of_getElem? hxi,by simp[h]⟩
  have stop:inbB most l=false→∃ v,AV.tup [a,.int .i64 2] = .tup [v,.int .i64 (addE xs most l)]∧Of m' a xs (addL xs most l) v m':=fun h =>
   ⟨a,by simp[addE,h],Keep.refl _,.inl ⟨rfl,by simp[addL,h]⟩⟩
  by_cases h0:x < 0
  ·have d0:decide (x < 0)=true:=decide_eq_true h0
   simp(disch:=first|assumption|omega|(simp only[zl]<;>omega)|(simp only[zn])) only[↓zd,zk,seval,reduceIte,List.map,AV.cells,List.all,AV.one,eqV,eqAll,splice,fillA,List.replicate,resAll,resA,zm,zg,hq,hat n x hxi,d0]
   exact stop (bad (by simp;omega))
  ·have d0:decide (x < 0)=false:=decide_eq_false h0
   by_cases h1:most≤x
   ·have d1:decide (most≤x)=true:=decide_eq_true h1
    simp(disch:=first|assumption|omega|(simp only[zl]<;>omega)|(simp only[zn])) only[↓zd,zk,seval,reduceIte,List.map,AV.cells,List.all,AV.one,eqV,eqAll,splice,fillA,List.replicate,resAll,resA,zm,zg,hq,hat n x hxi,d0,d1]
    exact stop (bad (by simp;omega))
   ·have d1:decide (most≤x)=false:=decide_eq_false h1
    simp(disch:=first|assumption|omega|(simp only[zl]<;>omega)|(simp only[zn])) only[↓zd,zk,seval,reduceIte,List.map,AV.cells,List.all,AV.one,eqV,eqAll,splice,fillA,List.replicate,resAll,resA,zm,zg,hq,hat n x hxi,d0,d1]
    refine⟨_,by omega,n+1,_,_,rfl,rfl,rfl,by omega,?_⟩
    rw[take_succ hxi]
    simp only[inbB,List.all_append,Bool.and_eq_true] at hin ⊢
    refine⟨hin,by simp;omega⟩
 ·simp only[decide_eq_false_iff_not] at h
  have:n=l.length:=by omega
  subst this
  rw[List.take_length] at hin
  simp(disch:=first|assumption|omega|(simp only[zl]<;>omega)|(simp only[zn])) only[↓zd,zk,seval,reduceIte,List.map,AV.cells,List.all,AV.one,eqV,eqAll,splice,fillA,List.replicate,resAll,resA,zm,zg,a111]
  refine OK_fn (push14_run ha hb hf h1 h2) ?_
  rintro _ m2 ⟨v,rfl,ho⟩
  simp(disch:=first|assumption|omega|(simp only[zl]<;>omega)|(simp only[zn])) only[↓zd,zk,seval,reduceIte,List.map,AV.cells,List.all,AV.one,eqV,eqAll,splice,fillA,List.replicate,resAll,resA,zm,zg]
  exact⟨v,by simp[addE,hin],by simpa [addL,hin] using ho⟩
def UpI(m0:Mem X) (n:Int) (k:Nat) (e:List AV) (m:Mem X):Prop:=∃ (i:Int) (v x4:AV),
 e=[.int .i64 n,.nils,v,.int .i64 i,x4]∧k=(n - i).toNat∧1≤i∧(i≤n∨i=1)∧Keep m0 m∧LV m0 m (fromL 1 i) v
theorem upto_run{m:Mem X} {n:Int} (h:n < 10000):Fn [] ref15_upto [.int .i64 n] m (fun r m'=>Keep m m'∧LV m m' (fromL 1 n) r):=by
 refine Fn_of rfl ?_
 simp(disch:=first|assumption|omega|(simp only[zl]<;>omega)|(simp only[zn])) only[ref15_upto,↓zd,zk,seval,reduceIte,List.map,AV.cells,List.all,AV.one,eqV,eqAll,splice,fillA,List.replicate,resAll,resA,zm,zg]
 refine W_loop (UpI m n) (n - 1).toNat (by unfold FUEL;omega) ⟨1,_,_,rfl,rfl,by omega,.inr rfl,Keep.refl m,by rw[fromL_nil (Int.le_refl 1)];exact LV.nil⟩ ?_
 rintro k e m' ⟨i,v,x4,rfl,rfl,h1,h2,hk,hL⟩
 simp(disch:=first|assumption|omega|(simp only[zl]<;>omega)|(simp only[zn])) only[↓zd,zk,seval,reduceIte,List.map,AV.cells,List.all,AV.one,eqV,eqAll,splice,fillA,List.replicate,resAll,resA,zm,zg]
 refine CW_of (fun hc=>?_) (fun hc=>?_)
 ·simp only[decide_eq_true_eq] at hc
  have k1:=Keep.app m' [Chunk.cells 1 false [AV.int .i64 i]]
  have hfl:=fromL_len 1 i
  obtain⟨v2,m2,e2,L2,k2⟩:=lv_app (hL.keep k1) (hk.trans k1) lit_si (by omega) (by simp)
  have hw:IntKind.i64.wrap (i+1)=i+1:=wrapI (by omega) (by omega)
  simp(disch:=first|assumption|omega|(simp only[zl]<;>omega)|(simp only[zn])) only[↓zd,zk,seval,reduceIte,List.map,AV.cells,List.all,AV.one,eqV,eqAll,splice,fillA,List.replicate,resAll,resA,zm,zg,evA,repeatL_one,e2,hw]
  exact⟨_,by omega,i+1,_,_,rfl,rfl,by omega,.inl (by omega),k2,by rw[fromL_succ h1];exact L2⟩
 ·simp only[decide_eq_false_iff_not] at hc
  simp(disch:=first|assumption|omega|(simp only[zl]<;>omega)|(simp only[zn])) only[↓zd,zk,seval,reduceIte,List.map,AV.cells,List.all,AV.one,eqV,eqAll,splice,fillA,List.replicate,resAll,resA,zm,zg]
  have:fromL 1 i=fromL 1 n:=by
   rcases h2 with h2|rfl
   ·rw[show i=n by omega]
   ·rw[fromL_nil (Int.le_refl _),fromL_nil (by omega)]
  exact⟨hk,by rw[← this];exact hL⟩
theorem rfirst_run{m:Mem X} {w:Bool} {xs:List Int} {v:AV} (h:SI m w xs v) (hn:Nx m v) (n:Int) (hx:xs.length < 10000) :
  Fn [] ref15_first [v,.int .i64 n] m (fun r m'=>∃ a b,r = .tup [a,b]∧Keep m m'∧LV m m' (xs.take (popN xs n)) a∧LV m m' (xs.drop (popN xs n)) b):=by
 have hlen:=h.len
 have hp:(if (if (xs.length:Int) < n then(xs.length:Int) else n) > 0 then(if (xs.length:Int) < n then(xs.length:Int) else n) else 0)=((popN xs n:Nat):Int):=by unfold popN;split<;>split<;>omega
 have hpl:popN xs n≤xs.length:=by unfold popN;omega
 obtain⟨t1,t2⟩:=si_take h hn (k:=popN xs n) hpl
 obtain⟨v1,m1,e1,L1,k1⟩:=lv_new t2 (by rw[List.length_take];omega)
 obtain⟨d1,d2⟩:=si_drop (h.keep k1) (hn.keep k1) (k:=popN xs n) hpl
 obtain⟨v2,m2,e2,L2,k2⟩:=lv_new d2 (by rw[List.length_drop];omega)
 have p0:(0≤((popN xs n:Nat):Int))=True:=eq_true (by omega)
 refine Fn_of rfl ?_
 simp(disch:=first|assumption|omega|(simp only[zl]<;>omega)|(simp only[zn])) only[ref15_first,↓zd,zk,seval,reduceIte,List.map,AV.cells,List.all,AV.one,eqV,eqAll,splice,fillA,List.replicate,resAll,resA,zm,zg,ev_len,hlen,hp,evA,p0,Int.toNat_natCast,t1,e1,d1,e2]
 exact⟨v1,v2,rfl,k1.trans k2,L1.keep k2,L2.up k1.1⟩
end Go.Am.F15
end
section
namespace Go.Am.F15
open Go.Am.F10 (iC iC_at iC_len iC_one iC_app SI SI.val same_run Cf cfC rightP right_run Nx si_take si_drop si_row cutA dropA)
variable {X:Type}
def K1(m m':Mem X):Prop:=m.length≤m'.length∧∀ (k:Nat) (ro:Bool) (L:List AV),m[k]?=some (Chunk.cells 1 ro L)→m'[k]?=some (Chunk.cells 1 ro L)
theorem K1.refl(m:Mem X):K1 m m:=⟨Nat.le_refl _,fun _ _ _ h=>h⟩
theorem K1.trans{m m' m'':Mem X} (h:K1 m m') (h':K1 m' m''):K1 m m'':=⟨Nat.le_trans h.1 h'.1,fun k ro L e=>h'.2 k ro L (h.2 k ro L e)⟩
theorem KK.k1{m m':Mem X} (h:KK m m'):K1 m m':=⟨h.1,fun k ro L e=>h.2 k 1 ro L e (by decide) (by decide)⟩
theorem _root_.Go.Am.Keep.k1{m m':Mem X} (h:Keep m m'):K1 m m':=h.kk.k1
theorem K1.set{m m':Mem X} (h:K1 m m') {q sz:Nat} {ro:Bool} {l:List AV} (hq:m'[q]?=some (.cells sz ro l)) (hs:sz≠1) (C:Chunk X):K1 m (m'.set q C):=by
 refine⟨by simpa using h.1,fun k ro L e=>?_⟩
 have:=h.2 k ro L e
 rw[List.getElem?_set_ne]
 ·exact this
 ·rintro rfl
  rw[hq] at this;injection this with this;injection this with this
  exact hs this
def RW(m:Mem X) (xs:List Int) (v:AV):Prop:=SI m true xs v∧Nx m v
theorem RW.k1{m m':Mem X} {xs:List Int} {v:AV} (h:RW m xs v) (k:K1 m m'):RW m' xs v:=by
 obtain⟨⟨h0,h⟩,hn⟩:=h
 refine⟨⟨h0,?_⟩,?_⟩
 ·rcases h with h|⟨q,o,cap,h1,h2⟩
  ·exact .inl h
  ·refine .inr ⟨q,o,cap,h1,fun hn=>?_⟩
   obtain⟨ro,L,h3,h4⟩:=h2 hn
   exact⟨ro,L,k.2 q ro L h3,h4⟩
 ·rcases hn with hn|⟨q,o,n,l,h1,h2⟩
  ·exact .inl hn
  ·exact .inr ⟨q,o,n,l,h1,k.2 q false l h2⟩
theorem LV.rw{m0 m:Mem X} {xs:List Int} {v:AV} (h:LV m0 m xs v):RW m xs v:=⟨h.1,h.nx⟩
theorem Of.rw{m m':Mem X} {a r:AV} {xs ys:List Int} (h:Of m a xs ys r m') (ha:RW m xs a):RW m' ys r:=⟨h.si ha.1,h.nx ha.2⟩
theorem RW.nil{m:Mem X}:RW m [] .nils:=⟨Sl.nil,.inl rfl⟩
def rC(c:Cf) (gv pv mv:AV) (spin:Int):List AV:=[.int .i64 c.n,.int .i64 c.q,.int .i64 c.g,.int .i64 c.m,.int .i64 c.t,.int .i64 c.s,gv,pv,mv,.int .i64 spin]
def RP(m:Mem X) (s:Pc) (v:AV):Prop:=∃ gv pv mv,v = .agg (rC s.c gv pv mv s.spin)∧RW m s.g gv∧RW m s.ps pv∧RW m s.ms mv
theorem RP.k1{m m':Mem X} {s:Pc} {v:AV} (h:RP m s v) (k:K1 m m'):RP m' s v:=by
 obtain⟨gv,pv,mv,h0,h1,h2,h3⟩:=h
 exact⟨gv,pv,mv,h0,h1.k1 k,h2.k1 k,h3.k1 k⟩
def RA(m:Mem X) (s':Pc) (T:AV→AV→Prop) (r:AV) (m':Mem X):Prop:=Keep m m'∧∃ v',RP m' s' v'∧T v' r
theorem one_rw{m:Mem X} {xs:List Int} {v:AV} (h:RW m xs v):v.one=true:=by
 rcases h.2 with rfl|⟨q,o,n,l,rfl,_⟩<;>rfl
theorem stC_row{m m0:Mem X} {xs:List Int} {i o sz:Nat} {v:AV} {l:List AV} (hv:RW m0 xs v) (h:o < l.length):stC m i o 1 v (some (sz,false,l))=some (m.set i (.cells sz false (l.set o v))):=by
 rcases hv.2 with rfl|⟨q,o,n,l,rfl,_⟩
 ·exact stC_nils h
 ·exact stC_sl h
theorem set1{m m2:Mem X} {q sz:Nat} {ro:Bool} {l:List AV} (hk:Keep m m2) (h:m.length≤q) (g:m2[q]?=some (.cells sz ro l)) (hs:sz≠1) (C:Chunk X):Keep m (m2.set q C)∧K1 m2 (m2.set q C) :=
 ⟨hk.set h C,(K1.refl m2).set g hs C⟩
theorem set2{m m2:Mem X} {a b:Nat} {l1 l2:List AV} (hk:Keep m m2) (ha:m.length≤a) (hb:m.length≤b) (g1:m2[a]?=some (.cells 10 false l1)) (g2:m2[b]?=some (.cells 10 false l2)) (hab:a≠b) (C D:Chunk X):Keep m ((m2.set a C).set b D)∧K1 m2 ((m2.set a C).set b D):=by
 refine⟨(hk.set ha C).set hb D,K1.set (K1.set (K1.refl m2) g1 (by decide) C) (q:=b) (sz:=10) (ro:=false) (l:=l2) ?_ (by decide) D⟩
 rw[List.getElem?_set_ne hab];exact g2
theorem Fit.one(q o:Nat):Fit (.sl q o 1 (some 1)):=fun _ _ _ _ e=>by injection e with _ _ e1 e2;injection e2 with e2;omega
def Z10:List AV:=[.int .i64 0,.int .i64 0,.int .i64 0,.int .i64 0,.int .i64 0,.int .i64 0,.nils,.nils,.nils,.int .i64 0]
section
variable {m:Mem X} {s:Pc} {v:AV}
def G15p:List (Nat × AFun X):=[(263,amFunc G15a ref15_add)]
def G15f:List (Nat × AFun X):=[(264,c_ref15_first)]
set_option maxHeartbeats 2000000 in
theorem rpush_run{l:List Int} {w:Bool} {lv:AV} (H:RP m s v) (hl:SI m w l lv) (hf:Fit lv) (h1:s.g.length < 10000) (h2:l.length < 10000) :
  Fn G15p ref15_Push [v,lv] m (RA m { s with g:=addL s.g s.c.g l } fun v' r=>r = .tup [v',.int .i64 (addE s.g s.c.g l)]):=by
 have a263:assoc (G15p (X:=X)) 263=some (amFunc G15a ref15_add):=rfl
 generalize (G15p (X:=X))=G at a263 ⊢
 obtain⟨gv,pv,mv,rfl,r1,r2,r3⟩:=H
 have k0:=Keep.app m [Chunk.cells 10 false (rC s.c gv pv mv s.spin),Chunk.cells 10 false Z10]
 have o1:=one_rw r1
 have o2:=one_rw r2
 have o3:=one_rw r3
 unfold AV.one at o1 o2 o3
 simp only[rC,Z10] at k0 ⊢
 refine Fn_of rfl ?_
 simp(disch:=first|assumption|omega|(simp only[zl]<;>omega)|(simp only[zn])) only[ref15_Push,↓zd,zk,seval,reduceIte,List.map,AV.cells,List.all,AV.one,eqV,eqAll,splice,fillA,List.replicate,resAll,resA,zm,zg,o1,o2,o3,evA,repeatL_one,a263]
 refine OK_fn (radd_run (r1.1.keep k0) (hl.keep k0) hf h1 h2 s.c.g) ?_
 rintro _ m2 ⟨v',rfl,ho⟩
 have rv:=ho.rw (r1.k1 k0.k1)
 have ov:=one_rw rv
 unfold AV.one at ov
 have hst:=fun(M:Mem X) (i o sz:Nat) (l:List AV) h=>stC_row (m:=M) (i:=i) (o:=o) (sz:=sz) (l:=l) rv h
 have g1:m2[m.length]?=some (.cells 10 false (rC s.c gv pv mv s.spin)):=ho.1.get (by simp[rC])
 have g2:m2[m.length+1]?=some (.cells 10 false Z10):=ho.1.get (by simp[Z10])
 simp only[rC,Z10] at g1 g2
 have l2:=(List.getElem?_eq_some_iff.1 g2).1
 simp(disch:=first|assumption|omega|(simp only[zl]<;>omega)|(simp only[zn])) only[↓zd,zk,seval,reduceIte,List.map,AV.cells,List.all,AV.one,eqV,eqAll,splice,fillA,List.replicate,resAll,resA,zm,zg,g1,g2,hst,o1,o2,o3,ov]
 obtain⟨f1,f2⟩:=set2 (k0.trans ho.1) (Nat.le_refl _) (Nat.le_succ _) g1 g2 (by omega) (.cells 10 false (rC s.c v' pv mv s.spin)) (.cells 10 false (rC s.c v' pv mv s.spin))
 have kk:=(k0.trans ho.1).k1.trans f2
 exact⟨f1,_,⟨v',pv,mv,rfl,rv.k1 f2,r2.k1 kk,r3.k1 kk⟩,rfl⟩
set_option maxHeartbeats 2000000 in
theorem rputp_run{n:Int} (H:RP m s v) (h1:s.ps.length < 10000) :
  Fn G15p ref15_PutP [v,.int .i64 n] m (RA m { s with ps:=addL s.ps s.c.n [n] } fun v' r=>r = .tup [v',.int .i64 (addE s.ps s.c.n [n])]):=by
 have a263:assoc (G15p (X:=X)) 263=some (amFunc G15a ref15_add):=rfl
 generalize (G15p (X:=X))=G at a263 ⊢
 obtain⟨gv,pv,mv,rfl,r1,r2,r3⟩:=H
 have k0:=Keep.app m [Chunk.cells 10 false (rC s.c gv pv mv s.spin),Chunk.cells 10 false Z10,Chunk.cells 1 false [AV.int .i64 n]]
 have o1:=one_rw r1
 have o2:=one_rw r2
 have o3:=one_rw r3
 unfold AV.one at o1 o2 o3
 simp only[rC,Z10] at k0 ⊢
 have hl:SI _ true [n] _:=lit_si (m:=m++[Chunk.cells 10 false (rC s.c gv pv mv s.spin),Chunk.cells 10 false Z10]) (n:=n)
 simp only[rC,Z10,List.append_assoc,List.cons_append,List.nil_append,List.length_append,List.length_cons,List.length_nil,Nat.zero_add] at hl
 refine Fn_of rfl ?_
 simp(disch:=first|assumption|omega|(simp only[zl]<;>omega)|(simp only[zn])) only[ref15_PutP,↓zd,zk,seval,reduceIte,List.map,AV.cells,List.all,AV.one,eqV,eqAll,splice,fillA,List.replicate,resAll,resA,zm,zg,o1,o2,o3,evA,repeatL_one,a263]
 refine OK_fn (radd_run (r2.1.keep k0) hl (Fit.one _ _) h1 (by simp) s.c.n) ?_
 rintro _ m2 ⟨v',rfl,ho⟩
 have rv:=ho.rw (r2.k1 k0.k1)
 have ov:=one_rw rv
 unfold AV.one at ov
 have hst:=fun(M:Mem X) (i o sz:Nat) (l:List AV) h=>stC_row (m:=M) (i:=i) (o:=o) (sz:=sz) (l:=l) rv h
 have g1:m2[m.length]?=some (.cells 10 false (rC s.c gv pv mv s.spin)):=ho.1.get (by simp[rC])
 have g2:m2[m.length+1]?=some (.cells 10 false Z10):=ho.1.get (by simp[Z10])
 simp only[rC,Z10] at g1 g2
 have l2:=(List.getElem?_eq_some_iff.1 g2).1
 simp(disch:=first|assumption|omega|(simp only[zl]<;>omega)|(simp only[zn])) only[↓zd,zk,seval,reduceIte,List.map,AV.cells,List.all,AV.one,eqV,eqAll,splice,fillA,List.replicate,resAll,resA,zm,zg,g1,g2,hst,o1,o2,o3,ov]
 obtain⟨f1,f2⟩:=set2 (k0.trans ho.1) (Nat.le_refl _) (Nat.le_succ _) g1 g2 (by omega) (.cells 10 false (rC s.c gv v' mv s.spin)) (.cells 10 false (rC s.c gv v' mv s.spin))
 have kk:=(k0.trans ho.1).k1.trans f2
 exact⟨f1,_,⟨gv,v',mv,rfl,r1.k1 kk,rv.k1 f2,r3.k1 kk⟩,rfl⟩
set_option maxHeartbeats 2000000 in
theorem rputm_run{n:Int} (H:RP m s v) (h1:s.ms.length < 10000) :
  Fn G15p ref15_PutM [v,.int .i64 n] m (RA m { s with ms:=addL s.ms s.c.m [n] } fun v' r=>r = .tup [v',.int .i64 (addE s.ms s.c.m [n])]):=by
 have a263:assoc (G15p (X:=X)) 263=some (amFunc G15a ref15_add):=rfl
 generalize (G15p (X:=X))=G at a263 ⊢
 obtain⟨gv,pv,mv,rfl,r1,r2,r3⟩:=H
 have k0:=Keep.app m [Chunk.cells 10 false (rC s.c gv pv mv s.spin),Chunk.cells 10 false Z10,Chunk.cells 1 false [AV.int .i64 n]]
 have o1:=one_rw r1
 have o2:=one_rw r2
 have o3:=one_rw r3
 unfold AV.one at o1 o2 o3
 simp only[rC,Z10] at k0 ⊢
 have hl:SI _ true [n] _:=lit_si (m:=m++[Chunk.cells 10 false (rC s.c gv pv mv s.spin),Chunk.cells 10 false Z10]) (n:=n)
 simp only[rC,Z10,List.append_assoc,List.cons_append,List.nil_append,List.length_append,List.length_cons,List.length_nil,Nat.zero_add] at hl
 refine Fn_of rfl ?_
 simp(disch:=first|assumption|omega|(simp only[zl]<;>omega)|(simp only[zn])) only[ref15_PutM,↓zd,zk,seval,reduceIte,List.map,AV.cells,List.all,AV.one,eqV,eqAll,splice,fillA,List.replicate,resAll,resA,zm,zg,o1,o2,o3,evA,repeatL_one,a263]
 refine OK_fn (radd_run (r3.1.keep k0) hl (Fit.one _ _) h1 (by simp) s.c.m) ?_
 rintro _ m2 ⟨v',rfl,ho⟩
 have rv:=ho.rw (r3.k1 k0.k1)
 have ov:=one_rw rv
 unfold AV.one at ov
 have hst:=fun(M:Mem X) (i o sz:Nat) (l:List AV) h=>stC_row (m:=M) (i:=i) (o:=o) (sz:=sz) (l:=l) rv h
 have g1:m2[m.length]?=some (.cells 10 false (rC s.c gv pv mv s.spin)):=ho.1.get (by simp[rC])
 have g2:m2[m.length+1]?=some (.cells 10 false Z10):=ho.1.get (by simp[Z10])
 simp only[rC,Z10] at g1 g2
 have l2:=(List.getElem?_eq_some_iff.1 g2).1
 simp(disch:=first|assumption|omega|(simp only[zl]<;>omega)|(simp only[zn])) only[↓zd,zk,seval,reduceIte,List.map,AV.cells,List.all,AV.one,eqV,eqAll,splice,fillA,List.replicate,resAll,resA,zm,zg,g1,g2,hst,o1,o2,o3,ov]
 obtain⟨f1,f2⟩:=set2 (k0.trans ho.1) (Nat.le_refl _) (Nat.le_succ _) g1 g2 (by omega) (.cells 10 false (rC s.c gv pv v' s.spin)) (.cells 10 false (rC s.c gv pv v' s.spin))
 have kk:=(k0.trans ho.1).k1.trans f2
 exact⟨f1,_,⟨gv,pv,v',rfl,r1.k1 kk,r2.k1 kk,rv.k1 f2⟩,rfl⟩
set_option maxHeartbeats 2000000 in
theorem rpop_run(H:RP m s v) (h1:s.g.length < 10000) (n:Int) :
  Fn G15f ref15_Pop [v,.int .i64 n] m (fun r m'=>Keep m m'∧∃ v' a,r = .tup [v',a]∧RP m' { s with g:=s.g.drop (popN s.g n) } v'∧RW m' (s.g.take (popN s.g n)) a):=by
 have a264:assoc (G15f (X:=X)) 264=some (amFunc [] ref15_first):=rfl
 generalize (G15f (X:=X))=G at a264 ⊢
 obtain⟨gv,pv,mv,rfl,r1,r2,r3⟩:=H
 have k0:=Keep.app m [Chunk.cells 10 false (rC s.c gv pv mv s.spin),Chunk.cells 10 false Z10]
 have o1:=one_rw r1
 have o2:=one_rw r2
 have o3:=one_rw r3
 unfold AV.one at o1 o2 o3
 simp only[rC,Z10] at k0 ⊢
 refine Fn_of rfl ?_
 simp(disch:=first|assumption|omega|(simp only[zl]<;>omega)|(simp only[zn])) only[ref15_Pop,↓zd,zk,seval,reduceIte,List.map,AV.cells,List.all,AV.one,eqV,eqAll,splice,fillA,List.replicate,resAll,resA,zm,zg,o1,o2,o3,a264]
 refine OK_fn (rfirst_run (r1.k1 k0.k1).1 (r1.k1 k0.k1).2 n h1) ?_
 rintro _ m2 ⟨a,v',rfl,ho,la,lv⟩
 have rv:=lv.rw
 have ov:=one_rw rv
 unfold AV.one at ov
 have hst:=fun(M:Mem X) (i o sz:Nat) (l:List AV) h=>stC_row (m:=M) (i:=i) (o:=o) (sz:=sz) (l:=l) rv h
 have g1:m2[m.length]?=some (.cells 10 false (rC s.c gv pv mv s.spin)):=ho.get (by simp[rC])
 have g2:m2[m.length+1]?=some (.cells 10 false Z10):=ho.get (by simp[Z10])
 simp only[rC,Z10] at g1 g2
 have l2:=(List.getElem?_eq_some_iff.1 g2).1
 simp(disch:=first|assumption|omega|(simp only[zl]<;>omega)|(simp only[zn])) only[↓zd,zk,seval,reduceIte,List.map,AV.cells,List.all,AV.one,eqV,eqAll,splice,fillA,List.replicate,resAll,resA,zm,zg,g1,g2,hst,o1,o2,o3,ov]
 obtain⟨f1,f2⟩:=set2 (k0.trans ho) (Nat.le_refl _) (Nat.le_succ _) g1 g2 (by omega) (.cells 10 false (rC s.c v' pv mv s.spin)) (.cells 10 false (rC s.c v' pv mv s.spin))
 have kk:=(k0.trans ho).k1.trans f2
 exact⟨f1,_,_,rfl,⟨v',pv,mv,rfl,rv.k1 f2,r2.k1 kk,r3.k1 kk⟩,la.rw.k1 f2⟩
set_option maxHeartbeats 4000000 in
theorem rtakep_run(H:RP m s v) (h1:s.ps.length < 10000) :
  Fn G15f ref15_TakeP [v] m (RA m { s with ps:=s.ps.tail } fun v' r=>r = .tup [v',.int .i64 (s.ps.head?.getD (-1))]):=by
 have a264:assoc (G15f (X:=X)) 264=some (amFunc [] ref15_first):=rfl
 generalize (G15f (X:=X))=G at a264 ⊢
 obtain⟨gv,pv,mv,rfl,r1,r2,r3⟩:=H
 have k0:=Keep.app m [Chunk.cells 10 false (rC s.c gv pv mv s.spin),Chunk.cells 10 false Z10]
 have o1:=one_rw r1
 have o2:=one_rw r2
 have o3:=one_rw r3
 unfold AV.one at o1 o2 o3
 simp only[rC,Z10] at k0 ⊢
 refine Fn_of rfl ?_
 simp(disch:=first|assumption|omega|(simp only[zl]<;>omega)|(simp only[zn])) only[ref15_TakeP,↓zd,zk,seval,reduceIte,List.map,AV.cells,List.all,AV.one,eqV,eqAll,splice,fillA,List.replicate,resAll,resA,zm,zg,o1,o2,o3,a264]
 refine OK_fn (rfirst_run (r2.k1 k0.k1).1 (r2.k1 k0.k1).2 1 h1) ?_
 rintro _ m2 ⟨a,v',rfl,ho,la,lv⟩
 have rv:=lv.rw
 have ov:=one_rw rv
 unfold AV.one at ov
 have hst:=fun(M:Mem X) (i o sz:Nat) (l:List AV) h=>stC_row (m:=M) (i:=i) (o:=o) (sz:=sz) (l:=l) rv h
 have g1:m2[m.length]?=some (.cells 10 false (rC s.c gv pv mv s.spin)):=ho.get (by simp[rC])
 have g2:m2[m.length+1]?=some (.cells 10 false Z10):=ho.get (by simp[Z10])
 simp only[rC,Z10] at g1 g2
 have l2:=(List.getElem?_eq_some_iff.1 g2).1
 have hal:=la.1.len
 cases hx:s.ps with
 | nil =>
  rw[hx] at hal
  have hal0:lenA a=some 0:=hal
  simp(disch:=first|assumption|omega|(simp only[zl]<;>omega)|(simp only[zn])) only[↓zd,zk,seval,reduceIte,List.map,AV.cells,List.all,AV.one,eqV,eqAll,splice,fillA,List.replicate,resAll,resA,zm,zg,g1,g2,ev_len,hal0,o1,o2,o3]
  obtain⟨f1,f2⟩:=set1 (k0.trans ho) (Nat.le_succ _) g2 (by decide) (.cells 10 false (rC s.c gv pv mv s.spin))
  have kk:=(k0.trans ho).k1.trans f2
  exact⟨f1,_,⟨gv,pv,mv,rfl,r1.k1 kk,(by have:=r2.k1 kk;rw[hx] at this;exact this),r3.k1 kk⟩,rfl⟩
 | cons x xs =>
  rw[hx] at hal la lv rv
  have hp:popN (x :: xs) 1=1:=by simp[popN]
  rw[hp] at hal la lv rv
  have la:LV m m2 [x] a:=la.up k0.1
  obtain⟨q,o,cap,ro,L,ha,q2,_,q4,q5⟩:=la.1.val (by simp)
  have ha:a = .sl q o 1 cap:=ha
  subst ha
  have qx:L[o]?=some (.int .i64 x):=q5 0 x rfl
  have l1:=(List.getElem?_eq_some_iff.1 g1).1
  have qm:q≠m.length:=by rintro rfl;rw[g1] at q2;cases q2
  have qm1:q≠m.length+1:=by rintro rfl;rw[g2] at q2;cases q2
  have q2':∀ C,(m2.set m.length C)[q]?=some (Chunk.cells 1 ro L):=fun C=>by rw[List.getElem?_set_ne (Ne.symm qm)];exact q2
  have q2'':∀ C D,((m2.set m.length C).set (m.length+1) D)[q]?=some (Chunk.cells 1 ro L):=fun C D=>by rw[List.getElem?_set_ne (Ne.symm qm1)];exact q2' C
  simp(disch:=first|assumption|omega|(simp only[zl]<;>omega)|(simp only[zn])) only[↓zd,zk,seval,reduceIte,List.map,AV.cells,List.all,AV.one,eqV,eqAll,splice,fillA,List.replicate,resAll,resA,zm,zg,g1,g2,ev_len,lenA,hst,q2',q2'',qx,o1,o2,o3,ov]
  obtain⟨f1,f2⟩:=set2 (k0.trans ho) (Nat.le_refl _) (Nat.le_succ _) g1 g2 (by omega) (.cells 10 false (rC s.c gv v' mv s.spin)) (.cells 10 false (rC s.c gv v' mv s.spin))
  have kk:=(k0.trans ho).k1.trans f2
  exact⟨f1,_,⟨gv,v',mv,rfl,r1.k1 kk,rv.k1 f2,r3.k1 kk⟩,rfl⟩
set_option maxHeartbeats 4000000 in
theorem rtakem_run(H:RP m s v) (h1:s.ms.length < 10000) :
  Fn G15f ref15_TakeM [v] m (RA m { s with ms:=s.ms.tail } fun v' r=>r = .tup [v',.int .i64 (s.ms.head?.getD (-1))]):=by
 have a264:assoc (G15f (X:=X)) 264=some (amFunc [] ref15_first):=rfl
 generalize (G15f (X:=X))=G at a264 ⊢
 obtain⟨gv,pv,mv,rfl,r1,r2,r3⟩:=H
 have k0:=Keep.app m [Chunk.cells 10 false (rC s.c gv pv mv s.spin),Chunk.cells 10 false Z10]
 have o1:=one_rw r1
 have o2:=one_rw r2
 have o3:=one_rw r3
 unfold AV.one at o1 o2 o3
 simp only[rC,Z10] at k0 ⊢
 refine Fn_of rfl ?_
 simp(disch:=first|assumption|omega|(simp only[zl]<;>omega)|(simp only[zn])) only[ref15_TakeM,↓zd,zk,seval,reduceIte,List.map,AV.cells,List.all,AV.one,eqV,eqAll,splice,fillA,List.replicate,resAll,resA,zm,zg,o1,o2,o3,a264]
 refine OK_fn (rfirst_run (r3.k1 k0.k1).1 (r3.k1 k0.k1).2 1 h1) ?_
 rintro _ m2 ⟨a,v',rfl,ho,la,lv⟩
 have rv:=lv.rw
 have ov:=one_rw rv
 unfold AV.one at ov
 have hst:=fun(M:Mem X) (i o sz:Nat) (l:List AV) h=>stC_row (m:=M) (i:=i) (o:=o) (sz:=sz) (l:=l) rv h
 have g1:m2[m.length]?=some (.cells 10 false (rC s.c gv pv mv s.spin)):=ho.get (by simp[rC])
 have g2:m2[m.length+1]?=some (.cells 10 false Z10):=ho.get (by simp[Z10])
 simp only[rC,Z10] at g1 g2
 have l2:=(List.getElem?_eq_some_iff.1 g2).1
 have hal:=la.1.len
 cases hx:s.ms with
 | nil =>
  rw[hx] at hal
  have hal0:lenA a=some 0:=hal
  simp(disch:=first|assumption|omega|(simp only[zl]<;>omega)|(simp only[zn])) only[↓zd,zk,seval,reduceIte,List.map,AV.cells,List.all,AV.one,eqV,eqAll,splice,fillA,List.replicate,resAll,resA,zm,zg,g1,g2,ev_len,hal0,o1,o2,o3]
  obtain⟨f1,f2⟩:=set1 (k0.trans ho) (Nat.le_succ _) g2 (by decide) (.cells 10 false (rC s.c gv pv mv s.spin))
  have kk:=(k0.trans ho).k1.trans f2
  exact⟨f1,_,⟨gv,pv,mv,rfl,r1.k1 kk,r2.k1 kk,(by have:=r3.k1 kk;rw[hx] at this;exact this)⟩,rfl⟩
 | cons x xs =>
  rw[hx] at hal la lv rv
  have hp:popN (x :: xs) 1=1:=by simp[popN]
  rw[hp] at hal la lv rv
  have la:LV m m2 [x] a:=la.up k0.1
  obtain⟨q,o,cap,ro,L,ha,q2,_,q4,q5⟩:=la.1.val (by simp)
  have ha:a = .sl q o 1 cap:=ha
  subst ha
  have qx:L[o]?=some (.int .i64 x):=q5 0 x rfl
  have l1:=(List.getElem?_eq_some_iff.1 g1).1
  have qm:q≠m.length:=by rintro rfl;rw[g1] at q2;cases q2
  have qm1:q≠m.length+1:=by rintro rfl;rw[g2] at q2;cases q2
  have q2':∀ C,(m2.set m.length C)[q]?=some (Chunk.cells 1 ro L):=fun C=>by rw[List.getElem?_set_ne (Ne.symm qm)];exact q2
  have q2'':∀ C D,((m2.set m.length C).set (m.length+1) D)[q]?=some (Chunk.cells 1 ro L):=fun C D=>by rw[List.getElem?_set_ne (Ne.symm qm1)];exact q2' C
  simp(disch:=first|assumption|omega|(simp only[zl]<;>omega)|(simp only[zn])) only[↓zd,zk,seval,reduceIte,List.map,AV.cells,List.all,AV.one,eqV,eqAll,splice,fillA,List.replicate,resAll,resA,zm,zg,g1,g2,ev_len,lenA,hst,q2',q2'',qx,o1,o2,o3,ov]
  obtain⟨f1,f2⟩:=set2 (k0.trans ho) (Nat.le_refl _) (Nat.le_succ _) g1 g2 (by omega) (.cells 10 false (rC s.c gv pv v' s.spin)) (.cells 10 false (rC s.c gv pv v' s.spin))
  have kk:=(k0.trans ho).k1.trans f2
  exact⟨f1,_,⟨gv,pv,v',rfl,r1.k1 kk,r2.k1 kk,rv.k1 f2⟩,rfl⟩
end
end Go.Am.F15
end
section
namespace Go.Am.F15
open Go.Am.F10 (iC iC_at iC_len iC_one iC_app SI SI.val same_run Cf cfC rightP right_run Nx si_take si_drop si_row cutA dropA)
variable {X:Type}
section
variable {m:Mem X} {s:Pc} {v:AV}
def G15b:List (Nat × AFun X):=[(259,amFunc G15f ref15_TakeP),(260,amFunc G15f ref15_TakeM)]
set_option maxHeartbeats 2000000 in
theorem rboth_no(H:RP m s v) (h:s.ps=[]∨s.ms=[]):Fn G15b ref15_Both [v] m (RA m s fun v' r=>r = .tup [v',.int .i64 (-1),.int .i64 (-1)]):=by
 generalize (G15b (X:=X))=G
 obtain⟨gv,pv,mv,rfl,r1,r2,r3⟩:=H
 have k0:=Keep.app m [Chunk.cells 10 false (rC s.c gv pv mv s.spin),Chunk.cells 10 false (rC s.c gv pv mv s.spin)]
 have o1:=one_rw r1
 have o2:=one_rw r2
 have o3:=one_rw r3
 have hl2:=r2.1.len
 have hl3:=r3.1.len
 unfold AV.one at o1 o2 o3
 simp only[rC] at k0 ⊢
 refine Fn_of rfl ?_
 have fin:=(⟨k0,_,⟨gv,pv,mv,rfl,r1.k1 k0.k1,r2.k1 k0.k1,r3.k1 k0.k1⟩,rfl⟩:RA m s (fun v' r=>r = .tup [v',.int .i64 (-1),.int .i64 (-1)]) _ _)
 cases hps:s.ps with
 | nil =>
  rw[hps] at hl2
  have hl2':lenA pv=some 0:=hl2
  simp(disch:=first|assumption|omega|(simp only[zl]<;>omega)|(simp only[zn])) only[ref15_Both,↓zd,zk,seval,reduceIte,List.map,AV.cells,List.all,AV.one,eqV,eqAll,splice,fillA,List.replicate,resAll,resA,zm,zg,o1,o2,o3,ev_len,hl2']
  exact fin
 | cons x xs =>
  have hms:s.ms=[]:=h.resolve_left (by rw[hps];simp)
  rw[hps] at hl2
  rw[hms] at hl3
  have hl3':lenA mv=some 0:=hl3
  have h0:((((x :: xs).length:Nat):Int)=0)=False:=eq_false (by simp;omega)
  simp(disch:=first|assumption|omega|(simp only[zl]<;>omega)|(simp only[zn])) only[ref15_Both,↓zd,zk,seval,reduceIte,List.map,AV.cells,List.all,AV.one,eqV,eqAll,splice,fillA,List.replicate,resAll,resA,zm,zg,o1,o2,o3,ev_len,hl2,hl3',h0]
  exact fin
set_option maxHeartbeats 4000000 in
theorem rboth_run(H:RP m s v) {x y:Int} {xs ys:List Int} (hps:s.ps=x :: xs) (hms:s.ms=y :: ys) (b1:s.ps.length < 10000) (b2:s.ms.length < 10000):Fn G15b ref15_Both [v] m (RA m { s with ps:=xs,ms:=ys } fun v' r=>r = .tup [v',.int .i64 x,.int .i64 y]):=by
 have a259:assoc (G15b (X:=X)) 259=some (amFunc G15f ref15_TakeP):=rfl
 have a260:assoc (G15b (X:=X)) 260=some (amFunc G15f ref15_TakeM):=rfl
 generalize (G15b (X:=X))=G at a259 a260 ⊢
 obtain⟨gv,pv,mv,rfl,r1,r2,r3⟩:=H
 have k0:=Keep.app m [Chunk.cells 10 false (rC s.c gv pv mv s.spin),Chunk.cells 10 false Z10]
 have o1:=one_rw r1
 have o2:=one_rw r2
 have o3:=one_rw r3
 have hl2:=r2.1.len
 have hl3:=r3.1.len
 unfold AV.one at o1 o2 o3
 rw[hps] at hl2
 rw[hms] at hl3
 have h0:((((x :: xs).length:Nat):Int)=0)=False:=eq_false (by simp;omega)
 have h1:((((y :: ys).length:Nat):Int)=0)=False:=eq_false (by simp;omega)
 have H0:RP (m++[Chunk.cells 10 false (rC s.c gv pv mv s.spin),Chunk.cells 10 false Z10]) s (.agg (rC s.c gv pv mv s.spin)):=⟨gv,pv,mv,rfl,r1.k1 k0.k1,r2.k1 k0.k1,r3.k1 k0.k1⟩
 simp only[rC,Z10] at k0 H0 ⊢
 refine Fn_of rfl ?_
 simp(disch:=first|assumption|omega|(simp only[zl]<;>omega)|(simp only[zn])) only[ref15_Both,↓zd,zk,seval,reduceIte,List.map,AV.cells,List.all,AV.one,eqV,eqAll,splice,fillA,List.replicate,resAll,resA,zm,zg,o1,o2,o3,ev_len,hl2,hl3,h0,h1,a259]
 refine OK_fn (rtakep_run H0 b1) ?_
 rintro _ m2 ⟨k2,_,⟨gv2,pv2,mv2,rfl,q1,q2,q3⟩,rfl⟩
 have p1:=one_rw q1
 have p2:=one_rw q2
 have p3:=one_rw q3
 have k3:=Keep.app m2 [Chunk.cells 10 false (rC s.c gv2 pv2 mv2 s.spin)]
 have H3:RP (m2++[Chunk.cells 10 false (rC s.c gv2 pv2 mv2 s.spin)]) { s with ps:=s.ps.tail } (.agg (rC s.c gv2 pv2 mv2 s.spin)):=⟨gv2,pv2,mv2,rfl,q1.k1 k3.k1,q2.k1 k3.k1,q3.k1 k3.k1⟩
 unfold AV.one at p1 p2 p3
 simp only[rC] at k3 H3
 simp(disch:=first|assumption|omega|(simp only[zl]<;>omega)|(simp only[zn])) only[rC,↓zd,zk,seval,reduceIte,List.map,AV.cells,List.all,AV.one,eqV,eqAll,splice,fillA,List.replicate,resAll,resA,zm,zg,p1,p2,p3,a260]
 refine OK_fn (rtakem_run H3 b2) ?_
 rintro _ m4 ⟨k4,_,⟨gv4,pv4,mv4,rfl,t1,t2,t3⟩,rfl⟩
 have w1:=one_rw t1
 have w2:=one_rw t2
 have w3:=one_rw t3
 unfold AV.one at w1 w2 w3
 have g4:m4[m.length+1]?=some (.cells 10 false Z10):=k4.get (k3.get (k2.get (by simp[Z10])))
 simp only[Z10] at g4
 have kk:=k0.trans (k2.trans (k3.trans k4))
 have k5:=Keep.app m4 [Chunk.cells 10 false (rC s.c gv4 pv4 mv4 s.spin)]
 have g5:(m4++[Chunk.cells 10 false (rC s.c gv4 pv4 mv4 s.spin)])[m.length+1]?=some (.cells 10 false Z10):=k5.get g4
 have l4:=(List.getElem?_eq_some_iff.1 g4).1
 obtain⟨f1,f2⟩:=set1 (kk.trans k5) (Nat.le_succ m.length) g5 (by decide) (.cells 10 false (rC s.c gv4 pv4 mv4 s.spin))
 simp only[rC] at f1 f2 k5
 have f2:=k5.k1.trans f2
 simp only[List.set_append_left _ _ l4] at f1 f2
 simp(disch:=first|assumption|omega|(simp only[zl]<;>omega)|(simp only[zn])) only[rC,↓zd,zk,seval,reduceIte,List.map,AV.cells,List.all,AV.one,eqV,eqAll,splice,fillA,List.replicate,resAll,resA,zm,zg,w1,w2,w3,g4]
 refine⟨f1,_,⟨gv4,pv4,mv4,rfl,t1.k1 f2,?_,?_⟩,?_⟩
 ·have:=t2.k1 f2;simp only[hps,List.tail_cons] at this;exact this
 ·have:=t3.k1 f2;simp only[hms,List.tail_cons] at this;exact this
 ·simp only[hps,hms];rfl
theorem rbatch_eq(H:RP m s v) (hn:s.c.n≠0):∃ m',c_ref15_Batch [v] m=some (.int .i64 (batchN s),m')∧Keep m m':=by
 obtain⟨gv,pv,mv,rfl,r1,r2,r3⟩:=H
 have k0:=Keep.app m [Chunk.cells 10 false (rC s.c gv pv mv s.spin)]
 have o1:=one_rw r1
 have o2:=one_rw r2
 have o3:=one_rw r3
 have hl:=r1.1.len
 unfold AV.one at o1 o2 o3
 refine⟨_,?_,k0⟩
 simp only[rC]
 refine Fn_eq (Fn_of rfl ?_)
 simp(disch:=first|assumption|omega|(simp only[zl]<;>omega)|(simp only[zn])) only[ref15_Batch,↓zd,zk,seval,reduceIte,List.map,AV.cells,List.all,AV.one,eqV,eqAll,splice,fillA,List.replicate,resAll,resA,zm,zg,o1,o2,o3,ev_len,hl,hn,ev_min3]
 simp only[batchN]
 congr 1
 omega
end
end Go.Am.F15
end
section
namespace Go.Am.F15
open Go.Am.F10 (iC iC_at iC_len iC_one iC_app SI SI.val same_run Cf cfC rightP right_run Nx si_take si_drop si_row cutA dropA)
variable {X:Type}
theorem cells_rw{m:Mem X} {xs:List Int} {v:AV} (h:RW m xs v):v.cells=[v]:=by
 rcases h.2 with rfl|⟨q,o,n,l,rfl,_⟩<;>rfl
section
variable {m:Mem X} {s:Pc} {v:AV}
set_option maxHeartbeats 4000000 in
theorem raddspin_run(H:RP m s v) (n:Int) (h0:0≤s.spin) (h1:s.spin≤s.c.m) (h2:0≤s.c.m) (h3:s.c.m≤16):Fn [] ref15_AddSpin [v,.int .i64 n] m (RA m { s with spin:=spinN s n } fun v' r=>r=v'):=by
 obtain⟨gv,pv,mv,rfl,r1,r2,r3⟩:=H
 have o1:=one_rw r1
 have o2:=one_rw r2
 have o3:=one_rw r3
 unfold AV.one at o1 o2 o3
 have kf:=Keep.app m [Chunk.cells 10 false (rC s.c gv pv mv (spinN s n)),Chunk.cells 10 false (rC s.c gv pv mv (spinN s n))]
 have fin:=(⟨kf,_,⟨gv,pv,mv,rfl,r1.k1 kf.k1,r2.k1 kf.k1,r3.k1 kf.k1⟩,rfl⟩:RA m { s with spin:=spinN s n } (fun v' r=>r=v') _ _)
 have w0:IntKind.i64.wrap (0 - s.c.m)=0 - s.c.m:=wrapI (by omega) (by omega)
 have w0':IntKind.i64.wrap (-s.c.m)=-s.c.m:=wrapI (by omega) (by omega)
 simp only[rC] at fin ⊢
 have fin':∀ z:Int,z=spinN s n→RA m { s with spin:=spinN s n } (fun v' r=>r=v') (.agg [.int .i64 s.c.n,.int .i64 s.c.q,.int .i64 s.c.g,.int .i64 s.c.m,.int .i64 s.c.t,.int .i64 s.c.s,gv,pv,mv,.int .i64 z])
   (m++[Chunk.cells 10 false [.int .i64 s.c.n,.int .i64 s.c.q,.int .i64 s.c.g,.int .i64 s.c.m,.int .i64 s.c.t,.int .i64 s.c.s,gv,pv,mv,.int .i64 z],Chunk.cells 10 false [.int .i64 s.c.n,.int .i64 s.c.q,.int .i64 s.c.g,.int .i64 s.c.m,.int .i64 s.c.t,.int .i64 s.c.s,gv,pv,mv,.int .i64 z]]):=by
  rintro _ rfl;exact fin
 refine Fn_of rfl ?_
 have key:∀ d:Int,-s.c.m≤d→d≤s.c.m→d=mxI (IntKind.i64.wrap (0 - s.c.m)) (mnI n s.c.m)→spinN s n=mxI 0 (mnI (s.spin+d) s.c.m)∧IntKind.i64.wrap (s.spin+d)=s.spin+d:=by
  intro d d1 d2 e
  have wd:IntKind.i64.wrap (s.spin+d)=s.spin+d:=wrapI (by omega) (by omega)
  refine⟨?_,wd⟩
  unfold spinN
  rw[← e,wd]
 by_cases c1:s.c.m < n
 ·have d1:decide (s.c.m < n)=true:=decide_eq_true c1
  have d2:decide (s.c.m < -s.c.m)=false:=decide_eq_false (by omega)
  obtain⟨e1,e2⟩:=key s.c.m (by omega) (by omega) (by unfold mxI mnI;rw[w0];repeat' split<;>omega)
  simp(disch:=first|assumption|omega|(simp only[zl]<;>omega)|(simp only[zn])) only[ref15_AddSpin,↓zd,zk,seval,reduceIte,List.map,AV.cells,List.all,AV.one,eqV,eqAll,splice,fillA,List.replicate,resAll,resA,zm,zg,o1,o2,o3,d1,d2,w0',e2]
  exact fin' _ (by rw[e1];unfold mxI mnI;repeat' split<;>omega)
 ·have d1:decide (s.c.m < n)=false:=decide_eq_false c1
  by_cases c2:n < -s.c.m
  ·have d2:decide (n < -s.c.m)=true:=decide_eq_true c2
   obtain⟨e1,e2⟩:=key (-s.c.m) (by omega) (by omega) (by unfold mxI mnI;rw[w0];repeat' split<;>omega)
   simp(disch:=first|assumption|omega|(simp only[zl]<;>omega)|(simp only[zn])) only[ref15_AddSpin,↓zd,zk,seval,reduceIte,List.map,AV.cells,List.all,AV.one,eqV,eqAll,splice,fillA,List.replicate,resAll,resA,zm,zg,o1,o2,o3,d1,d2,w0',e2]
   exact fin' _ (by rw[e1];unfold mxI mnI;repeat' split<;>omega)
  ·have d2:decide (n < -s.c.m)=false:=decide_eq_false c2
   obtain⟨e1,e2⟩:=key n (by omega) (by omega) (by unfold mxI mnI;rw[w0];repeat' split<;>omega)
   simp(disch:=first|assumption|omega|(simp only[zl]<;>omega)|(simp only[zn])) only[ref15_AddSpin,↓zd,zk,seval,reduceIte,List.map,AV.cells,List.all,AV.one,eqV,eqAll,splice,fillA,List.replicate,resAll,resA,zm,zg,o1,o2,o3,d1,d2,w0',e2]
   exact fin' _ (by rw[e1];unfold mxI mnI;repeat' split<;>omega)
theorem config_eq(c:Cf) (m:Mem X):c_docs_Config [.agg (cfC c)] m=some (.agg (cfC c),m++[.cells 6 false (cfC c),.cells 6 false (cfC c)]):=by
 simp only[cfC]
 refine Fn_eq (Fn_of rfl ?_)
 simp(disch:=first|assumption|omega|(simp only[zl]<;>omega)|(simp only[zn])) only[docs_Config,F10.docs_Config,↓zd,zk,seval,reduceIte,List.map,AV.cells,List.all,AV.one,eqV,eqAll,splice,fillA,List.replicate,resAll,resA,zm,zg]
def G15n:List (Nat × AFun X):=[(253,c_ref15_upto)]
theorem rnew_run{c:Cf} (hn:c.n < 10000) (hm:c.m < 10000):Fn G15n ref15_New [.agg (cfC c)] m (RA m (newS c) fun v' r=>r=v'):=by
 have a253:assoc (G15n (X:=X)) 253=some (amFunc [] ref15_upto):=rfl
 generalize (G15n (X:=X))=G at a253 ⊢
 have k0:=Keep.app m [Chunk.cells 6 false (cfC c),Chunk.cells 10 false Z10]
 simp only[cfC,Z10] at k0 ⊢
 refine Fn_of rfl ?_
 simp(disch:=first|assumption|omega|(simp only[zl]<;>omega)|(simp only[zn])) only[ref15_New,↓zd,zk,seval,reduceIte,List.map,AV.cells,List.all,AV.one,eqV,eqAll,splice,fillA,List.replicate,resAll,resA,zm,zg,a253]
 refine OKT_fn (upto_run hn) ?_
 rintro v1 m1 ⟨k1,L1⟩
 have g1:m1[m.length]?=some (.cells 6 false (cfC c)):=k1.get (by simp[cfC])
 simp only[cfC] at g1
 simp(disch:=first|assumption|omega|(simp only[zl]<;>omega)|(simp only[zn])) only[↓zd,zk,seval,reduceIte,List.map,AV.cells,List.all,AV.one,eqV,eqAll,splice,fillA,List.replicate,resAll,resA,zm,zg,g1,a253]
 refine OKT_fn (upto_run hm) ?_
 rintro v2 m2 ⟨k2,L2⟩
 have g1':=k2.get g1
 have g2:m2[m.length+1]?=some (.cells 10 false Z10):=k2.get (k1.get (by simp[Z10]))
 have r1:=L1.rw.k1 k2.k1
 have r2:=L2.rw
 have o1:=one_rw r1
 have o2:=one_rw r2
 unfold AV.one at o1 o2
 have c1:=cells_rw r1
 have c2:=cells_rw r2
 unfold AV.cells at c1 c2
 have kk:=k0.trans (k1.trans k2)
 obtain⟨f1,f2⟩:=set1 kk (Nat.le_succ m.length) g2 (by decide) (.cells 10 false (rC c .nils v1 v2 0))
 have l2:=(List.getElem?_eq_some_iff.1 g2).1
 simp only[rC,Z10] at f1 f2 g2
 simp(disch:=first|assumption|omega|(simp only[zl]<;>omega)|(simp only[zn])) only[↓zd,zk,seval,reduceIte,List.map,AV.cells,List.all,AV.one,eqV,eqAll,splice,fillA,List.replicate,resAll,resA,zm,zg,g1,g1',g2,o1,o2,c1,c2]
 exact⟨f1,_,⟨.nils,v1,v2,rfl,RW.nil,r1.k1 f2,r2.k1 f2⟩,rfl⟩
end
end Go.Am.F15
end
section
namespace Go.Am.F15
open Go.Am.F10 (iC iC_at iC_len iC_one iC_app SI SI.val same_run Cf cfC rightP right_run Nx si_take si_drop si_row cutA dropA)
open Go.Am.F06 (sqN sqT)
variable {X:Type}
def sameRB(s t:Pc):Bool:=decide (s.g=t.g) && (decide (s.ps=t.ps) && (decide (s.ms=t.ms) && decide (s.spin=t.spin)))
def rowS(s:Pc):Nat→List Int
 | 0=>s.g
 | 1=>s.ps
 | _=>s.ms
def tri{α:Type} (a b c:α):Nat→α
 | 0=>a
 | 1=>b
 | _=>c
def RO(m:Mem X) (xs:List Int) (v:AV):Prop:=(v = .nils∧xs=[])∨∃ q,v = .sl q 0 xs.length none∧m[q]?=some (.cells 1 false (iC xs))
theorem RO.rw{m:Mem X} {xs:List Int} {v:AV} (h:RO m xs v):RW m xs v:=by
 rcases h with⟨rfl,rfl⟩|⟨q,rfl,h⟩
 ·exact RW.nil
 ·exact⟨⟨by rw[iC_len];omega,.inr ⟨q,0,none,rfl,fun _=>⟨false,_,h,by rw[List.drop_zero,List.take_of_length_le (by rw[iC_len];omega)],by rw[iC_len];omega,fun _=>rfl⟩⟩⟩,.inr ⟨q,0,_,_,rfl,h⟩⟩
def Lies(v:AV) (a b:Nat):Prop:=∀ q n,v = .sl q 0 n none→a≤q∧q < b
theorem own_ro{m0 m:Mem X} {xs:List Int} {v:AV} (h:Go.Am.Own m0 m 1 xs.length (iC xs) v):RO m xs v∧Lies v m0.length m.length:=by
 rcases h with⟨h1,h2,rfl⟩|⟨q,rfl,h2,h3,h4⟩
 ·exact⟨.inl ⟨rfl,List.length_eq_zero_iff.1 h1⟩,fun q n e=>by cases e⟩
 ·exact⟨.inr ⟨q,rfl,h2⟩,fun q' n e=>by injection e with e;subst e;exact⟨h3,h4⟩⟩
theorem RO.at{m m':Mem X} {xs:List Int} {v:AV} (h:RO m xs v) (e:∀ q n,v = .sl q 0 n none→m'[q]?=m[q]?):RO m' xs v:=by
 rcases h with h|⟨q,h1,h2⟩
 ·exact .inl h
 ·exact .inr ⟨q,h1,(e q _ h1).trans h2⟩
def WO(v:AV) (m m':Mem X):Prop:=m'.length=m.length∧∀ k,(∀ n,v ≠ .sl k 0 n none)→m'[k]?=m[k]?
def spLoop:AC:=match sqN 3 docs_SamePool.body with | .seq _ (.block _ (.loop b))=>b|c=>c
def spB:AC:=match spLoop with | .seq _ (.seq (.block _ b) _)=>b|c=>c
def spC:AC:=match spLoop with | .seq c _=>c|c=>c
def spI:AC:=match spLoop with | .seq _ (.seq _ i)=>i|c=>c
def spR:AC:=.region [⟨.mov,[.c (.int .i64 0)],some 6,none⟩]
def spEnd:AC:=sqT 4 docs_SamePool.body
def spIn:AC:=sqT 1 spB
theorem sp_body:docs_SamePool.body = .seq (sqN 0 docs_SamePool.body) (.seq (sqN 1 docs_SamePool.body) (.seq (sqN 2 docs_SamePool.body)
  (.seq (.seq spR (.block 0 (.loop (.seq spC (.seq (.block 1 (.seq (sqN 0 spB) spIn)) spI))))) spEnd))):=rfl
def InI(e0:AV→AV→List AV) (n:Nat) (v:AV) (m0:Mem X) (k:Nat) (e:List AV) (m:Mem X):Prop:=∃ (j:Nat) (x10:AV),
 e=e0 (.int .i64 j) x10∧k=n - j∧j≤n∧WO v m0 m∧∀ q,v = .sl q 0 n none→∃ L,m[q]?=some (.cells 1 false L)∧L.length=n
theorem WO.refl(v:AV) (m:Mem X):WO v m m:=⟨rfl,fun _ _=>rfl⟩
theorem WO.set{v:AV} {m m':Mem X} (h:WO v m m') {q n:Nat} (hv:v = .sl q 0 n none) (C:Chunk X):WO v m (m'.set q C) :=
 ⟨by simpa using h.1,fun k hk=>by
  rw[List.getElem?_set_ne]
  ·exact h.2 k hk
  ·rintro rfl;exact hk n hv⟩
set_option maxHeartbeats 4000000 in
theorem spIn_run{G:List (Nat × AFun X)} {m:Mem X} {xs:List Int} {a0 a1 x2 x5 x7 x8 x9 x10 v:AV} {vv:Nat→AV} {q4 i:Nat} (hi:i < 3) (g4:m[q4]?=some (.cells 1 false [vv 0,vv 1,vv 2])) (hv:v=vv i) (h:RO m xs v) (hq:∀ n,v ≠ .sl q4 0 n none) (hx:xs.length < 1000) :
  W G spIn (fun y e m'=>y = .normal∧(∃ y7 y10,e=[a0,a1,x2,.bool false,.sl q4 0 3 (some 3),x5,.int .i64 i,y7,x8,x9,y10])∧WO v m m') [a0,a1,x2,.bool false,.sl q4 0 3 (some 3),x5,.int .i64 i,x7,x8,x9,x10] m:=by
 have hlen:=h.rw.1.len
 have h3:[vv 0,vv 1,vv 2][i]?=some v:=by
  subst hv
  match i,hi with
  | 0,_=>rfl
  | 1,_=>rfl
  | 2,_=>rfl
 simp(disch:=first|assumption|omega|(simp only[zl]<;>omega)|(simp only[zn])) only[spIn,spB,spLoop,sqN,sqT,docs_SamePool,↓zd,zk,seval,reduceIte,List.map,AV.cells,List.all,AV.one,eqV,eqAll,splice,fillA,List.replicate,resAll,resA,zm,zg]
 refine W_loop (InI (fun j x10=>[a0,a1,x2,.bool false,.sl q4 0 3 (some 3),x5,.int .i64 i,j,x8,x9,x10]) xs.length v m) xs.length (by unfold FUEL;omega) ⟨0,_,rfl,rfl,Nat.zero_le _,WO.refl v m,fun q e=>?_⟩ ?_
 ·rcases h with⟨h,_⟩|⟨q',h,h2⟩
  ·rw[h] at e;cases e
  ·rw[h] at e;injection e with e;subst e
   exact⟨_,h2,iC_len xs⟩
 rintro k e m' ⟨j,y10,rfl,rfl,hj,hw,hL⟩
 have g4':=(hw.2 q4 hq).trans g4
 simp(disch:=first|assumption|omega|(simp only[zl]<;>omega)|(simp only[zn])) only[↓zd,zk,seval,reduceIte,List.map,AV.cells,List.all,AV.one,eqV,eqAll,splice,fillA,List.replicate,resAll,resA,zm,zg,g4',h3,ev_len,hlen]
 refine CW_of (fun hc=>?_) (fun hc=>?_)
 ·simp only[decide_eq_true_eq] at hc
  rcases h with⟨_,hx0⟩|⟨q,hvq,_⟩
  ·rw[hx0] at hc;simp at hc;omega
  ·obtain⟨L,hq1,hq2⟩:=hL q hvq
   have lq:=(List.getElem?_eq_some_iff.1 hq1).1
   have h3':[vv 0,vv 1,vv 2][i]?=some (.sl q 0 xs.length none):=by rw[h3,hvq]
   simp(disch:=first|assumption|omega|(simp only[zl]<;>omega)|(simp only[zn])) only[↓zd,zk,seval,reduceIte,List.map,AV.cells,List.all,AV.one,eqV,eqAll,splice,fillA,List.replicate,resAll,resA,zm,zg,g4',h3',hq1]
   refine⟨_,by omega,j+1,_,rfl,rfl,by omega,hw.set hvq _,fun q' e=>?_⟩
   rw[hvq] at e;injection e with e;subst e
   exact⟨_,List.getElem?_set_self lq,by simp[hq2]⟩
 ·simp only[decide_eq_false_iff_not] at hc
  simp(disch:=first|assumption|omega|(simp only[zl]<;>omega)|(simp only[zn])) only[↓zd,zk,seval,reduceIte,List.map,AV.cells,List.all,AV.one,eqV,eqAll,splice,fillA,List.replicate,resAll,resA,zm,zg]
  exact⟨⟨_,_,rfl⟩,hw⟩
def GSP:List (Nat × AFun X):=[(235,amFunc GGl pool_Pool_Global),(237,amFunc GGl pool_Pool_Ps),(238,amFunc GGl pool_Pool_Ms),(84,c_kit_SameInts),(239,c_pool_Pool_Spin),(233,c_pool_Pool_Len)]
def SpO(m0:Mem X) (s t:Pc) (a0 a1:AV) (b2 q4 q5:Nat) (vv ww:Nat→AV) (cs:List AV) (k:Nat) (e:List AV) (m:Mem X):Prop:=∃ (i:Nat) (x7 x8 x9 x10:AV),
 e=[a0,a1,.ptr b2 0,.bool false,.sl q4 0 3 (some 3),.sl q5 0 3 (some 3),.int .i64 i,x7,x8,x9,x10]∧k=3 - i∧i≤3∧Keep m0 m∧m[b2]?=some (.cells 10 false cs)∧m[q4]?=some (.cells 1 false [vv 0,vv 1,vv 2])∧m[q5]?=some (.cells 1 false [ww 0,ww 1,ww 2]) ∧
 (∀ j,i≤j→j < 3→RO m (rowS s j) (vv j))∧∀ j,j < i→rowS s j=rowS t j
theorem tri_get{f:Nat→AV} {i:Nat} (hi:i < 3):[f 0,f 1,f 2][i]?=some (f i):=by
 match i,hi with
 | 0,_=>rfl
 | 1,_=>rfl
 | 2,_=>rfl
theorem row_eqs{s t:Pc} (h:∀ j,j < 3→rowS s j=rowS t j):s.g=t.g∧s.ps=t.ps∧s.ms=t.ms:=⟨h 0 (by decide),h 1 (by decide),h 2 (by decide)⟩
theorem row_ne{s t:Pc} {i:Nat} (hi:i < 3) (h:rowS s i≠rowS t i):sameRB s t=false:=by
 match i,hi with
 | 0,_=>simp[sameRB,show s.g≠t.g from h]
 | 1,_=>simp[sameRB,show s.ps≠t.ps from h]
 | 2,_=>simp[sameRB,show s.ms≠t.ms from h]
set_option maxHeartbeats 8000000 in
theorem samepool_run{m:Mem X} {P:Pla} {s t:Pc} {rv:AV} (H:PO m P s) (hb:Bd s) (R:RP m t rv):Fn GSP docs_SamePool [.ptr P.p 0,rv] m (fun r m'=>r = .bool (sameRB s t)∧Keep m m'):=by
 have a235:assoc (GSP (X:=X)) 235=some (amFunc GGl pool_Pool_Global):=rfl
 have a237:assoc (GSP (X:=X)) 237=some (amFunc GGl pool_Pool_Ps):=rfl
 have a238:assoc (GSP (X:=X)) 238=some (amFunc GGl pool_Pool_Ms):=rfl
 have a84:assoc (GSP (X:=X)) 84=some c_kit_SameInts:=rfl
 have a239:assoc (GSP (X:=X)) 239=some c_pool_Pool_Spin:=rfl
 have a233:assoc (GSP (X:=X)) 233=some c_pool_Pool_Len:=rfl
 generalize (GSP (X:=X))=G at a235 a237 a238 a84 a239 a233 ⊢
 obtain⟨gv,pv,mv,rfl,r1,r2,r3⟩:=R
 have k0:=Keep.app m [Chunk.cells 10 false (rC t.c gv pv mv t.spin)]
 have o1:=one_rw r1
 have o2:=one_rw r2
 have o3:=one_rw r3
 have c1:=cells_rw r1
 have c2:=cells_rw r2
 have c3:=cells_rw r3
 have gl:=r1.1.len
 unfold AV.one at o1 o2 o3
 unfold AV.cells at c1 c2 c3
 have H0:=H.keep k0
 simp only[rC] at k0 H0 ⊢
 refine Fn_of rfl ?_
 rw[sp_body]
 simp(disch:=first|assumption|omega|(simp only[zl]<;>omega)|(simp only[zn])) only[sqN,sqT,docs_SamePool,↓zd,zk,seval,reduceIte,List.map,AV.cells,List.all,AV.one,eqV,eqAll,splice,fillA,List.replicate,resAll,resA,zm,zg,o1,o2,o3,a235]
 refine OK_fn (global_run H0 hb) ?_
 rintro v1 m1 ⟨k1,w1⟩
 have H1:=H0.keep k1
 simp(disch:=first|assumption|omega|(simp only[zl]<;>omega)|(simp only[zn])) only[↓zd,zk,seval,reduceIte,List.map,AV.cells,List.all,AV.one,eqV,eqAll,splice,fillA,List.replicate,resAll,resA,zm,zg,a237]
 refine OK_fn (ps_run H1 hb) ?_
 rintro v2 m2 ⟨k2,w2⟩
 have H2:=H1.keep k2
 simp(disch:=first|assumption|omega|(simp only[zl]<;>omega)|(simp only[zn])) only[↓zd,zk,seval,reduceIte,List.map,AV.cells,List.all,AV.one,eqV,eqAll,splice,fillA,List.replicate,resAll,resA,zm,zg,a238]
 refine OK_fn (ms_run H2 hb) ?_
 rintro v3 m3 ⟨k3,w3⟩
 have H3:=H2.keep k3
 obtain⟨p1,l1⟩:=own_ro w1
 obtain⟨p2,l2⟩:=own_ro w2
 obtain⟨p3,l3⟩:=own_ro w3
 have b0:m3[m.length]?=some (.cells 10 false (rC t.c gv pv mv t.spin)):=k3.get (k2.get (k1.get (by simp[rC])))
 have p1':=(p1.at (m':=m3) fun q n e=>(k2.trans k3).2 q (l1 q n e).2)
 have p2':=(p2.at (m':=m3) fun q n e=>k3.2 q (l2 q n e).2)
 have u1:=one_rw p1.rw
 have u2:=one_rw p2.rw
 have u3:=one_rw p3.rw
 have d1:=cells_rw p1.rw
 have d2:=cells_rw p2.rw
 have d3:=cells_rw p3.rw
 unfold AV.one at u1 u2 u3
 unfold AV.cells at d1 d2 d3
 have rl:repeatL 3 [AV.nils]=[.nils,.nils,.nils]:=rfl
 have lb:=(List.getElem?_eq_some_iff.1 b0).1
 have hlb:m.length < m1.length:=Nat.lt_of_lt_of_le (by simp) k1.1
 have hl1:=k1.1
 have hl2:=k2.1
 have hl3:=k3.1
 simp only[rC] at b0
 simp(disch:=first|assumption|omega|(simp only[zl]<;>omega)|(simp only[zn])) only[↓zd,zk,seval,reduceIte,List.map,AV.cells,List.all,AV.one,eqV,eqAll,splice,fillA,List.replicate,resAll,resA,zm,zg,evA,rl,u1,u2,u3,d1,d2,d3,b0,o1,o2,o3,c1,c2,c3,spR]
 have kA:=Keep.app m3 [Chunk.cells 1 false [v1,v2,v3],Chunk.cells 1 false [gv,pv,mv]]
 have kk:=k0.trans (k1.trans (k2.trans k3))
 have q1:=r1.k1 kk.k1
 have q2:=r2.k1 kk.k1
 have q3:=r3.k1 kk.k1
 have RR:∀ j,j < 3→RW m (rowS t j) (tri gv pv mv j):=fun j hj=>by
  match j,hj with
  | 0,_=>exact r1
  | 1,_=>exact r2
  | 2,_=>exact r3
 have hap:∀ j q n,j < 3→tri v1 v2 v3 j = .sl q 0 n none→m.length < q∧q < m3.length∧∀ j' n',j' < 3→tri v1 v2 v3 j' = .sl q 0 n' none→j'=j:=by
  intro j q n hj e
  have L1:=l1 q
  have L2:=l2 q
  have L3:=l3 q
  simp only[List.length_append,List.length_cons,List.length_nil] at L1
  match j,hj,e with
  | 0,_,e =>
   have:=L1 n e
   refine⟨by omega,by omega,fun j' n' hj' e'=>?_⟩
   match j',hj',e' with
   | 0,_,e'=>rfl
   | 1,_,e'=>have:=L2 n' e';omega
   | 2,_,e'=>have:=L3 n' e';omega
  | 1,_,e =>
   have:=L2 n e
   refine⟨by omega,by omega,fun j' n' hj' e'=>?_⟩
   match j',hj',e' with
   | 0,_,e'=>have:=L1 n' e';omega
   | 1,_,e'=>rfl
   | 2,_,e'=>have:=L3 n' e';omega
  | 2,_,e =>
   have:=L3 n e
   refine⟨by omega,by omega,fun j' n' hj' e'=>?_⟩
   match j',hj',e' with
   | 0,_,e'=>have:=L1 n' e';omega
   | 1,_,e'=>have:=L2 n' e';omega
   | 2,_,e'=>rfl
 have hbr:∀ j,j < 3→(rowS s j).length < 1000:=fun j hj=>by
  match j,hj with
  | 0,_=>exact hb.1
  | 1,_=>exact hb.2.1
  | 2,_=>exact hb.2.2
 refine W_loop (SpO m s t _ _ m.length m3.length (m3.length+1) (tri v1 v2 v3) (tri gv pv mv) (rC t.c gv pv mv t.spin)) 3 (by unfold FUEL;omega) ⟨0,_,_,_,_,rfl,rfl,by decide,kk.trans kA,kA.get (by simpa [rC] using b0),by simp[tri],by simp[tri],fun j h1 h2=>?_,fun j hj=>by omega⟩ ?_
 ·match j,h2 with
  | 0,_=>exact p1'.at fun q n e=>kA.2 q (by have:=l1 q n e;omega)
  | 1,_=>exact p2'.at fun q n e=>kA.2 q (by have:=l2 q n e;omega)
  | 2,_=>exact p3.at fun q n e=>kA.2 q (l3 q n e).2
 rintro k e m' ⟨i,x7,x8,x9,x10,rfl,rfl,hi,hk,gb,g4,g5,hro,heq⟩
 simp only[rC] at gb
 simp(disch:=first|assumption|omega|(simp only[zl]<;>omega)|(simp only[zn])) only[spC,spLoop,sqN,docs_SamePool,↓zd,zk,seval,reduceIte,List.map,AV.cells,List.all,AV.one,eqV,eqAll,splice,fillA,List.replicate,resAll,resA,zm,zg]
 refine CW_of (fun hc=>?_) (fun hc=>?_)
 ·simp only[decide_eq_true_eq] at hc
  have hi3:i < 3:=by omega
  have hr:=hro i (Nat.le_refl _) hi3
  have e4:=tri_get (f:=tri v1 v2 v3) hi3
  have e5:=tri_get (f:=tri gv pv mv) hi3
  have hs:=same_eq hr.rw.1 ((RR i hi3).k1 hk.k1).1 (hbr i hi3)
  by_cases he:rowS s i=rowS t i
  ·have hde:decide (rowS s i=rowS t i)=true:=decide_eq_true he
   simp(disch:=first|assumption|omega|(simp only[zl]<;>omega)|(simp only[zn])) only[spB,spLoop,sqN,docs_SamePool,↓zd,zk,seval,reduceIte,List.map,AV.cells,List.all,AV.one,eqV,eqAll,splice,fillA,List.replicate,resAll,resA,zm,zg,g4,g5,e4,e5,a84,hs,hde]
   have hne:∀ q,m3.length≤q∨q≤m.length→∀ n,tri v1 v2 v3 i ≠ .sl q 0 n none:=fun q hq n e=>by
    have:=hap i q n hi3 e;omega
   refine W_mono (spIn_run hi3 g4 rfl hr (hne _ (.inl (Nat.le_refl _))) (hbr i hi3)) ?_
   rintro y e m2 ⟨rfl,⟨y7,y10,rfl⟩,hw⟩
   simp(disch:=first|assumption|omega|(simp only[zl]<;>omega)|(simp only[zn])) only[spI,spLoop,sqN,docs_SamePool,↓zd,zk,seval,reduceIte,List.map,AV.cells,List.all,AV.one,eqV,eqAll,splice,fillA,List.replicate,resAll,resA,zm,zg]
   refine⟨_,by omega,i+1,_,_,_,_,rfl,rfl,by omega,⟨by rw[hw.1];exact hk.1,fun k h1=>?_⟩,?_,?_,?_,fun j h1 h2=>?_,fun j hj=>?_⟩
   ·exact(hw.2 k (hne k (.inr (by omega)))).trans (hk.2 k h1)
   ·exact(hw.2 _ (hne _ (.inr (Nat.le_refl _)))).trans gb
   ·exact(hw.2 _ (hne _ (.inl (Nat.le_refl _)))).trans g4
   ·exact(hw.2 _ (hne _ (.inl (Nat.le_succ _)))).trans g5
   ·refine(hro j (by omega) h2).at fun q n e=>hw.2 q fun n' e'=>?_
    have:=(hap j q n h2 e).2.2 i n' hi3 e'
    omega
   ·by_cases hji:j=i
    ·rw[hji];exact he
    ·exact heq j (by omega)
  ·have hde:decide (rowS s i=rowS t i)=false:=decide_eq_false he
   simp(disch:=first|assumption|omega|(simp only[zl]<;>omega)|(simp only[zn])) only[spB,spLoop,sqN,docs_SamePool,↓zd,zk,seval,reduceIte,List.map,AV.cells,List.all,AV.one,eqV,eqAll,splice,fillA,List.replicate,resAll,resA,zm,zg,g4,g5,e4,e5,a84,hs,hde]
   exact⟨by rw[row_ne hi3 he],hk⟩
 ·simp only[decide_eq_false_iff_not] at hc
  obtain⟨e1,e2,e3⟩:=row_eqs fun j hj=>heq j (by omega)
  have H9:=H.keep hk
  have hsp:=pspin_eq H9
  have hln:=plen_eq H9
  have es:sameRB s t=decide (s.spin=t.spin):=by simp[sameRB,e1,e2,e3]
  rw[es]
  by_cases hd:s.spin=t.spin
  ·have hd1:decide (s.spin=t.spin)=true:=decide_eq_true hd
   simp(disch:=first|assumption|omega|(simp only[zl]<;>omega)|(simp only[zn])) only[spEnd,sqT,docs_SamePool,↓zd,zk,seval,reduceIte,List.map,AV.cells,List.all,AV.one,eqV,eqAll,splice,fillA,List.replicate,resAll,resA,zm,zg,a239,hsp,gb,hd1,a233,hln,ev_len,gl,e1]
   exact hk
  ·have hd1:decide (s.spin=t.spin)=false:=decide_eq_false hd
   simp(disch:=first|assumption|omega|(simp only[zl]<;>omega)|(simp only[zn])) only[spEnd,sqT,docs_SamePool,↓zd,zk,seval,reduceIte,List.map,AV.cells,List.all,AV.one,eqV,eqAll,splice,fillA,List.replicate,resAll,resA,zm,zg,a239,hsp,gb,hd1]
   exact hk
end Go.Am.F15
end
