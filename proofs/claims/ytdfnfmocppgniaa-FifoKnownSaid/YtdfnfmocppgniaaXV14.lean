import Derived.Test.YtdfnfmocppgniaaXG01
import Derived.Test.YtdfnfmocppgniaaXU14
import Derived.Test.YtdfnfmocppgniaaXG18
set_option linter.unusedSimpArgs false
set_option linter.unusedVariables false
namespace Go.Proofs.Ytdfnfmocppgniaa
open Go Go.Am Go.Am.F15 Go.RowKit Go.Shelf
attribute [local go_sem] Oper.semAt_some
theorem tabOf_app{m K:Mem Unit} {v:AV} {t:Tab} (h:tabOf m v=some t):tabOf (m++K) v=some t:=by
 cases v with
 | map i =>
  have hlt:i < m.length:=by
   rcases Nat.lt_or_ge i m.length with h1|h1
   ·exact h1
   ·have hn:m[i]?=none:=List.getElem?_eq_none h1
    simp only[tabOf,hn] at h
    cases h
  have e:(m++K)[i]?=m[i]?:=List.getElem?_append_left hlt
  simp only[tabOf,e] at h ⊢
  exact h
 | _=>exact h
theorem lineRows_app{m K:Mem Unit} {i:Nat} {xs:List Int} (h:lineRows m (.ptr i 0)=some xs):lineRows (m++K) (.ptr i 0)=some xs∧i < m.length:=by
 have hlt:i < m.length:=by
  rcases Nat.lt_or_ge i m.length with h1|h1
  ·exact h1
  ·have hn:m[i]?=none:=List.getElem?_eq_none h1
   simp only[lineRows,getC,hn] at h
   cases h
 refine⟨?_,hlt⟩
 have e:(m++K)[i]?=m[i]?:=List.getElem?_append_left hlt
 simp only[lineRows,getC,e] at h ⊢
 cases hm:m[i]? with
 | none=>rw[hm] at h;exact h
 | some c =>
  rw[hm] at h
  cases c with
  | cells sz ro cs =>
   simp only at h ⊢
   unfold lineCs at h ⊢
   split at h
   ·rename_i lk hh tt
    cases ht:tabOf m lk with
    | none=>rw[ht] at h;cases h
    | some t=>rw[ht] at h;rw[tabOf_app ht];exact h
   ·cases h
  | _=>exact h
theorem lineRows_app' {m K:Mem Unit} {fp:AV} {xs:List Int} (h:lineRows m fp=some xs):lineRows (m++K) fp=some xs∧(fp = .nilp∨∃ i,fp = .ptr i 0):=by
 unfold lineRows at h
 split at h
 ·exact⟨h,.inl rfl⟩
 ·rename_i i
  exact⟨(lineRows_app h).1,.inr ⟨i,rfl⟩⟩
 ·cases h
theorem each_in{μ:Mu} {m:Mem Unit} {W:World} (hS:Sim A0 num (fun _=>False) μ (roM m) W.heap) {fp:AV} {pv:Value} (hV:VR num μ fp pv) (hfp:fp = .nilp∨∃ i,fp = .ptr i 0) (n:Nat) :
  CallsIn Fence.wide n Try.prog 28 #[pv] W fun e W'=>∃ F' μ' p,e = .returned (.func (.func 37) #[] #[.pointer (some ⟨p.c,p.s+0,none⟩)])∧μ' m.length=some p∧W.heap.size≤p.c∧Sim A0 num F' μ' (roM m++[.cells 1 false [fp]]) W'.heap∧Below W.heap.size W W'∧∀ j,j < m.length→μ' j=μ j:=by
 have he:F14.c_fifo_Line_each [fp] (roM m)=some (.fn 131 [] [.ptr (roM m).length 0],roM m++[.cells 1 false [fp]]):=by
  rcases hfp with rfl|⟨i,rfl⟩ <;>
  ·refine Fn_eq (Fn_of rfl ?_)
   simp(disch:=first|assumption|omega|(simp only[zl]<;>omega)|(simp only[zn])) only[F14.fifo_Line_each,fifo_Line_each,↓zd,zk,seval,reduceIte,List.map,AV.cells,List.all,AV.one,eqV,eqAll,splice,fillA,List.replicate,resAll,resA,zm,zg]
 refine callsIn_wide.2 ((s_fifo_Line_each (fun _=>False) μ (roM m) W [fp] [pv] _ _ hS (VRL.cons hV VRL.nil) he).mono ?_)
 rintro e W' ⟨F',μ',cv,rfl,hv,hS',hE⟩
 obtain⟨cs,ds,rfl,k1,k2⟩:=hv.fn_inv
 obtain⟨d,ds',e1,r3,k3⟩:=k2.cons_inv
 have e2:=k3.nil_inv
 obtain⟨p,hp',rfl⟩:=r3.ptr_inv
 have e3:=k1.nil_inv
 have h1:cs=#[]:=by rw[← Array.toArray_toList (xs:=cs),e3]
 have h2:ds=#[.pointer (some ⟨p.c,p.s+0,none⟩)]:=by rw[← Array.toArray_toList (xs:=ds),e1,e2]
 have hml:(roM m).length=m.length:=roM_length m
 rw[hml] at hp'
 refine⟨F',μ',p,by rw[h1,h2];rfl,hp',?_,hS',hE.below,fun j hj=>hE.mu j (by rw[hml];exact hj)⟩
 obtain⟨own,hO⟩:=hS'
 have hok:=hO.ok m.length (.cells 1 false [fp]) p (by rw[← hml];exact get_concat) hp'
 obtain⟨arr,T,fr,q1,q2,q3,q4,q5⟩:=hok
 rcases hE.fr p.c (hO.isF _ _ (q5 rfl).1) with h|h
 ·exact h.elim
 ·exact h
theorem size3:sizeN Try.prog 3=some none:=by kernel_rfl
theorem res11{W:World} {b:Nat} {z:Int} (h:Boxed W b 3 (.int .i64 z)) {tmps:Array Value} (ht:tmps.getD 4 undef = .pointer (some ⟨b,0,none⟩)):(results Try.f11 tmps).run Try.prog W = .ok (.int .i64 z) W:=by
 have h2:Try.f11.results=#[.cell 4 3]:=rfl
 have ht':tmps[4]?.getD undef = .pointer (some ⟨b,0,none⟩):=by simpa using ht
 have hl:(loadVar 3 ⟨b,0,none⟩).run Try.prog W = .ok (.int .i64 z) W:=run_loadVar' size3 (c:=b) (q:=0) h rfl
 simp[results,h2,ht',asAddr,hl,Sem.run_bind,Result.andThen]
theorem belowX_set{N lo hi:Nat} (W:World) {b:Nat} (v:Value) (h1:lo≤b) (h2:b < hi):BelowX N lo hi W (W.setCell ⟨b,0,none⟩ v):=by
 have hg:=grownBy_setCell' W b v
 exact⟨hg.os,hg.tape,hg.output,hg.size,fun k _ hk=>Below.heap_setCell _ _ _ k (fun e=>by simp at e;omega)⟩
set_option maxRecDepth 100000 in
set_option maxHeartbeats 2000000 in
theorem ahead_in{F0:Nat→Prop} {μ:Mu} {m:Mem Unit} {w:World} (hS:Sim A0 num F0 μ m w.heap) {fp:AV} {pv:Value} {xs:List Int} (hV:VR num μ fp pv) (hrow:lineRows m fp=some xs) (hlen:xs.length < 1000000) (x:Int) :
  CallsIn Fence.wide 5 Try.prog 11 #[pv,.int .i64 x] w fun e W'=>e = .returned (.int .i64 (aheadL xs x))∧Below w.heap.size w W':=by
 have hfp:=(lineRows_app' (K:=[]) hrow).2
 refine callsIn_of_wp_marks Try.func11 rfl trivial ?_ rfl
 simp only[Try.ntmps11,List.size_toArray,List.length_cons,List.length_nil,Nat.reduceAdd,Nat.reduceSub,Array.replicate_succ,Array.replicate_zero,List.push_toArray,List.append_toArray,List.nil_append,List.cons_append]
 have hS3:Sim A0 num (fun _=>False) μ (roM m) (((w.alloc (Obj.cells #[Value.int .i64 x] 3)).alloc (Obj.cells #[Value.int .i64 0] 3)).alloc (Obj.cells #[Value.int .i64 0] 3)).heap:=by
  refine hS.ro.still fun c hc=>?_
  have hB:Below w.heap.size w (((w.alloc (Obj.cells #[Value.int .i64 x] 3)).alloc (Obj.cells #[Value.int .i64 0] 3)).alloc (Obj.cells #[Value.int .i64 0] 3)):=(((Below.refl _ w).alloc (Nat.le_refl _) _).alloc (by simp) _).alloc (by simp;omega) _
  exact hB.block c hc
 have bx:=((Boxed.new w 3 (.int .i64 x)).alloc (Obj.cells #[Value.int .i64 0] 3)).alloc (Obj.cells #[Value.int .i64 0] 3)
 have br:=(Boxed.new (w.alloc (Obj.cells #[Value.int .i64 x] 3)) 3 (.int .i64 0)).alloc (Obj.cells #[Value.int .i64 0] 3)
 have bn:=Boxed.new ((w.alloc (Obj.cells #[Value.int .i64 x] 3)).alloc (Obj.cells #[Value.int .i64 0] 3)) 3 (.int .i64 0)
 gi_wp2_with (gi_at_call 28)
 refine⟨trivial,(each_in hS3 hV hfp 4).mono ?_⟩
 rintro e W1 ⟨F',μ',p,rfl,hp',hge,hS',hB1,hμ⟩
 have hsz:(((w.alloc (Obj.cells #[Value.int .i64 x] 3)).alloc (Obj.cells #[Value.int .i64 0] 3)).alloc (Obj.cells #[Value.int .i64 0] 3)).heap.size=w.heap.size+3:=by simp
 rw[hsz] at hge hB1
 have bx1:Boxed W1 w.heap.size 3 (.int .i64 x):=(hB1.block _ (by omega)).trans bx
 have br1:Boxed W1 (w.heap.size+1) 3 (.int .i64 0):=(hB1.block _ (by omega)).trans (show _ from(by simpa using br:Boxed _ (w.heap.size+1) 3 _))
 have bn1:Boxed W1 (w.heap.size+2) 3 (.int .i64 0):=(hB1.block _ (by omega)).trans (show _ from(by simpa using bn:Boxed _ (w.heap.size+2) 3 _))
 have hB0:Below w.heap.size w W1:=((((Below.refl _ w).alloc (Nat.le_refl _) _).alloc (by simp) _).alloc (by simp;omega) _).trans (hB1.mono (by omega))
 have hrow1:lineRows (roM m++[Chunk.cells 1 false [fp]]) fp=some xs:=(lineRows_app' (by rw[lineRows_ro];exact hrow)).1
 have hb1:(roM m++[Chunk.cells 1 false [fp]])[m.length]?=some (.cells 1 false [fp]):=by rw[← roM_length m];exact get_concat
 have hμX:∀ j ch p',(roM (roM m++[Chunk.cells 1 false [fp]]))[j]?=some ch→ch ≠ .dead→μ' j=some p'→p'.c < w.heap.size∨w.heap.size+3≤p'.c:=by
  intro j ch p' hj hd hm
  rcases Nat.lt_or_ge j m.length with hl|hl
  ·left
   rw[hμ j hl] at hm
   obtain⟨own,hO⟩:=hS.ro
   have hjj:(roM m)[j]?=some ch∨∃ c,(roM m)[j]?=some c∧ch=c.ro:=by
    rw[roM_get,List.getElem?_append_left (by rw[roM_length];exact hl)] at hj
    obtain⟨c,hc,rfl⟩:=Option.map_eq_some_iff.1 hj
    exact .inr ⟨c,hc,rfl⟩
   have key:∀ c,(roM m)[j]?=some c→c ≠ .dead→p'.c < w.heap.size:=by
    intro c hc hcd
    have hok:=hO.ok j c p' hc hm
    rw[roM_get] at hc
    obtain⟨c0,hc0,rfl⟩:=Option.map_eq_some_iff.1 hc
    cases c0 with
    | cells sz ro l=>obtain⟨arr,T,fr,_,k2,_⟩:=hok;exact(Array.getElem?_eq_some_iff.1 k2).1
    | abs x=>exact absurd rfl hcd
    | dead=>exact absurd rfl hcd
    | tab l c=>obtain⟨es,d,k1,_⟩:=hok;exact(Array.getElem?_eq_some_iff.1 k1).1
    | rtab l=>obtain⟨es,d,k1,_⟩:=hok;exact(Array.getElem?_eq_some_iff.1 k1).1
   rcases hjj with h|⟨c,hc,rfl⟩
   ·exact key _ h hd
   ·exact key c hc (fun e=>hd (by rw[e];rfl))
  ·right
   have hlt:=(List.getElem?_eq_some_iff.1 hj).1
   rw[roM_length,List.length_append,roM_length,List.length_singleton] at hlt
   have:j=m.length:=by omega
   subst this
   rw[hp'] at hm;injection hm with hm;subst hm;exact hge
 gi_wp2
 refine wpIn_rangeFunc_ownG rfl (by decide) (gf:=37) (lb:=#[.pointer (some ⟨p.c,p.s+0,none⟩)]) rfl trivial (enters_of Try.func37 (by kernel_rfl) rfl)
  (each_stopsX (lo:=w.heap.size) (hi:=w.heap.size+3) hS' hp' hb1 hrow1 (by unfold FUEL;omega) hμX 4) BelowX.trans (belowX_b (Nat.le_refl _)) (Below.refl _ W1) (fun _=>rfl)
  (fun pre W=>((Boxed W (w.heap.size+2) 3 (.int .i64 pre.length)∧Boxed W w.heap.size 3 (.int .i64 x))∧Boxed W (w.heap.size+1) 3 (.int .i64 0)∧x ∉ pre)∧Below w.heap.size w W)
  (fun c pre W=>(Boxed W (w.heap.size+1) 3 (.int .i64 ((pre.length:Int) - 1))∧(c = .ret∧∃ k,pre=k++[x]∧x ∉ k))∧Below w.heap.size w W)
  (OwnFrom.and (OwnFrom.and (OwnFrom.and ((boxed_own _ 3 (fun pre:List Int=>Value.int .i64 pre.length)).from _) ((boxed_own _ 3 (fun _:List Int=>Value.int .i64 x)).from _)) (OwnFrom.and ((boxed_own _ 3 (fun _:List Int=>Value.int .i64 0)).from _) (ownFrom_pure _ _))) (ownFrom_below (Nat.le_refl _) hB0.size))
  (fun c=>OwnFrom.and (OwnFrom.and ((boxed_own _ 3 (fun pre:List Int=>Value.int .i64 ((pre.length:Int) - 1))).from _) (ownFrom_pure _ _)) (ownFrom_below (Nat.le_refl _) hB0.size))
  ⟨⟨⟨bn1,bx1⟩,br1,by simp⟩,hB0⟩
  (fun y=>{ tmps:=#[pv,.int .i64 x,undef,.pointer (some ⟨w.heap.size,0,none⟩),.pointer (some ⟨w.heap.size+1,0,none⟩),.pointer (some ⟨w.heap.size+2,0,none⟩),.int .i64 y,pv,.func (.func 37) #[] #[.pointer (some ⟨p.c,p.s,none⟩)],.int .i64 y,undef,undef,undef,undef,undef,undef],defers:=[] }) ?assign ?body ?done ?stop
 case assign =>
  intro l y W K hK
  gi_wp2
  exact hK
 case body =>
  rintro l pre y W ⟨⟨⟨hn,hx⟩,hr,hnot⟩,hB⟩ hlt
  have hnc:=hn.cell
  have hxc:=hx.cell
  have hrc:=hr.cell
  have hnf:=hn.frozen
  have hrf:=hr.frozen
  have hsw:=hB.size
  gi_wp2
  ·rename_i hxy
   have hxy:x=y:=by simpa using hxy
   have e:(((pre++[y]).length:Nat):Int) - 1=pre.length:=by simp
   refine⟨(KeepsOthers.setCell W _ _).from _,⟨?_,rfl,pre,by rw[hxy],hnot⟩,hB.setCell (by simp) _⟩
   rw[e];exact hr.set _
  ·rename_i hxy
   have hxy:¬ x=y:=by simpa using hxy
   have e:(((pre++[y]).length:Nat):Int)=pre.length+1:=by simp
   refine⟨(KeepsOthers.setCell W _ _).from _,belowX_set W _ (by omega) (by omega),⟨⟨?_,hx.other (by omega) _⟩,hr.other (by omega) _,?_⟩,hB.setCell (by simp) _⟩
   ·rw[e];exact hn.set _
   ·rw[List.mem_append]
    rintro(h|h)
    ·exact hnot h
    ·simp at h;exact hxy h
 case done =>
  rintro D ys W hD rfl ⟨⟨⟨hn,hx⟩,hr,hnot⟩,hB⟩ hK
  have hrc:=hr.cell
  have hrf:=hr.frozen
  gi_wp2
  refine⟨by simp,.inl ⟨_,_,rfl,run_takeDeferred (b:=D) (ds:=[]) ?_,?_⟩⟩
  ·rw[Below.heap_setCell _ _ _ _ (by have:=hr.lt;have:=hB0.size;have:=br1.lt;simp;omega)];exact hK
  ·have hbx:=(hr.set (.int .i64 (-1))).kept (grownBy_putObj' _ D (Obj.deferred none)) (fun e=>by injection e with e;have:=br1.lt;omega)
   have ha:aheadL ys x=-1:=by unfold aheadL;rw[if_neg hnot]
   exact⟨_,res11 hbx rfl,by rw[ha],(hB.setCell (by simp) _).trans (belowK_b (w:=w) (Nat.le_refl _) _ D (Obj.deferred (some [])) _ (by have:=hB0.size;omega) (by rw[Below.heap_setCell _ _ _ _ (by have:=br1.lt;simp;omega)];exact hK) rfl rfl)⟩
 case stop =>
  rintro D c pre W hD hpre ⟨⟨hr,rfl,k,rfl,hk⟩,hB⟩ hK
  have hrc:=hr.cell
  gi_wp2
  refine⟨by simp,.inl ⟨_,_,rfl,run_takeDeferred hK,?_⟩⟩
  have hbx:=hr.kept (grownBy_putObj' _ D (Obj.deferred none)) (fun e=>by injection e with e;have:=br1.lt;omega)
  obtain⟨q,hq⟩:=hpre
  have ha:aheadL xs x=k.length:=by
   unfold aheadL
   rw[if_pos (by rw[hq];simp),hq,List.append_assoc,List.idxOf_append,if_neg hk]
   simp
  have e:(((k++[x]).length:Nat):Int) - 1=k.length:=by simp
  rw[e] at hbx
  exact⟨_,res11 hbx rfl,by rw[ha],hB.trans (belowK_b (w:=w) (Nat.le_refl _) _ D (Obj.deferred (some [])) _ (by have:=hB0.size;omega) hK rfl rfl)⟩
theorem s_fifo_Line_Ahead:S 11 aheadF:=by
 intro F μ m w args vs v m' hS hV h
 unfold aheadF at h
 split at h
 case h_2=>cases h
 rename_i q x
 split at h
 case h_2=>cases h
 rename_i xs hrow
 split at h
 case isFalse=>cases h
 rename_i hlen
 simp only[Option.some.injEq,Prod.mk.injEq] at h
 obtain⟨rfl,rfl⟩:=h
 obtain⟨v1,vs1,rfl,r1,hV⟩:=hV.cons_inv
 obtain⟨v2,vs2,rfl,r2,hV⟩:=hV.cons_inv
 obtain rfl:=hV.nil_inv
 obtain rfl:=r2.int_inv
 refine callsIn_wide.1 ((ahead_in hS r1 hrow hlen x).mono ?_)
 rintro e W' ⟨rfl,hB⟩
 exact⟨F,μ,_,rfl,.int _ _,hS.keptAll hB.size hB.block,⟨fun _ _=>rfl,fun _ h=>.inl h,hB.size,fun c hc _=>hB.block c hc,hB.os,hB.tape,hB.output⟩⟩
theorem m_fifo_Line_Ahead:Mono (F14.c_fifo_Line_Ahead (X:=Unit)):=aheadF_mono
end Go.Proofs.Ytdfnfmocppgniaa
