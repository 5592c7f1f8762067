import Derived.Test.YtdfnfmocppgniaaXG08
import Derived.MapKept
set_option linter.unusedSimpArgs false
set_option linter.unusedVariables false
section
namespace Go.Am
section
variable {X:Type} {A:AbsSem X} {num:Nat→Nat} {P:Program} {o:Oper} {a:Act} {F:Nat→Prop} {μ:Mu} {m:Mem X} {w:World}
def mapChk(P:Program) (t:TypeId) (z:Option AV):Bool :=
 match P.underlying t with
 | some (.map k e)=>(match P.underlying k with|some (.int .i64)=>true|_=>false) && (match z with
  | none=>true
  | some z=>match P.info? e with
   | some i=>match i.zero with
    | some v=>constZ z v
    | none=>false
   | none=>false)
 | _=>false
where
 constZ:AV→Value→Bool
 | .agg as,.agg vs=>constL as vs.toList
 | a,v=>constA a v
theorem mapChk_ok{t:TypeId} {z:Option AV} (h:mapChk P t z=true):∃ k e,P.underlying t=some (.map k e)∧P.underlying k=some (.int .i64)∧∀ zv,z=some zv→∃ i v,P.info? e=some i∧i.zero=some v∧∀ (num:Nat→Nat) (μ:Mu),VR num μ zv v:=by
 unfold mapChk at h
 split at h
 ·rename_i k e hu
  simp only[Bool.and_eq_true] at h
  obtain⟨h1,h2⟩:=h
  split at h1
  ·rename_i hk
   refine⟨k,e,hu,hk,fun zv hz=>?_⟩
   subst hz
   simp only at h2
   split at h2
   ·rename_i i hi
    split at h2
    ·rename_i v hv
     refine⟨i,v,hi,hv,fun num μ=>?_⟩
     unfold mapChk.constZ at h2
     split at h2
     ·have:=VR.agg_of (constL_ok (num:=num) (μ:=μ) h2);simpa using this
     ·exact constA_ok h2
    ·cases h2
   ·cases h2
  ·cases h1
 ·cases h
theorem getT_some{i c:Nat} {l:List (Int × Nat × AV)} (h:getT m i=some (l,c)):m[i]?=some (.tab l c):=by
 unfold getT at h
 split at h
 ·rename_i h1;rw[h1];simp only[Option.some.injEq,Prod.mk.injEq] at h;obtain⟨rfl,rfl⟩:=h;rfl
 ·cases h
theorem List.set_getElem_self_of{α:Type} {l:List α} {i:Nat} {x:α} (h:l[i]?=some x):l.set i x=l:=by
 apply List.ext_getElem?
 intro j
 rw[List.getElem?_set]
 split
 ·rename_i hij;subst hij
  rw[if_pos (List.getElem?_eq_some_iff.1 h).1,h]
 ·rfl
theorem TabAt.nil:TabAt num μ [] #[]:=⟨rfl,by simp⟩
theorem findNow_tab{l:List (Int × Nat × AV)} {es:List MapEntry} (hl:l.length=es.length) (h:∀ (j:Nat) (k:Int) (b:Nat) (a:AV),l[j]?=some (k,b,a)→∃ e,es[j]?=some e∧e.key = .int .i64 k∧e.born=b∧VR num μ a e.val) (k:Int) :
  ∀ i,(tabGet k l=none∧tabBorn k l=none∧tabDel k l=l∧(∀ v c,tabSet k v c l=l++[(k,c,v)])∧Instr.findNow (.int .i64) (.int .i64 k) es i=some none) ∨
   ∃ j v b x,tabGet k l=some x∧tabBorn k l=some (b,x)∧tabDel k l=l.eraseIdx j∧(∀ v c,tabSet k v c l=l.set j (k,b,v))∧j < l.length∧Instr.findNow (.int .i64) (.int .i64 k) es i=some (some (i+j,v))∧VR num μ x v∧(∃ e,es[j]?=some e∧e.key = .int .i64 k∧e.born=b)∧l[j]?=some (k,b,x):=by
 induction l generalizing es with
 | nil =>
  intro i
  have:es=[]:=List.eq_nil_of_length_eq_zero (by simpa using hl.symm)
  subst this
  exact .inl ⟨rfl,rfl,rfl,fun _ _=>rfl,rfl⟩
 | cons x l ih =>
  intro i
  cases es with
  | nil=>simp at hl
  | cons e es =>
   obtain⟨k',b,a⟩:=x
   obtain⟨e',he,h1,hb,h2⟩:=h 0 k' b a rfl
   simp at he;subst he
   by_cases hk:k=k'
   ·subst hk
    exact .inr ⟨0,e.val,b,a,by simp[tabGet],by simp[tabBorn],by simp[tabDel],fun _ _=>by simp[tabSet],by simp,by simp[Instr.findNow,h1,Instr.sameNow],h2,⟨e,rfl,h1,hb⟩,rfl⟩
   ·have hb:(k == k')=false:=by simpa using hk
    have:=ih (es:=es) (by simpa using hl) (fun j k b a hj=>by simpa using h (j+1) k b a (by simpa using hj)) (i+1)
    rcases this with⟨g1,g0,g2,g3,g4⟩|⟨j,v,b2,x,g1,g0,g2,g3,g4,g5,g6,g7,g8⟩
    ·exact .inl ⟨by simp[tabGet,hk,g1],by simp[tabBorn,hk,g0],by simp[tabDel,hk,g2],fun v c=>by simp[tabSet,hk,g3],by simp[Instr.findNow,h1,Instr.sameNow,hb,g4]⟩
    ·exact .inr ⟨j+1,v,b2,x,by simp[tabGet,hk,g1],by simp[tabBorn,hk,g0],by simp[tabDel,hk,g2],fun v c=>by simp[tabSet,hk,g3],by simpa using g4,by simp[Instr.findNow,h1,Instr.sameNow,hb,g5];omega,g6,by simpa using g7,by simpa using g8⟩
theorem TabAt.find{l:List (Int × Nat × AV)} {es:Array MapEntry} (h:TabAt num μ l es) (k:Int) :
  (tabGet k l=none∧tabBorn k l=none∧tabDel k l=l∧(∀ v c,tabSet k v c l=l++[(k,c,v)])∧Instr.findNow (.int .i64) (.int .i64 k) es.toList 0=some none) ∨
   ∃ j v b x,tabGet k l=some x∧tabBorn k l=some (b,x)∧tabDel k l=l.eraseIdx j∧(∀ v c,tabSet k v c l=l.set j (k,b,v))∧j < l.length∧Instr.findNow (.int .i64) (.int .i64 k) es.toList 0=some (some (j,v))∧VR num μ x v∧(∃ e,es[j]?=some e∧e.key = .int .i64 k∧e.born=b)∧l[j]?=some (k,b,x):=by
 have:=findNow_tab (num:=num) (μ:=μ) (l:=l) (es:=es.toList) (by simpa using h.1) (fun j k b a hj=>by simpa using h.2 j k b a hj) k 0
 simpa using this
theorem TabAt.push{l:List (Int × Nat × AV)} {es:Array MapEntry} (ht:TabAt num μ l es) (k:Int) (c:Nat) {v:AV} {cv:Value} (hz:VR num μ v cv):TabAt num μ (l++[(k,c,v)]) (es.push { key:=.int .i64 k,val:=cv,born:=c }):=by
 refine⟨by simp[ht.1],fun j k' b' a' hj=>?_⟩
 rw[List.getElem?_append] at hj
 split at hj
 ·obtain⟨e,e1,e2,e3⟩:=ht.2 j k' b' a' hj
  exact⟨e,by rw[Array.getElem?_push,if_neg (by rename_i hlj;rw[ht.1] at hlj;omega)];exact e1,e2,e3⟩
 ·rename_i hlj
  have:j=l.length:=by
   have:=(List.getElem?_eq_some_iff.1 hj).1
   simp at this;omega
  subst this
  simp at hj
  obtain⟨rfl,rfl,rfl⟩:=hj
  exact⟨_,by rw[Array.getElem?_push,if_pos ht.1],rfl,rfl,hz⟩
theorem TabAt.modify{l:List (Int × Nat × AV)} {es:Array MapEntry} (ht:TabAt num μ l es) {j:Nat} {k:Int} {b:Nat} {x v:AV} {cv:Value} (hl:l[j]?=some (k,b,x)) (hz:VR num μ v cv) {f:MapEntry→MapEntry} (hf:∀ e,es[j]?=some e→e.key = .int .i64 k→e.born=b→(f e).key = .int .i64 k∧(f e).born=b∧(f e).val=cv) :
  TabAt num μ (l.set j (k,b,v)) (es.modify j f):=by
 refine⟨by simp[ht.1],fun q k' b' a' hq=>?_⟩
 rw[List.getElem?_set] at hq
 split at hq
 ·rename_i hqj
  subst hqj
  obtain⟨e,e1,e2,e3,e4⟩:=ht.2 _ _ _ _ hl
  split at hq
  ·injection hq with hq
   simp only[Prod.mk.injEq] at hq;obtain⟨rfl,rfl,rfl⟩:=hq
   obtain⟨f1,f2,f3⟩:=hf e e1 e2 e3
   exact⟨f e,by rw[Array.getElem?_modify,if_pos rfl,e1];rfl,f1,f2,by rw[f3];exact hz⟩
  ·cases hq
 ·rename_i hqj
  obtain⟨e',e1,e2,e3⟩:=ht.2 q k' b' a' hq
  exact⟨e',by rw[Array.getElem?_modify,if_neg hqj];exact e1,e2,e3⟩
theorem does_mkmap{t:TypeId} (ho:o.op = .makeMap t none) (hs:Sim A num F μ m w.heap):Does A num P o a m.length F μ w (.map m.length) (m++[.tab [] 0]):=fun next Q hn=>by
 obtain⟨F',μ',h1,h2,h3⟩:=hs.allocT
 have hrun:(execOp a.eval o).run P w = .ok (.value (.map (some w.heap.size))) (w.alloc (.map #[] 0)):=by
  simp[execOp,ho,Instr.makeMap]
 unfold Oper.wp;rw[hrun]
 exact hn F' μ' _ _ (.map h3) h1 h2
theorem does_mget{t:TypeId} {x y:Operand} {ok:Bool} (ho:o.op = .lookup t x y ok) {z:AV} (hc:mapChk P t (some z)=true) {u:AV} {k:Int} {l:List (Int × Nat × AV)} (hx:VR num μ u (a.eval x)) (hy:VR num μ (.int .i64 k) (a.eval y)) (hl:tabOf m u=some l) (hs:Sim A num F μ m w.heap) :
  Does A num P o a m.length F μ w (mgetA ok z (tabGet k l)) m:=by
 obtain⟨kt,et,hu,hk,hz⟩:=mapChk_ok hc
 obtain⟨i,zv,hi,hzv,hvr⟩:=hz z rfl
 have hzero:(zeroValue et).run P w = .ok zv w:=run_zeroValue' hi hzv
 have key:∃ es:Array MapEntry,TabAt num μ l es∧∀ r,(Instr.findNow (.int .i64) (.int .i64 k) es.toList 0=some r)→(execOp a.eval o).run P w = .ok (.value (if ok then .tuple #[(match r with|some (_,v)=>v|none=>zv),.bool r.isSome] else(match r with|some (_,v)=>v|none=>zv))) w:=by
  cases u<;>first|(simp only[tabOf] at hl;cases hl;done)|skip
  ·simp only[tabOf] at hl
   injection hl with hl;subst hl
   refine⟨#[],.nil,fun r hr=>?_⟩
   have hck:=MapKept.run_checkKey (P:=P) (w:=w) (k:=.int .i64 k) hk (by simp[MapKept.IsKey]) true 9999
   have hfk:=MapKept.run_findKey (P:=P) (w:=w) (kt:=kt) hk hr
   simp only[execOp,ho,hx.nilm_inv,hy.int_inv,Instr.lookup,Sem.run_bind,run_underlying hu,Result.andThen_ok,Sem.run_pure,Array.isEmpty_empty,hck,hfk]
   cases r with
   | none=>simp[hzero]
   | some r=>simp
  ·rename_i j
   obtain⟨p,hp,he⟩:=hx.map_inv
   obtain⟨es,ck,hh,ht⟩:=hs.tabR hl hp
   refine⟨es,ht,fun r hr=>?_⟩
   have hck:=MapKept.run_checkKey (P:=P) (w:=w) (k:=.int .i64 k) hk (by simp[MapKept.IsKey]) es.isEmpty 9999
   have hfk:=MapKept.run_findKey (P:=P) (w:=w) (kt:=kt) hk hr
   simp only[execOp,ho,he,hy.int_inv,Instr.lookup,Sem.run_bind,run_underlying hu,Result.andThen_ok,Sem.run_pure,MapKept.run_getObj_map hh,hck,hfk]
   cases r with
   | none=>simp[hzero]
   | some r=>simp
 obtain⟨es,ht,hrun⟩:=key
 rcases ht.find k with⟨g1,_,_,_,g4⟩|⟨j,v,_,x',g1,_,_,_,_,g5,g6,_⟩
 ·refine Does.value _ (hrun _ g4) ?_ hs
  rw[g1]
  cases ok with
  | true=>exact VR.tup_of (cs:=[z,.bool false]) (ds:=[zv,.bool false]) (VRL.cons (hvr num μ) (VRL.cons (.bool _) VRL.nil))
  | false=>exact hvr num μ
 ·refine Does.value _ (hrun _ g5) ?_ hs
  rw[g1]
  cases ok with
  | true=>exact VR.tup_of (cs:=[x',.bool true]) (ds:=[v,.bool true]) (VRL.cons g6 (VRL.cons (.bool _) VRL.nil))
  | false=>exact g6
theorem setObj_heap{w:World} {r:Nat} {o':Obj} (hr:r < w.heap.size):(w.heap.setIfInBounds r o')[r]?=some o':=by simp[hr]
theorem does_mset{t:TypeId} {x y z:Operand} (ho:o.op = .mapUpdate t x y z∨o.op = .insert t x y z) (hc:mapChk P t none=true) {i c:Nat} {k:Int} {v:AV} {l:List (Int × Nat × AV)} (hx:VR num μ (.map i) (a.eval x)) (hy:VR num μ (.int .i64 k) (a.eval y)) (hz:VR num μ v (a.eval z)) (hl:getT m i=some (l,c)) (hs:Sim A num F μ m w.heap) :
  Does A num P o a m.length F μ w .skip (m.set i (.tab (tabSet k v c l) (tabTick k l c))):=by
 obtain⟨kt,et,hu,hk,_⟩:=mapChk_ok hc
 obtain⟨p,hp,he⟩:=hx.map_inv
 have hg:=getT_some hl
 obtain⟨es,hh,ht⟩:=hs.tab hg hp
 have hlt:p.c < w.heap.size:=(Array.getElem?_eq_some_iff.1 hh).1
 have hck:=MapKept.run_checkKey (P:=P) (w:=w) (k:=.int .i64 k) hk (by simp[MapKept.IsKey]) false 9999
 have fin:∀ (es':Array MapEntry) (l':List (Int × Nat × AV)) (clock':Nat),(Instr.mapUpdate t (a.eval x) (a.eval y) (a.eval z)).run P w = .ok () { w with heap:=w.heap.setIfInBounds p.c (.map es' clock') }→TabAt num μ l' es'→Does A num P o a m.length F μ w .skip (m.set i (.tab l' clock')):=by
  intro es' l' clock' hr ht' next Q hn
  have hrun:(execOp a.eval o).run P w = .ok .skip { w with heap:=w.heap.setIfInBounds p.c (.map es' clock') }:=by
   rcases ho with ho|ho<;>simp[execOp,ho,hr]
  obtain⟨k1,k2⟩:=hs.writeT (w':={ w with heap:=w.heap.setIfInBounds p.c (.map es' clock') }) (l':=l') hg hp (by simp) (setObj_heap hlt) (fun c hc=>by simp[Ne.symm hc]) ht' rfl rfl rfl
  unfold Oper.wp;rw[hrun]
  exact hn F μ undef _ VR.skip k1 k2
 rcases ht.find k with⟨g1,_,_,g3,g4⟩|⟨j,v',b,x',g1,_,_,g3,g4,g5,_,⟨e,he1,he2,he3⟩,hlj⟩
 ·have hfk:=MapKept.run_findKey (P:=P) (w:=w) (kt:=kt) hk g4
  rw[g3]
  have htk:tabTick k l c=c+1:=by simp[tabTick,g1]
  rw[htk]
  refine fin (es.push { key:=.int .i64 k,val:=a.eval z,born:=c }) _ (c+1) ?_ (ht.push k c hz)
  simp only[Instr.mapUpdate,he,hy.int_inv,Sem.run_bind,run_underlying hu,Result.andThen_ok,MapKept.run_getObj_map hh,hck,hfk,MapKept.run_setObj_map _ hh]
 ·have hfk:=MapKept.run_findKey (P:=P) (w:=w) (kt:=kt) hk g5
  have hkts:(Instr.keyThatStays (.int .i64 k) (.int .i64 k)).run P w = .ok (.int .i64 k) w:=MapKept.run_keyThatStays (d:=.int .i64) (by simp[MapKept.IsKey])
  have hkk:((es[j]?).map (·.key)).getD (.int .i64 k) = .int .i64 k:=by rw[he1];exact he2
  rw[g3]
  have htk:tabTick k l c=c:=by simp[tabTick,g1]
  rw[htk]
  refine fin (es.modify j fun e=>{ e with key:=.int .i64 k,val:=a.eval z }) _ c ?_ (ht.modify hlj hz (fun e _ h1 h2=>⟨rfl,h2,rfl⟩))
  simp only[Instr.mapUpdate,he,hy.int_inv,Sem.run_bind,run_underlying hu,Result.andThen_ok,MapKept.run_getObj_map hh,hck,hfk,hkk,hkts,MapKept.run_setObj_map _ hh]
theorem does_ment{t:TypeId} {x y:Operand} (ho:o.op = .mapEntry t x y) {z:AV} (hc:mapChk P t (some z)=true) {i:Nat} {k:Int} {r:AV} {m':Mem X} (hx:VR num μ (.map i) (a.eval x)) (hy:VR num μ (.int .i64 k) (a.eval y)) (h:amOp (X:=X) [] (.ment z) [.map i,.int .i64 k] m=some (r,m')) (hs:Sim A num F μ m w.heap) :
  Does A num P o a m.length F μ w r m':=by
 obtain⟨kt,et,hu,hk,hzz⟩:=mapChk_ok hc
 obtain⟨zi,zv,hi,hzv,hvr⟩:=hzz z rfl
 have hzero:(zeroValue et).run P w = .ok zv w:=run_zeroValue' hi hzv
 simp only[amOp] at h
 split at h
 case h_2=>cases h
 rename_i l c hl
 obtain⟨p,hp,he⟩:=hx.map_inv
 have hg:=getT_some hl
 obtain⟨es,hh,ht⟩:=hs.tab hg hp
 have hlt:p.c < w.heap.size:=(Array.getElem?_eq_some_iff.1 hh).1
 have hck:=MapKept.run_checkKey (P:=P) (w:=w) (k:=.int .i64 k) hk (by simp[MapKept.IsKey]) false 9999
 have fin:∀ (es':Array MapEntry) (l':List (Int × Nat × AV)) (clock':Nat) (r:AV) (cv:Value),(Instr.mapEntry t (a.eval x) (a.eval y)).run P w = .ok cv { w with heap:=w.heap.setIfInBounds p.c (.map es' clock') }→TabAt num μ l' es'→VR num μ r cv→Does A num P o a m.length F μ w r (m.set i (.tab l' clock')):=by
  intro es' l' clock' r cv hr ht' hv next Q hn
  have hrun:(execOp a.eval o).run P w = .ok (.value cv) { w with heap:=w.heap.setIfInBounds p.c (.map es' clock') }:=by
   simp[execOp,ho,hr]
  obtain⟨k1,k2⟩:=hs.writeT (w':={ w with heap:=w.heap.setIfInBounds p.c (.map es' clock') }) (l':=l') hg hp (by simp) (setObj_heap hlt) (fun c hc=>by simp[Ne.symm hc]) ht' rfl rfl rfl
  unfold Oper.wp;rw[hrun]
  exact hn F μ cv _ hv k1 k2
 rcases ht.find k with⟨g1,g0,_,_,g4⟩|⟨j,v',b,x',g1,g0,_,_,g4,g5,g6,⟨e,he1,he2,he3⟩,hlj⟩
 ·rw[g0] at h
  simp only[Option.some.injEq,Prod.mk.injEq] at h;obtain⟨rfl,rfl⟩:=h
  have hfk:=MapKept.run_findKey (P:=P) (w:=w) (kt:=kt) hk g4
  refine fin (es.push { key:=.int .i64 k,val:=zv,born:=c }) _ (c+1) _ (.tuple #[zv,goInt c]) ?_ (ht.push k c (hvr num μ)) (VR.tup_of (ds:=[zv,.int .i64 c]) (VRL.cons (hvr num μ) (VRL.cons (.int _ _) VRL.nil)))
  simp only[Instr.mapEntry,he,hy.int_inv,Sem.run_bind,run_underlying hu,Result.andThen_ok,MapKept.run_getObj_map hh,hck,hfk,hzero,MapKept.run_setObj_map _ hh,Sem.run_pure]
 ·rw[g0] at h
  simp only[Option.some.injEq,Prod.mk.injEq] at h;obtain⟨rfl,rfl⟩:=h
  have hfk:=MapKept.run_findKey (P:=P) (w:=w) (kt:=kt) hk g5
  have hkts:(Instr.keyThatStays (.int .i64 k) (.int .i64 k)).run P w = .ok (.int .i64 k) w:=MapKept.run_keyThatStays (d:=.int .i64) (by simp[MapKept.IsKey])
  have hkk:((es[j]?).map (·.key)).getD (.int .i64 k) = .int .i64 k:=by rw[he1];exact he2
  have hbb:((es[j]?).map (fun x=>(x.born:Int))).getD 0=b:=by rw[he1];simp[he3]
  have hlen:i < m.length:=(List.getElem?_eq_some_iff.1 hg).1
  have hset:m.set i (.tab (l.set j (k,b,x')) c)=m:=by
   rw[List.set_getElem_self_of hlj]
   exact List.set_getElem_self_of hg
  have:=fin (es.modify j fun e=>{ e with key:=.int .i64 k }) _ c (.tup [x',.int .i64 b]) (.tuple #[v',goInt b]) ?_ (ht.modify (cv:=e.val) hlj (by obtain⟨e',q1,q2,q3,q4⟩:=ht.2 _ _ _ _ hlj;rw[he1] at q1;injection q1 with q1;subst q1;exact q4) (f:=fun e=>{ e with key:=.int .i64 k }) (fun e' h0 h1 h2=>⟨rfl,h2,by rw[he1] at h0;injection h0 with h0;rw[← h0]⟩)) (VR.tup_of (ds:=[v',.int .i64 b]) (VRL.cons g6 (VRL.cons (.int _ _) VRL.nil)))
  ·rw[hset] at this;exact this
  ·simp only[Instr.mapEntry,he,hy.int_inv,Sem.run_bind,run_underlying hu,Result.andThen_ok,MapKept.run_getObj_map hh,hck,hfk,hkk,hkts,hbb,MapKept.run_setObj_map _ hh,Sem.run_pure]
theorem does_mdel{t:TypeId} {x y:Operand} {ts:Array TypeId} (ho:o.op = .call { callee:=.builtin .delete,args:=#[x,y],argTypes:=ts }) (hts:ts[0]?=some t) (hc:mapChk P t none=true) {i c:Nat} {k:Int} {l:List (Int × Nat × AV)} (hx:VR num μ (.map i) (a.eval x)) (hy:VR num μ (.int .i64 k) (a.eval y)) (hl:getT m i=some (l,c)) (hs:Sim A num F μ m w.heap) :
  Does A num P o a m.length F μ w .skip (m.set i (.tab (tabDel k l) c)):=by
 obtain⟨kt,et,hu,hk,_⟩:=mapChk_ok hc
 have hex:(execOp a.eval o).run P w=((Builtin.delete_ ts o.type #[a.eval x,a.eval y]).run P w).andThen fun v w'=>.ok (.value v) w':=by
  unfold execOp
  simp[ho,resolve,invoke,builtin]
 obtain⟨p,hp,he⟩:=hx.map_inv
 have hg:=getT_some hl
 obtain⟨es,hh,ht⟩:=hs.tab hg hp
 have hlt:p.c < w.heap.size:=(Array.getElem?_eq_some_iff.1 hh).1
 have hck:=MapKept.run_checkKey (P:=P) (w:=w) (k:=.int .i64 k) hk (by simp[MapKept.IsKey]) es.isEmpty 9999
 have fin:∀ (es':Array MapEntry),(Builtin.delete_ ts o.type #[a.eval x,a.eval y]).run P w = .ok (.tuple #[]) { w with heap:=w.heap.setIfInBounds p.c (.map es' c) }→TabAt num μ (tabDel k l) es'→Does A num P o a m.length F μ w .skip (m.set i (.tab (tabDel k l) c)):=by
  intro es' hr ht' next Q hn
  obtain⟨k1,k2⟩:=hs.writeT (w':={ w with heap:=w.heap.setIfInBounds p.c (.map es' c) }) (l':=tabDel k l) hg hp (by simp) (setObj_heap hlt) (fun c hc=>by simp[Ne.symm hc]) ht' rfl rfl rfl
  unfold Oper.wp;rw[hex,hr]
  exact hn F μ _ _ VR.skip k1 k2
 rcases ht.find k with⟨_,_,g2,_,g4⟩|⟨j,v',b,x',_,_,g2,_,g4,g5,_,_,_⟩
 ·have hfk:=MapKept.run_findKey (P:=P) (w:=w) (kt:=kt) hk g4
  refine fin es ?_ (by rw[g2];exact ht)
  simp[Builtin.delete_,hts,he,hy.int_inv,run_underlying hu,MapKept.run_getObj_map hh,hck,hfk,MapKept.run_setObj_map _ hh]
 ·have hfk:=MapKept.run_findKey (P:=P) (w:=w) (kt:=kt) hk g5
  refine fin (es.eraseIdxIfInBounds j) ?_ ?_
  ·simp[Builtin.delete_,hts,he,hy.int_inv,run_underlying hu,MapKept.run_getObj_map hh,hck,hfk,MapKept.run_setObj_map _ hh]
  ·rw[g2]
   have hj:j < es.size:=by rw[← ht.1];exact g4
   have hel:(es.eraseIdxIfInBounds j).toList=es.toList.eraseIdx j:=by simp[Array.eraseIdxIfInBounds,hj]
   refine⟨?_,fun q k' b' a' hq=>?_⟩
   ·rw[← Array.length_toList,hel,List.length_eraseIdx,List.length_eraseIdx,if_pos g4,if_pos (by simpa using hj)]
    simp[ht.1]
   ·rw[← Array.getElem?_toList,hel]
    rw[List.getElem?_eraseIdx] at hq ⊢
    split at hq
    ·rename_i h1
     rw[if_pos h1]
     obtain⟨e',e1,e2,e3⟩:=ht.2 q k' b' a' hq
     exact⟨e',by simpa using e1,e2,e3⟩
    ·rename_i h1
     rw[if_neg h1]
     obtain⟨e',e1,e2,e3⟩:=ht.2 (q+1) k' b' a' hq
     exact⟨e',by simpa using e1,e2,e3⟩
theorem findIdx_born{l l':List (Int × Nat × AV)} {es:List MapEntry} (hl:l.length=es.length) (h:∀ (j:Nat) (k:Int) (b:Nat) (a:AV),l[j]?=some (k,b,a)→∃ e,es[j]?=some e∧e.key = .int .i64 k∧e.born=b∧VR num μ a e.val) {b:Int} {v:AV} (hp:tabPut b v l=some l') :
  ∃ j k b' x,es.findIdx? (fun e=>(e.born:Int) == b)=some j∧l[j]?=some (k,b',x)∧l'=l.set j (k,b',v):=by
 induction l generalizing es l' with
 | nil=>simp[tabPut] at hp
 | cons y l ih =>
  cases es with
  | nil=>simp at hl
  | cons e es =>
   obtain⟨k',b',a⟩:=y
   obtain⟨e',he,h1,hb,h2⟩:=h 0 k' b' a rfl
   simp at he;subst he
   simp only[tabPut] at hp
   split at hp
   ·rename_i hbb
    injection hp with hp;subst hp
    exact⟨0,k',b',a,by simp[List.findIdx?_cons,hb,hbb],rfl,rfl⟩
   ·rename_i hbb
    split at hp
    ·rename_i l2 hp2
     injection hp with hp;subst hp
     obtain⟨j,k,b2,x,g1,g2,g3⟩:=ih (es:=es) (by simpa using hl) (fun j k b a hj=>by simpa using h (j+1) k b a (by simpa using hj)) hp2
     have hne:((e.born:Int) == b)=false:=by rw[hb];simpa using hbb
     exact⟨j+1,k,b2,x,by simp[List.findIdx?_cons,hne,g1],by simpa using g2,by simp[g3]⟩
    ·cases hp
theorem does_mput{t:TypeId} {x y z:Operand} (ho:o.op = .entryStore t x y z) {i c:Nat} {b:Int} {v:AV} {l l':List (Int × Nat × AV)} (hx:VR num μ (.map i) (a.eval x)) (hy:VR num μ (.int .i64 b) (a.eval y)) (hz:VR num μ v (a.eval z)) (hl:getT m i=some (l,c)) (hp':tabPut b v l=some l') (hs:Sim A num F μ m w.heap) :
  Does A num P o a m.length F μ w .skip (m.set i (.tab l' c)):=fun next Q hn=>by
 obtain⟨p,hp,he⟩:=hx.map_inv
 have hg:=getT_some hl
 obtain⟨es,hh,ht⟩:=hs.tab hg hp
 have hlt:p.c < w.heap.size:=(Array.getElem?_eq_some_iff.1 hh).1
 obtain⟨j,k,b',x',g1,g2,rfl⟩:=findIdx_born (num:=num) (μ:=μ) (l:=l) (es:=es.toList) (by simpa using ht.1) (fun j k b a hj=>by simpa using ht.2 j k b a hj) hp'
 have g1':es.findIdx? (fun e=>(e.born:Int) == b)=some j:=by rw[← List.findIdx?_toArray] at g1;simpa using g1
 have hrun:(execOp a.eval o).run P w = .ok .skip { w with heap:=w.heap.setIfInBounds p.c (.map (es.modify j fun e=>{ e with val:=a.eval z }) c) }:=by
  simp[execOp,ho,he,hy.int_inv,Instr.entryStore,MapKept.run_getObj_map hh,asInt,asIntOf,g1',MapKept.run_setObj_map _ hh]
 obtain⟨k1,k2⟩:=hs.writeT (w':={ w with heap:=w.heap.setIfInBounds p.c (.map (es.modify j fun e=>{ e with val:=a.eval z }) c) }) (l':=l.set j (k,b',v)) hg hp (by simp) (setObj_heap hlt) (fun c hc=>by simp[Ne.symm hc]) (ht.modify g2 hz (fun e _ h1 h2=>⟨h1,h2,rfl⟩)) rfl rfl rfl
 unfold Oper.wp;rw[hrun]
 exact hn F μ undef _ VR.skip k1 k2
theorem does_mlen{t:TypeId} {x:Operand} {ts:Array TypeId} (ho:o.op = .call { callee:=.builtin .len,args:=#[x],argTypes:=ts }) (hts:ts[0]?=some t) (hc:mapChk P t none=true) {u:AV} {l:List (Int × Nat × AV)} (hx:VR num μ u (a.eval x)) (hl:tabOf m u=some l) (hs:Sim A num F μ m w.heap) :
  Does A num P o a m.length F μ w (.int .i64 l.length) m:=by
 obtain⟨kt,et,hu,hk,_⟩:=mapChk_ok hc
 have hex:(execOp a.eval o).run P w=((Builtin.len_ ts o.type #[a.eval x]).run P w).andThen fun v w'=>.ok (.value v) w':=by
  unfold execOp
  simp[ho,resolve,invoke,builtin]
 cases u<;>first|(simp only[tabOf] at hl;cases hl;done)|skip
 ·simp only[tabOf] at hl
  injection hl with hl;subst hl
  refine Does.value (.int .i64 0) ?_ (.int _ _) hs
  rw[hex,hx.nilm_inv]
  simp[Builtin.len_,hts,run_underlying hu,goInt]
 ·rename_i i
  obtain⟨p,hp,he⟩:=hx.map_inv
  obtain⟨es,ck,hh,ht⟩:=hs.tabR hl hp
  refine Does.value (.int .i64 l.length) ?_ (.int _ _) hs
  rw[hex,he]
  simp[Builtin.len_,hts,run_underlying hu,MapKept.run_getObj_map hh,goInt,ht.1]
theorem does_cap{t e:TypeId} {x:Operand} {ts:Array TypeId} (ho:o.op = .call { callee:=.builtin .cap,args:=#[x],argTypes:=ts }) (hts:ts[0]?=some t) (hu:P.underlying t=some (.slice e)) {u:AV} {n:Nat} (hx:VR num μ u (a.eval x)) (hn:capA u=some n) (hs:Sim A num F μ m w.heap) :
  Does A num P o a m.length F μ w (.int .i64 n) m:=by
 have hex:(execOp a.eval o).run P w=((Builtin.cap_ ts o.type #[a.eval x]).run P w).andThen fun v w'=>.ok (.value v) w':=by
  unfold execOp
  simp[ho,resolve,invoke,builtin]
 refine Does.value (.int .i64 n) ?_ (.int _ _) hs
 unfold capA at hn
 split at hn
 ·injection hn with hn;subst hn
  rw[hex,hx.nils_inv]
  simp[Builtin.cap_,hts,run_underlying hu,goInt]
 ·rename_i i q len c
  injection hn with hn;subst hn
  obtain⟨p,A0,c',hp,he,h3⟩:=hx.sl_inv
  have hcc:c'=c:=by
   rcases h3 with⟨_,h3|h3⟩|⟨_,h3,h4|h4⟩
   ·injection h3 with h3;exact h3.symm
   ·exact absurd h3.1 (by simp)
   ·cases h4
   ·injection h4 with h4;omega
  subst hcc
  rw[hex,he]
  simp[Builtin.cap_,hts,run_underlying hu,goInt]
 ·cases hn
theorem Sim.beside{H:Array Obj} (h:Sim A num F μ m H) (ob:Obj):Sim A num F μ m (H.push ob):=by
 obtain⟨own,h⟩:=h
 have hold:∀ c,c < H.size→(H.push ob)[c]?=H[c]?:=fun c hc=>by simp[Array.getElem?_push,Nat.ne_of_lt hc]
 refine⟨own,h.isF,fun c hc=>by have:=h.lt c hc;simp;omega,h.new,fun i ch p hi hp=>?_⟩
 exact(h.ok i ch p hi hp).keep (fun _ _ h=>h) (fun _=>Iff.rfl) (fun c hc=>hold c (h.lt c (h.isF c _ hc))) (fun c hc hF=>⟨hold c hc,hF⟩)
theorem does_lit0{t:TypeId} (ho:o.op = .buildSlice t 0 #[]) {e:TypeId} (hu:P.underlying t=some (.slice e)) {ti:TypeInfo} (hi:P.info? e=some ti) (hs:Sim A num F μ m w.heap):Does A num P o a m.length F μ w .mt m:=fun next Q hn=>by
 have hrun:(execOp a.eval o).run P w = .ok (.value (.slice (some ⟨w.heap.size,0,none⟩) 0 0)) (w.alloc (.cells #[] e)):=by
  have hr0:∀ f:Nat→Value,Array.map f (Array.range 0)=#[]:=fun f=>by rw[Array.range_zero'];simp
  simp[execOp,ho,Instr.buildSlice,run_underlying hu,run_sizeOf' hi,Instr.fill,newRow,hr0]
 unfold Oper.wp;rw[hrun]
 refine hn F μ _ _ .mt (hs.beside _) ⟨fun _ _=>rfl,fun _ h=>.inl h,by simp,fun c hc _=>by rw[heap_alloc_eq,Array.getElem?_push,if_neg (Nat.ne_of_lt hc)],rfl,rfl,rfl⟩
theorem run_append_zeros(t ty te e:TypeId) (i:TypeInfo) (z:Value) (ht:P.underlying t=some (.slice e)) (hte:∃ k,P.underlying te=some (.int k)) (hi:P.info? e=some i) (hz:i.zero=some z) (hsz:0 < i.size) (n:Nat)
  (h0:0 < n) (h63:(n:Int)≤9223372036854775807) (h48:n * i.bytes≤281474976710656) :
  (Builtin.append_ #[t,te] ty #[.slice none 0 0,.int .i64 n]).run P w =
   .ok (.slice (some ⟨w.heap.size,0,none⟩) n (grownCap w n 0 e)) (w.drew.alloc (.cells (Builtin.zeroCells z.cells n++Builtin.zeroCells z.cells (grownCap w n 0 e - n)) e)):=by
 obtain⟨ki,hki⟩:=hte
 have hn:n≠0:=by omega
 have h63':¬ (9223372036854775807 < (n:Int)):=by omega
 have h48':¬ (281474976710656 < Builtin.nextslicecap n 0 * i.bytes):=by rw[nextslicecap_zero h0];omega
 have hw:IntKind.i64.wrap (n:Int)=n:=by
  simp only[IntKind.wrap,IntKind.bits,IntKind.signed,Bool.true_and,decide_eq_true_eq,ge_iff_le]
  split<;>omega
 have hb:¬ (281474976710656 < (n:Int) * (i.bytes:Int)):=by
  have:((n * i.bytes:Nat):Int)=(n:Int) * (i.bytes:Int):=by simp
  omega
 have hnz:¬ (n * i.size=0):=by
  have:0 < n * i.size:=Nat.mul_pos h0 hsz
  omega
 have hneg:¬ ((n:Int) < 0):=by omega
 simp[Builtin.append_,run_underlying ht,run_underlying hki,sizeOf,typeInfo,zeroValue,hi,hz,asInt,asIntOf,hw,hb,hneg,hn,h63',h48',Question.forced,run_firstCells_none,newRow,grownCap]
 exact fun h=>absurd h hnz
theorem does_appendz{s x:Operand} {t te e:TypeId} (ho:o.op = .call { callee:=.builtin .append,args:=#[s,x],argTypes:=#[t,te] }) {i:TypeInfo} {zv:Value} {sz bytes:Nat} (T:ElemIs P t e i zv sz bytes) (hte:∃ k,P.underlying te=some (.int k)) (hsz:0 < sz) {z:List AV} (hz:zeroIs P e z=true) {n:Int}
  (hx:VR num μ .nils (a.eval s)) (hy:VR num μ (.int .i64 n) (a.eval x)) (h0:0 < n) (h2:n.toNat * bytes≤35184372088832) (h3:n≤35184372088832) (hs:Sim A num F μ m w.heap) :
  Does A num P o a m.length F μ w (.sl m.length 0 n.toNat none) (m++[.cells sz false (repeatL n.toNat z)]):=by
 obtain⟨hT1,hT2,hT3,hT4,hT5,hT6⟩:=T
 subst hT4;subst hT5
 obtain⟨i',v',hi',hz',hzl⟩:=zeroIs_ok (num:=num) hz μ
 rw[hT2] at hi';injection hi' with hi';subst hi'
 rw[hT3] at hz';injection hz' with hz';subst hz'
 obtain⟨n,rfl⟩:∃ k:Nat,n=k:=⟨n.toNat,by omega⟩
 simp only[Int.toNat_natCast] at *
 have hrun:=run_append_zeros (P:=P) (w:=w) t o.type te e i zv hT1 hte hT2 hT3 hsz n (by omega) (by omega) (by omega)
 have hex:(execOp a.eval o).run P w=((Builtin.append_ #[t,te] o.type #[a.eval s,a.eval x]).run P w).andThen fun v w'=>.ok (.value v) w':=by
  unfold execOp
  simp[ho,resolve,invoke,builtin]
 have hm:=madeCells_ok (num:=num) (μ:=μ) hzl n
 have hzc:Builtin.zeroCells zv.cells n=madeCells zv.cells (n * zv.cells.size):=rfl
 refine does_newD (m0:=m) _ e _ (by rw[hex,hx.nils_inv,hy.int_inv,hrun];rfl) ?_ ?_ (fun μ' hμ=>?_) hs
 ·have:=hm.1;simp at this ⊢;rw[hzc];omega
 ·intro q y hq
  obtain⟨d,hd,hvd⟩:=hm.get hq
  refine⟨d,?_,hvd⟩
  have hlt:=(List.getElem?_eq_some_iff.1 hd).1
  rw[hzc,Array.getElem?_append_left (by simpa using hlt)]
  simpa using hd
 ·have:=VR.slu (num:=num) (o:=0) (len:=n) (cap:=grownCap w n 0 e) hμ (grownCap_ge w n 0 e) (by
   have:=grownCap_ge w n 0 e
   simp only[Array.size_append,size_zeroCells,hT6,← Nat.add_mul]
   rw[Nat.add_sub_cancel' this];omega)
  simpa using this
end
end Go.Am
end
