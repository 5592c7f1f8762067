import Derived.Test.YtdfnfmocppgniaaXG03
import Derived.Laws.Entries
import Derived.Laws.Cells
import Derived.Laws.Append
import Derived.Laws.MakeOwn
import Derived.Laws.StructEq
import Derived.Deep.MidRow
import Derived.WalkSpells
set_option linter.unusedSimpArgs false
set_option linter.unusedVariables false
section
namespace Go.Am
section
variable {X:Type} (A:AbsSem X) (num:Nat→Nat) (P:Program)
def Does(o:Oper) (a:Act) (n:Nat) (F:Nat→Prop) (μ:Mu) (w:World) (v:AV) (m':Mem X):Prop :=
 ∀ (next:Act→World→Prop) (Q:Exit→Act→World→Prop),(∀ F' μ' cv w',VR num μ' v cv→Sim A num F' μ' m' w'.heap→Ext n F μ w F' μ' w'→next (a.put o.dst cv) w')→o.wp P a w next Q
end
section
variable {X:Type} {A:AbsSem X} {num:Nat→Nat} {P:Program} {o:Oper} {a:Act} {F:Nat→Prop} {μ:Mu} {m:Mem X} {w:World}
theorem Does.value{v:AV} (cv:Value) (h:(execOp a.eval o).run P w = .ok (.value cv) w) (hv:VR num μ v cv) (hs:Sim A num F μ m w.heap):Does A num P o a m.length F μ w v m:=fun next Q hn=>by
 unfold Oper.wp;rw[h];exact hn F μ cv w hv hs (Ext.refl _ _ _ _)
theorem does_mov{x:Operand} (ho:o.op = .move x∨o.op = .assign x) {v:AV} (hv:VR num μ v (a.eval x)) (hs:Sim A num F μ m w.heap):Does A num P o a m.length F μ w v m :=
 Does.value (a.eval x) (by rcases ho with ho|ho<;>simp[execOp,ho]) hv hs
theorem VR.bool_inv{b:Bool} {v:Value} (h:VR num μ (.bool b) v):v = .bool b:=by cases h;rfl
theorem VR.int_inv{k:IntKind} {n:Int} {v:Value} (h:VR num μ (.int k n) v):v = .int k n:=by cases h;rfl
theorem VR.ptr_inv{i q:Nat} {v:Value} (h:VR num μ (.ptr i q) v):∃ p,μ i=some p∧v = .pointer (some ⟨p.c,p.s+q,none⟩):=by cases h;exact⟨_,‹_›,rfl⟩
theorem does_pick{c x y:Operand} (ho:o.op = .pick c x y) {b:Bool} {v u:AV} (hc:VR num μ (.bool b) (a.eval c)) (hv:VR num μ v (a.eval x)) (hu:VR num μ u (a.eval y)) (hs:Sim A num F μ m w.heap) :
  Does A num P o a m.length F μ w (cond b v u) m:=by
 refine Does.value (if b then a.eval x else a.eval y) ?_ (by cases b<;>simpa) hs
 simp[execOp,ho,hc.bool_inv,asBool]
theorem rowOk{arr:List Value} {l:List AV} (h:VRL num μ l arr):∀ (q:Nat) (x:AV),l[q]?=some x→∃ v,arr.toArray[q]?=some v∧VR num μ x v:=fun q x hx=>by
 obtain⟨d,h1,h2⟩:=h.get hx
 exact⟨d,by simpa using h1,h2⟩
theorem does_new{v:AV} {l:List AV} {sz:Nat} (arr:Array Value) (T:TypeId) (cv:Value) (h:(execOp a.eval o).run P w = .ok (.value cv) (w.alloc (.cells arr T)))
  (hr:VRL num μ l arr.toList) (hv:∀ μ':Mu,μ' m.length=some ⟨w.heap.size,0,arr.size,sz⟩→VR num μ' v cv) (hs:Sim A num F μ m w.heap) :
  Does A num P o a m.length F μ w v (m++[.cells sz false l]):=fun next Q hn=>by
 obtain⟨F',μ',h1,h2,h3⟩:=hs.alloc arr T l sz (by have:=hr.1;simp at this;omega) (by have:=rowOk hr;simpa using this)
 unfold Oper.wp;rw[h];exact hn F' μ' cv _ (hv μ' h3) h1 h2
theorem run_newVar(t:TypeId) (v:Value):(newVar t v).run P w = .ok ⟨w.heap.size,0,none⟩ (w.alloc (.cells v.cells t)):=by
 simp[newVar,newRow]
theorem does_box{t:TypeId} {x:Operand} (ho:o.op = .box t x) {v:AV} (hv:VR num μ v (a.eval x)) (h1:v.cells.all AV.one=true) (hs:Sim A num F μ m w.heap) :
  Does A num P o a m.length F μ w (.ptr m.length 0) (m++[.cells v.cells.length false v.cells]) :=
 does_new (a.eval x).cells t (.pointer (some ⟨w.heap.size,0,none⟩)) (by simp[execOp,ho,Instr.box,run_newVar]) (hv.cells h1).1 (fun μ' h=>by simpa using VR.ptr (o:=0) h) hs
def constA:AV→Value→Bool
 | .bool a,.bool b=>a == b
 | .int k n,.int k' n'=>decide (k=k') && decide (n=n')
 | .str a,.string b=>a.data.toList == b.data.toList
 | .nilp,.pointer none=>true
 | .nils,.slice none 0 0=>true
 | .nilm,.map none=>true
 | .nilf,.nilFunc=>true
 | _,_=>false
def constL:List AV→List Value→Bool
 | [],[]=>true
 | a :: as,v :: vs=>constA a v && constL as vs
 | _,_=>false
theorem constA_ok{x:AV} {v:Value} (h:constA x v=true):VR num μ x v:=by
 unfold constA at h
 split at h
 ·simp at h;subst h;exact .bool _
 ·simp at h;obtain⟨rfl,rfl⟩:=h;exact .int _ _
 ·rename_i s t
  have:s=t:=by
   obtain⟨⟨s⟩⟩:=s
   obtain⟨⟨t⟩⟩:=t
   simp at h
   simp[h]
  subst this
  exact .str _
 ·exact .nilp
 ·exact .nils
 ·exact .nilm
 ·exact .nilf
 ·cases h
theorem constL_ok:∀ {xs:List AV} {vs:List Value},constL xs vs=true→VRL num μ xs vs
 | [],[],_=>VRL.nil
 | _ :: _,_ :: _,h=>by
  simp only[constL,Bool.and_eq_true] at h
  exact VRL.cons (constA_ok h.1) (constL_ok h.2)
 | [],_ :: _,h=>by simp[constL] at h
 | _ :: _,[],h=>by simp[constL] at h
def zeroIs(P:Program) (t:TypeId) (z:List AV):Bool :=
 match P.info? t with
 | some i=>match i.zero with
  | some v=>constL z v.cells.toList
  | none=>false
 | none=>false
theorem zeroIs_ok{t:TypeId} {z:List AV} (h:zeroIs P t z=true) (μ:Mu):∃ i v,P.info? t=some i∧i.zero=some v∧VRL num μ z v.cells.toList:=by
 unfold zeroIs at h
 split at h
 ·rename_i i hi
  split at h
  ·rename_i v hv;exact⟨i,v,hi,hv,constL_ok h⟩
  ·cases h
 ·cases h
theorem run_typeInfo' {t:TypeId} {i:TypeInfo} (h:P.info? t=some i):(typeInfo t).run P w = .ok i w:=by simp[typeInfo,h]
theorem run_zeroValue' {t:TypeId} {i:TypeInfo} {v:Value} (h:P.info? t=some i) (hv:i.zero=some v):(zeroValue t).run P w = .ok v w:=by simp[zeroValue,run_typeInfo' h,hv]
theorem run_sizeOf' {t:TypeId} {i:TypeInfo} (h:P.info? t=some i):(sizeOf t).run P w = .ok i.size w:=by simp[sizeOf,run_typeInfo' h]
theorem does_alloc{t:TypeId} {z:List AV} (ho:o.op = .alloc t) (hz:zeroIs P t z=true) (hs:Sim A num F μ m w.heap) :
  Does A num P o a m.length F μ w (.ptr m.length 0) (m++[.cells z.length false z]):=by
 obtain⟨i,v,hi,hv,hr⟩:=zeroIs_ok (num:=num) hz μ
 exact does_new v.cells t (.pointer (some ⟨w.heap.size,0,none⟩)) (by simp[execOp,ho,Instr.alloc,run_zeroValue' hi hv,run_newVar]) hr (fun μ' h=>by simpa using VR.ptr (o:=0) h) hs
def aggOf(P:Program) (t:TypeId):Option Bool :=
 match P.underlying t with
 | some (.struct _)|some (.array _ _)=>some true
 | some _=>some false
 | none=>none
theorem run_isAgg' {t:TypeId} {b:Bool} (h:aggOf P t=some b):(isAgg t).run P w = .ok b w:=by
 unfold aggOf at h
 cases hu:P.underlying t with
 | none=>rw[hu] at h;cases h
 | some d =>
  rw[hu] at h
  simp only[isAgg,Sem.run_bind,run_underlying hu,Result.andThen_ok]
  cases d<;>simp_all
def sizeN(P:Program) (t:TypeId):Option (Option Nat) :=
 match aggOf P t,P.info? t with
 | some true,some i=>some (some i.size)
 | some false,some _=>some none
 | _,_=>none
def LoadsTo:Option Nat→Array Value→Nat→Value→Prop
 | none,arr,q,cv=>arr[q]?=some cv
 | some k,arr,q,cv=>q+k≤arr.size∧cv = .agg ((arr.toList.drop q).take k).toArray
theorem cell_row{w:World} {c:Nat} {arr:Array Value} {T:TypeId} {fr:Nat × Nat} (h:w.heap[c]?=some (.cells arr T fr)) (j:Nat):w.cell? ⟨c,j,none⟩=arr[j]?:=cell_of_row w c j arr T fr h
theorem run_loadVar' {t:TypeId} {n:Option Nat} (ht:sizeN P t=some n) {c q:Nat} {arr:Array Value} {T:TypeId} {fr:Nat × Nat} (h:w.heap[c]?=some (.cells arr T fr)) {cv:Value}
  (hv:LoadsTo n arr q cv):(loadVar t ⟨c,q,none⟩).run P w = .ok cv w:=by
 unfold sizeN at ht
 split at ht
 ·rename_i i ha hi
  injection ht with ht;subst ht
  obtain⟨h1,rfl⟩:=hv
  simp only[loadVar,Sem.run_bind,run_isAgg' ha,Result.andThen_ok,if_true,run_sizeOf' hi]
  have hl:((arr.toList.drop q).take i.size).length=i.size:=by simp;omega
  have:=run_loadCells_list (P:=P) w ⟨c,q,none⟩ ((arr.toList.drop q).take i.size) (fun j v hj=>by
   rw[Addr.add_mid,cell_row h]
   rw[List.getElem?_take] at hj
   split at hj
   ·rw[List.getElem?_drop] at hj;simpa using hj
   ·cases hj)
  rw[hl] at this
  simp[this]
 ·rename_i i ha hi
  injection ht with ht;subst ht
  simp only[loadVar,Sem.run_bind,run_isAgg' ha,Result.andThen_ok,Bool.false_eq_true,if_false]
  have:w.cell? ⟨c,q,none⟩=some cv:=by rw[cell_row h];exact hv
  simp[this]
 ·cases ht
theorem loadN_ok{i q:Nat} {n:Option Nat} {v:AV} (h:loadN m i q n=some v) (hs:Sim A num F μ m w.heap) {p:Pl} (hp:μ i=some p) :
  ∃ arr T fr cv,w.heap[p.c]?=some (.cells arr T fr)∧VR num μ v cv∧LoadsTo n arr (p.s+q) cv:=by
 unfold loadN at h
 cases n with
 | none =>
  simp only at h
  split at h
  ·rename_i sz ro l hg
   obtain⟨arr,T,fr,_,h1,h2,_⟩:=hs.row (getC_some hg) hp
   obtain⟨cv,h3,h4⟩:=h2.2.2 q v h
   exact⟨arr,T,fr,cv,h1,h4,h3⟩
  ·cases h
 | some k =>
  simp only at h
  split at h
  ·rename_i sz ro l hg
   split at h
   ·rename_i hle
    injection h with h;subst h
    obtain⟨arr,T,fr,_,h1,h2,_⟩:=hs.row (getC_some hg) hp
    have hle2:p.s+q+k≤arr.size:=by have:=h2.1;have:=h2.2.1;omega
    refine⟨arr,T,fr,_,h1,VR.agg_of (ds:=(arr.toList.drop (p.s+q)).take k) ⟨by simp;omega,fun j x d hx hd=>?_⟩,hle2,rfl⟩
    rw[List.getElem?_take] at hx hd
    split at hx
    ·rename_i hjk
     rw[if_pos hjk,List.getElem?_drop] at hd
     rw[List.getElem?_drop] at hx
     obtain⟨u,hu1,hu2⟩:=h2.2.2 _ x hx
     rw[show p.s+(q+j)=p.s+q+j by omega] at hu1
     have:arr[p.s+q+j]?=some d:=by simpa using hd
     rw[this] at hu1
     injection hu1 with hu1;subst hu1
     exact hu2
    ·cases hx
   ·cases h
  ·cases h
theorem does_load{t:TypeId} {x:Operand} (ho:o.op = .load t x) {n:Option Nat} (ht:sizeN P t=some n) {i q:Nat} {v:AV} (hx:VR num μ (.ptr i q) (a.eval x)) (h:loadN m i q n=some v) (hs:Sim A num F μ m w.heap) :
  Does A num P o a m.length F μ w v m:=by
 obtain⟨p,hp,he⟩:=hx.ptr_inv
 obtain⟨arr,T,fr,cv,h1,h2,h3⟩:=loadN_ok h hs hp
 refine Does.value cv ?_ h2 hs
 simp[execOp,ho,Instr.loadAt,he,Instr.sureAddr,run_loadVar' ht h1 h3]
theorem does_nilc{x:Operand} (ho:o.op = .nilCheck x) {v:AV} (hv:VR num μ v (a.eval x)) (h:(∃ i q,v = .ptr i q)∨(∃ f as bs,v = .fn f as bs)) (hs:Sim A num F μ m w.heap):Does A num P o a m.length F μ w v m:=by
 refine Does.value (a.eval x) ?_ hv hs
 rcases h with⟨i,q,rfl⟩|⟨f,as,bs,rfl⟩
 ·obtain⟨p,_,he⟩:=hv.ptr_inv
  simp[execOp,ho,he]
 ·generalize hu:a.eval x=u at *
  cases hv
  simp[execOp,ho,hu]
theorem does_not{x:Operand} {t:TypeId} (ho:o.op = .unOp .not t x) {b:Bool} (hv:VR num μ (.bool b) (a.eval x)) (hs:Sim A num F μ m w.heap):Does A num P o a m.length F μ w (.bool (!b)) m :=
 Does.value (.bool (!b)) (by simp[execOp,ho,hv.bool_inv,Op.unary]) (.bool _) hs
theorem does_neg{x:Operand} {t:TypeId} (ho:o.op = .unOp .neg t x) {k:IntKind} {n:Int} (hv:VR num μ (.int k n) (a.eval x)) (hs:Sim A num F μ m w.heap):Does A num P o a m.length F μ w (.int k (k.wrap (0 - n))) m :=
 Does.value (.int k (k.wrap (0 - n))) (by simp[execOp,ho,hv.int_inv,Op.unary,Op.intArith]) (.int _ _) hs
theorem does_conv{x:Operand} {s t:TypeId} {k:IntKind} (ho:o.op = .convert s t x) (hsd:∃ d,P.underlying s=some d) (ht:P.underlying t=some (.int k)) {k0:IntKind} {n:Int} (hv:VR num μ (.int k0 n) (a.eval x)) (hs:Sim A num F μ m w.heap) :
  Does A num P o a m.length F μ w (.int k (k.wrap n)) m:=by
 obtain⟨d,hd⟩:=hsd
 refine Does.value (.int k (k.wrap n)) ?_ (.int _ _) hs
 simp only[execOp,ho,hv.int_inv,convert,Sem.run_bind,run_underlying hd,run_underlying ht,Result.andThen_ok]
 cases d<;>simp[Conv.intToInt]
theorem does_mkfn{g:Nat} {f:Nat} {first cap:Array Operand} (ho:o.op = .makeFunc (.func g) first cap) (hf:num f=g) {as bs:List AV} (h1:VRL num μ as (first.map a.eval).toList) (h2:VRL num μ bs (cap.map a.eval).toList) (hs:Sim A num F μ m w.heap) :
  Does A num P o a m.length F μ w (.fn f as bs) m:=by
 subst hf
 refine Does.value (.func (.func (num f)) (first.map a.eval) (cap.map a.eval)) (by simp[execOp,ho,Instr.makeFunc]) ?_ hs
 exact .fn (by simpa using h1.1) (fun j x d hx hd=>h1.2 j x d hx (by simpa using hd)) (by simpa using h2.1) (fun j x d hx hd=>h2.2 j x d hx (by simpa using hd))
theorem does_extract{x:Operand} {i:Nat} (ho:o.op = .extract x i) {vs:List AV} {v:AV} (hv:VR num μ (.tup vs) (a.eval x)) (hi:vs[i]?=some v) (hs:Sim A num F μ m w.heap):Does A num P o a m.length F μ w v m:=by
 obtain⟨ds,he,hl⟩:=hv.tup_inv
 obtain⟨d,hd,hvd⟩:=hl.get hi
 refine Does.value d ?_ hvd hs
 have:ds[i]?=some d:=by simpa using hd
 simp[execOp,ho,he,Instr.extract,this]
theorem does_faddr{s:TypeId} {x:Operand} {f:Nat} (ho:o.op = .fieldAddr s x f) {fs:Array Field} {fd:Field} (hu:P.underlying s=some (.struct fs)) (hf:fs[f]?=some fd) {ti:TypeInfo} (hi:P.info? fd.type=some ti) (h0:ti.size≠0)
  {i q:Nat} (hv:VR num μ (.ptr i q) (a.eval x)) (hs:Sim A num F μ m w.heap):Does A num P o a m.length F μ w (.ptr i (q+fd.offset)) m:=by
 obtain⟨p,hp,he⟩:=hv.ptr_inv
 refine Does.value (.pointer (some ⟨p.c,p.s+(q+fd.offset),none⟩)) ?_ (.ptr hp) hs
 simp[execOp,ho,he,Instr.fieldAt,run_underlying hu,hf,Instr.sureAddr,fieldPlace,run_sizeOf' hi,h0,Addr.add_mid,Nat.add_assoc]
theorem does_iaddr{t e:TypeId} {x y:Operand} (ho:o.op = .indexAddr t x y) (hu:P.underlying t=some (.slice e)) {ti:TypeInfo} (hi:P.info? e=some ti)
  {i q len:Nat} {cap:Option Nat} {k:IntKind} {n:Int} (hv:VR num μ (.sl i q len cap) (a.eval x)) (hy:VR num μ (.int k n) (a.eval y)) (h0:0≤n) (h1:n < len) (hs:Sim A num F μ m w.heap) :
  Does A num P o a m.length F μ w (.ptr i (q+n.toNat * ti.size)) m:=by
 have key:∃ p cap',μ i=some p∧a.eval x = .slice (some ⟨p.c,p.s+q,none⟩) len cap':=by
  obtain⟨p,A0,c',hp,he,h|h⟩:=hv.sl_inv
  ·obtain⟨rfl,_⟩:=h;exact⟨p,c',hp,he⟩
  ·omega
 obtain⟨p,cap',hp,he⟩:=key
 refine Does.value (.pointer (some ⟨p.c,p.s+(q+n.toNat * ti.size),none⟩)) ?_ (.ptr hp) hs
 simp[execOp,ho,he,hy.int_inv,Instr.indexAt,asIntOf,run_underlying hu,h0,h1,run_sizeOf' hi,Addr.add_mid,Nat.add_assoc]
theorem does_iaddrA{t e:TypeId} {len:Nat} {x y:Operand} (ho:o.op = .indexAddr t x y) (hu:P.underlying t=some (.array len e)) {ti:TypeInfo} (hi:P.info? e=some ti)
  {i q:Nat} {k:IntKind} {n:Int} (hv:VR num μ (.ptr i q) (a.eval x)) (hy:VR num μ (.int k n) (a.eval y)) (h0:0≤n) (h1:n < len) (hs:Sim A num F μ m w.heap) :
  Does A num P o a m.length F μ w (.ptr i (q+n.toNat * ti.size)) m:=by
 obtain⟨p,hp,he⟩:=hv.ptr_inv
 refine Does.value (.pointer (some ⟨p.c,p.s+(q+n.toNat * ti.size),none⟩)) ?_ (.ptr hp) hs
 simp[execOp,ho,he,hy.int_inv,Instr.indexAt,asIntOf,Instr.sureAddr,run_underlying hu,h0,h1,run_sizeOf' hi,Addr.add_mid,Nat.add_assoc]
def PartTo:Option Nat→Array Value→Nat→Value→Prop
 | none,ds,off,cv=>ds[off]?=some cv
 | some k,ds,off,cv=>cv = .agg (ds.extract off (off+k))
def partA:Option Nat→List AV→Nat→Option AV
 | none,cs,off=>cs[off]?
 | some k,cs,off=>if off+k≤cs.length then some (.agg ((cs.drop off).take k)) else none
theorem run_part' {t:TypeId} {n:Option Nat} (ht:sizeN P t=some n) (ds:Array Value) (off:Nat) {cv:Value} (hv:PartTo n ds off cv):(part t ds off).run P w = .ok cv w:=by
 unfold sizeN at ht
 split at ht
 ·rename_i i ha hi
  injection ht with ht;subst ht
  simp only[PartTo] at hv;subst hv
  simp[part,run_isAgg' ha,run_sizeOf' hi]
 ·rename_i i ha hi
  injection ht with ht;subst ht
  simp only[PartTo] at hv
  simp[part,run_isAgg' ha,hv]
 ·cases ht
theorem partN_ok{cs:List AV} {ds:Array Value} (h:VRL num μ cs ds.toList) {off:Nat} {n:Option Nat} {v:AV} (hv:partA n cs off=some v) :
  ∃ cv,VR num μ v cv∧PartTo n ds off cv:=by
 cases n with
 | none =>
  obtain⟨d,hd,hvd⟩:=h.get hv
  exact⟨d,hvd,by simpa [PartTo] using hd⟩
 | some k =>
  simp only[partA] at hv
  split at hv
  ·injection hv with hv;subst hv
   refine⟨_,?_,rfl⟩
   have:=VR.agg_of ((h.drop off).take k)
   have e:((ds.toList.drop off).take k).toArray=ds.extract off (off+k):=by
    apply Array.toList_inj.1
    simp[List.take_drop]
   rwa [e] at this
  ·cases hv
theorem does_field{s:TypeId} {x:Operand} {f:Nat} (ho:o.op = .field s x f) {fs:Array Field} {fd:Field} (hu:P.underlying s=some (.struct fs)) (hf:fs[f]?=some fd) {n:Option Nat} (ht:sizeN P fd.type=some n)
  {cs:List AV} (hx:VR num μ (.agg cs) (a.eval x)) {v:AV} (hv:partA n cs fd.offset=some v) (hs:Sim A num F μ m w.heap) :
  Does A num P o a m.length F μ w v m:=by
 obtain⟨ds,he,hl⟩:=hx.agg_inv
 obtain⟨cv,h1,h2⟩:=partN_ok hl hv
 refine Does.value cv ?_ h1 hs
 simp[execOp,ho,he,Instr.field,run_underlying hu,hf,asAgg,run_part' ht ds fd.offset h2]
theorem does_index{t e:TypeId} {len:Nat} {x y:Operand} (ho:o.op = .index t x y) (hu:P.underlying t=some (.array len e)) {ti:TypeInfo} (hi:P.info? e=some ti) {n:Option Nat} (ht:sizeN P e=some n)
  {cs:List AV} (hx:VR num μ (.agg cs) (a.eval x)) {k:IntKind} {j:Int} (hy:VR num μ (.int k j) (a.eval y)) (h0:0≤j) (h1:j < len) {v:AV}
  (hv:partA n cs (j.toNat * ti.size)=some v) (hs:Sim A num F μ m w.heap) :
  Does A num P o a m.length F μ w v m:=by
 obtain⟨ds,he,hl⟩:=hx.agg_inv
 obtain⟨cv,h2,h3⟩:=partN_ok hl hv
 refine Does.value cv ?_ h2 hs
 simp[execOp,ho,he,hy.int_inv,Instr.index,asIntOf,run_underlying hu,h0,h1,run_sizeOf' hi,run_part' ht ds _ h3]
theorem does_bin{op:BinOp} {t yt:TypeId} {x y:Operand} (ho:o.op = .binOp op t x y yt) {k:IntKind} {p q:Int} {v:AV} (hx:VR num μ (.int k p) (a.eval x)) (hy:VR num μ (.int k q) (a.eval y)) (h:binI op k p q=some v) (hs:Sim A num F μ m w.heap) :
  Does A num P o a m.length F μ w v m:=by
 have hrun:∀ cv,(binOp op t (.int k p) (.int k q)).run P w = .ok cv w→VR num μ v cv→Does A num P o a m.length F μ w v m:=fun cv hr hv =>
  Does.value cv (by simp[execOp,ho,hx.int_inv,hy.int_inv,eqGuard_at_int,hr]) hv hs
 cases op<;>simp only[binI] at h
 case add=>injection h with h;subst h;exact hrun _ (by simp[binOp,Op.intArith]) (.int _ _)
 case sub=>injection h with h;subst h;exact hrun _ (by simp[binOp,Op.intArith]) (.int _ _)
 case mul=>injection h with h;subst h;exact hrun _ (by simp[binOp,Op.intArith]) (.int _ _)
 case quo =>
  split at h
  ·cases h
  ·rename_i h0
   injection h with h;subst h;exact hrun _ (by simp[binOp,Op.intDiv,h0]) (.int _ _)
 case rem =>
  split at h
  ·cases h
  ·rename_i h0
   injection h with h;subst h;exact hrun _ (by simp[binOp,Op.intDiv,h0]) (.int _ _)
 case and=>injection h with h;subst h;exact hrun _ (by simp[binOp,Op.intBits]) (.int _ _)
 case or=>injection h with h;subst h;exact hrun _ (by simp[binOp,Op.intBits]) (.int _ _)
 case xor=>injection h with h;subst h;exact hrun _ (by simp[binOp,Op.intBits]) (.int _ _)
 case andNot=>injection h with h;subst h;exact hrun _ (by simp[binOp,Op.intBits]) (.int _ _)
 case shl=>cases h
 case shr=>cases h
 case eql=>injection h with h;subst h;exact hrun _ (by simp[binOp,Op.intCmp]) (.bool _)
 case neq=>injection h with h;subst h;exact hrun _ (by simp[binOp,Op.intCmp]) (.bool _)
 case lss=>injection h with h;subst h;exact hrun _ (by simp[binOp,Op.intCmp]) (.bool _)
 case leq=>injection h with h;subst h;exact hrun _ (by simp[binOp,Op.intCmp]) (.bool _)
 case gtr=>injection h with h;subst h;exact hrun _ (by simp[binOp,Op.intCmp]) (.bool _)
 case geq=>injection h with h;subst h;exact hrun _ (by simp[binOp,Op.intCmp]) (.bool _)
theorem does_shf{op:BinOp} {t yt:TypeId} {x y:Operand} (ho:o.op = .binOp op t x y yt) {k k':IntKind} {p q:Int} {v:AV} (hx:VR num μ (.int k p) (a.eval x)) (hy:VR num μ (.int k' q) (a.eval y)) (h:shfI op k p q=some v) (hs:Sim A num F μ m w.heap) :
  Does A num P o a m.length F μ w v m:=by
 have hrun:∀ cv,(binOp op t (.int k p) (.int k' q)).run P w = .ok cv w→VR num μ v cv→Does A num P o a m.length F μ w v m:=fun cv hr hv =>
  Does.value cv (by simp[execOp,ho,hx.int_inv,hy.int_inv,eqGuard_at_int,hr]) hv hs
 unfold shfI at h
 split at h
 ·cases h
 ·rename_i h0
  cases op<;>simp only at h<;>try (cases h;done)
  ·injection h with h;subst h
   exact hrun _ (by simp only[binOp];simp[Op.shift,h0]) (.int _ _)
  ·injection h with h;subst h
   exact hrun _ (by simp only[binOp];simp[Op.shift,h0]) (.int _ _)
end
end Go.Am
end
