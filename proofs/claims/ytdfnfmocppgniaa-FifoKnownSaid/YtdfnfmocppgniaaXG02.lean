import Derived.Test.YtdfnfmocppgniaaXG01
import Derived.Laws.World
import Derived.Laws.Rows
import Derived.Laws.Sem
set_option linter.unusedSimpArgs false
set_option linter.unusedVariables false
section
namespace Go.Am
structure Pl where
 c:Nat
 s:Nat
 r:Nat
 z:Nat
abbrev Mu:=Nat→Option Pl
inductive VR (num:Nat→Nat) (μ:Mu):AV→Value→Prop
 | undef (v:Value):VR num μ .undef v
 | bool (b:Bool):VR num μ (.bool b) (.bool b)
 | int (k:IntKind) (n:Int):VR num μ (.int k n) (.int k n)
 | str (s:ByteArray):VR num μ (.str s) (.string s)
 | nilp:VR num μ .nilp (.pointer none)
 | ptr {i o:Nat} {p:Pl} (h:μ i=some p):VR num μ (.ptr i o) (.pointer (some ⟨p.c,p.s+o,none⟩))
 | nils:VR num μ .nils (.slice none 0 0)
 | sl {i o len cap:Nat} {p:Pl} (h:μ i=some p):VR num μ (.sl i o len (some cap)) (.slice (some ⟨p.c,p.s+o,none⟩) len cap)
 | slu {i o len cap:Nat} {p:Pl} (h:μ i=some p) (hl:len≤cap) (hr:o+cap * p.z≤p.r):VR num μ (.sl i o len none) (.slice (some ⟨p.c,p.s+o,none⟩) len cap)
 | slz {i o:Nat} {a:Addr} {p:Pl} (h:μ i=some p):VR num μ (.sl i o 0 none) (.slice (some a) 0 0)
 | slz0 {i o:Nat} {a:Addr} {p:Pl} (h:μ i=some p):VR num μ (.sl i o 0 (some 0)) (.slice (some a) 0 0)
 | mt {a:Addr}:VR num μ .mt (.slice (some a) 0 0)
 | yld {l:Nat}:VR num μ (.yld l) (.func (.yield l) #[] #[])
 | nilm:VR num μ .nilm (.map none)
 | map {i:Nat} {p:Pl} (h:μ i=some p):VR num μ (.map i) (.map (some p.c))
 | nilf:VR num μ .nilf .nilFunc
 | fn {f:Nat} {as bs:List AV} {cs ds:Array Value} (h1:as.length=cs.size) (h2:∀ (j:Nat) (a:AV) (d:Value),as[j]?=some a→cs[j]?=some d→VR num μ a d)
   (h3:bs.length=ds.size) (h4:∀ (j:Nat) (a:AV) (d:Value),bs[j]?=some a→ds[j]?=some d→VR num μ a d):VR num μ (.fn f as bs) (.func (.func (num f)) cs ds)
 | agg {cs:List AV} {ds:Array Value} (h1:cs.length=ds.size) (h2:∀ (j:Nat) (a:AV) (d:Value),cs[j]?=some a→ds[j]?=some d→VR num μ a d):VR num μ (.agg cs) (.agg ds)
 | tup {cs:List AV} {ds:Array Value} (h1:cs.length=ds.size) (h2:∀ (j:Nat) (a:AV) (d:Value),cs[j]?=some a→ds[j]?=some d→VR num μ a d):VR num μ (.tup cs) (.tuple ds)
def VRL(num:Nat→Nat) (μ:Mu) (vs:List AV) (ds:List Value):Prop :=
 vs.length=ds.length∧∀ (j:Nat) (a:AV) (d:Value),vs[j]?=some a→ds[j]?=some d→VR num μ a d
section
variable {num:Nat→Nat} {μ μ':Mu}
theorem VR.mono{a:AV} {v:Value} (h:VR num μ a v) (hm:∀ i p,μ i=some p→μ' i=some p):VR num μ' a v:=by
 induction h with
 | undef v=>exact .undef v
 | bool b=>exact .bool b
 | int k n=>exact .int k n
 | str s=>exact .str s
 | nilp=>exact .nilp
 | ptr h=>exact .ptr (hm _ _ h)
 | nils=>exact .nils
 | sl h=>exact .sl (hm _ _ h)
 | slu h hl hr=>exact .slu (hm _ _ h) hl hr
 | slz h=>exact .slz (hm _ _ h)
 | slz0 h=>exact .slz0 (hm _ _ h)
 | mt=>exact .mt
 | yld=>exact .yld
 | nilm=>exact .nilm
 | map h=>exact .map (hm _ _ h)
 | nilf=>exact .nilf
 | fn h1 _ h3 _ ih2 ih4=>exact .fn h1 ih2 h3 ih4
 | agg h1 _ ih=>exact .agg h1 ih
 | tup h1 _ ih=>exact .tup h1 ih
theorem VRL.mono{vs:List AV} {ds:List Value} (h:VRL num μ vs ds) (hm:∀ i p,μ i=some p→μ' i=some p):VRL num μ' vs ds :=
 ⟨h.1,fun j a d ha hd=>(h.2 j a d ha hd).mono hm⟩
theorem VR.skip:VR num μ AV.skip Go.undef:=VR.tup (cs:=[]) (ds:=#[]) rfl (by simp)
theorem VR.skip_inv{v:Value} (h:VR num μ (.tup []) v):v=Go.undef:=by
 generalize hx:AV.tup []=x at h
 cases h<;>cases hx
 rename_i ds h1 _
 have:ds=#[]:=Array.eq_empty_of_size_eq_zero (by simpa using h1.symm)
 subst this;rfl
theorem VR.nils_inv{v:Value} (h:VR num μ .nils v):v = .slice none 0 0:=by cases h;rfl
theorem VR.sl_inv{i q len:Nat} {cap:Option Nat} {v:Value} (h:VR num μ (.sl i q len cap) v) :
  ∃ p A0 cap',μ i=some p∧v = .slice (some A0) len cap'∧((A0=⟨p.c,p.s+q,none⟩∧(cap=some cap'∨(cap=none∧len≤cap'∧q+cap' * p.z≤p.r)))∨(len=0∧cap'=0∧(cap=none∨cap=some 0))):=by
 cases h with
 | sl h=>exact⟨_,_,_,h,rfl,.inl ⟨rfl,.inl rfl⟩⟩
 | slu h hl hr=>exact⟨_,_,_,h,rfl,.inl ⟨rfl,.inr ⟨rfl,hl,hr⟩⟩⟩
 | slz h=>exact⟨_,_,_,h,rfl,.inr ⟨rfl,rfl,.inl rfl⟩⟩
 | slz0 h=>exact⟨_,_,_,h,rfl,.inr ⟨rfl,rfl,.inr rfl⟩⟩
theorem VR.mt_inv{v:Value} (h:VR num μ .mt v):∃ A0,v = .slice (some A0) 0 0:=by cases h;exact⟨_,rfl⟩
theorem VR.yld_inv{l:Nat} {v:Value} (h:VR num μ (.yld l) v):v = .func (.yield l) #[] #[]:=by cases h;rfl
theorem VR.nilm_inv{v:Value} (h:VR num μ .nilm v):v = .map none:=by cases h;rfl
theorem VR.map_inv{i:Nat} {v:Value} (h:VR num μ (.map i) v):∃ p,μ i=some p∧v = .map (some p.c):=by cases h;exact⟨_,‹_›,rfl⟩
theorem VRL.nil:VRL num μ [] []:=⟨rfl,by simp⟩
theorem VRL.nil_inv{ds:List Value} (h:VRL num μ [] ds):ds=[]:=List.eq_nil_of_length_eq_zero (by have:=h.1;simpa using this.symm)
theorem VRL.cons{a:AV} {v:Value} {vs:List AV} {ds:List Value} (h:VR num μ a v) (ht:VRL num μ vs ds):VRL num μ (a :: vs) (v :: ds) :=
 ⟨by simp[ht.1],fun j x y hx hy=>by
  cases j with
  | zero=>simp at hx hy;subst hx;subst hy;exact h
  | succ j=>exact ht.2 j x y (by simpa using hx) (by simpa using hy)⟩
theorem VRL.cons_inv{a:AV} {vs:List AV} {ds:List Value} (h:VRL num μ (a :: vs) ds):∃ v ds',ds=v :: ds'∧VR num μ a v∧VRL num μ vs ds':=by
 cases ds with
 | nil=>have:=h.1;simp at this
 | cons v ds' =>
  refine⟨v,ds',rfl,h.2 0 a v rfl rfl,by simpa using h.1,fun j x y hx hy=>h.2 (j+1) x y (by simpa using hx) (by simpa using hy)⟩
theorem VRL.append{vs us:List AV} {ds es:List Value} (h:VRL num μ vs ds) (k:VRL num μ us es):VRL num μ (vs++us) (ds++es):=by
 induction vs generalizing ds with
 | nil=>rw[h.nil_inv];exact k
 | cons a vs ih =>
  obtain⟨v,ds',rfl,h1,h2⟩:=h.cons_inv
  exact VRL.cons h1 (ih h2)
theorem VRL.take{vs:List AV} {ds:List Value} (h:VRL num μ vs ds) (n:Nat):VRL num μ (vs.take n) (ds.take n) :=
 ⟨by simp[h.1],fun j a d ha hd=>by
  rw[List.getElem?_take] at ha hd
  split at ha<;>simp_all
  exact h.2 j a d ha hd⟩
theorem VRL.drop{vs:List AV} {ds:List Value} (h:VRL num μ vs ds) (n:Nat):VRL num μ (vs.drop n) (ds.drop n) :=
 ⟨by simp[h.1],fun j a d ha hd=>by
  rw[List.getElem?_drop] at ha hd
  exact h.2 _ a d ha hd⟩
theorem VRL.get{vs:List AV} {ds:List Value} (h:VRL num μ vs ds) {j:Nat} {a:AV} (ha:vs[j]?=some a):∃ d,ds[j]?=some d∧VR num μ a d:=by
 have hl:j < ds.length:=by rw[← h.1];exact(List.getElem?_eq_some_iff.1 ha).1
 exact⟨ds[j],List.getElem?_eq_getElem hl,h.2 j a _ ha (List.getElem?_eq_getElem hl)⟩
theorem VRL.replicate{a:AV} {v:Value} (h:VR num μ a v) (n:Nat):VRL num μ (List.replicate n a) (List.replicate n v) :=
 ⟨by simp,fun j x y hx hy=>by
  rw[List.getElem?_replicate] at hx hy
  split at hx<;>simp_all⟩
theorem VRL.set{vs:List AV} {ds:List Value} (h:VRL num μ vs ds) {a:AV} {v:Value} (hv:VR num μ a v) (j:Nat):VRL num μ (vs.set j a) (ds.set j v) :=
 ⟨by simp[h.1],fun k x y hx hy=>by
  rw[List.getElem?_set] at hx hy
  split at hx
  ·rename_i hk;subst hk
   split at hx<;>simp_all
  ·simp_all
   exact h.2 k x y hx hy⟩
theorem VR.agg_of{cs:List AV} {ds:List Value} (h:VRL num μ cs ds):VR num μ (.agg cs) (.agg ds.toArray) :=
 .agg (by simp[h.1]) (fun j a d ha hd=>h.2 j a d ha (by simpa using hd))
theorem VR.tup_of{cs:List AV} {ds:List Value} (h:VRL num μ cs ds):VR num μ (.tup cs) (.tuple ds.toArray) :=
 .tup (by simp[h.1]) (fun j a d ha hd=>h.2 j a d ha (by simpa using hd))
theorem VR.agg_inv{cs:List AV} {v:Value} (h:VR num μ (.agg cs) v):∃ ds:Array Value,v = .agg ds∧VRL num μ cs ds.toList:=by
 cases h with
 | agg h1 h2=>exact⟨_,rfl,by simpa using h1,fun j a d ha hd=>h2 j a d ha (by simpa using hd)⟩
theorem VR.tup_inv{cs:List AV} {v:Value} (h:VR num μ (.tup cs) v):∃ ds:Array Value,v = .tuple ds∧VRL num μ cs ds.toList:=by
 cases h with
 | tup h1 h2=>exact⟨_,rfl,by simpa using h1,fun j a d ha hd=>h2 j a d ha (by simpa using hd)⟩
theorem VR.cells{a:AV} {v:Value} (h:VR num μ a v) (h1:a.cells.all AV.one=true):VRL num μ a.cells v.cells.toList∧v.cells.toList.all (·.oneCell')=true:=by
 have one:∀ {a:AV} {v:Value},VR num μ a v→a.one=true→v.oneCell'=true:=by
  intro a v h h1
  cases h<;>first|rfl|(simp[AV.one] at h1)
 have single:∀ {a:AV} {v:Value},VR num μ a v→a.one=true→VRL num μ [a] [v]∧[v].all (·.oneCell')=true:=by
  intro a v h h1
  exact⟨VRL.cons h VRL.nil,by simp[one h h1]⟩
 cases h with
 | @agg cs ds h1' h2 =>
  have hl:VRL num μ (AV.agg cs).cells (Value.agg ds).cells.toList:=⟨by simpa [AV.cells,Value.cells] using h1',fun j a d ha hd=>h2 j a d ha (by simpa [Value.cells] using hd)⟩
  refine⟨hl,?_⟩
  rw[List.all_eq_true]
  intro d hd
  obtain⟨j,hj⟩:=List.getElem?_of_mem hd
  have hjl:j < (AV.agg cs).cells.length:=by rw[hl.1];exact(List.getElem?_eq_some_iff.1 hj).1
  have ha:=List.getElem?_eq_getElem hjl
  exact one (hl.2 j _ d ha hj) (List.all_eq_true.1 h1 _ (List.mem_of_getElem? ha))
 | tup h1' h2=>simp[AV.cells,AV.one] at h1
 | undef v=>simp[AV.cells,AV.one] at h1
 | _=>exact single (by first|exact .bool _|exact .int _ _|exact .str _|exact .nilp|exact .ptr ‹_›|exact .nils|exact .sl ‹_›|exact .slu ‹_› ‹_› ‹_›|exact .slz ‹_›|exact .slz0 ‹_›|exact .mt|exact .yld|exact .nilm|exact .map ‹_›|exact .nilf|exact .fn ‹_› ‹_› ‹_› ‹_›) rfl
end
structure AbsSem (X:Type) where
 holds:X→(Nat→Prop)→Pl→Array Obj→Prop
 frame:∀ {x:X} {own own':Nat→Prop} {p:Pl} {H H':Array Obj},holds x own p H→(∀ c,own c ↔ own' c)→(∀ c,own c→H'[c]?=H[c]?)→holds x own' p H'
def AbsSem.no(X:Type):AbsSem X:=⟨fun _ _ _ _=>False,fun h _ _=>h⟩
section
variable {X:Type} (A:AbsSem X) (num:Nat→Nat)
def RowAt(μ:Mu) (p:Pl) (l:List AV) (arr:Array Value):Prop :=
 l.length≤p.r∧p.s+p.r≤arr.size∧∀ (o:Nat) (a:AV),l[o]?=some a→∃ v,arr[p.s+o]?=some v∧VR num μ a v
def TabAt(μ:Mu) (l:List (Int × Nat × AV)) (es:Array MapEntry):Prop :=
 l.length=es.size∧∀ (j:Nat) (k:Int) (b:Nat) (a:AV),l[j]?=some (k,b,a)→∃ e,es[j]?=some e∧e.key = .int .i64 k∧e.born=b∧VR num μ a e.val
def ChunkOk(μ:Mu) (F:Nat→Prop) (own:Nat→Prop) (p:Pl) (H:Array Obj):Chunk X→Prop
 | .cells sz ro l=>∃ arr T fr,p.z=sz∧H[p.c]?=some (.cells arr T fr)∧RowAt num μ p l arr∧(ro=true→¬ F p.c)∧(ro=false→own p.c∧fr=(0,0))
 | .abs x=>A.holds x own p H
 | .dead=>True
 | .tab l c=>∃ es,H[p.c]?=some (.map es c)∧own p.c∧TabAt num μ l es
 | .rtab l=>∃ es c,H[p.c]?=some (.map es c)∧¬ F p.c∧TabAt num μ l es
structure SimO (F:Nat→Prop) (own:Nat→Option Nat) (μ:Mu) (m:Mem X) (H:Array Obj):Prop where
 isF:∀ c i,own c=some i→F c
 lt:∀ c,F c→c < H.size
 new:∀ i,m.length≤i→μ i=none
 ok:∀ i ch p,m[i]?=some ch→μ i=some p→ChunkOk A num μ F (fun c=>own c=some i) p H ch
def Sim(F:Nat→Prop) (μ:Mu) (m:Mem X) (H:Array Obj):Prop:=∃ own,SimO A num F own μ m H
structure Ext (n:Nat) (F:Nat→Prop) (μ:Mu) (w:World) (F':Nat→Prop) (μ':Mu) (w':World):Prop where
 mu:∀ i,i < n→μ' i=μ i
 fr:∀ c,F' c→F c∨w.heap.size≤c
 size:w.heap.size≤w'.heap.size
 keep:∀ c,c < w.heap.size→¬ F c→w'.heap[c]?=w.heap[c]?
 os:w'.os=w.os
 tape:w'.tape=w.tape
 output:w'.output=w.output
end
section
variable {X:Type} {A:AbsSem X} {num:Nat→Nat}
theorem Ext.refl(n:Nat) (F:Nat→Prop) (μ:Mu) (w:World):Ext n F μ w F μ w :=
 ⟨fun _ _=>rfl,fun _ h=>.inl h,Nat.le_refl _,fun _ _ _=>rfl,rfl,rfl,rfl⟩
theorem Ext.trans{n n':Nat} {F F' F'':Nat→Prop} {μ μ' μ'':Mu} {w w' w'':World} (h:Ext n F μ w F' μ' w') (k:Ext n' F' μ' w' F'' μ'' w'') (hn:n≤n'):Ext n F μ w F'' μ'' w'' where
 mu i hi:=(k.mu i (by omega)).trans (h.mu i hi)
 fr c hc:=by
  rcases k.fr c hc with h1|h1
  ·exact h.fr c h1
  ·exact .inr (Nat.le_trans h.size h1)
 size:=Nat.le_trans h.size k.size
 keep c hc hF:=by
  refine(k.keep c (Nat.lt_of_lt_of_le hc h.size) (fun hF'=>?_)).trans (h.keep c hc hF)
  rcases h.fr c hF' with h1|h1
  ·exact hF h1
  ·omega
 os:=k.os.trans h.os
 tape:=k.tape.trans h.tape
 output:=k.output.trans h.output
theorem Ext.of_heap(n:Nat) (F:Nat→Prop) (μ:Mu) {w w':World} (hh:w'.heap=w.heap) (h1:w'.os=w.os) (h2:w'.tape=w.tape) (h3:w'.output=w.output):Ext n F μ w F μ w' :=
 ⟨fun _ _=>rfl,fun _ h=>.inl h,by rw[hh];exact Nat.le_refl _,fun _ _ _=>by rw[hh],h1,h2,h3⟩
theorem Sim.lt_of{F:Nat→Prop} {μ:Mu} {m:Mem X} {H:Array Obj} (h:Sim A num F μ m H) {i:Nat} {p:Pl} (hp:μ i=some p):i < m.length:=by
 obtain⟨own,h⟩:=h
 rcases Nat.lt_or_ge i m.length with h1|h1
 ·exact h1
 ·rw[h.new i h1] at hp;cases hp
theorem Sim.mu_le{F F':Nat→Prop} {μ μ':Mu} {m:Mem X} {w w':World} (h:Sim A num F μ m w.heap) (e:Ext m.length F μ w F' μ' w'):∀ i p,μ i=some p→μ' i=some p :=
 fun i p hp=>(e.mu i (h.lt_of hp)).trans hp
theorem getC_some{m:Mem X} {i sz:Nat} {ro:Bool} {l:List AV} (h:getC m i=some (sz,ro,l)):m[i]?=some (.cells sz ro l):=by
 unfold getC at h
 split at h
 ·rename_i h1;rw[h1];simp only[Option.some.injEq,Prod.mk.injEq] at h;obtain⟨rfl,rfl,rfl⟩:=h;rfl
 ·cases h
theorem RowAt.mono{μ μ':Mu} {p:Pl} {l:List AV} {arr:Array Value} (h:RowAt num μ p l arr) (hm:∀ i p,μ i=some p→μ' i=some p):RowAt num μ' p l arr :=
 ⟨h.1,h.2.1,fun o a ha=>let ⟨v,h1,h2⟩:=h.2.2 o a ha;⟨v,h1,h2.mono hm⟩⟩
theorem ChunkOk.keep{μ μ':Mu} {F F' own own':Nat→Prop} {p:Pl} {H H':Array Obj} {ch:Chunk X} (h:ChunkOk A num μ F own p H ch) (hm:∀ i p,μ i=some p→μ' i=some p)
  (ho:∀ c,own c ↔ own' c) (hk:∀ c,own c→H'[c]?=H[c]?) (hr:∀ c,c < H.size→¬ F c→H'[c]?=H[c]?∧¬ F' c):ChunkOk A num μ' F' own' p H' ch:=by
 cases ch with
 | cells sz ro l =>
  obtain⟨arr,T,fr,h1,h2,h3,h4,h5⟩:=h
  have hlt:p.c < H.size:=by
   rcases Nat.lt_or_ge p.c H.size with h|h
   ·exact h
   ·rw[Array.getElem?_eq_none h] at h2;cases h2
  have heq:H'[p.c]?=H[p.c]?:=by
   cases ro with
   | true=>exact(hr p.c hlt (h4 rfl)).1
   | false=>exact hk p.c (h5 rfl).1
  exact⟨arr,T,fr,h1,heq.trans h2,h3.mono hm,fun hro=>(hr p.c hlt (h4 hro)).2,fun hro=>⟨(ho _).1 (h5 hro).1,(h5 hro).2⟩⟩
 | abs x=>exact A.frame h ho hk
 | dead=>trivial
 | tab l c =>
  obtain⟨es,h1,h2,h3,h4⟩:=h
  exact⟨es,(hk p.c h2).trans h1,(ho _).1 h2,h3,fun j k b a ha=>let ⟨e,e1,e2,e3,e4⟩:=h4 j k b a ha;⟨e,e1,e2,e3,e4.mono hm⟩⟩
 | rtab l =>
  obtain⟨es,c,h1,h2,h3,h4⟩:=h
  have hlt:p.c < H.size:=by
   rcases Nat.lt_or_ge p.c H.size with h|h
   ·exact h
   ·rw[Array.getElem?_eq_none h] at h1;cases h1
  exact⟨es,c,(hr p.c hlt h2).1.trans h1,(hr p.c hlt h2).2,h3,fun j k b a ha=>let ⟨e,e1,e2,e3,e4⟩:=h4 j k b a ha;⟨e,e1,e2,e3,e4.mono hm⟩⟩
theorem SimO.step{F F':Nat→Prop} {own own':Nat→Option Nat} {μ μ':Mu} {m m':Mem X} {H H':Array Obj} (h:SimO A num F own μ m H) (ch:Nat→Prop)
  (hmu:∀ j,j < m.length→μ' j=μ j) (hlen:m.length≤m'.length) (hnew:∀ j,m'.length≤j→μ' j=none)
  (hsame:∀ j,j < m.length→¬ ch j→m'[j]?=m[j]?) (howns:∀ j c,j < m.length→¬ ch j→(own c=some j ↔ own' c=some j))
  (hF:∀ c i,own' c=some i→F' c) (hlt:∀ c,F' c→c < H'.size)
  (hkeep:∀ c,c < H.size→(∀ i,own c=some i→¬ ch i)→(F c→∃ i,own c=some i)→H'[c]?=H[c]?) (hro:∀ c,c < H.size→¬ F c→¬ F' c)
  (hch:∀ j c p,m'[j]?=some c→μ' j=some p→(ch j∨m.length≤j)→ChunkOk A num μ' F' (fun c=>own' c=some j) p H' c):SimO A num F' own' μ' m' H' where
 isF:=hF
 lt:=hlt
 new:=hnew
 ok j c p hj hp:=by
  by_cases hjn:ch j∨m.length≤j
  ·exact hch j c p hj hp hjn
  ·have hj1:¬ ch j:=fun e=>hjn (.inl e)
   have hj2:j < m.length:=by
    rcases Nat.lt_or_ge j m.length with h1|h1
    ·exact h1
    ·exact absurd (.inr h1) hjn
   have hmle:∀ i p,μ i=some p→μ' i=some p:=fun i p hp=>by
    have:i < m.length:=by
     rcases Nat.lt_or_ge i m.length with h1|h1
     ·exact h1
     ·rw[h.new i h1] at hp;cases hp
    exact(hmu i this).trans hp
   have h1:=h.ok j c p ((hsame j hj2 hj1).symm.trans hj) ((hmu j hj2).symm.trans hp)
   refine h1.keep hmle (fun c=>howns j c hj2 hj1) (fun c hc=>?_) (fun c hc hFc=>⟨hkeep c hc (fun i hi=>absurd (h.isF c i hi) hFc) (fun hf=>absurd hf hFc),hro c hc hFc⟩)
   exact hkeep c (h.lt c (h.isF c j hc)) (fun i hi=>by rw[hc] at hi;injection hi with hi;subst hi;exact hj1) (fun _=>⟨j,hc⟩)
end
end Go.Am
end
