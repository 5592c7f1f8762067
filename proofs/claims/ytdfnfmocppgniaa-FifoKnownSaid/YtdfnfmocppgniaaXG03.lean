import Derived.Test.YtdfnfmocppgniaaXG02
import Derived.Below
set_option linter.unusedSimpArgs false
set_option linter.unusedVariables false
section
namespace Go.Am
section
variable {X:Type} {A:AbsSem X} {num:Nat→Nat}
theorem heap_alloc_eq(w:World) (o:Obj):(w.alloc o).heap=w.heap.push o:=rfl
theorem Sim.alloc{F:Nat→Prop} {μ:Mu} {m:Mem X} {w:World} (h:Sim A num F μ m w.heap) (arr:Array Value) (T:TypeId) (l:List AV) (sz:Nat)
  (hl:l.length≤arr.size) (hr:∀ (o:Nat) (a:AV),l[o]?=some a→∃ v,arr[o]?=some v∧VR num μ a v) :
  ∃ F' μ',Sim A num F' μ' (m++[.cells sz false l]) (w.alloc (.cells arr T)).heap∧Ext m.length F μ w F' μ' (w.alloc (.cells arr T))∧μ' m.length=some ⟨w.heap.size,0,arr.size,sz⟩:=by
 obtain⟨own,h⟩:=h
 have hsz:(w.alloc (.cells arr T)).heap.size=w.heap.size+1:=by simp
 have hold:∀ c,c < w.heap.size→(w.alloc (.cells arr T)).heap[c]?=w.heap[c]?:=fun c hc=>heap_alloc_old w _ c hc
 have hnew:(w.alloc (.cells arr T)).heap[w.heap.size]?=some (.cells arr T):=heap_alloc_new w _
 refine⟨fun c=>F c∨c=w.heap.size,fun i=>if i=m.length then some ⟨w.heap.size,0,arr.size,sz⟩ else μ i,⟨fun c=>if c=w.heap.size then some m.length else own c,?_⟩,?_,by simp⟩
 ·refine h.step (fun _=>False) (fun j hj=>by simp[Nat.ne_of_lt hj]) (by simp) (fun j hj=>?_) (fun j hj _=>by rw[List.getElem?_append_left hj]) (fun j c hj _=>?_) (fun c i hc=>?_) (fun c hc=>?_)
   (fun c hc _ _=>hold c hc) (fun c hc hF hF'=>?_) (fun j c p hj hp hjn=>?_)
  ·simp at hj
   simp only[if_neg (show j≠m.length by omega)]
   exact h.new j (by omega)
  ·by_cases hc:c=w.heap.size
   ·subst hc
    simp only[if_true]
    constructor
    ·intro h1;exact absurd (h.lt _ (h.isF _ _ h1)) (by omega)
    ·intro h1;injection h1;omega
   ·simp[hc]
  ·by_cases hcs:c=w.heap.size
   ·exact .inr hcs
   ·simp only[if_neg hcs] at hc;exact .inl (h.isF c i hc)
  ·rw[hsz];rcases hc with hc|hc
   ·have:=h.lt c hc;omega
   ·omega
  ·rcases hF' with h1|h1
   ·exact hF h1
   ·omega
  ·rcases hjn with hjn|hjn
   ·exact hjn.elim
   ·have hjl:j=m.length:=by
     have:=(List.getElem?_eq_some_iff.1 hj).1
     simp at this;omega
    subst hjl
    simp at hj hp
    subst hj;subst hp
    refine⟨arr,T,(0,0),rfl,hnew,⟨hl,by simp,fun o a ha=>?_⟩,by simp,fun _=>⟨by simp,rfl⟩⟩
    obtain⟨v,h1,h2⟩:=hr o a ha
    refine⟨v,by simpa using h1,h2.mono fun i p hp=>?_⟩
    have:i≠m.length:=fun e=>by subst e;rw[h.new _ (Nat.le_refl _)] at hp;cases hp
    simp[this,hp]
 ·exact⟨fun i hi=>by simp[Nat.ne_of_lt hi],fun c hc=>hc.imp id (fun e=>by omega),by omega,fun c hc _=>hold c hc,rfl,rfl,rfl⟩
theorem Sim.allocT{F:Nat→Prop} {μ:Mu} {m:Mem X} {w:World} (h:Sim A num F μ m w.heap) :
  ∃ F' μ',Sim A num F' μ' (m++[.tab [] 0]) (w.alloc (.map #[] 0)).heap∧Ext m.length F μ w F' μ' (w.alloc (.map #[] 0))∧μ' m.length=some ⟨w.heap.size,0,0,0⟩:=by
 obtain⟨own,h⟩:=h
 have hsz:(w.alloc (.map #[] 0)).heap.size=w.heap.size+1:=by simp
 have hold:∀ c,c < w.heap.size→(w.alloc (.map #[] 0)).heap[c]?=w.heap[c]?:=fun c hc=>heap_alloc_old w _ c hc
 have hnew:(w.alloc (.map #[] 0)).heap[w.heap.size]?=some (.map #[] 0):=heap_alloc_new w _
 refine⟨fun c=>F c∨c=w.heap.size,fun i=>if i=m.length then some ⟨w.heap.size,0,0,0⟩ else μ i,⟨fun c=>if c=w.heap.size then some m.length else own c,?_⟩,?_,by simp⟩
 ·refine h.step (fun _=>False) (fun j hj=>by simp[Nat.ne_of_lt hj]) (by simp) (fun j hj=>?_) (fun j hj _=>by rw[List.getElem?_append_left hj]) (fun j c hj _=>?_) (fun c i hc=>?_) (fun c hc=>?_)
   (fun c hc _ _=>hold c hc) (fun c hc hF hF'=>?_) (fun j c p hj hp hjn=>?_)
  ·simp at hj
   simp only[if_neg (show j≠m.length by omega)]
   exact h.new j (by omega)
  ·by_cases hc:c=w.heap.size
   ·subst hc
    simp only[if_true]
    constructor
    ·intro h1;exact absurd (h.lt _ (h.isF _ _ h1)) (by omega)
    ·intro h1;injection h1;omega
   ·simp[hc]
  ·by_cases hcs:c=w.heap.size
   ·exact .inr hcs
   ·simp only[if_neg hcs] at hc;exact .inl (h.isF c i hc)
  ·rw[hsz];rcases hc with hc|hc
   ·have:=h.lt c hc;omega
   ·omega
  ·rcases hF' with h1|h1
   ·exact hF h1
   ·omega
  ·rcases hjn with hjn|hjn
   ·exact hjn.elim
   ·have hjl:j=m.length:=by
     have:=(List.getElem?_eq_some_iff.1 hj).1
     simp at this;omega
    subst hjl
    simp at hj hp
    subst hj;subst hp
    exact⟨#[],hnew,by simp,rfl,by simp⟩
 ·exact⟨fun i hi=>by simp[Nat.ne_of_lt hi],fun c hc=>hc.imp id (fun e=>by omega),by omega,fun c hc _=>hold c hc,rfl,rfl,rfl⟩
theorem Sim.tab{F:Nat→Prop} {μ:Mu} {m:Mem X} {H:Array Obj} (h:Sim A num F μ m H) {i:Nat} {l:List (Int × Nat × AV)} {c:Nat} {p:Pl} (hi:m[i]?=some (.tab l c)) (hp:μ i=some p) :
  ∃ es,H[p.c]?=some (.map es c)∧TabAt num μ l es:=by
 obtain⟨own,h⟩:=h
 obtain⟨es,h1,_,h3⟩:=h.ok i _ p hi hp
 exact⟨es,h1,h3⟩
theorem Sim.tabR{F:Nat→Prop} {μ:Mu} {m:Mem X} {H:Array Obj} (h:Sim A num F μ m H) {i:Nat} {l:List (Int × Nat × AV)} {p:Pl} (hi:tabOf m (.map i)=some l) (hp:μ i=some p) :
  ∃ es c,H[p.c]?=some (.map es c)∧TabAt num μ l es:=by
 obtain⟨own,h⟩:=h
 unfold tabOf at hi
 simp only at hi
 split at hi
 ·rename_i l' c hg
  injection hi with hi;subst hi
  obtain⟨es,h1,_,h3⟩:=h.ok i _ p hg hp
  exact⟨es,c,h1,h3⟩
 ·rename_i l' hg
  injection hi with hi;subst hi
  obtain⟨es,c,h1,_,h3⟩:=h.ok i _ p hg hp
  exact⟨es,c,h1,h3⟩
 ·cases hi
theorem Sim.writeT{F:Nat→Prop} {μ:Mu} {m:Mem X} {w w':World} (h:Sim A num F μ m w.heap) {i:Nat} {l l':List (Int × Nat × AV)} {c:Nat} {p:Pl} {es:Array MapEntry} {clock:Nat} (hi:m[i]?=some (.tab l c)) (hp:μ i=some p)
  (hsz:w'.heap.size=w.heap.size) (hc:w'.heap[p.c]?=some (.map es clock)) (hk:∀ c,c≠p.c→w'.heap[c]?=w.heap[c]?) (hr:TabAt num μ l' es) (h1:w'.os=w.os) (h2:w'.tape=w.tape) (h3:w'.output=w.output) :
  Sim A num F μ (m.set i (.tab l' clock)) w'.heap∧Ext m.length F μ w F μ w':=by
 obtain⟨own,h⟩:=h
 have him:i < m.length:=(List.getElem?_eq_some_iff.1 hi).1
 obtain⟨es0,k1,hown,k3⟩:=h.ok i _ p hi hp
 have hFp:=h.isF _ _ hown
 refine⟨⟨own,h.step (fun j=>j=i) (fun _ _=>rfl) (by simp) (fun j hj=>h.new j (by simpa using hj)) (fun j _ hj=>by rw[List.getElem?_set_ne (Ne.symm hj)]) (fun _ _ _ _=>Iff.rfl) h.isF (fun c hc=>by rw[hsz];exact h.lt c hc)
  (fun c hc hno _=>hk c (fun e=>by subst e;exact hno i hown rfl)) (fun _ _ hF=>hF) (fun j c q hj hq hjn=>?_)⟩,⟨fun _ _=>rfl,fun _ hc=>.inl hc,by omega,fun c hc hF=>hk c (fun e=>by subst e;exact hF hFp),h1,h2,h3⟩⟩
 have hji:j=i:=by
  rcases hjn with h1|h1
  ·exact h1
  ·have:=(List.getElem?_eq_some_iff.1 hj).1
   simp at this;omega
 subst hji
 rw[List.getElem?_set_self him] at hj
 injection hj with hj;subst hj
 rw[hp] at hq;injection hq with hq;subst hq
 exact⟨es,hc,hown,hr⟩
theorem Sim.appear{F:Nat→Prop} {μ:Mu} {m:Mem X} {w:World} (h:Sim A num F μ m w.heap) {i sz:Nat} {l:List AV} (hi:m[i]?=some (.cells sz false l)) (hμ:μ i=none) (arr:Array Value) (T:TypeId)
  (hl:l.length≤arr.size) (hr:∀ (o:Nat) (a:AV),l[o]?=some a→∃ v,arr[o]?=some v∧VR num μ a v) :
  ∃ F' μ',Sim A num F' μ' m (w.alloc (.cells arr T)).heap∧(∀ j,j≠i→μ' j=μ j)∧μ' i=some ⟨w.heap.size,0,arr.size,sz⟩∧(∀ c,F' c→F c∨w.heap.size≤c)∧(∀ c,c < w.heap.size→(w.alloc (.cells arr T)).heap[c]?=w.heap[c]?):=by
 obtain⟨own,h⟩:=h
 have hsz:(w.alloc (.cells arr T)).heap.size=w.heap.size+1:=by simp
 have hold:∀ c,c < w.heap.size→(w.alloc (.cells arr T)).heap[c]?=w.heap[c]?:=fun c hc=>heap_alloc_old w _ c hc
 have hnew:(w.alloc (.cells arr T)).heap[w.heap.size]?=some (.cells arr T):=heap_alloc_new w _
 have him:i < m.length:=(List.getElem?_eq_some_iff.1 hi).1
 have hmle:∀ (j:Nat) (p:Pl),μ j=some p→(if j=i then some (⟨w.heap.size,0,arr.size,sz⟩:Pl) else μ j)=some p:=fun j p hp=>by
  have:j≠i:=fun e=>by subst e;rw[hμ] at hp;cases hp
  simp[this,hp]
 refine⟨fun c=>F c∨c=w.heap.size,fun j=>if j=i then some ⟨w.heap.size,0,arr.size,sz⟩ else μ j,⟨fun c=>if c=w.heap.size then some i else own c,?_⟩,fun j hj=>by simp[hj],by simp,fun c hc=>hc.imp id (fun e=>by omega),hold⟩
 refine⟨fun c j hc=>?_,fun c hc=>?_,fun j hj=>?_,fun j ch p hj hp=>?_⟩
 ·by_cases hcs:c=w.heap.size
  ·exact .inr hcs
  ·simp only[if_neg hcs] at hc;exact .inl (h.isF c j hc)
 ·rw[hsz];rcases hc with hc|hc
  ·have:=h.lt c hc;omega
  ·omega
 ·simp only[if_neg (show j≠i by omega)];exact h.new j hj
 ·by_cases hji:j=i
  ·subst hji
   rw[hi] at hj
   injection hj with hj;subst hj
   simp at hp;subst hp
   refine⟨arr,T,(0,0),rfl,hnew,⟨hl,by simp,fun o a ha=>?_⟩,by simp,fun _=>⟨by simp,rfl⟩⟩
   obtain⟨v,h1,h2⟩:=hr o a ha
   exact⟨v,by simpa using h1,h2.mono hmle⟩
  ·simp only[if_neg hji] at hp
   refine(h.ok j ch p hj hp).keep hmle (fun c=>?_) (fun c hc=>hold c (h.lt c (h.isF c j hc))) (fun c hc hF=>⟨hold c hc,fun hF'=>?_⟩)
   ·by_cases hcs:c=w.heap.size
    ·subst hcs
     simp only[if_true]
     constructor
     ·intro h1;exact absurd (h.lt _ (h.isF _ _ h1)) (by omega)
     ·intro h1;injection h1;omega
    ·simp[hcs]
   ·rcases hF' with h1|h1
    ·exact hF h1
    ·omega
theorem Sim.row{F:Nat→Prop} {μ:Mu} {m:Mem X} {H:Array Obj} (h:Sim A num F μ m H) {i sz:Nat} {ro:Bool} {l:List AV} {p:Pl} (hi:m[i]?=some (.cells sz ro l)) (hp:μ i=some p) :
  ∃ arr T fr,p.z=sz∧H[p.c]?=some (.cells arr T fr)∧RowAt num μ p l arr∧(ro=false→F p.c∧fr=(0,0)):=by
 obtain⟨own,h⟩:=h
 obtain⟨arr,T,fr,h1,h2,h3,_,h5⟩:=h.ok i _ p hi hp
 exact⟨arr,T,fr,h1,h2,h3,fun hro=>⟨h.isF _ _ (h5 hro).1,(h5 hro).2⟩⟩
theorem Sim.write{F:Nat→Prop} {μ:Mu} {m:Mem X} {w w':World} (h:Sim A num F μ m w.heap) {i sz:Nat} {l l':List AV} {p:Pl} {arr:Array Value} {T:TypeId} (hi:m[i]?=some (.cells sz false l)) (hp:μ i=some p)
  (hsz:w'.heap.size=w.heap.size) (hc:w'.heap[p.c]?=some (.cells arr T (0,0))) (hk:∀ c,c≠p.c→w'.heap[c]?=w.heap[c]?) (hr:RowAt num μ p l' arr) (h1:w'.os=w.os) (h2:w'.tape=w.tape) (h3:w'.output=w.output) :
  Sim A num F μ (m.set i (.cells sz false l')) w'.heap∧Ext m.length F μ w F μ w':=by
 obtain⟨own,h⟩:=h
 have him:i < m.length:=(List.getElem?_eq_some_iff.1 hi).1
 obtain⟨arr0,T0,fr0,k1,k2,k3,_,k5⟩:=h.ok i _ p hi hp
 have hown:=(k5 rfl).1
 have hFp:=h.isF _ _ hown
 refine⟨⟨own,h.step (fun j=>j=i) (fun _ _=>rfl) (by simp) (fun j hj=>h.new j (by simpa using hj)) (fun j _ hj=>by rw[List.getElem?_set_ne (Ne.symm hj)]) (fun _ _ _ _=>Iff.rfl) h.isF (fun c hc=>by rw[hsz];exact h.lt c hc)
  (fun c hc hno _=>hk c (fun e=>by subst e;exact hno i hown rfl)) (fun _ _ hF=>hF) (fun j c q hj hq hjn=>?_)⟩,⟨fun _ _=>rfl,fun _ hc=>.inl hc,by omega,fun c hc hF=>hk c (fun e=>by subst e;exact hF hFp),h1,h2,h3⟩⟩
 have hji:j=i:=by
  rcases hjn with h1|h1
  ·exact h1
  ·have:=(List.getElem?_eq_some_iff.1 hj).1
   simp at this;omega
 subst hji
 rw[List.getElem?_set_self him] at hj
 injection hj with hj;subst hj
 rw[hp] at hq;injection hq with hq;subst hq
 exact⟨arr,T,(0,0),k1,hc,hr,by simp,fun _=>⟨hown,rfl⟩⟩
theorem Sim.take{F:Nat→Prop} {μ:Mu} {m:Mem X} {w w':World} (h:Sim A num F μ m w.heap) {i sz o:Nat} {l l':List AV} {p:Pl} {arr:Array Value} {T:TypeId} (hi:m[i]?=some (.cells sz false l)) (hp:μ i=some p)
  (hsz:w'.heap.size=w.heap.size) (hc:w'.heap[p.c]?=some (.cells arr T (0,0))) (hk:∀ c,c≠p.c→w'.heap[c]?=w.heap[c]?) (ho:o≤p.r) (hr:RowAt num μ ⟨p.c,p.s+o,p.r - o,p.z⟩ l' arr) (h1:w'.os=w.os) (h2:w'.tape=w.tape) (h3:w'.output=w.output) :
  ∃ μ',Sim A num F μ' (m.set i .dead++[.cells sz false l']) w'.heap∧Ext m.length F μ w F μ' w'∧μ' m.length=some ⟨p.c,p.s+o,p.r - o,p.z⟩:=by
 obtain⟨own,h⟩:=h
 have him:i < m.length:=(List.getElem?_eq_some_iff.1 hi).1
 obtain⟨arr0,T0,fr0,k1,k2,k3,_,k5⟩:=h.ok i _ p hi hp
 have hown:=(k5 rfl).1
 have hFp:=h.isF _ _ hown
 refine⟨fun j=>if j=m.length then some ⟨p.c,p.s+o,p.r - o,p.z⟩ else μ j,⟨fun c=>if c=p.c then some m.length else own c,?_⟩,⟨fun j hj=>by simp[Nat.ne_of_lt hj],fun _ hc=>.inl hc,by omega,fun c hc hF=>hk c (fun e=>by subst e;exact hF hFp),h1,h2,h3⟩,by simp⟩
 refine h.step (fun j=>j=i) (fun j hj=>by simp[Nat.ne_of_lt hj]) (by simp) (fun j hj=>?_) (fun j hj hji=>?_) (fun j c hj hji=>?_) (fun c j hc=>?_) (fun c hc=>by rw[hsz];exact h.lt c hc)
  (fun c hc hno _=>hk c (fun e=>by subst e;exact hno i hown rfl)) (fun _ _ hF=>hF) (fun j ch q hj hq hjn=>?_)
 ·simp at hj
  simp only[if_neg (show j≠m.length by omega)]
  exact h.new j (by omega)
 ·rw[List.getElem?_append_left (by simpa using hj),List.getElem?_set_ne (Ne.symm hji)]
 ·by_cases hcp:c=p.c
  ·subst hcp
   simp only[if_true]
   constructor
   ·intro h1;rw[hown] at h1;injection h1 with h1;exact absurd h1.symm hji
   ·intro h1;injection h1;omega
  ·simp[hcp]
 ·by_cases hcp:c=p.c
  ·subst hcp;exact hFp
  ·simp only[if_neg hcp] at hc;exact h.isF c j hc
 ·have hjl:=(List.getElem?_eq_some_iff.1 hj).1
  simp at hjl
  rcases hjn with hji|hjn
  ·subst hji
   rw[List.getElem?_append_left (by simpa using him),List.getElem?_set_self him] at hj
   injection hj with hj;subst hj
   trivial
  ·have hjm:j=m.length:=by omega
   subst hjm
   rw[List.getElem?_append_right (by simp)] at hj
   simp at hj hq
   subst hj;subst hq
   refine⟨arr,T,(0,0),k1,hc,hr.mono fun i' p' hp'=>?_,by simp,fun _=>⟨by simp,rfl⟩⟩
   have:i'≠m.length:=fun e=>by subst e;rw[h.new _ (Nat.le_refl _)] at hp';cases hp'
   simp[this,hp']
end
end Go.Am
end
