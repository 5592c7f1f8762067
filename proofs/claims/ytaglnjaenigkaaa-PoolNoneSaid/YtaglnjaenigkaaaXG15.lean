import Derived.Test.YtaglnjaenigkaaaXG14
set_option linter.unusedSimpArgs false
set_option linter.unusedVariables false
section
namespace Go.Am
open Go.ChangeShapes Go.WideShapes Go.ChangeAt Go.RowKit
section
variable {X:Type}
def IsA(P:Program) (m:Mem X):Nat→TypeId→List AV→Prop
 | 0,_,_=>False
 | n+1,t,as =>
  match P.underlying t with
  | some .bool=>∃ b,as=[.bool b]
  | some (.int k)=>∃ z,as=[.int k z]∧(Lit.int k z).wf=true
  | some (.slice e)=>as=[.nils]∨∃ i len cap,as=[.sl i 0 len (some cap)]∧i < m.length∧len≤cap∧cap≤maxLen ∧
    (0 < len→∃ l,m[i]?=some (.cells (P.cellsOf e) true l)∧l.length=len * P.cellsOf e∧∀ k,k < len→IsA P m n e ((l.drop (k * P.cellsOf e)).take (P.cellsOf e)))
  | some (.struct fs)=>as.length=P.cellsOf t∧∀ (j:Nat) (f:Field),fs[j]?=some f→IsA P m n f.type ((as.drop f.offset).take (P.cellsOf f.type))
  | _=>False
theorem IsA.mono{P:Program} {m:Mem X} (m2:Mem X):∀ {n:Nat} {t:TypeId} {as:List AV},IsA P m n t as→IsA P (m++m2) n t as
 | 0,_,_,h=>h
 | n+1,t,as,h=>by
  unfold IsA at h ⊢
  split at h
  ·exact h
  ·exact h
  ·rcases h with h|⟨i,len,cap,h1,hi,h2,h3,h4⟩
   ·exact .inl h
   ·refine .inr ⟨i,len,cap,h1,by simp;omega,h2,h3,fun hl=>?_⟩
    obtain⟨l,h5,h6,h7⟩:=h4 hl
    exact⟨l,by rw[List.getElem?_append_left hi];exact h5,h6,fun k hk=>(h7 k hk).mono m2⟩
  ·exact⟨h.1,fun j f hf=>(h.2 j f hf).mono m2⟩
  ·exact h
def fieldsOk(P:Program):Nat→List Field→Option Nat
 | o,[]=>some o
 | o,f :: fs=>if f.offset=o then fieldsOk P (o+P.cellsOf f.type) fs else none
def tyOk(P:Program):Nat→TypeId→Bool
 | 0,_=>false
 | n+1,t =>
  match P.underlying t with
  | some .bool=>true
  | some (.int _)=>true
  | some (.slice e)=>decide (0 < P.cellsOf e) && tyOk P n e
  | some (.struct fs)=>decide (fieldsOk P 0 fs.toList=some (P.cellsOf t)) && fs.toList.all (fun f=>tyOk P n f.type)
  | _=>false
variable {A:AbsSem X} {num:Nat→Nat} {P:Program} {H:Type} {enc:TypeId × Value→H}
abbrev nof:Nat→Prop:=fun _=>False
theorem sim_row{μ:Mu} {m:Mem X} {Hp:Array Obj} (h:Sim A num nof μ m Hp) (p:Pl) (ch:Chunk X) (hc:∀ own,ChunkOk A num μ nof own p Hp ch):Sim A num nof (fun i=>if i=m.length then some p else μ i) (m++[ch]) Hp∧∀ i q,μ i=some q→(fun i=>if i=m.length then some p else μ i) i=some q:=by
 obtain⟨own,hs⟩:=h
 have hm:∀ i q,μ i=some q→(fun i=>if i=m.length then some p else μ i) i=some q:=by
  intro i q hq
  have:i < m.length:=by
   rcases Nat.lt_or_ge i m.length with h|h
   ·exact h
   ·rw[hs.new i h] at hq;cases hq
  simp only[show ¬ i=m.length by omega,if_false];exact hq
 refine⟨⟨own,hs.isF,hs.lt,fun i hi=>?_,fun i c q hi hq=>?_⟩,hm⟩
 ·simp only[List.length_append,List.length_cons,List.length_nil] at hi
  simp only[show ¬ i=m.length by omega,if_false]
  exact hs.new i (by omega)
 ·by_cases him:i=m.length
  ·subst him
   simp only[if_true,Option.some.injEq] at hq
   subst hq
   rw[List.getElem?_append_right (Nat.le_refl _)] at hi
   simp only[Nat.sub_self,List.getElem?_cons_zero,Option.some.injEq] at hi
   subst hi
   exact(hc _).keep hm (fun _=>Iff.rfl) (fun _ _=>rfl) (fun _ _ _=>⟨rfl,fun h=>h⟩)
  ·simp only[him,if_false] at hq
   have hlt:i < m.length:=by
    rcases Nat.lt_or_ge i m.length with h|h
    ·exact h
    ·rw[hs.new i h] at hq;cases hq
   rw[List.getElem?_append_left hlt] at hi
   exact(hs.ok i c q hi hq).keep hm (fun _=>Iff.rfl) (fun _ _=>rfl) (fun _ _ _=>⟨rfl,fun h=>h⟩)
theorem cells?_inv {w:World} {b:Nat} {a:Addr} {n:Nat} {cs:List Value} (h:w.cells? b a n=some cs):cs.length=n∧∀ i,i < n→w.cell? (a.add i)=cs[i]?:=by
 unfold World.cells? at h
 split at h
 ·exact⟨by simpa using mapM_some_length h,fun i hi=>by
   have:=mapM_some_get h i i (by simp[hi])
   exact this⟩
 ·cases h
theorem cell?_inv {w:World} {a:Addr} {v:Value} (h:w.cell? a=some v):a.spot=none∧∃ arr T fr,w.heap[a.block]?=some (.cells arr T fr)∧arr[a.off]?=some v:=by
 unfold World.cell? at h
 split at h
 ·rename_i c T fr hc
  split at h
  ·cases h
  ·rename_i hs
   exact⟨by simpa using hs,c,T,fr,hc,h⟩
 ·cases h
theorem add_block(a:Addr) (n:Nat):(a.add n).block=a.block:=by unfold Addr.add;split<;>rfl
theorem add_off(a:Addr) (n:Nat):(a.add n).off=a.off+n:=by unfold Addr.add;split<;>simp_all
theorem read_rows{w:World} {a:Addr} {e:TypeId} {n n' len:Nat} {spare:Nat→Bool} {held:Bool}
  (ih:∀ {cs:List Value} {x:DataW H × List MemPlace},DataW.trod enc P w 0 spare held n e cs=some x→∀ (μ:Mu) (m:Mem X),Sim A num nof μ m w.heap →
   ∃ (μ':Mu) (m2:Mem X) (as:List AV),Sim A num nof μ' (m++m2) w.heap∧(∀ i q,μ i=some q→μ' i=some q)∧VRL num μ' as cs∧IsA P (m++m2) n' e as)
  {arr:Array Value} {T:TypeId} {fr:Nat × Nat} (harr:w.heap[a.block]?=some (.cells arr T fr)) (hsz:0 < P.cellsOf e)
  (hel:∀ i,i < len→∃ cs y,w.cells? 0 (a.add (i * P.cellsOf e)) (P.cellsOf e)=some cs∧DataW.trod enc P w 0 spare held n e cs=some y) (μ:Mu) (m:Mem X) (hS:Sim A num nof μ m w.heap) :
  ∀ j,j≤len→∃ (μ':Mu) (m2:Mem X) (l:List AV),Sim A num nof μ' (m++m2) w.heap∧(∀ i q,μ i=some q→μ' i=some q)∧l.length=j * P.cellsOf e∧(0 < j→a.off+j * P.cellsOf e≤arr.size) ∧
   (∀ (o:Nat) (b:AV),l[o]?=some b→∃ v,arr[a.off+o]?=some v∧VR num μ' b v)∧∀ k,k < j→IsA P (m++m2) n' e ((l.drop (k * P.cellsOf e)).take (P.cellsOf e)):=by
 intro j
 induction j with
 | zero=>intro _;exact⟨μ,[],[],by simpa using hS,fun _ _ h=>h,by simp,fun h=>absurd h (Nat.lt_irrefl _),fun o b h=>by simp at h,fun k h=>absurd h (Nat.not_lt_zero _)⟩
 | succ j ihj =>
  intro hj
  obtain⟨μ1,m1,l,h1,h2,h3,h4,h5,h6⟩:=ihj (by omega)
  obtain⟨cs,y,hc,hy⟩:=hel j (by omega)
  obtain⟨hcl,hcg⟩:=cells?_inv hc
  obtain⟨μ2,m2,as,g1,g2,g3,g4⟩:=ih hy μ1 (m++m1) h1
  have hal:as.length=P.cellsOf e:=g3.1.trans hcl
  have hget:∀ q,q < P.cellsOf e→∃ v,cs[q]?=some v∧arr[a.off+(j * P.cellsOf e+q)]?=some v:=by
   intro q hq
   have hv:=List.getElem?_eq_getElem (show q < cs.length by omega)
   have:=(hcg q hq).trans hv
   obtain⟨_,arr',T',fr',k1,k2⟩:=cell?_inv this
   rw[add_block,add_block,harr] at k1
   simp only[Option.some.injEq,Obj.cells.injEq] at k1
   rw[add_off,add_off,← k1.1] at k2
   exact⟨_,hv,by rw[← k2];congr 1;omega⟩
  refine⟨μ2,m1++m2,l++as,by rw[← List.append_assoc];exact g1,fun i q h=>g2 i q (h2 i q h),by rw[List.length_append,h3,hal,Nat.succ_mul],fun _=>?_,?_,?_⟩
  ·obtain⟨v,_,hv⟩:=hget (P.cellsOf e - 1) (by omega)
   have:=(Array.getElem?_eq_some_iff.1 hv).1
   rw[Nat.succ_mul]
   omega
  ·intro o b hb
   by_cases ho:o < l.length
   ·rw[List.getElem?_append_left ho] at hb
    obtain⟨v,e1,e2⟩:=h5 o b hb
    exact⟨v,e1,e2.mono g2⟩
   ·rw[List.getElem?_append_right (by omega)] at hb
    have hq:o - l.length < P.cellsOf e:=by have:=(List.getElem?_eq_some_iff.1 hb).1;omega
    obtain⟨v,e1,e2⟩:=hget _ hq
    refine⟨v,?_,g3.2 _ _ _ hb e1⟩
    rw[← e2];congr 1;omega
  ·intro k hk
   by_cases hkj:k < j
   ·have:((l++as).drop (k * P.cellsOf e)).take (P.cellsOf e)=(l.drop (k * P.cellsOf e)).take (P.cellsOf e):=by
     have hle:k * P.cellsOf e+P.cellsOf e≤l.length:=by rw[h3,← Nat.succ_mul];exact Nat.mul_le_mul_right _ hkj
     rw[List.drop_append_of_le_length (by omega),List.take_append_of_le_length (by simp;omega)]
    rw[this,← List.append_assoc]
    exact(h6 k hkj).mono m2
   ·have hkj:k=j:=by omega
    subst hkj
    rw[← h3,List.drop_left,← hal,List.take_length,← List.append_assoc]
    exact g4
theorem read_fields{w:World} {n n':Nat} {spare:Nat→Bool} {held:Bool}
  (ih:∀ {t:TypeId} {cs:List Value} {x:DataW H × List MemPlace},tyOk P n' t=true→DataW.trod enc P w 0 spare held n t cs=some x→∀ (μ:Mu) (m:Mem X),Sim A num nof μ m w.heap →
   ∃ (μ':Mu) (m2:Mem X) (as:List AV),Sim A num nof μ' (m++m2) w.heap∧(∀ i q,μ i=some q→μ' i=some q)∧VRL num μ' as cs∧IsA P (m++m2) n' t as) (cs:List Value) :
  ∀ (fs:List Field) (o o':Nat),fieldsOk P o fs=some o'→o'=cs.length→fs.all (fun f=>tyOk P n' f.type)=true →
   (∀ f,f ∈ fs→∃ x,DataW.trod enc P w 0 spare held n f.type ((cs.drop f.offset).take (P.cellsOf f.type))=some x)→∀ (μ:Mu) (m:Mem X),Sim A num nof μ m w.heap →
   ∃ (μ':Mu) (m2:Mem X) (as:List AV),Sim A num nof μ' (m++m2) w.heap∧(∀ i q,μ i=some q→μ' i=some q)∧VRL num μ' as (cs.drop o)∧o≤cs.length∧∀ f,f ∈ fs→o≤f.offset∧IsA P (m++m2) n' f.type ((as.drop (f.offset - o)).take (P.cellsOf f.type))
 | [],o,o',ho,ho',_,_,μ,m,hS=>by
  simp only[fieldsOk,Option.some.injEq] at ho
  subst ho
  exact⟨μ,[],[],by simpa using hS,fun _ _ h=>h,by rw[ho',List.drop_length];exact VRL.nil,by omega,fun f hf=>by simp at hf⟩
 | f :: fs,o,o',ho,ho',hall,hx,μ,m,hS=>by
  simp only[fieldsOk] at ho
  split at ho
  ·rename_i hfo
   simp only[List.all_cons,Bool.and_eq_true] at hall
   obtain⟨x,hx1⟩:=hx f (by simp)
   obtain⟨μ1,m1,as1,h1,h2,h3,h4⟩:=ih hall.1 hx1 μ m hS
   obtain⟨μ2,m2,as2,g1,g2,g3,g4,g5⟩:=read_fields ih cs fs _ o' ho ho' hall.2 (fun f hf=>hx f (by simp[hf])) μ1 (m++m1) h1
   have hl1:as1.length=P.cellsOf f.type:=by
    rw[h3.1,List.length_take,List.length_drop,hfo];omega
   refine⟨μ2,m1++m2,as1++as2,by rw[← List.append_assoc];exact g1,fun i q h=>g2 i q (h2 i q h),?_,by omega,fun f' hf'=>?_⟩
   ·have:cs.drop o=(cs.drop o).take (P.cellsOf f.type)++cs.drop (o+P.cellsOf f.type):=by
     rw[← List.drop_drop];exact(List.take_append_drop _ _).symm
    rw[this]
    rw[hfo] at h3
    exact(h3.mono g2).append g3
   ·simp only[List.mem_cons] at hf'
    rcases hf' with rfl|hf'
    ·refine⟨by omega,?_⟩
     rw[hfo,Nat.sub_self,List.drop_zero,List.take_left' hl1,← List.append_assoc]
     exact h4.mono m2
    ·obtain⟨k1,k2⟩:=g5 f' hf'
     refine⟨by omega,?_⟩
     have:(as1++as2).drop (f'.offset - o)=as2.drop (f'.offset - (o+P.cellsOf f.type)):=by
      rw[List.drop_append,List.drop_of_length_le (by omega),List.nil_append];congr 1;omega
     rw[this,← List.append_assoc]
     exact k2
  ·cases ho
theorem read{w:World} {spare:Nat→Bool} {held:Bool} (hsp:∀ b,spare b=true):∀ (n':Nat) {n:Nat} {t:TypeId} {cs:List Value} {x:DataW H × List MemPlace},tyOk P n' t=true→DataW.trod enc P w 0 spare held n t cs=some x→∀ (μ:Mu) (m:Mem X),Sim A num nof μ m w.heap →
   ∃ (μ':Mu) (m2:Mem X) (as:List AV),Sim A num nof μ' (m++m2) w.heap∧(∀ i q,μ i=some q→μ' i=some q)∧VRL num μ' as cs∧IsA P (m++m2) n' t as
 | 0,_,_,_,_,h,_,_,_,_=>by simp[tyOk] at h
 | n'+1,n,t,cs,x,h,ht,μ,m,hS=>by
  unfold tyOk at h
  split at h
  ·rename_i hu
   obtain⟨b,rfl,_⟩:=DataW.trod_bool hu ht
   exact⟨μ,[],[.bool b],by simpa using hS,fun _ _ h=>h,VRL.cons (.bool b) VRL.nil,by unfold IsA;rw[hu];exact⟨b,rfl⟩⟩
  ·rename_i k hu
   obtain⟨z,rfl,_,hw⟩:=DataW.trod_int hu ht
   exact⟨μ,[],[.int k z],by simpa using hS,fun _ _ h=>h,VRL.cons (.int k z) VRL.nil,by unfold IsA;rw[hu];exact⟨z,rfl,hw⟩⟩
  ·rename_i e hu
   simp only[Bool.and_eq_true,decide_eq_true_eq] at h
   rcases DataW.trod_slice hu ht with⟨rfl,_⟩|⟨a,len,cap,elems,rest,n2,rfl,rfl,_,_,hlc,hcm,hel,he,hr,_⟩
   ·exact⟨μ,[],[.nils],by simpa using hS,fun _ _ h=>h,VRL.cons .nils VRL.nil,by unfold IsA;rw[hu];exact .inl rfl⟩
   ·obtain⟨hrl,hre⟩:=hr (hsp _)
    have hel':∀ i,i < len→∃ cs y,w.cells? 0 (a.add (i * P.cellsOf e)) (P.cellsOf e)=some cs∧DataW.trod enc P w 0 spare held n2 e cs=some y:=by
     intro i hi
     have:=he i hi
     rw[List.getElem?_eq_getElem (show i < elems.length by omega)] at this
     simp only[Option.bind_eq_some_iff] at this
     obtain⟨cs,h1,h2⟩:=this
     exact⟨cs,_,h1,h2⟩
    have hspot:0 < cap→a.spot=none:=by
     intro hc
     by_cases hl:0 < len
     ·obtain⟨cs,y,h1,_⟩:=hel' 0 hl
      obtain⟨hcl,hg⟩:=cells?_inv h1
      have:=(hg 0 h.1).trans (List.getElem?_eq_getElem (show 0 < cs.length by omega))
      have:=(cell?_inv this).1
      simpa [Addr.add] using this
     ·have:=hre 0 (by omega)
      rw[List.getElem?_eq_getElem (show 0 < rest.length by omega)] at this
      simp only[Option.bind_eq_some_iff] at this
      obtain⟨cs,h1,_⟩:=this
      obtain⟨hcl,hg⟩:=cells?_inv h1
      have:=(hg 0 h.1).trans (List.getElem?_eq_getElem (show 0 < cs.length by omega))
      have:=(cell?_inv this).1
      have hl0:len=0:=by omega
      subst hl0
      simpa [Addr.add] using this
    by_cases hl:0 < len
    ·obtain⟨cs0,y0,h1,_⟩:=hel' 0 hl
     obtain⟨hcl,hg⟩:=cells?_inv h1
     have h0:=(hg 0 h.1).trans (List.getElem?_eq_getElem (show 0 < cs0.length by omega))
     obtain⟨_,arr,T,fr,harr,_⟩:=cell?_inv h0
     rw[add_block,add_block] at harr
     obtain⟨μ1,m1,l,g1,g2,g3,g4,g5,g6⟩:=read_rows (A:=A) (num:=num) (n':=n') (fun hy μ m hS=>read hsp n' h.2 hy μ m hS) harr h.1 hel' μ m hS len (Nat.le_refl _)
     obtain⟨k1,k2⟩:=sim_row g1 ⟨a.block,a.off,len * P.cellsOf e,P.cellsOf e⟩ (.cells (P.cellsOf e) true l) (fun own=>⟨arr,T,fr,rfl,harr,⟨by rw[g3];exact Nat.le_refl _,g4 hl,g5⟩,fun _ h=>h,fun h=>by cases h⟩)
     refine⟨_,m1++[.cells (P.cellsOf e) true l],[.sl (m++m1).length 0 len (some cap)],by rw[← List.append_assoc];exact k1,fun i q hq=>k2 i q (g2 i q hq),VRL.cons ?_ VRL.nil,?_⟩
     ·have:=VR.sl (num:=num) (μ:=fun i=>if i=(m++m1).length then some ⟨a.block,a.off,len * P.cellsOf e,P.cellsOf e⟩ else μ1 i) (i:=(m++m1).length) (o:=0) (len:=len) (cap:=cap) (p:=⟨a.block,a.off,len * P.cellsOf e,P.cellsOf e⟩) (by simp)
      have ha:a=⟨a.block,a.off,none⟩:=by obtain⟨b,o,s⟩:=a;simp only[Addr.mk.injEq,true_and];exact hspot (by omega)
      rw[ha];exact this
     ·unfold IsA;rw[hu]
      refine .inr ⟨_,len,cap,rfl,by simp,hlc,hcm,fun _=>⟨l,?_,g3,fun k hk=>?_⟩⟩
      ·rw[← List.append_assoc,List.getElem?_append_right (Nat.le_refl _)];simp
      ·rw[← List.append_assoc];exact(g6 k hk).mono _
    ·have hl0:len=0:=by omega
     subst hl0
     obtain⟨k1,k2⟩:=sim_row hS ⟨a.block,a.off,0,P.cellsOf e⟩ (.dead:Chunk X) (fun own=>trivial)
     refine⟨_,[.dead],[.sl m.length 0 0 (some cap)],k1,k2,VRL.cons ?_ VRL.nil,?_⟩
     ·by_cases hc:0 < cap
      ·have:=VR.sl (num:=num) (μ:=fun i=>if i=m.length then some ⟨a.block,a.off,0,P.cellsOf e⟩ else μ i) (i:=m.length) (o:=0) (len:=0) (cap:=cap) (p:=⟨a.block,a.off,0,P.cellsOf e⟩) (by simp)
       have ha:a=⟨a.block,a.off,none⟩:=by obtain⟨b,o,s⟩:=a;simp only[Addr.mk.injEq,true_and];exact hspot hc
       rw[ha];exact this
      ·have hc0:cap=0:=by omega
       subst hc0
       exact VR.slz0 (p:=⟨a.block,a.off,0,P.cellsOf e⟩) (by simp)
     ·unfold IsA;rw[hu]
      exact .inr ⟨_,0,cap,rfl,by simp,hlc,hcm,fun h=>absurd h (Nat.lt_irrefl _)⟩
  ·rename_i fs hu
   simp only[Bool.and_eq_true,decide_eq_true_eq] at h
   obtain⟨xs,n2,rfl,rfl,hcl,hxl,hx⟩:=DataW.trod_struct hu ht
   obtain⟨μ1,m1,as,g1,g2,g3,_,g5⟩:=read_fields (A:=A) (num:=num) (n':=n') (fun hk hy μ m hS=>read hsp n' hk hy μ m hS) cs fs.toList 0 (P.cellsOf t) h.1 hcl.symm h.2 (fun f hf=>by
    obtain⟨i,hi⟩:=List.mem_iff_getElem?.1 hf
    have:=hx i f (by simpa using hi)
    have hil:i < xs.length:=by
     have:=(List.getElem?_eq_some_iff.1 hi).1
     simp at this;omega
    exact⟨xs[i],this.trans (List.getElem?_eq_getElem hil)⟩) μ m hS
   refine⟨μ1,m1,as,g1,g2,by simpa using g3,?_⟩
   unfold IsA;rw[hu]
   refine⟨by rw[g3.1,List.drop_zero,hcl],fun j f hf=>?_⟩
   have:=(g5 f (by
    have hj:=List.getElem?_eq_some_iff.1 (show fs.toList[j]?=some f by simpa using hf)
    rw[← hj.2];exact List.getElem_mem _)).2
   simpa using this
  ·cases h
def IsV(P:Program) (m:Mem X) (n:Nat) (t:TypeId) (a:AV):Prop :=
 match P.underlying t with
 | some (.struct _)=>∃ cs,a = .agg cs∧IsA P m n t cs
 | _=>IsA P m n t [a]
theorem IsV.mono{m:Mem X} (m2:Mem X) {n:Nat} {t:TypeId} {a:AV} (h:IsV P m n t a):IsV P (m++m2) n t a:=by
 unfold IsV at h ⊢
 split at h
 ·obtain⟨cs,h1,h2⟩:=h;exact⟨cs,h1,h2.mono m2⟩
 ·exact IsA.mono m2 h
def IsVs(P:Program) (m:Mem X) (n:Nat):List TypeId→List AV→Prop
 | [],as=>as=[]
 | t :: ts,as=>∃ a as',as=a :: as'∧IsV P m n t a∧IsVs P m n ts as'
theorem IsVs.mono{m:Mem X} (m2:Mem X) {n:Nat}:∀ {ts:List TypeId} {as:List AV},IsVs P m n ts as→IsVs P (m++m2) n ts as
 | [],_,h=>h
 | _ :: _,_,⟨a,as',h1,h2,h3⟩=>⟨a,as',h1,h2.mono m2,h3.mono m2⟩
theorem read_all{w:World} {spare:Nat→Bool} {held:Bool} {base:Nat} {r:Reach} (hsp:∀ b,spare b=true) (n:Nat):∀ {ts:List TypeId} {vs:List Value} {ds:List (DataW H)} {p:List MemPlace},ts.all (tyOk P n)=true →
  DataW.TrodAll enc P w 0 spare held ts vs ds p→(∀ (j:Nat) t v,ts[j]?=some t→vs[j]?=some v→Value.okWide P w r base t v)→∀ (μ:Mu) (m:Mem X),Sim A num nof μ m w.heap →
  ∃ (μ':Mu) (m2:Mem X) (as:List AV),Sim A num nof μ' (m++m2) w.heap∧(∀ i q,μ i=some q→μ' i=some q)∧VRL num μ' as vs∧IsVs P (m++m2) n ts as∧ds.length=ts.length
 | [],vs,ds,p,_,h,_,μ,m,hS=>by
  obtain⟨rfl,rfl,rfl⟩:=trodAll_nil h
  exact⟨μ,[],[],by simpa using hS,fun _ _ h=>h,VRL.nil,rfl,rfl⟩
 | t :: ts,vs,ds,p,hok,h,hval,μ,m,hS=>by
  obtain⟨v,vs',d,ds',p1,q1,rfl,rfl,rfl,⟨fuel,h1⟩,h2⟩:=trodAll_cons h
  simp only[List.all_cons,Bool.and_eq_true] at hok
  obtain⟨μ1,m1,as1,g1,g2,g3,g4⟩:=read (A:=A) (num:=num) hsp n hok.1 h1 μ m hS
  obtain⟨μ2,m2,as2,k1,k2,k3,k4,k5⟩:=read_all hsp n hok.2 h2 (fun j t v ht hv=>hval (j+1) t v (by simpa using ht) (by simpa using hv)) μ1 (m++m1) g1
  have hv:=hval 0 t v rfl rfl
  have:∃ a,VR num μ1 a v∧IsV P (m++m1) n t a:=by
   cases n with
   | zero=>simp[tyOk] at hok
   | succ n =>
    unfold IsV
    split
    ·rename_i fs hu
     obtain⟨cs,rfl,_⟩:=okWide_struct hu hv
     exact⟨.agg as1,by simpa [Value.cells] using VR.agg_of g3,as1,rfl,g4⟩
    ·rename_i hu
     have hone:∃ a,as1=[a]:=by
      unfold IsA at g4
      split at g4
      ·obtain⟨b,rfl⟩:=g4;exact⟨_,rfl⟩
      ·obtain⟨z,rfl,_⟩:=g4;exact⟨_,rfl⟩
      ·rcases g4 with rfl|⟨i,len,cap,rfl,_⟩<;>exact⟨_,rfl⟩
      ·rename_i fs hu';exact absurd hu' (hu fs)
      ·exact g4.elim
     obtain⟨a,rfl⟩:=hone
     refine⟨a,?_,g4⟩
     have hl:=g3.1
     cases v with
     | agg cs =>
      exfalso
      have ho:Cell.okWide P w r base t (.agg cs):=by
       have:=hv
       unfold Value.okWide at this
       split at this
       ·rename_i fs hu';exact absurd hu' (hu fs)
       ·rename_i hu'
        unfold tyOk at hok
        rw[hu'] at hok
        simp at hok
       ·exact this
      unfold IsA at g4
      split at g4
      ·rename_i hu';simp[Cell.okWide,hu',Cell.ok] at ho
      ·rename_i k hu';simp[Cell.okWide,hu',Cell.ok] at ho
      ·rename_i e hu';simp[Cell.okWide,hu',Cell.ok] at ho
      ·rename_i fs hu';exact hu fs hu'
      ·exact g4
     | _=>exact g3.2 0 _ _ rfl rfl
  obtain⟨a,ha,hai⟩:=this
  refine⟨μ2,m1++m2,a :: as2,by rw[← List.append_assoc];exact k1,fun i q h=>k2 i q (g2 i q h),VRL.cons (ha.mono k2) k3,⟨a,as2,rfl,?_,?_⟩,by simp[k5]⟩
  ·rw[← List.append_assoc];exact hai.mono m2
  ·rw[← List.append_assoc];exact k4
theorem law_body{k:FuncId} {f:Func} {s:ChangeSpec} {F:AFun X} {tb:TypeId} (n:Nat) (hF:Sound A num P k F) (hvars:s.vars=[]) (hfn:∀ ds:List (DataW H),ds.length=f.params.toList.length→s.fn H ds={ results:=[.lit (.bool true)],args:=ds })
  (hres:f.resultTypes=#[tb]) (htb:P.underlying tb=some .bool) (hl:laidOutB P=true) (hr:f.params.toList.all (fun t=>P.readableRec t && decide (t < P.types.size) && tyOk P n t)=true)
  (hrun:∀ (m:Mem X) as,IsVs P m n f.params.toList as→∃ m',F as m=some (.bool true,m'))
  (W:World) (base:Nat) (args:Array Value) (ds gs:List (DataW H)) (before:List MemPlace) (hval:∀ (j:Nat) t v,f.params[j]?=some t→args[j]?=some v→Value.okWide P W .any base t v)
  (hW:DataW.Whole enc P f.params.toList s.vars false W args.toList ds gs before):Calls P k args W fun e W'=>∃ v,e = .returned v∧s.post enc P f false true false false W args v W':=by
 have hW':=hW
 obtain⟨p,q,hA,hV,rfl,hfz,hnd⟩:=hW
 rw[hvars] at hV
 obtain⟨rfl,rfl⟩:=trodVars_none hV
 simp only[List.all_eq_true,Bool.and_eq_true,decide_eq_true_eq] at hr
 obtain⟨μ,m,as,h1,_,h3,h4,h5⟩:=read_all (A:=A) (num:=num) (fun _=>rfl) n (by simp only[List.all_eq_true];exact fun t ht=>(hr t ht).2) hA (fun j t v ht hv=>hval j t v (by simpa using ht) (by simpa using hv)) (fun _=>none) [] (sim_nil W.heap)
 obtain⟨m',hm'⟩:=hrun _ _ h4
 have:=law_calls hF h1 h3 hm'
 simp only[Array.toArray_toList] at this
 refine this.mono fun e W' ⟨he,hb⟩=>?_
 subst he
 exact⟨_,rfl,law_post (tb:=tb) hW' hvars (by rw[List.append_nil];exact hfn ds h5) hres htb hl (fun t ht=>(hr t ht).1) hb⟩
section
variable {P:Program} {m:Mem X} {n:Nat}
theorem IsA.intOf{t:TypeId} {as:List AV} (h:IsA P m (n+1) t as) {k:IntKind} (hk:P.underlying t=some (.int k)):∃ z,as=[.int k z]∧(Lit.int k z).wf=true:=by
 unfold IsA at h;rw[hk] at h;exact h
theorem IsV.intV{t:TypeId} {a:AV} (h:IsV P m (n+1) t a) {k:IntKind} (hk:P.underlying t=some (.int k)):∃ z,a = .int k z∧(Lit.int k z).wf=true:=by
 unfold IsV at h;rw[hk] at h
 have:=IsA.intOf h hk
 simpa using this
end
theorem known_am{G G':List (Nat × AFun X)} {g:Nat} {F:AFn} (hc:callOk P (num g)=true) (hK:Known A num P G') (hs:Sound A num P (num g) (amFunc G' F)) (hG:Known A num P G):Known A num P ((g,amFunc G' F) :: G) :=
 known_cons hc hs (amFunc_mono (fun g f h=>(hK g f h).2.2) F) hG
end
end Go.Am
end
