import Derived.Test.YtdfnfmocppgniaaXG17
set_option linter.unusedSimpArgs false
set_option linter.unusedVariables false
section
namespace Go.Am
open Go.ChangeShapes Go.WideShapes Go.ChangeAt Go.RowKit
section
variable {X:Type}
def IsA(P:Program) (m:Mem X):Nat→TypeId→List AV→Prop
 | 0,_,_=>False
 | n+1,t,as =>
  match P.underlying t with
  | some .bool=>∃ b,as=[.bool b]
  | some (.int k)=>∃ z,as=[.int k z]∧(Lit.int k z).wf=true
  | some (.slice e)=>as=[.nils]∨∃ i len cap,as=[.sl i 0 len (some cap)]∧i < m.length∧len≤cap∧cap≤maxLen ∧
    (0 < len→∃ l,m[i]?=some (.cells (P.cellsOf e) true l)∧l.length=len * P.cellsOf e∧∀ k,k < len→IsA P m n e ((l.drop (k * P.cellsOf e)).take (P.cellsOf e)))
  | some (.struct fs)=>as.length=P.cellsOf t∧∀ (j:Nat) (f:Field),fs[j]?=some f→IsA P m n f.type ((as.drop f.offset).take (P.cellsOf f.type))
  | _=>False
theorem IsA.mono{P:Program} {m:Mem X} (m2:Mem X):∀ {n:Nat} {t:TypeId} {as:List AV},IsA P m n t as→IsA P (m++m2) n t as
 | 0,_,_,h=>h
 | n+1,t,as,h=>by
  unfold IsA at h ⊢
  split at h
  ·exact h
  ·exact h
  ·rcases h with h|⟨i,len,cap,h1,hi,h2,h3,h4⟩
   ·exact .inl h
   ·refine .inr ⟨i,len,cap,h1,by simp;omega,h2,h3,fun hl=>?_⟩
    obtain⟨l,h5,h6,h7⟩:=h4 hl
    exact⟨l,by rw[List.getElem?_append_left hi];exact h5,h6,fun k hk=>(h7 k hk).mono m2⟩
  ·exact⟨h.1,fun j f hf=>(h.2 j f hf).mono m2⟩
  ·exact h
def fieldsOk(P:Program):Nat→List Field→Option Nat
 | o,[]=>some o
 | o,f :: fs=>if f.offset=o then fieldsOk P (o+P.cellsOf f.type) fs else none
def tyOk(P:Program):Nat→TypeId→Bool
 | 0,_=>false
 | n+1,t =>
  match P.underlying t with
  | some .bool=>true
  | some (.int _)=>true
  | some (.slice e)=>decide (0 < P.cellsOf e) && tyOk P n e
  | some (.struct fs)=>decide (fieldsOk P 0 fs.toList=some (P.cellsOf t)) && fs.toList.all (fun f=>tyOk P n f.type)
  | _=>false
variable {A:AbsSem X} {num:Nat→Nat} {P:Program} {H:Type} {enc:TypeId × Value→H}
abbrev nof:Nat→Prop:=fun _=>False
theorem sim_row{μ:Mu} {m:Mem X} {Hp:Array Obj} (h:Sim A num nof μ m Hp) (p:Pl) (ch:Chunk X) (hc:∀ own,ChunkOk A num μ nof own p Hp ch):Sim A num nof (fun i=>if i=m.length then some p else μ i) (m++[ch]) Hp∧∀ i q,μ i=some q→(fun i=>if i=m.length then some p else μ i) i=some q:=by
 obtain⟨own,hs⟩:=h
 have hm:∀ i q,μ i=some q→(fun i=>if i=m.length then some p else μ i) i=some q:=by
  intro i q hq
  have:i < m.length:=by
   rcases Nat.lt_or_ge i m.length with h|h
   ·exact h
   ·rw[hs.new i h] at hq;cases hq
  simp only[show ¬ i=m.length by omega,if_false];exact hq
 refine⟨⟨own,hs.isF,hs.lt,fun i hi=>?_,fun i c q hi hq=>?_⟩,hm⟩
 ·simp only[List.length_append,List.length_cons,List.length_nil] at hi
  simp only[show ¬ i=m.length by omega,if_false]
  exact hs.new i (by omega)
 ·by_cases him:i=m.length
  ·subst him
   simp only[if_true,Option.some.injEq] at hq
   subst hq
   rw[List.getElem?_append_right (Nat.le_refl _)] at hi
   simp only[Nat.sub_self,List.getElem?_cons_zero,Option.some.injEq] at hi
   subst hi
   exact(hc _).keep hm (fun _=>Iff.rfl) (fun _ _=>rfl) (fun _ _ _=>⟨rfl,fun h=>h⟩)
  ·simp only[him,if_false] at hq
   have hlt:i < m.length:=by
    rcases Nat.lt_or_ge i m.length with h|h
    ·exact h
    ·rw[hs.new i h] at hq;cases hq
   rw[List.getElem?_append_left hlt] at hi
   exact(hs.ok i c q hi hq).keep hm (fun _=>Iff.rfl) (fun _ _=>rfl) (fun _ _ _=>⟨rfl,fun h=>h⟩)
theorem cells?_inv {w:World} {b:Nat} {a:Addr} {n:Nat} {cs:List Value} (h:w.cells? b a n=some cs):cs.length=n∧∀ i,i < n→w.cell? (a.add i)=cs[i]?:=by
 unfold World.cells? at h
 split at h
 ·exact⟨by simpa using mapM_some_length h,fun i hi=>by
   have:=mapM_some_get h i i (by simp[hi])
   exact this⟩
 ·cases h
theorem cell?_inv {w:World} {a:Addr} {v:Value} (h:w.cell? a=some v):a.spot=none∧∃ arr T fr,w.heap[a.block]?=some (.cells arr T fr)∧arr[a.off]?=some v:=by
 unfold World.cell? at h
 split at h
 ·rename_i c T fr hc
  split at h
  ·cases h
  ·rename_i hs
   exact⟨by simpa using hs,c,T,fr,hc,h⟩
 ·cases h
theorem add_block(a:Addr) (n:Nat):(a.add n).block=a.block:=by unfold Addr.add;split<;>rfl
theorem add_off(a:Addr) (n:Nat):(a.add n).off=a.off+n:=by unfold Addr.add;split<;>simp_all
theorem read_rows{w:World} {a:Addr} {e:TypeId} {n n' len:Nat} {spare:Nat→Bool} {held:Bool}
  (ih:∀ {cs:List Value} {x:DataW H × List MemPlace},DataW.trod enc P w 0 spare held n e cs=some x→∀ (μ:Mu) (m:Mem X),Sim A num nof μ m w.heap →
   ∃ (μ':Mu) (m2:Mem X) (as:List AV),Sim A num nof μ' (m++m2) w.heap∧(∀ i q,μ i=some q→μ' i=some q)∧VRL num μ' as cs∧IsA P (m++m2) n' e as)
  {arr:Array Value} {T:TypeId} {fr:Nat × Nat} (harr:w.heap[a.block]?=some (.cells arr T fr)) (hsz:0 < P.cellsOf e)
  (hel:∀ i,i < len→∃ cs y,w.cells? 0 (a.add (i * P.cellsOf e)) (P.cellsOf e)=some cs∧DataW.trod enc P w 0 spare held n e cs=some y) (μ:Mu) (m:Mem X) (hS:Sim A num nof μ m w.heap) :
  ∀ j,j≤len→∃ (μ':Mu) (m2:Mem X) (l:List AV),Sim A num nof μ' (m++m2) w.heap∧(∀ i q,μ i=some q→μ' i=some q)∧l.length=j * P.cellsOf e∧(0 < j→a.off+j * P.cellsOf e≤arr.size) ∧
   (∀ (o:Nat) (b:AV),l[o]?=some b→∃ v,arr[a.off+o]?=some v∧VR num μ' b v)∧∀ k,k < j→IsA P (m++m2) n' e ((l.drop (k * P.cellsOf e)).take (P.cellsOf e)):=by
 intro j
 induction j with
 | zero=>intro _;exact⟨μ,[],[],by simpa using hS,fun _ _ h=>h,by simp,fun h=>absurd h (Nat.lt_irrefl _),fun o b h=>by simp at h,fun k h=>absurd h (Nat.not_lt_zero _)⟩
 | succ j ihj =>
  intro hj
  obtain⟨μ1,m1,l,h1,h2,h3,h4,h5,h6⟩:=ihj (by omega)
  obtain⟨cs,y,hc,hy⟩:=hel j (by omega)
  obtain⟨hcl,hcg⟩:=cells?_inv hc
  obtain⟨μ2,m2,as,g1,g2,g3,g4⟩:=ih hy μ1 (m++m1) h1
  have hal:as.length=P.cellsOf e:=g3.1.trans hcl
  have hget:∀ q,q < P.cellsOf e→∃ v,cs[q]?=some v∧arr[a.off+(j * P.cellsOf e+q)]?=some v:=by
   intro q hq
   have hv:=List.getElem?_eq_getElem (show q < cs.length by omega)
   have:=(hcg q hq).trans hv
   obtain⟨_,arr',T',fr',k1,k2⟩:=cell?_inv this
   rw[add_block,add_block,harr] at k1
   simp only[Option.some.injEq,Obj.cells.injEq] at k1
   rw[add_off,add_off,← k1.1] at k2
   exact⟨_,hv,by rw[← k2];congr 1;omega⟩
  refine⟨μ2,m1++m2,l++as,by rw[← List.append_assoc];exact g1,fun i q h=>g2 i q (h2 i q h),by rw[List.length_append,h3,hal,Nat.succ_mul],fun _=>?_,?_,?_⟩
  ·obtain⟨v,_,hv⟩:=hget (P.cellsOf e - 1) (by omega)
   have:=(Array.getElem?_eq_some_iff.1 hv).1
   rw[Nat.succ_mul]
   omega
  ·intro o b hb
   by_cases ho:o < l.length
   ·rw[List.getElem?_append_left ho] at hb
    obtain⟨v,e1,e2⟩:=h5 o b hb
    exact⟨v,e1,e2.mono g2⟩
   ·rw[List.getElem?_append_right (by omega)] at hb
    have hq:o - l.length < P.cellsOf e:=by have:=(List.getElem?_eq_some_iff.1 hb).1;omega
    obtain⟨v,e1,e2⟩:=hget _ hq
    refine⟨v,?_,g3.2 _ _ _ hb e1⟩
    rw[← e2];congr 1;omega
  ·intro k hk
   by_cases hkj:k < j
   ·have:((l++as).drop (k * P.cellsOf e)).take (P.cellsOf e)=(l.drop (k * P.cellsOf e)).take (P.cellsOf e):=by
     have hle:k * P.cellsOf e+P.cellsOf e≤l.length:=by rw[h3,← Nat.succ_mul];exact Nat.mul_le_mul_right _ hkj
     rw[List.drop_append_of_le_length (by omega),List.take_append_of_le_length (by simp;omega)]
    rw[this,← List.append_assoc]
    exact(h6 k hkj).mono m2
   ·have hkj:k=j:=by omega
    subst hkj
    rw[← h3,List.drop_left,← hal,List.take_length,← List.append_assoc]
    exact g4
theorem read_fields{w:World} {n n':Nat} {spare:Nat→Bool} {held:Bool}
  (ih:∀ {t:TypeId} {cs:List Value} {x:DataW H × List MemPlace},tyOk P n' t=true→DataW.trod enc P w 0 spare held n t cs=some x→∀ (μ:Mu) (m:Mem X),Sim A num nof μ m w.heap →
   ∃ (μ':Mu) (m2:Mem X) (as:List AV),Sim A num nof μ' (m++m2) w.heap∧(∀ i q,μ i=some q→μ' i=some q)∧VRL num μ' as cs∧IsA P (m++m2) n' t as) (cs:List Value) :
  ∀ (fs:List Field) (o o':Nat),fieldsOk P o fs=some o'→o'=cs.length→fs.all (fun f=>tyOk P n' f.type)=true →
   (∀ f,f ∈ fs→∃ x,DataW.trod enc P w 0 spare held n f.type ((cs.drop f.offset).take (P.cellsOf f.type))=some x)→∀ (μ:Mu) (m:Mem X),Sim A num nof μ m w.heap →
   ∃ (μ':Mu) (m2:Mem X) (as:List AV),Sim A num nof μ' (m++m2) w.heap∧(∀ i q,μ i=some q→μ' i=some q)∧VRL num μ' as (cs.drop o)∧o≤cs.length∧∀ f,f ∈ fs→o≤f.offset∧IsA P (m++m2) n' f.type ((as.drop (f.offset - o)).take (P.cellsOf f.type))
 | [],o,o',ho,ho',_,_,μ,m,hS=>by
  simp only[fieldsOk,Option.some.injEq] at ho
  subst ho
  exact⟨μ,[],[],by simpa using hS,fun _ _ h=>h,by rw[ho',List.drop_length];exact VRL.nil,by omega,fun f hf=>by simp at hf⟩
 | f :: fs,o,o',ho,ho',hall,hx,μ,m,hS=>by
  simp only[fieldsOk] at ho
  split at ho
  ·rename_i hfo
   simp only[List.all_cons,Bool.and_eq_true] at hall
   obtain⟨x,hx1⟩:=hx f (by simp)
   obtain⟨μ1,m1,as1,h1,h2,h3,h4⟩:=ih hall.1 hx1 μ m hS
   obtain⟨μ2,m2,as2,g1,g2,g3,g4,g5⟩:=read_fields ih cs fs _ o' ho ho' hall.2 (fun f hf=>hx f (by simp[hf])) μ1 (m++m1) h1
   have hl1:as1.length=P.cellsOf f.type:=by
    rw[h3.1,List.length_take,List.length_drop,hfo];omega
   refine⟨μ2,m1++m2,as1++as2,by rw[← List.append_assoc];exact g1,fun i q h=>g2 i q (h2 i q h),?_,by omega,fun f' hf'=>?_⟩
   ·have:cs.drop o=(cs.drop o).take (P.cellsOf f.type)++cs.drop (o+P.cellsOf f.type):=by
     rw[← List.drop_drop];exact(List.take_append_drop _ _).symm
    rw[this]
    rw[hfo] at h3
    exact(h3.mono g2).append g3
   ·simp only[List.mem_cons] at hf'
    rcases hf' with rfl|hf'
    ·refine⟨by omega,?_⟩
     rw[hfo,Nat.sub_self,List.drop_zero,List.take_left' hl1,← List.append_assoc]
     exact h4.mono m2
    ·obtain⟨k1,k2⟩:=g5 f' hf'
     refine⟨by omega,?_⟩
     have:(as1++as2).drop (f'.offset - o)=as2.drop (f'.offset - (o+P.cellsOf f.type)):=by
      rw[List.drop_append,List.drop_of_length_le (by omega),List.nil_append];congr 1;omega
     rw[this,← List.append_assoc]
     exact k2
  ·cases ho
theorem read{w:World} {spare:Nat→Bool} {held:Bool} (hsp:∀ b,spare b=true):∀ (n':Nat) {n:Nat} {t:TypeId} {cs:List Value} {x:DataW H × List MemPlace},tyOk P n' t=true→DataW.trod enc P w 0 spare held n t cs=some x→∀ (μ:Mu) (m:Mem X),Sim A num nof μ m w.heap →
   ∃ (μ':Mu) (m2:Mem X) (as:List AV),Sim A num nof μ' (m++m2) w.heap∧(∀ i q,μ i=some q→μ' i=some q)∧VRL num μ' as cs∧IsA P (m++m2) n' t as
 | 0,_,_,_,_,h,_,_,_,_=>by simp[tyOk] at h
 | n'+1,n,t,cs,x,h,ht,μ,m,hS=>by
  unfold tyOk at h
  split at h
  ·rename_i hu
   obtain⟨b,rfl,_⟩:=DataW.trod_bool hu ht
   exact⟨μ,[],[.bool b],by simpa using hS,fun _ _ h=>h,VRL.cons (.bool b) VRL.nil,by unfold IsA;rw[hu];exact⟨b,rfl⟩⟩
  ·rename_i k hu
   obtain⟨z,rfl,_,hw⟩:=DataW.trod_int hu ht
   exact⟨μ,[],[.int k z],by simpa using hS,fun _ _ h=>h,VRL.cons (.int k z) VRL.nil,by unfold IsA;rw[hu];exact⟨z,rfl,hw⟩⟩
  ·rename_i e hu
   simp only[Bool.and_eq_true,decide_eq_true_eq] at h
   rcases DataW.trod_slice hu ht with⟨rfl,_⟩|⟨a,len,cap,elems,rest,n2,rfl,rfl,_,_,hlc,hcm,hel,he,hr,_⟩
   ·exact⟨μ,[],[.nils],by simpa using hS,fun _ _ h=>h,VRL.cons .nils VRL.nil,by unfold IsA;rw[hu];exact .inl rfl⟩
   ·obtain⟨hrl,hre⟩:=hr (hsp _)
    have hel':∀ i,i < len→∃ cs y,w.cells? 0 (a.add (i * P.cellsOf e)) (P.cellsOf e)=some cs∧DataW.trod enc P w 0 spare held n2 e cs=some y:=by
     intro i hi
     have:=he i hi
     rw[List.getElem?_eq_getElem (show i < elems.length by omega)] at this
     simp only[Option.bind_eq_some_iff] at this
     obtain⟨cs,h1,h2⟩:=this
     exact⟨cs,_,h1,h2⟩
    have hspot:0 < cap→a.spot=none:=by
     intro hc
     by_cases hl:0 < len
     ·obtain⟨cs,y,h1,_⟩:=hel' 0 hl
      obtain⟨hcl,hg⟩:=cells?_inv h1
      have:=(hg 0 h.1).trans (List.getElem?_eq_getElem (show 0 < cs.length by omega))
      have:=(cell?_inv this).1
      simpa [Addr.add] using this
     ·have:=hre 0 (by omega)
      rw[List.getElem?_eq_getElem (show 0 < rest.length by omega)] at this
      simp only[Option.bind_eq_some_iff] at this
      obtain⟨cs,h1,_⟩:=this
      obtain⟨hcl,hg⟩:=cells?_inv h1
      have:=(hg 0 h.1).trans (List.getElem?_eq_getElem (show 0 < cs.length by omega))
      have:=(cell?_inv this).1
      have hl0:len=0:=by omega
      subst hl0
      simpa [Addr.add] using this
    by_cases hl:0 < len
    ·obtain⟨cs0,y0,h1,_⟩:=hel' 0 hl
     obtain⟨hcl,hg⟩:=cells?_inv h1
     have h0:=(hg 0 h.1).trans (List.getElem?_eq_getElem (show 0 < cs0.length by omega))
     obtain⟨_,arr,T,fr,harr,_⟩:=cell?_inv h0
     rw[add_block,add_block] at harr
     obtain⟨μ1,m1,l,g1,g2,g3,g4,g5,g6⟩:=read_rows (A:=A) (num:=num) (n':=n') (fun hy μ m hS=>read hsp n' h.2 hy μ m hS) harr h.1 hel' μ m hS len (Nat.le_refl _)
     obtain⟨k1,k2⟩:=sim_row g1 ⟨a.block,a.off,len * P.cellsOf e,P.cellsOf e⟩ (.cells (P.cellsOf e) true l) (fun own=>⟨arr,T,fr,rfl,harr,⟨by rw[g3];exact Nat.le_refl _,g4 hl,g5⟩,fun _ h=>h,fun h=>by cases h⟩)
     refine⟨_,m1++[.cells (P.cellsOf e) true l],[.sl (m++m1).length 0 len (some cap)],by rw[← List.append_assoc];exact k1,fun i q hq=>k2 i q (g2 i q hq),VRL.cons ?_ VRL.nil,?_⟩
     ·have:=VR.sl (num:=num) (μ:=fun i=>if i=(m++m1).length then some ⟨a.block,a.off,len * P.cellsOf e,P.cellsOf e⟩ else μ1 i) (i:=(m++m1).length) (o:=0) (len:=len) (cap:=cap) (p:=⟨a.block,a.off,len * P.cellsOf e,P.cellsOf e⟩) (by simp)
      have ha:a=⟨a.block,a.off,none⟩:=by obtain⟨b,o,s⟩:=a;simp only[Addr.mk.injEq,true_and];exact hspot (by omega)
      rw[ha];exact this
     ·unfold IsA;rw[hu]
      refine .inr ⟨_,len,cap,rfl,by simp,hlc,hcm,fun _=>⟨l,?_,g3,fun k hk=>?_⟩⟩
      ·rw[← List.append_assoc,List.getElem?_append_right (Nat.le_refl _)];simp
      ·rw[← List.append_assoc];exact(g6 k hk).mono _
    ·have hl0:len=0:=by omega
     subst hl0
     obtain⟨k1,k2⟩:=sim_row hS ⟨a.block,a.off,0,P.cellsOf e⟩ (.dead:Chunk X) (fun own=>trivial)
     refine⟨_,[.dead],[.sl m.length 0 0 (some cap)],k1,k2,VRL.cons ?_ VRL.nil,?_⟩
     ·by_cases hc:0 < cap
      ·have:=VR.sl (num:=num) (μ:=fun i=>if i=m.length then some ⟨a.block,a.off,0,P.cellsOf e⟩ else μ i) (i:=m.length) (o:=0) (len:=0) (cap:=cap) (p:=⟨a.block,a.off,0,P.cellsOf e⟩) (by simp)
       have ha:a=⟨a.block,a.off,none⟩:=by obtain⟨b,o,s⟩:=a;simp only[Addr.mk.injEq,true_and];exact hspot hc
       rw[ha];exact this
      ·have hc0:cap=0:=by omega
       subst hc0
       exact VR.slz0 (p:=⟨a.block,a.off,0,P.cellsOf e⟩) (by simp)
     ·unfold IsA;rw[hu]
      exact .inr ⟨_,0,cap,rfl,by simp,hlc,hcm,fun h=>absurd h (Nat.lt_irrefl _)⟩
  ·rename_i fs hu
   simp only[Bool.and_eq_true,decide_eq_true_eq] at h
   obtain⟨xs,n2,rfl,rfl,hcl,hxl,hx⟩:=DataW.trod_struct hu ht
   obtain⟨μ1,m1,as,g1,g2,g3,_,g5⟩:=read_fields (A:=A) (num:=num) (n':=n') (fun hk hy μ m hS=>read hsp n' hk hy μ m hS) cs fs.toList 0 (P.cellsOf t) h.1 hcl.symm h.2 (fun f hf=>by
    obtain⟨i,hi⟩:=List.mem_iff_getElem?.1 hf
    have:=hx i f (by simpa using hi)
    have hil:i < xs.length:=by
     have:=(List.getElem?_eq_some_iff.1 hi).1
     simp at this;omega
    exact⟨xs[i],this.trans (List.getElem?_eq_getElem hil)⟩) μ m hS
   refine⟨μ1,m1,as,g1,g2,by simpa using g3,?_⟩
   unfold IsA;rw[hu]
   refine⟨by rw[g3.1,List.drop_zero,hcl],fun j f hf=>?_⟩
   have:=(g5 f (by
    have hj:=List.getElem?_eq_some_iff.1 (show fs.toList[j]?=some f by simpa using hf)
    rw[← hj.2];exact List.getElem_mem _)).2
   simpa using this
  ·cases h
def IsV(P:Program) (m:Mem X) (n:Nat) (t:TypeId) (a:AV):Prop :=
 match P.underlying t with
 | some (.struct _)=>∃ cs,a = .agg cs∧IsA P m n t cs
 | _=>IsA P m n t [a]
theorem IsV.mono{m:Mem X} (m2:Mem X) {n:Nat} {t:TypeId} {a:AV} (h:IsV P m n t a):IsV P (m++m2) n t a:=by
 unfold IsV at h ⊢
 split at h
 ·obtain⟨cs,h1,h2⟩:=h;exact⟨cs,h1,h2.mono m2⟩
 ·exact IsA.mono m2 h
def IsVs(P:Program) (m:Mem X) (n:Nat):List TypeId→List AV→Prop
 | [],as=>as=[]
 | t :: ts,as=>∃ a as',as=a :: as'∧IsV P m n t a∧IsVs P m n ts as'
theorem IsVs.mono{m:Mem X} (m2:Mem X) {n:Nat}:∀ {ts:List TypeId} {as:List AV},IsVs P m n ts as→IsVs P (m++m2) n ts as
 | [],_,h=>h
 | _ :: _,_,⟨a,as',h1,h2,h3⟩=>⟨a,as',h1,h2.mono m2,h3.mono m2⟩
theorem read_all{w:World} {spare:Nat→Bool} {held:Bool} {base:Nat} {r:Reach} (hsp:∀ b,spare b=true) (n:Nat):∀ {ts:List TypeId} {vs:List Value} {ds:List (DataW H)} {p:List MemPlace},ts.all (tyOk P n)=true →
  DataW.TrodAll enc P w 0 spare held ts vs ds p→(∀ (j:Nat) t v,ts[j]?=some t→vs[j]?=some v→Value.okWide P w r base t v)→∀ (μ:Mu) (m:Mem X),Sim A num nof μ m w.heap →
  ∃ (μ':Mu) (m2:Mem X) (as:List AV),Sim A num nof μ' (m++m2) w.heap∧(∀ i q,μ i=some q→μ' i=some q)∧VRL num μ' as vs∧IsVs P (m++m2) n ts as∧ds.length=ts.length
 | [],vs,ds,p,_,h,_,μ,m,hS=>by
  obtain⟨rfl,rfl,rfl⟩:=trodAll_nil h
  exact⟨μ,[],[],by simpa using hS,fun _ _ h=>h,VRL.nil,rfl,rfl⟩
 | t :: ts,vs,ds,p,hok,h,hval,μ,m,hS=>by
  obtain⟨v,vs',d,ds',p1,q1,rfl,rfl,rfl,⟨fuel,h1⟩,h2⟩:=trodAll_cons h
  simp only[List.all_cons,Bool.and_eq_true] at hok
  obtain⟨μ1,m1,as1,g1,g2,g3,g4⟩:=read (A:=A) (num:=num) hsp n hok.1 h1 μ m hS
  obtain⟨μ2,m2,as2,k1,k2,k3,k4,k5⟩:=read_all hsp n hok.2 h2 (fun j t v ht hv=>hval (j+1) t v (by simpa using ht) (by simpa using hv)) μ1 (m++m1) g1
  have hv:=hval 0 t v rfl rfl
  have:∃ a,VR num μ1 a v∧IsV P (m++m1) n t a:=by
   cases n with
   | zero=>simp[tyOk] at hok
   | succ n =>
    unfold IsV
    split
    ·rename_i fs hu
     obtain⟨cs,rfl,_⟩:=okWide_struct hu hv
     exact⟨.agg as1,by simpa [Value.cells] using VR.agg_of g3,as1,rfl,g4⟩
    ·rename_i hu
     have hone:∃ a,as1=[a]:=by
      unfold IsA at g4
      split at g4
      ·obtain⟨b,rfl⟩:=g4;exact⟨_,rfl⟩
      ·obtain⟨z,rfl,_⟩:=g4;exact⟨_,rfl⟩
      ·rcases g4 with rfl|⟨i,len,cap,rfl,_⟩<;>exact⟨_,rfl⟩
      ·rename_i fs hu';exact absurd hu' (hu fs)
      ·exact g4.elim
     obtain⟨a,rfl⟩:=hone
     refine⟨a,?_,g4⟩
     have hl:=g3.1
     cases v with
     | agg cs =>
      exfalso
      have ho:Cell.okWide P w r base t (.agg cs):=by
       have:=hv
       unfold Value.okWide at this
       split at this
       ·rename_i fs hu';exact absurd hu' (hu fs)
       ·rename_i hu'
        unfold tyOk at hok
        rw[hu'] at hok
        simp at hok
       ·exact this
      unfold IsA at g4
      split at g4
      ·rename_i hu';simp[Cell.okWide,hu',Cell.ok] at ho
      ·rename_i k hu';simp[Cell.okWide,hu',Cell.ok] at ho
      ·rename_i e hu';simp[Cell.okWide,hu',Cell.ok] at ho
      ·rename_i fs hu';exact hu fs hu'
      ·exact g4
     | _=>exact g3.2 0 _ _ rfl rfl
  obtain⟨a,ha,hai⟩:=this
  refine⟨μ2,m1++m2,a :: as2,by rw[← List.append_assoc];exact k1,fun i q h=>k2 i q (g2 i q h),VRL.cons (ha.mono k2) k3,⟨a,as2,rfl,?_,?_⟩,by simp[k5]⟩
  ·rw[← List.append_assoc];exact hai.mono m2
  ·rw[← List.append_assoc];exact k4
theorem law_body{k:FuncId} {f:Func} {s:ChangeSpec} {F:AFun X} {tb:TypeId} (n:Nat) (hF:Sound A num P k F) (hvars:s.vars=[]) (hfn:∀ ds:List (DataW H),ds.length=f.params.toList.length→s.fn H ds={ results:=[.lit (.bool true)],args:=ds })
  (hres:f.resultTypes=#[tb]) (htb:P.underlying tb=some .bool) (hl:laidOutB P=true) (hr:f.params.toList.all (fun t=>P.readableRec t && decide (t < P.types.size) && tyOk P n t)=true)
  (hrun:∀ (m:Mem X) as,IsVs P m n f.params.toList as→∃ m',F as m=some (.bool true,m'))
  (W:World) (base:Nat) (args:Array Value) (ds gs:List (DataW H)) (before:List MemPlace) (hval:∀ (j:Nat) t v,f.params[j]?=some t→args[j]?=some v→Value.okWide P W .any base t v)
  (hW:DataW.Whole enc P f.params.toList s.vars false W args.toList ds gs before):Calls P k args W fun e W'=>∃ v,e = .returned v∧s.post enc P f false true false false W args v W':=by
 have hW':=hW
 obtain⟨p,q,hA,hV,rfl,hfz,hnd⟩:=hW
 rw[hvars] at hV
 obtain⟨rfl,rfl⟩:=trodVars_none hV
 simp only[List.all_eq_true,Bool.and_eq_true,decide_eq_true_eq] at hr
 obtain⟨μ,m,as,h1,_,h3,h4,h5⟩:=read_all (A:=A) (num:=num) (fun _=>rfl) n (by simp only[List.all_eq_true];exact fun t ht=>(hr t ht).2) hA (fun j t v ht hv=>hval j t v (by simpa using ht) (by simpa using hv)) (fun _=>none) [] (sim_nil W.heap)
 obtain⟨m',hm'⟩:=hrun _ _ h4
 have:=law_calls hF h1 h3 hm'
 simp only[Array.toArray_toList] at this
 refine this.mono fun e W' ⟨he,hb⟩=>?_
 subst he
 exact⟨_,rfl,law_post (tb:=tb) hW' hvars (by rw[List.append_nil];exact hfn ds h5) hres htb hl (fun t ht=>(hr t ht).1) hb⟩
section
variable {P:Program} {m:Mem X} {n:Nat}
theorem IsA.intOf{t:TypeId} {as:List AV} (h:IsA P m (n+1) t as) {k:IntKind} (hk:P.underlying t=some (.int k)):∃ z,as=[.int k z]∧(Lit.int k z).wf=true:=by
 unfold IsA at h;rw[hk] at h;exact h
theorem IsA.sliceOf{t e:TypeId} {as:List AV} (h:IsA P m (n+1) t as) (hk:P.underlying t=some (.slice e)):as=[.nils]∨∃ i len cap,as=[.sl i 0 len (some cap)]∧i < m.length∧len≤cap∧cap≤maxLen ∧
    (0 < len→∃ l,m[i]?=some (.cells (P.cellsOf e) true l)∧l.length=len * P.cellsOf e∧∀ k,k < len→IsA P m n e ((l.drop (k * P.cellsOf e)).take (P.cellsOf e))):=by
 unfold IsA at h;rw[hk] at h;exact h
theorem IsV.sliceV{t e:TypeId} {a:AV} (h:IsV P m (n+1) t a) (hk:P.underlying t=some (.slice e)):a = .nils∨∃ i len cap,a = .sl i 0 len (some cap)∧i < m.length∧len≤cap∧cap≤maxLen ∧
    (0 < len→∃ l,m[i]?=some (.cells (P.cellsOf e) true l)∧l.length=len * P.cellsOf e∧∀ k,k < len→IsA P m n e ((l.drop (k * P.cellsOf e)).take (P.cellsOf e))):=by
 unfold IsV at h;rw[hk] at h
 have:=IsA.sliceOf h hk
 simpa using this
end
theorem known_am{G G':List (Nat × AFun X)} {g:Nat} {F:AFn} (hc:callOk P (num g)=true) (hK:Known A num P G') (hs:Sound A num P (num g) (amFunc G' F)) (hG:Known A num P G):Known A num P ((g,amFunc G' F) :: G) :=
 known_cons hc hs (amFunc_mono (fun g f h=>(hK g f h).2.2) F) hG
end
end Go.Am
end
section
namespace Go.Am.F15
open Go.Am.F10 (iC iC_at iC_len iC_one iC_app SI SI.val rows_arg)
open Go.ChangeShapes Go.WideShapes Go.ChangeAt Go.RowKit
variable {X:Type}
theorem flat_int(ws:List Int):ws.flatMap (fun x=>[AV.int .i64 x])=iC ws:=by
 induction ws with
 | nil=>rfl
 | cons a ws ih=>rw[List.flatMap_cons,ih];rfl
theorem ints_arg{m:Mem X} {i len cap:Nat} (hl:0 < len→∃ l,m[i]?=some (.cells 1 true l)∧l.length=len * 1∧∀ k,k < len→∃ z:Int,(l.drop (k * 1)).take 1=[.int .i64 z]):∃ l:List Int,SI m false l (.sl i 0 len (some cap)):=by
 obtain⟨ws,h⟩:=rows_arg (f:=fun x:Int=>[AV.int .i64 x]) (sz:=1) (m:=m) (i:=i) (len:=len) (cap:=cap) (fun _=>rfl) hl
 rw[flat_int] at h
 exact⟨ws,h⟩
theorem _root_.Go.Am.IsA.sliceAt{P:Program} {m:Mem X} {n:Nat} {t:TypeId} {as:List AV} (h:IsA P m (n+2) t as) {fs:Array Field} (hu:P.underlying t=some (.struct fs)) (j:Nat) {f:Field} (hf:fs[j]?=some f) {e:TypeId} (hk:P.underlying f.type=some (.slice e)) (h1:P.cellsOf f.type=1) :
  ∃ v,as[f.offset]?=some v∧(v = .nils∨∃ i len cap,v = .sl i 0 len (some cap)∧(0 < len→∃ l,m[i]?=some (.cells (P.cellsOf e) true l)∧l.length=len * P.cellsOf e∧∀ k,k < len→IsA P m n e ((l.drop (k * P.cellsOf e)).take (P.cellsOf e)))):=by
 unfold IsA at h;rw[hu] at h
 have:=h.2 j f hf
 unfold IsA at this;rw[hk,h1] at this
 have key:∀ v,(as.drop f.offset).take 1=[v]→as[f.offset]?=some v:=fun v hv=>by
  have:((as.drop f.offset).take 1)[0]?=some v:=by rw[hv];rfl
  simpa using this
 rcases this with h|⟨i,len,cap,h,_,_,_,hl⟩
 ·exact⟨_,key _ h,.inl rfl⟩
 ·exact⟨_,key _ h,.inr ⟨i,len,cap,rfl,hl⟩⟩
end Go.Am.F15
end
section
namespace Go.Am.F15
open Go.Am.F10 (iC iC_at iC_len iC_one iC_app SI SI.val same_run Cf cfC rightP right_run Nx si_take si_drop si_row cutA dropA madeC made_eq pick_eq)
open Go.Am.F06 (sqN sqT)
variable {X:Type}
def LV(m0 m:Mem X) (xs:List Int) (v:AV):Prop:=SI m true xs v∧(v = .nils∨∃ q o n l,v = .sl q o n none∧m[q]?=some (.cells 1 false l)∧m0.length≤q∧q < m.length∧o+n≤l.length)
theorem LV.nx{m0 m:Mem X} {xs:List Int} {v:AV} (h:LV m0 m xs v):Nx m v:=by
 rcases h.2 with h|⟨q,o,n,l,h1,h2,_⟩
 ·exact .inl h
 ·exact .inr ⟨q,o,n,l,h1,h2⟩
theorem LV.kk{m0 m m':Mem X} {xs:List Int} {v:AV} (h:LV m0 m xs v) (k:KK m m'):LV m0 m' xs v:=by
 refine⟨si_kk h.1 k,?_⟩
 rcases h.2 with h|⟨q,o,n,l,h1,h2,h3,h4⟩
 ·exact .inl h
 ·exact .inr ⟨q,o,n,l,h1,k.2 q 1 false l h2 (by decide) (by decide),h3,Nat.lt_of_lt_of_le h4.1 k.1,h4.2⟩
theorem LV.drop{m0 m:Mem X} {xs:List Int} {v:AV} (h:LV m0 m xs v) {k:Nat} (hk:k≤xs.length):LV m0 m (xs.drop k) (dropA v k):=by
 refine⟨(si_drop h.1 h.nx hk).2,?_⟩
 rcases h.2 with rfl|⟨q,o,n,l,rfl,h2,h3,h4⟩
 ·exact .inl rfl
 ·have hn:n=xs.length:=by have:=h.1.len;simp only[lenA,Option.some.injEq] at this;exact this
  exact .inr ⟨q,o+k,n - k,l,rfl,h2,h3,h4.1,by omega⟩
theorem lv_push{m0 m:Mem X} {w:Bool} {xs ys:List Int} {v y:AV} (h:LV m0 m xs v) (hy:SI m w ys y) (hl:xs.length≤100000) (hl2:ys.length≤100000) (hm:m0.length≤m.length) :
  ∃ v' m',appendA 1 8 v y m=some (v',m')∧LV m0 m' (xs++ys) v'∧m.length≤m'.length∧(∀ k,k < m.length→(∀ l,m[k]?≠some (.cells 1 false l))∨k < m0.length→m'[k]?=m[k]?):=by
 have hr:=si_row hy
 have hlen:=hy.len
 have hxl:=h.1.len
 by_cases h0:ys.length=0
 ·have hx:ys=[]:=List.length_eq_zero_iff.1 h0
  subst hx
  rw[List.append_nil]
  refine⟨v,m,?_,h,Nat.le_refl _,fun _ _ _=>rfl⟩
  rcases h.2 with rfl|⟨q,o,n,l,rfl,_⟩<;>simp only[appendA,hlen,hr,List.length_nil,if_true]
 have new:∀ (v:AV) (M:Mem X),M.length=m.length→SI (M++[Chunk.cells 1 false (iC (xs++ys))]) true (xs++ys) (.sl m.length 0 (xs++ys).length none)∧LV m0 (M++[Chunk.cells 1 false (iC (xs++ys))]) (xs++ys) (.sl m.length 0 (xs++ys).length none):=fun v M hM=>by
  have hg:(M++[Chunk.cells 1 false (iC (xs++ys))])[m.length]?=some (.cells 1 false (iC (xs++ys))):=by rw[← hM];exact get_concat
  have hs:SI (M++[Chunk.cells 1 false (iC (xs++ys))]) true (xs++ys) (.sl m.length 0 (xs++ys).length none):=⟨by rw[iC_len];omega,.inr ⟨m.length,0,none,rfl,fun _=>⟨false,_,hg,by rw[List.drop_zero,List.take_of_length_le (by rw[iC_len];omega)],by rw[iC_len];omega,fun _=>rfl⟩⟩⟩
  exact⟨hs,hs,.inr ⟨m.length,0,_,_,rfl,hg,hm,by simp;omega,by rw[iC_len];omega⟩⟩
 rcases h.2 with rfl|⟨q,o,n,l,rfl,hq,hq1,hq2,hq3⟩
 ·have hxs:xs=[]:=List.length_eq_zero_iff.1 (by simp only[lenA,Option.some.injEq] at hxl;exact hxl.symm)
  subst hxs
  refine⟨.sl m.length 0 ys.length none,m++[.cells 1 false (iC ys)],?_,by simpa using (new .nils m rfl).2,by simp,fun k hk _=>List.getElem?_append_left hk⟩
  simp only[appendA,hlen,hr]
  rw[if_neg h0,if_pos ⟨by omega,by omega,iC_one _⟩]
 ·have hn:n=xs.length:=by simp only[lenA,Option.some.injEq] at hxl;exact hxl
  subst hn
  have hcut:(l.drop o).take (xs.length * 1)=iC xs:=by
   rcases Nat.eq_zero_or_pos xs.length with h|hp
   ·rw[List.length_eq_zero_iff.1 h];simp[iC]
   ·obtain⟨q',o',cap',ro,L,hv,h2,h3,h4,_⟩:=h.1.at hp
    injection hv with e1 e2 e3 e4
    subst e1;subst e2
    rw[hq] at h2;injection h2 with h2;injection h2 with _ _ h2;subst h2
    exact h3
  refine⟨.sl m.length 0 (xs.length+ys.length) none,m.set q .dead++[.cells 1 false (iC xs++iC ys)],?_,?_,by simp,fun k hk ho=>?_⟩
  ·simp only[appendA,hlen,hr,Am.getC,hq,hcut]
   rw[if_neg h0,if_pos]
   exact⟨trivial,by omega,by omega,by omega,by rw[List.all_append,iC_one,iC_one];rfl⟩
  ·have:=(new .nils (m.set q .dead) (by simp)).2
   simpa [iC] using this
  ·have hqk:q≠k:=by
    rintro rfl
    rcases ho with ho|ho
    ·exact ho _ hq
    ·omega
   rw[List.getElem?_append_left (by simpa using hk),List.getElem?_set_ne hqk]
theorem PO.ne1{m:Mem X} {P:Pla} {s:Pc} (H:PO m P s) {k:Nat} (hk:P.has k) (l:List AV):m[k]?≠some (.cells 1 false l):=fun e=>by
 have key:∀ {i j xs},LN m i j xs→k≠i:=fun hl hki=>by
  obtain⟨l,hc⟩:=hl.cell
  rw[hki,hc] at e;cases e
 have key2:∀ {i j xs},LN m i j xs→j≠some k:=fun hl hj=>by
  obtain⟨tb,c,ht⟩:=hl.tab hj
  rw[ht] at e;cases e
 rcases hk with hk|hk|hk|hk|hk|hk|hk
 ·rw[hk,H.gp] at e;cases e
 ·exact key H.l1 hk
 ·exact key H.l2 hk
 ·exact key H.l3 hk
 ·exact key2 H.l1 hk
 ·exact key2 H.l2 hk
 ·exact key2 H.l3 hk
theorem WP.push{m0 m m':Mem X} {p:Nat} {s:Pc} (H:WP m0 m p s) (h:∀ k,k < m.length→(∀ l,m[k]?≠some (.cells 1 false l))→m'[k]?=m[k]?):WP m0 m' p s:=by
 obtain⟨P,h1,h2,h3⟩:=H
 exact⟨P,h1,h2.at fun k hk=>h k (h2.lt hk) (h2.ne1 hk),h3⟩
theorem WP.nd{m0 m:Mem X} {p:Nat} {s:Pc} (H:WP m0 m p s):s.g.Nodup∧s.ps.Nodup∧s.ms.Nodup:=by
 obtain⟨P,_,H,_⟩:=H
 exact⟨H.l1.nodup,H.l2.nodup,H.l3.nodup⟩
end Go.Am.F15
end
section
namespace Go.Am.F15
open Go.Am.F10 (iC iC_at iC_len iC_one iC_app SI SI.val same_run Cf cfC rightP right_run Nx si_take si_drop si_row cutA dropA)
variable {X:Type}
theorem LV.keep{m0 m m':Mem X} {xs:List Int} {v:AV} (h:LV m0 m xs v) (k:Keep m m'):LV m0 m' xs v:=h.kk k.kk
theorem LV.up{m0 m1 m:Mem X} {xs:List Int} {v:AV} (h:LV m1 m xs v) (k:m0.length≤m1.length):LV m0 m xs v:=by
 refine⟨h.1,?_⟩
 rcases h.2 with h|⟨q,o,n,l,h1,h2,h3,h4⟩
 ·exact .inl h
 ·exact .inr ⟨q,o,n,l,h1,h2,Nat.le_trans k h3,h4⟩
theorem LV.nil{m0 m:Mem X}:LV m0 m [] .nils:=⟨Sl.nil,.inl rfl⟩
def Fit(v:AV):Prop:=∀ q o n c,v = .sl q o n (some c)→n≤c
theorem si_w{m:Mem X} {w:Bool} {xs:List Int} {v:AV} (h:SI m true xs v):SI m w xs v:=by
 cases w
 ·exact h.ro
 ·exact h
def Of(m:Mem X) (a:AV) (xs ys:List Int) (r:AV) (m':Mem X):Prop:=Keep m m'∧((r=a∧ys=xs)∨LV m m' ys r)
theorem Of.si{m m':Mem X} {w:Bool} {a r:AV} {xs ys:List Int} (h:Of m a xs ys r m') (ha:SI m w xs a):SI m' w ys r:=by
 obtain⟨hk,⟨rfl,rfl⟩|h⟩:=h
 ·exact ha.keep hk
 ·exact si_w h.1
theorem Of.nx{m m':Mem X} {a r:AV} {xs ys:List Int} (h:Of m a xs ys r m') (ha:Nx m a):Nx m' r:=by
 obtain⟨hk,⟨rfl,rfl⟩|h⟩:=h
 ·exact ha.keep hk
 ·exact h.nx
end Go.Am.F15
end
section
namespace Go.Am.F15
open Go.Am.F10 (iC iC_at iC_len iC_one iC_app SI SI.val same_run Cf cfC rightP right_run Nx si_take si_drop si_row cutA dropA)
variable {X:Type}
def K1(m m':Mem X):Prop:=m.length≤m'.length∧∀ (k:Nat) (ro:Bool) (L:List AV),m[k]?=some (Chunk.cells 1 ro L)→m'[k]?=some (Chunk.cells 1 ro L)
theorem K1.refl(m:Mem X):K1 m m:=⟨Nat.le_refl _,fun _ _ _ h=>h⟩
theorem K1.trans{m m' m'':Mem X} (h:K1 m m') (h':K1 m' m''):K1 m m'':=⟨Nat.le_trans h.1 h'.1,fun k ro L e=>h'.2 k ro L (h.2 k ro L e)⟩
theorem KK.k1{m m':Mem X} (h:KK m m'):K1 m m':=⟨h.1,fun k ro L e=>h.2 k 1 ro L e (by decide) (by decide)⟩
theorem _root_.Go.Am.Keep.k1{m m':Mem X} (h:Keep m m'):K1 m m':=h.kk.k1
theorem K1.set{m m':Mem X} (h:K1 m m') {q sz:Nat} {ro:Bool} {l:List AV} (hq:m'[q]?=some (.cells sz ro l)) (hs:sz≠1) (C:Chunk X):K1 m (m'.set q C):=by
 refine⟨by simpa using h.1,fun k ro L e=>?_⟩
 have:=h.2 k ro L e
 rw[List.getElem?_set_ne]
 ·exact this
 ·rintro rfl
  rw[hq] at this;injection this with this;injection this with this
  exact hs this
def RW(m:Mem X) (xs:List Int) (v:AV):Prop:=SI m true xs v∧Nx m v
theorem RW.k1{m m':Mem X} {xs:List Int} {v:AV} (h:RW m xs v) (k:K1 m m'):RW m' xs v:=by
 obtain⟨⟨h0,h⟩,hn⟩:=h
 refine⟨⟨h0,?_⟩,?_⟩
 ·rcases h with h|⟨q,o,cap,h1,h2⟩
  ·exact .inl h
  ·refine .inr ⟨q,o,cap,h1,fun hn=>?_⟩
   obtain⟨ro,L,h3,h4⟩:=h2 hn
   exact⟨ro,L,k.2 q ro L h3,h4⟩
 ·rcases hn with hn|⟨q,o,n,l,h1,h2⟩
  ·exact .inl hn
  ·exact .inr ⟨q,o,n,l,h1,k.2 q false l h2⟩
theorem LV.rw{m0 m:Mem X} {xs:List Int} {v:AV} (h:LV m0 m xs v):RW m xs v:=⟨h.1,h.nx⟩
theorem Of.rw{m m':Mem X} {a r:AV} {xs ys:List Int} (h:Of m a xs ys r m') (ha:RW m xs a):RW m' ys r:=⟨h.si ha.1,h.nx ha.2⟩
theorem RW.nil{m:Mem X}:RW m [] .nils:=⟨Sl.nil,.inl rfl⟩
def rC(c:Cf) (gv pv mv:AV) (spin:Int):List AV:=[.int .i64 c.n,.int .i64 c.q,.int .i64 c.g,.int .i64 c.m,.int .i64 c.t,.int .i64 c.s,gv,pv,mv,.int .i64 spin]
def RP(m:Mem X) (s:Pc) (v:AV):Prop:=∃ gv pv mv,v = .agg (rC s.c gv pv mv s.spin)∧RW m s.g gv∧RW m s.ps pv∧RW m s.ms mv
theorem RP.k1{m m':Mem X} {s:Pc} {v:AV} (h:RP m s v) (k:K1 m m'):RP m' s v:=by
 obtain⟨gv,pv,mv,h0,h1,h2,h3⟩:=h
 exact⟨gv,pv,mv,h0,h1.k1 k,h2.k1 k,h3.k1 k⟩
theorem Fit.one(q o:Nat):Fit (.sl q o 1 (some 1)):=fun _ _ _ _ e=>by injection e with _ _ e1 e2;injection e2 with e2;omega
section
variable {m:Mem X} {s:Pc} {v:AV}
end
end Go.Am.F15
end
section
namespace Go.Am.F15
open Go.Am.F10 (iC iC_at iC_len iC_one iC_app SI SI.val same_run Cf cfC rightP right_run Nx si_take si_drop si_row cutA dropA madeC made_eq pick_eq)
open Go.Am.F06 (sqN sqT)
variable {X:Type}
end Go.Am.F15
end
section
namespace Go.Am.F15
open Go.Am.F10 (iC iC_at iC_len iC_one iC_app SI SI.val same_run Cf cfC rightP right_run Nx si_take si_drop si_row cutA dropA)
variable {X:Type}
section
variable {m:Mem X} {s:Pc} {v:AV}
end
end Go.Am.F15
end
section
namespace Go.Am.F15
open Go.Am.F10 (iC iC_at iC_len iC_one iC_app SI SI.val same_run Cf cfC rightP right_run Nx si_take si_drop si_row cutA dropA)
variable {X:Type}
section
variable {m:Mem X} {s:Pc} {v:AV}
end
end Go.Am.F15
end
section
namespace Go.Am.F15
open Go.Am.F10 (iC iC_at iC_len iC_one iC_app SI SI.val same_run Cf cfC rightP right_run Nx si_take si_drop si_row cutA dropA)
open Go.Am.F06 (sqN sqT)
variable {X:Type}
def RO(m:Mem X) (xs:List Int) (v:AV):Prop:=(v = .nils∧xs=[])∨∃ q,v = .sl q 0 xs.length none∧m[q]?=some (.cells 1 false (iC xs))
theorem RO.rw{m:Mem X} {xs:List Int} {v:AV} (h:RO m xs v):RW m xs v:=by
 rcases h with⟨rfl,rfl⟩|⟨q,rfl,h⟩
 ·exact RW.nil
 ·exact⟨⟨by rw[iC_len];omega,.inr ⟨q,0,none,rfl,fun _=>⟨false,_,h,by rw[List.drop_zero,List.take_of_length_le (by rw[iC_len];omega)],by rw[iC_len];omega,fun _=>rfl⟩⟩⟩,.inr ⟨q,0,_,_,rfl,h⟩⟩
def Lies(v:AV) (a b:Nat):Prop:=∀ q n,v = .sl q 0 n none→a≤q∧q < b
theorem own_ro{m0 m:Mem X} {xs:List Int} {v:AV} (h:Go.Am.Own m0 m 1 xs.length (iC xs) v):RO m xs v∧Lies v m0.length m.length:=by
 rcases h with⟨h1,h2,rfl⟩|⟨q,rfl,h2,h3,h4⟩
 ·exact⟨.inl ⟨rfl,List.length_eq_zero_iff.1 h1⟩,fun q n e=>by cases e⟩
 ·exact⟨.inr ⟨q,rfl,h2⟩,fun q' n e=>by injection e with e;subst e;exact⟨h3,h4⟩⟩
theorem RO.at{m m':Mem X} {xs:List Int} {v:AV} (h:RO m xs v) (e:∀ q n,v = .sl q 0 n none→m'[q]?=m[q]?):RO m' xs v:=by
 rcases h with h|⟨q,h1,h2⟩
 ·exact .inl h
 ·exact .inr ⟨q,h1,(e q _ h1).trans h2⟩
def WO(v:AV) (m m':Mem X):Prop:=m'.length=m.length∧∀ k,(∀ n,v ≠ .sl k 0 n none)→m'[k]?=m[k]?
theorem WO.refl(v:AV) (m:Mem X):WO v m m:=⟨rfl,fun _ _=>rfl⟩
theorem WO.set{v:AV} {m m':Mem X} (h:WO v m m') {q n:Nat} (hv:v = .sl q 0 n none) (C:Chunk X):WO v m (m'.set q C) :=
 ⟨by simpa using h.1,fun k hk=>by
  rw[List.getElem?_set_ne]
  ·exact h.2 k hk
  ·rintro rfl;exact hk n hv⟩
end Go.Am.F15
end
section
namespace Go.Am.F15
open Go.Am.F10 (iC iC_at iC_len iC_one iC_app SI SI.val same_run Nx si_take si_drop si_row cutA dropA pick_eq)
open Go.Am.F06 (sqN sqT)
open Go.Am.F14 (law14_works law14_row law14_FifoFirst law14_FifoPasses law14_FifoPlays law14_few law14_does law14_is law14_FifoKnown fifo_Pass ref14_Pop ref14_Remove ref14_Pass)
variable {X:Type}
theorem ln_kk{m m':Mem X} {i:Nat} {j:Option Nat} {xs:List Int} (H:LN m i j xs) (h:KL m m' i j):KK m m':=by
 refine⟨h.1,fun k sz ro L e h1 h2=>(h.2 k (List.getElem?_eq_some_iff.1 e).1 (fun hk=>?_) (fun hj=>?_)).trans e⟩
 ·obtain⟨l,hc⟩:=H.cell
  rw[hk,hc] at e;injection e with e;injection e with e;exact h1 e.symm
 ·obtain⟨tb,c,ht⟩:=H.tab hj
  rw[ht] at e;cases e
theorem NL.keep{m0 m m':Mem X} {i:Nat} {xs:List Int} (h:NL m0 m i xs) (k:Keep m m'):NL m0 m' i xs:=by
 obtain⟨j,a,b,c⟩:=h
 exact⟨j,a.keep k,b,c⟩
def LS(m0 m:Mem X) (i:Nat) (xs:List Int) (m':Mem X):Prop:=NL m0 m' i xs∧Keep m0 m'∧KK m m'
theorem ls_of{m0 m m':Mem X} {i:Nat} {j j':Option Nat} {xs ys:List Int} (hk:Keep m0 m) (H:LN m i j xs) (b:m0.length≤i) (c:∀ k,j=some k→m0.length≤k) (h1:KL m m' i j) (h2:JN m j j') (h3:LN m' i j' ys):LS m0 m i ys m':=by
 refine⟨⟨j',h3,b,fun k e=>?_⟩,⟨Nat.le_trans hk.1 h1.1,fun k hl=>?_⟩,ln_kk H h1⟩
 ·rcases h2 with rfl|⟨q,e',hq⟩
  ·exact c k e
  ·rw[e'] at e;injection e with e;subst e
   exact Nat.le_trans hk.1 hq
 ·exact(h1.2 k (Nat.lt_of_lt_of_le hl hk.1) (by omega) (fun e=>by have:=c k e;omega)).trans (hk.2 k hl)
theorem nl_push{m0 m:Mem X} {i:Nat} {xs l:List Int} {w:Bool} {lv:AV} (H:NL m0 m i xs) (hk:Keep m0 m) (hl:SI m w l lv) (hf:l.length < 10000) (hx:xs.length < 10000) :
  Fn GPush fifo_Line_Push [.ptr i 0,lv] m (fun r m'=>r = .int .i64 (if fitsB xs l=true then 0 else 140)∧LS m0 m i (if fitsB xs l=true then xs++l else xs) m'):=by
 obtain⟨j,H,b,c⟩:=H
 refine Fn_mono (push_run H hl (by omega) (by omega)) ?_
 rintro r m' ⟨rfl,j',h1,h2,h3⟩
 exact⟨rfl,ls_of hk H b c h1 h2 h3⟩
theorem nl_pop{m0 m:Mem X} {i:Nat} {xs:List Int} (H:NL m0 m i xs) (hk:Keep m0 m) (n:Int) (hx:xs.length < 10000) :
  Fn GPop fifo_Line_Pop [.ptr i 0,.int .i64 n] m (fun r m'=>LS m0 m i (xs.drop (popN xs n)) m'∧Go.Am.Own m m' 1 (xs.take (popN xs n)).length (iC (xs.take (popN xs n))) r):=by
 obtain⟨j,H,b,c⟩:=H
 refine Fn_mono (pop_run H n (by omega)) ?_
 rintro r m' ⟨h1,h2,h3⟩
 exact⟨ls_of hk H b c h1 (JN.refl _ _) h2,h3⟩
def GRem:List (Nat × AFun X):=[(119,c_fifo_Line_Has)]
theorem nl_remove{m0 m:Mem X} {i:Nat} {p q:List Int} {x:Int} (H:NL m0 m i (p++x :: q)) (hk:Keep m0 m):Fn GRem fifo_Line_Remove [.ptr i 0,.int .i64 x] m (fun r m'=>r = .bool true∧LS m0 m i (p++q) m'):=by
 obtain⟨j,H,b,c⟩:=H
 refine Fn_mono (remove_run H) ?_
 rintro r m' ⟨rfl,h1,h2⟩
 exact⟨rfl,ls_of hk H b c h1 (JN.refl _ _) h2⟩
theorem nl_remove_no{m0 m:Mem X} {i:Nat} {xs:List Int} {x:Int} (H:NL m0 m i xs) (hx:x ∉ xs):Fn GRem fifo_Line_Remove [.ptr i 0,.int .i64 x] m (fun r m'=>r = .bool false∧Keep m m'):=by
 obtain⟨j,H,b,c⟩:=H
 exact remove_no H hx
theorem nl_all{m0 m:Mem X} {i:Nat} {xs:List Int} (H:NL m0 m i xs) (hx:xs.length < 10000):Fn GAll14 fifo_Line_All [.ptr i 0] m (AllP m xs):=by
 obtain⟨j,H,b,c⟩:=H
 exact all_run14 H (by omega)
theorem nl_ahead{m0 m:Mem X} {i:Nat} {xs:List Int} (H:NL m0 m i xs) (hx:xs.length < 10000) (x:Int):aheadF [.ptr i 0,.int .i64 x] m=some (.int .i64 (aheadL xs x),m):=by
 obtain⟨j,H,b,c⟩:=H
 simp only[aheadF,H.rows]
 rw[if_pos (by omega)]
theorem nl_len{m0 m:Mem X} {i:Nat} {xs:List Int} (H:NL m0 m i xs):c_fifo_Line_Len [.ptr i 0] m=some (.int .i64 xs.length,m):=by
 obtain⟨j,H,b,c⟩:=H
 exact H.len_eq
theorem NL.nodup{m0 m:Mem X} {i:Nat} {xs:List Int} (H:NL m0 m i xs):xs.Nodup:=by
 obtain⟨j,H,b,c⟩:=H
 exact H.nodup
theorem LS.keep{m0 m m' m'':Mem X} {i:Nat} {xs:List Int} (h:LS m0 m i xs m') (k:Keep m' m''):LS m0 m i xs m'':=⟨h.1.keep k,h.2.1.trans k,h.2.2.trans k.kk⟩
def GRow:List (Nat × AFun X):=[(84,c_kit_SameInts)]
def RwI(a b:AV) (xs:List Int) (m0:Mem X) (k:Nat) (e:List AV) (m:Mem X):Prop:=∃ (j:Nat) (x4 x5:AV),
 e=[a,b,.bool false,.int .i64 j,x4,x5]∧k=xs.length - j∧j≤xs.length∧WO a m0 m∧∀ q,a = .sl q 0 xs.length none→∃ L,m[q]?=some (.cells 1 false L)∧L.length=xs.length
theorem row_run{m:Mem X} {w:Bool} {xs ys:List Int} {a b:AV} (ha:RO m xs a) (hb:SI m w ys b) (hx:xs.length < 1000):Fn GRow law14_row [a,b] m (fun r m'=>r = .bool (decide (xs=ys))∧WO a m m'):=by
 have a84:assoc (GRow (X:=X)) 84=some c_kit_SameInts:=rfl
 generalize (GRow (X:=X))=G at a84 ⊢
 have hs:=same_eq ha.rw.1 hb hx
 have hlen:=ha.rw.1.len
 refine Fn_of rfl ?_
 by_cases he:xs=ys
 ·have hd:decide (xs=ys)=true:=decide_eq_true he
  rw[hd] at hs
  simp(disch:=first|assumption|omega|(simp only[zl]<;>omega)|(simp only[zn])) only[law14_row,↓zd,zk,seval,reduceIte,List.map,AV.cells,List.all,AV.one,eqV,eqAll,splice,fillA,List.replicate,resAll,resA,zm,zg,a84,hs]
  refine W_loop (RwI a b xs m) xs.length (by unfold FUEL;omega) ⟨0,_,_,rfl,rfl,Nat.zero_le _,WO.refl a m,fun q e=>?_⟩ ?_
  ·rcases ha with⟨h,_⟩|⟨q',h,h2⟩
   ·rw[h] at e;cases e
   ·rw[h] at e;injection e with e;subst e
    exact⟨_,h2,iC_len xs⟩
  rintro k e m' ⟨j,x4,x5,rfl,rfl,hj,hw,hL⟩
  simp(disch:=first|assumption|omega|(simp only[zl]<;>omega)|(simp only[zn])) only[↓zd,zk,seval,reduceIte,List.map,AV.cells,List.all,AV.one,eqV,eqAll,splice,fillA,List.replicate,resAll,resA,zm,zg,ev_len,hlen]
  refine CW_of (fun hc=>?_) (fun hc=>?_)
  ·simp only[decide_eq_true_eq] at hc
   rcases ha with⟨_,hx0⟩|⟨q,hvq,_⟩
   ·rw[hx0] at hc;simp at hc;omega
   ·obtain⟨L,hq1,hq2⟩:=hL q hvq
    have lq:=(List.getElem?_eq_some_iff.1 hq1).1
    subst hvq
    simp(disch:=first|assumption|omega|(simp only[zl]<;>omega)|(simp only[zn])) only[↓zd,zk,seval,reduceIte,List.map,AV.cells,List.all,AV.one,eqV,eqAll,splice,fillA,List.replicate,resAll,resA,zm,zg,hq1]
    refine⟨_,by omega,j+1,_,_,rfl,rfl,by omega,hw.set rfl _,fun q' e=>?_⟩
    injection e with e;subst e
    exact⟨_,List.getElem?_set_self lq,by simp[hq2]⟩
  ·simp only[decide_eq_false_iff_not] at hc
   simp(disch:=first|assumption|omega|(simp only[zl]<;>omega)|(simp only[zn])) only[↓zd,zk,seval,reduceIte,List.map,AV.cells,List.all,AV.one,eqV,eqAll,splice,fillA,List.replicate,resAll,resA,zm,zg]
   first|exact hw|exact⟨by first|exact hd.symm|rfl|simp[he],hw⟩
 ·have hd:decide (xs=ys)=false:=decide_eq_false he
  rw[hd] at hs
  simp(disch:=first|assumption|omega|(simp only[zl]<;>omega)|(simp only[zn])) only[law14_row,↓zd,zk,seval,reduceIte,List.map,AV.cells,List.all,AV.one,eqV,eqAll,splice,fillA,List.replicate,resAll,resA,zm,zg,a84,hs]
  first|exact WO.refl a m|exact⟨by first|rfl|simp[he],WO.refl a m⟩
theorem own_row{m m1 m2:Mem X} {xs:List Int} {v:AV} (hk:Keep m m1) (ho:Go.Am.Own m m1 1 xs.length (iC xs) v) (hw:WO v m1 m2):Keep m m2:=by
 obtain⟨_,hl⟩:=own_ro ho
 refine⟨by rw[hw.1];exact hk.1,fun k hl'=>(hw.2 k fun n e=>?_).trans (hk.2 k hl')⟩
 have:=hl k n e;omega
theorem keep_wo{m0 m m':Mem X} {v:AV} {a b:Nat} (hk:Keep m0 m) (hl:Lies v a b) (ha:m0.length≤a) (hw:WO v m m'):Keep m0 m' :=
 ⟨by rw[hw.1];exact hk.1,fun k hk'=>(hw.2 k fun n e=>by have:=hl k n e;omega).trans (hk.2 k hk')⟩
theorem NL.wo{m0 m m':Mem X} {i:Nat} {xs ys:List Int} {v:AV} (h:NL m0 m i xs) (hr:RO m ys v) (hw:WO v m m'):NL m0 m' i xs:=by
 obtain⟨j,H,b,c⟩:=h
 have key:∀ k:Nat,(∀ l:List AV,m[k]?≠some (Chunk.cells 1 false l))→m'[k]?=m[k]?:=fun k hk=>hw.2 k fun n e=>by
  rcases hr with⟨h,_⟩|⟨q,h,h2⟩
  ·rw[h] at e;cases e
  ·rw[h] at e;injection e with e;subst e;exact hk _ h2
 refine⟨j,H.at (key _ fun l e=>?_) (fun k e=>key _ fun l e'=>?_),b,c⟩
 ·obtain⟨l',hc⟩:=H.cell
  rw[hc] at e;cases e
 ·obtain⟨tb,c,ht⟩:=H.tab e
  rw[ht] at e';cases e'
end Go.Am.F15
end
section
namespace Go.Am.F15
open Go.Am.F10 (iC iC_at iC_len iC_one iC_app SI SI.val same_run Nx si_take si_drop si_row cutA dropA pick_eq)
open Go.Am.F06 (sqN sqT)
open Go.Am.F14 (law14_works law14_row law14_FifoFirst law14_FifoPasses law14_FifoPlays law14_few law14_does law14_is law14_FifoKnown fifo_Pass ref14_Pop ref14_Remove ref14_Pass)
variable {X:Type}
def GW14:List (Nat × AFun X):=[(107,amFunc GOf fifo_Of),(101,amFunc GPush fifo_Line_Push),(100,amFunc GAll14 fifo_Line_All),(109,amFunc GRow law14_row),(102,aheadF),(104,amFunc GRem fifo_Line_Remove),(103,amFunc GPop fifo_Line_Pop)]
set_option maxHeartbeats 8000000 in
theorem works14_run{m:Mem X}:Fn GW14 law14_works [] m (fun r m'=>r = .bool true∧Keep m m'):=by
 have a107:assoc (GW14 (X:=X)) 107=some (amFunc GOf fifo_Of):=rfl
 have a101:assoc (GW14 (X:=X)) 101=some (amFunc GPush fifo_Line_Push):=rfl
 have a100:assoc (GW14 (X:=X)) 100=some (amFunc GAll14 fifo_Line_All):=rfl
 have a109:assoc (GW14 (X:=X)) 109=some (amFunc GRow law14_row):=rfl
 have a102:assoc (GW14 (X:=X)) 102=some aheadF:=rfl
 have a104:assoc (GW14 (X:=X)) 104=some (amFunc GRem fifo_Line_Remove):=rfl
 have a103:assoc (GW14 (X:=X)) 103=some (amFunc GPop fifo_Line_Pop):=rfl
 generalize (GW14 (X:=X))=G at a107 a101 a100 a109 a102 a104 a103 ⊢
 have r2:repeatL 2 [AV.int .i64 0]=[.int .i64 0,.int .i64 0]:=rfl
 have r3:repeatL 3 [AV.int .i64 0]=[.int .i64 0,.int .i64 0,.int .i64 0]:=rfl
 refine Fn_of rfl ?_
 have k0:=Keep.app m [Chunk.cells 1 false [AV.int .i64 5,.int .i64 3,.int .i64 9]]
 have s0:SI (m++[Chunk.cells 1 false [AV.int .i64 5,.int .i64 3,.int .i64 9]]) true [5,3,9] (.sl m.length 0 3 (some 3)):=lits_si (xs:=[5,3,9]) rfl
 simp(disch:=first|assumption|omega|(simp only[zl]<;>omega)|(simp only[zn])) only[law14_works,↓zd,zk,seval,reduceIte,List.map,AV.cells,List.all,AV.one,eqV,eqAll,splice,fillA,List.replicate,resAll,resA,zm,zg,evA,r3,a107]
 refine OK_fn (of_run s0 (by decide) (by decide)) ?_
 rintro _ m1 ⟨i,rfl,k1,H1⟩
 have H1:NL m m1 i [5,3,9]:=by
  obtain⟨j,h1,h2,h3⟩:=H1
  exact⟨j,h1,Nat.le_trans k0.1 h2,fun k e=>Nat.le_trans k0.1 (h3 k e)⟩
 have K1:=k0.trans k1
 have s2:SI (m1++[Chunk.cells 1 false [AV.int .i64 7,.int .i64 3]]) true [7,3] (.sl m1.length 0 2 (some 2)):=lits_si (xs:=[7,3]) rfl
 have k2:=Keep.app m1 [Chunk.cells 1 false [AV.int .i64 7,.int .i64 3]]
 simp(disch:=first|assumption|omega|(simp only[zl]<;>omega)|(simp only[zn])) only[↓zd,zk,seval,reduceIte,List.map,AV.cells,List.all,AV.one,eqV,eqAll,splice,fillA,List.replicate,resAll,resA,zm,zg,evA,r2,a101]
 refine OK_fn (nl_push (H1.keep k2) (K1.trans k2) s2 (by decide) (by decide)) ?_
 rintro _ m2 ⟨rfl,H2,K2,_⟩
 have f2:fitsB [5,3,9] [7,3]=false:=by decide
 rw[f2] at H2 ⊢
 simp(disch:=first|assumption|omega|(simp only[zl]<;>omega)|(simp only[zn])) only[↓zd,zk,seval,reduceIte,List.map,AV.cells,List.all,AV.one,eqV,eqAll,splice,fillA,List.replicate,resAll,resA,zm,zg,a100]
 refine OK_fn (nl_all H2 (by decide)) ?_
 rintro v3 m3 ⟨k3,o3⟩
 have s4:SI (m3++[Chunk.cells 1 false [AV.int .i64 5,.int .i64 3,.int .i64 9]]) true [5,3,9] (.sl m3.length 0 3 (some 3)):=lits_si (xs:=[5,3,9]) rfl
 have k4:=Keep.app m3 [Chunk.cells 1 false [AV.int .i64 5,.int .i64 3,.int .i64 9]]
 simp(disch:=first|assumption|omega|(simp only[zl]<;>omega)|(simp only[zn])) only[↓zd,zk,seval,reduceIte,List.map,AV.cells,List.all,AV.one,eqV,eqAll,splice,fillA,List.replicate,resAll,resA,zm,zg,evA,r3,a109]
 refine OK_fn (row_run ((own_ro (own_keep o3 k4)).1) s4 (by decide)) ?_
 rintro _ m5 ⟨rfl,w5⟩
 have k5:=own_row (k3.trans k4) (own_keep o3 k4) w5
 have K5:=K2.trans k5
 have H5:=H2.keep k5
 have s6:SI (m5++[Chunk.cells 1 false [AV.int .i64 7]]) true [7] (.sl m5.length 0 1 (some 1)):=lits_si (xs:=[7]) rfl
 have k6:=Keep.app m5 [Chunk.cells 1 false [AV.int .i64 7]]
 simp(disch:=first|assumption|omega|(simp only[zl]<;>omega)|(simp only[zn])) only[↓zd,zk,seval,reduceIte,List.map,AV.cells,List.all,AV.one,eqV,eqAll,splice,fillA,List.replicate,resAll,resA,zm,zg,evA,repeatL_one,a101]
 refine OK_fn (nl_push (H5.keep k6) (K5.trans k6) s6 (by decide) (by decide)) ?_
 rintro _ m6 ⟨rfl,H6,K6,_⟩
 have f6:fitsB [5,3,9] [7]=true:=by decide
 have H6:NL m m6 i [5,3,9,7]:=by simpa [f6] using H6
 have e6:=nl_ahead H6 (by decide) 7
 have d6:aheadL [5,3,9,7] 7=3:=by decide
 rw[d6] at e6
 simp(disch:=first|assumption|omega|(simp only[zl]<;>omega)|(simp only[zn])) only[↓zd,zk,seval,reduceIte,List.map,AV.cells,List.all,AV.one,eqV,eqAll,splice,fillA,List.replicate,resAll,resA,zm,zg,f6,a102,e6,a104]
 refine OK_fn (nl_remove (p:=[5]) (q:=[9,7]) H6 K6) ?_
 rintro _ m7 ⟨rfl,H7,K7,_⟩
 have H7:NL m m7 i [5,9,7]:=H7
 simp(disch:=first|assumption|omega|(simp only[zl]<;>omega)|(simp only[zn])) only[↓zd,zk,seval,reduceIte,List.map,AV.cells,List.all,AV.one,eqV,eqAll,splice,fillA,List.replicate,resAll,resA,zm,zg,a103]
 refine OK_fn (nl_pop H7 K7 2 (by decide)) ?_
 rintro v8 m8 ⟨⟨H8,K8,_⟩,o8⟩
 have p8:popN [5,9,7] 2=2:=by decide
 rw[p8] at H8 o8
 have H8:NL m m8 i [7]:=H8
 have s9:SI (m8++[Chunk.cells 1 false [AV.int .i64 5,.int .i64 9]]) true [5,9] (.sl m8.length 0 2 (some 2)):=lits_si (xs:=[5,9]) rfl
 have k9:=Keep.app m8 [Chunk.cells 1 false [AV.int .i64 5,.int .i64 9]]
 simp(disch:=first|assumption|omega|(simp only[zl]<;>omega)|(simp only[zn])) only[↓zd,zk,seval,reduceIte,List.map,AV.cells,List.all,AV.one,eqV,eqAll,splice,fillA,List.replicate,resAll,resA,zm,zg,evA,r2,a109]
 refine OK_fn (row_run (xs:=[5,9]) ((own_ro (own_keep o8 k9)).1) s9 (by decide)) ?_
 rintro _ m9 ⟨rfl,w9⟩
 obtain⟨ro8,li8⟩:=own_ro (xs:=[5,9]) o8
 have rk8:=(own_ro (xs:=[5,9]) (own_keep o8 k9)).1
 have H9:NL m m9 i [7]:=(H8.keep k9).wo rk8 w9
 have K9:Keep m m9:=keep_wo (K8.trans k9) li8 K7.1 w9
 simp(disch:=first|assumption|omega|(simp only[zl]<;>omega)|(simp only[zn])) only[↓zd,zk,seval,reduceIte,List.map,AV.cells,List.all,AV.one,eqV,eqAll,splice,fillA,List.replicate,resAll,resA,zm,zg,a100]
 refine OK_fn (nl_all H9 (by decide)) ?_
 rintro v10 m10 ⟨k10,o10⟩
 have s11:SI (m10++[Chunk.cells 1 false [AV.int .i64 7]]) true [7] (.sl m10.length 0 1 (some 1)):=lits_si (xs:=[7]) rfl
 have k11:=Keep.app m10 [Chunk.cells 1 false [AV.int .i64 7]]
 simp(disch:=first|assumption|omega|(simp only[zl]<;>omega)|(simp only[zn])) only[↓zd,zk,seval,reduceIte,List.map,AV.cells,List.all,AV.one,eqV,eqAll,splice,fillA,List.replicate,resAll,resA,zm,zg,evA,repeatL_one,a109]
 refine OK_fn (row_run ((own_ro (own_keep o10 k11)).1) s11 (by decide)) ?_
 rintro _ m11 ⟨rfl,w11⟩
 simp(disch:=first|assumption|omega|(simp only[zl]<;>omega)|(simp only[zn])) only[↓zd,zk,seval,reduceIte,List.map,AV.cells,List.all,AV.one,eqV,eqAll,splice,fillA,List.replicate,resAll,resA,zm,zg]
 exact K9.trans (own_row (k10.trans k11) (own_keep o10 k11) w11)
end Go.Am.F15
end
section
namespace Go.Am.F15
open Go.Am.F10 (iC iC_at iC_len iC_one iC_app SI SI.val same_run Cf cfC rightP right_run Nx si_take si_drop si_row cutA dropA pick_eq)
open Go.Am.F06 (sqN sqT)
variable {X:Type}
theorem JN.up{m m1:Mem X} {j j':Option Nat} (h:JN m1 j j') (hl:m.length≤m1.length):JN m j j':=(JN.refl m _).trans h hl
theorem PN.up{m m1:Mem X} {P P':Pla} (h:PN m1 P P') (hl:m.length≤m1.length):PN m P P':=by
 obtain⟨a1,a2,a3,a4,a5,a6,a7⟩:=h
 exact⟨a1,a2,a3,a4,a5.up hl,a6.up hl,a7.up hl⟩
end Go.Am.F15
end
section
namespace Go.Am.F15
open Go.Am.F10 (iC iC_at iC_len iC_one iC_app SI SI.val same_run Cf cfC rightP right_run Nx si_take si_drop si_row cutA dropA pick_eq)
open Go.Am.F06 (sqN sqT)
variable {X:Type}
def RB(m:Mem X) (b:Nat) (s:Pc):Prop:=∃ gv pv mv,m[b]?=some (.cells 10 false (rC s.c gv pv mv s.spin))∧RW m s.g gv∧RW m s.ps pv∧RW m s.ms mv
theorem RB.keep{m m':Mem X} {b:Nat} {s:Pc} (h:RB m b s) (k:Keep m m'):RB m' b s:=by
 obtain⟨gv,pv,mv,h0,h1,h2,h3⟩:=h
 exact⟨gv,pv,mv,k.get h0,h1.k1 k.k1,h2.k1 k.k1,h3.k1 k.k1⟩
theorem AS.row{m:Mem X} {l:List Act} {v:AV} (h:AS m l v) {i:Nat} {a:Act} (ha:l[i]?=some a):∃ q o cap ro L,v = .sl q o l.length cap∧m[q]?=some (.cells 3 ro L)∧o+l.length * 3≤L.length∧L[o+i * 3+2]?=some a.v∧(L.drop (o+i * 3)).take 3=aC a:=by
 have hi:i < l.length:=(List.getElem?_eq_some_iff.1 ha).1
 obtain⟨q,o,cap,ro,L,h1,h2,h3,h4,_⟩:=h.1.at (by omega)
 refine⟨q,o,cap,ro,L,h1,h2,h4,?_,?_⟩
 ·rw[Nat.add_assoc,sl_get h3 (by omega),rows_at aC_len ha (by decide:2 < 3)];rfl
 ·have:=rows_part aC_len ha
  rw[← h3,List.drop_take,List.take_take,List.drop_drop,Nat.min_eq_left (by omega)] at this
  exact this
end Go.Am.F15
end
section
namespace Go.Am.F15
open Go.Am.F10 (iC iC_at iC_len iC_one iC_app SI SI.val same_run Cf cfC rightP right_run Nx si_take si_drop si_row cutA dropA pick_eq)
open Go.Am.F06 (sqN sqT)
variable {X:Type}
end Go.Am.F15
end
section
namespace Go.Am.F15
open Go.Am.F10 (iC iC_at iC_len iC_one iC_app SI SI.val same_run Cf cfC rightP right_run Nx si_take si_drop si_row cutA dropA madeC made_eq pick_eq)
open Go.Am.F06 (sqN sqT)
variable {X:Type}
end Go.Am.F15
end
section
namespace Go.Am.F15
open Go.Am.F10 (iC iC_at iC_len iC_one iC_app SI SI.val same_run Cf cfC rightP right_run Nx si_take si_drop si_row cutA dropA pick_eq)
open Go.Am.F06 (sqN sqT)
variable {X:Type}
end Go.Am.F15
end
section
namespace Go.Am.F15
open Go.Am.F10 (iC iC_at iC_len iC_one iC_app SI SI.val same_run Nx si_take si_drop si_row cutA dropA pick_eq)
open Go.Am.F06 (sqN sqT)
open Go.Am.F14 (law14_works law14_row law14_FifoFirst law14_FifoPasses law14_FifoPlays law14_few law14_does law14_is law14_FifoKnown fifo_Pass ref14_Pop ref14_Remove ref14_Pass)
variable {X:Type}
theorem own_lv{m m1:Mem X} {xs:List Int} {v:AV} (h:Go.Am.Own m m1 1 xs.length (iC xs) v):LV m m1 xs v:=by
 refine⟨own_si h,?_⟩
 rcases h with⟨_,_,rfl⟩|⟨q,rfl,h2,h3,h4⟩
 ·exact .inl rfl
 ·exact .inr ⟨q,0,_,_,rfl,h2,h3,h4,by rw[iC_len];omega⟩
theorem LV.cut{m0 m:Mem X} {xs:List Int} {v:AV} (h:LV m0 m xs v) {k:Nat} (hk:k≤xs.length):LV m0 m (xs.take k) (cutA v k):=by
 refine⟨(si_take h.1 h.nx hk).2,?_⟩
 rcases h.2 with rfl|⟨q,o,n,l,rfl,h2,h3,h4⟩
 ·exact .inl rfl
 ·have hn:n=xs.length:=by have:=h.1.len;simp only[lenA,Option.some.injEq] at this;exact this
  exact .inr ⟨q,o,k,l,rfl,h2,h3,h4.1,by omega⟩
theorem NL.push{m0 m m':Mem X} {i:Nat} {xs:List Int} (h:NL m0 m i xs) (hk:∀ k,k < m.length→(∀ l,m[k]?≠some (Chunk.cells 1 false l))→m'[k]?=m[k]?):NL m0 m' i xs:=by
 obtain⟨j,H,b,c⟩:=h
 refine⟨j,H.at (hk _ H.lt.1 fun l e=>?_) (fun k e=>hk _ (H.lt.2 k e).1 fun l e'=>?_),b,c⟩
 ·obtain⟨l',hc⟩:=H.cell
  rw[hc] at e;cases e
 ·obtain⟨tb,c,ht⟩:=H.tab e
  rw[ht] at e';cases e'
theorem nl_app{m0 m:Mem X} {i:Nat} {w:Bool} {xs zs ys:List Int} {v y:AV} (H:NL m0 m i zs) (hk:Keep m0 m) (h:LV m0 m xs v) (hy:SI m w ys y) (hl:xs.length≤100000) (hl2:ys.length≤100000) :
  ∃ v' m',appendA 1 8 v y m=some (v',m')∧LV m0 m' (xs++ys) v'∧Keep m0 m'∧NL m0 m' i zs:=by
 obtain⟨v',m',h1,h2,h3,h4⟩:=lv_push h hy hl hl2 hk.1
 exact⟨v',m',h1,h2,⟨Nat.le_trans hk.1 h3,fun k hl=>(h4 k (Nat.lt_of_lt_of_le hl hk.1) (.inr hl)).trans (hk.2 k hl)⟩,H.push fun k a b=>h4 k a (.inl b)⟩
def GFf:List (Nat × AFun X):=[(99,amFunc GW14 law14_works),(100,amFunc GAll14 fifo_Line_All),(87,c_kit_Pick),(101,amFunc GPush fifo_Line_Push),(102,aheadF),(103,amFunc GPop fifo_Line_Pop),(104,amFunc GRem fifo_Line_Remove),(105,c_fifo_Line_Len)]
def ffLoop:AC:=match sqN 4 law14_FifoFirst.body with | .seq _ (.block _ (.loop b))=>b|c=>c
def ffB:AC:=match ffLoop with | .seq _ (.seq (.block _ b) _)=>b|c=>c
def ffC:AC:=match ffLoop with | .seq c _=>c|c=>c
def ffI:AC:=match ffLoop with | .seq _ (.seq _ i)=>i|c=>c
def ffR:AC:=.region [⟨.mov,[.c (.int .i64 0)],some 4,none⟩]
def ffEnd:AC:=sqT 5 law14_FifoFirst.body
def ffSW:AC:=sqN 2 ffB
def ffT:AC:=sqT 3 ffB
theorem ff_body:law14_FifoFirst.body = .seq (sqN 0 law14_FifoFirst.body) (.seq (sqN 1 law14_FifoFirst.body) (.seq (sqN 2 law14_FifoFirst.body) (.seq (sqN 3 law14_FifoFirst.body)
  (.seq (.seq ffR (.block 0 (.loop (.seq ffC (.seq (.block 1 (.seq (sqN 0 ffB) (.seq (sqN 1 ffB) (.seq ffSW ffT)))) ffI))))) ffEnd)))):=rfl
def Up(last:Int) (xs:List Int) (i:Int):Prop:=(last :: xs).Pairwise (· < ·)∧∀ x ∈ last :: xs,x < i
def FfA(m0:Mem X) (a0:AV) (lb i:Nat) (e:List AV) (m:Mem X):Prop:=∃ (last:Int) (xs:List Int) (v5 x6 x7 x8 x9 x10 x11 x12 x13 x14 x15 x16 x17 x18 x19 x20 x21 x22 x23:AV),
 e=[a0,.bool false,.ptr lb 0,.int .i64 last,.int .i64 i,v5,x6,x7,x8,x9,x10,x11,x12,x13,x14,x15,x16,x17,x18,x19,x20,x21,x22,x23]∧Keep m0 m∧NL m0 m lb xs∧LV m0 m xs v5∧Up last xs (i+1)∧xs.length≤i+1
theorem Up.push{last:Int} {xs:List Int} {i:Int} (h:Up last xs i):Up last (xs++[i]) (i+1):=by
 obtain⟨h1,h2⟩:=h
 refine⟨?_,fun x hx=>?_⟩
 ·rw[← List.cons_append,List.pairwise_append]
  exact⟨h1,by simp,fun a ha b hb=>by simp at hb;subst hb;exact h2 a ha⟩
 ·rw[← List.cons_append,List.mem_append] at hx
  rcases hx with hx|hx
  ·have:=h2 x hx;omega
  ·simp at hx;omega
theorem Up.next{last:Int} {xs:List Int} {i:Int} (h:Up last xs i):Up last xs (i+1):=⟨h.1,fun x hx=>by have:=h.2 x hx;omega⟩
theorem Up.sub{last:Int} {xs ys:List Int} {i:Int} (h:Up last xs i) (hs:ys.Sublist xs):Up last ys i:=⟨h.1.sublist (hs.cons_cons last),fun x hx=>h.2 x ((hs.cons_cons last).subset hx)⟩
theorem Up.drop{last lst:Int} {xs:List Int} {i:Int} {n:Nat} (h:Up last xs i) (hn:(last :: xs)[n]?=some lst):Up lst (xs.drop n) i:=by
 have hd:lst :: xs.drop n=(last :: xs).drop n:=by
  have hl:=(List.getElem?_eq_some_iff.1 hn).1
  rw[List.drop_eq_getElem_cons hl,(List.getElem?_eq_some_iff.1 hn).2]
  rfl
 exact⟨by rw[hd];exact h.1.sublist (List.drop_sublist _ _),fun x hx=>h.2 x ((List.drop_sublist n (last :: xs)).subset (by rw[← hd];exact hx))⟩
theorem ahead_end{xs:List Int} {x:Int} (h:x ∉ xs):aheadL (xs++[x]) x=xs.length:=by
 unfold aheadL
 rw[if_pos (by simp),List.idxOf_append,if_neg h]
 simp
theorem ahead_nth{xs:List Int} {x:Int} {n:Nat} (h:xs[n]?=some x) (nd:xs.Nodup):aheadL xs x=n:=by
 have hl:=(List.getElem?_eq_some_iff.1 h).1
 have he:=(List.getElem?_eq_some_iff.1 h).2
 unfold aheadL
 rw[if_pos (List.mem_of_getElem? h),← he,nd.idxOf_getElem]
end Go.Am.F15
end
