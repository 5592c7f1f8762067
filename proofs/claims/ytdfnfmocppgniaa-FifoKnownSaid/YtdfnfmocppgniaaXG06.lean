import Derived.Test.YtdfnfmocppgniaaXG05
import Derived.Laws.AppendOwn
set_option linter.unusedSimpArgs false
set_option linter.unusedVariables false
section
namespace Go.Am
section
variable {X:Type} {A:AbsSem X} {num:Nat→Nat} {P:Program} {o:Oper} {a:Act} {F:Nat→Prop} {μ:Mu} {m:Mem X} {w:World}
theorem Sim.kill{H:Array Obj} (h:Sim A num F μ m H) (i:Nat):Sim A num F μ (m.set i .dead) H:=by
 obtain⟨own,h⟩:=h
 refine⟨own,h.isF,h.lt,fun j hj=>h.new j (by simpa using hj),fun j ch p hj hp=>?_⟩
 rw[List.getElem?_set] at hj
 split at hj
 ·split at hj
  ·injection hj with hj;subst hj;trivial
  ·cases hj
 ·exact h.ok j ch p hj hp
theorem RowAt.range{p:Pl} {l:List AV} {arr:Array Value} (h:RowAt num μ p l arr) {q n:Nat} (hq:q+n≤l.length) :
  VRL num μ ((l.drop q).take n) ((arr.toList.drop (p.s+q)).take n)∧((arr.toList.drop (p.s+q)).take n).length=n:=by
 have h1:=h.1
 have h2:=h.2.1
 have hl:((arr.toList.drop (p.s+q)).take n).length=n:=by simp;omega
 refine⟨⟨by rw[hl];simp;omega,fun j x d hx hd=>?_⟩,hl⟩
 rw[List.getElem?_take] at hx hd
 split at hx
 ·rename_i hj
  rw[if_pos hj,List.getElem?_drop] at hd
  rw[List.getElem?_drop] at hx
  obtain⟨v,k1,k2⟩:=h.2.2 _ x hx
  rw[show p.s+(q+j)=p.s+q+j by omega] at k1
  have hd':arr[p.s+q+j]?=some d:=by simpa using hd
  rw[hd'] at k1;injection k1 with k1;subst k1
  exact k2
 ·cases hx
theorem range_cell{c q n:Nat} {arr:Array Value} {T:TypeId} {fr:Nat × Nat} (h:w.heap[c]?=some (.cells arr T fr)) (j:Nat) (u:Value) (hu:((arr.toList.drop q).take n)[j]?=some u) :
  w.cell? ((⟨c,q,none⟩:Addr).add j)=some u:=by
 rw[Addr.add_mid,cell_row h]
 rw[List.getElem?_take] at hu
 split at hu
 ·rw[List.getElem?_drop] at hu;simpa using hu
 ·cases hu
theorem src_ok{sz:Nat} {v:AV} {cv:Value} {new:List AV} {n:Nat} (h:rowOf m sz v=some new) (hn:lenA v=some n) (hv:VR num μ v cv) (hs:Sim A num F μ m w.heap) :
  ∃ A0 cap,cv = .slice A0 n cap∧((n=0∧new=[])∨(∃ ad ds,A0=some ad∧VRL num μ new ds∧ds.length=n * sz∧∀ j u,ds[j]?=some u→w.cell? (ad.add j)=some u)):=by
 unfold rowOf at h
 split at h
 ·injection h with h;subst h
  simp only[lenA,Option.some.injEq] at hn;subst hn
  exact⟨none,0,hv.nils_inv,.inl ⟨rfl,rfl⟩⟩
 ·injection h with h;subst h
  simp only[lenA,Option.some.injEq] at hn;subst hn
  obtain⟨A0,he⟩:=hv.mt_inv
  exact⟨some A0,0,he,.inl ⟨rfl,rfl⟩⟩
 ·rename_i i q len c
  simp only[lenA,Option.some.injEq] at hn;subst hn
  obtain⟨p,A0,c',hp,he,h3⟩:=hv.sl_inv
  refine⟨some A0,c',he,?_⟩
  split at h
  ·rename_i h0
   injection h with h;subst h
   exact .inl ⟨h0,rfl⟩
  ·rename_i h0
   split at h
   ·rename_i z ro l hg
    split at h
    ·rename_i hle
     injection h with h;subst h
     obtain⟨arr,T,fr,hz,hh,hr,_⟩:=hs.row (getC_some hg) hp
     obtain⟨k1,k2⟩:=hr.range hle
     rcases h3 with h3|h3
     ·obtain⟨rfl,_⟩:=h3
      exact .inr ⟨_,_,rfl,k1,k2,fun j u hu=>range_cell hh j u hu⟩
     ·exact absurd h3.1 h0
    ·cases h
   ·cases h
 ·cases h
theorem run_append_same(t ty e:TypeId) (i:TypeInfo) (ht:P.underlying t=some (.slice e)) (hi:P.info? e=some i) (A0:Option Addr) (sLen sCap:Nat) (hle:sLen≤sCap) (A1:Option Addr) (c:Nat) :
  (Builtin.append_ #[t,t] ty #[.slice A0 sLen sCap,.slice A1 0 c]).run P w = .ok (.slice A0 sLen sCap) w:=by
 cases A1<;>cases A0<;>simp[Builtin.append_,run_underlying ht,sizeOf,typeInfo,hi,Builtin.lenOf,Builtin.firstCells,loadCells,loadCellsFrom,storeCells,hle]
theorem run_append_room' (t ty e:TypeId) (i:TypeInfo) (ht:P.underlying t=some (.slice e)) (hi:P.info? e=some i)
  {g q sLen sCap:Nat} {cur:Array Value} {T:TypeId} (hg:w.heap[g]?=some (.cells cur T (0,0)))
  (ad:Addr) (n c:Nat) (news:List Value) (hl:news.length=n * i.size) (hnews:∀ j u,news[j]?=some u→w.cell? (ad.add j)=some u) (h1:news.all (·.oneCell')=true)
  (hroom:sLen+n≤sCap) (hfit:q+sLen * i.size+news.length≤cur.size) :
  (Builtin.append_ #[t,t] ty #[.slice (some ⟨g,q,none⟩) sLen sCap,.slice (some ad) n c]).run P w =
   .ok (.slice (some ⟨g,q,none⟩) (sLen+n) sCap) (w.setRow g (splice cur.toList (q+sLen * i.size) news).toArray):=by
 have hf:=run_firstCells_some (P:=P) w i.size n ad n c news hl hnews
 have hst:=run_storeCells' (P:=P) hg hfit h1
 simp[Builtin.append_,run_underlying ht,sizeOf,typeInfo,hi,Builtin.lenOf,hroom,hf,Addr.add_mid,hst]
theorem VRL.oneAll{vs:List AV} {ds:List Value} (h:VRL num μ vs ds) (h1:vs.all AV.one=true):ds.all (·.oneCell')=true:=by
 have:=(VR.agg_of h).cells (by simpa [AV.cells] using h1)
 simpa [Value.cells] using this.2
theorem does_newD{v:AV} {m0:Mem X} {l:List AV} {sz:Nat} (arr:Array Value) (T:TypeId) (cv:Value) (h:(execOp a.eval o).run P w = .ok (.value cv) (w.drew.alloc (.cells arr T)))
  (hlen:l.length≤arr.size) (hr:∀ (q:Nat) (x:AV),l[q]?=some x→∃ v,arr[q]?=some v∧VR num μ x v) (hv:∀ μ':Mu,μ' m0.length=some ⟨w.heap.size,0,arr.size,sz⟩→VR num μ' v cv) (hs:Sim A num F μ m0 w.heap) :
  Does A num P o a m0.length F μ w v (m0++[.cells sz false l]):=fun next Q hn=>by
 obtain⟨F',μ',h1,h2,h3⟩:=Sim.alloc (w:=w.drew) hs arr T l sz hlen hr
 unfold Oper.wp;rw[h];exact hn F' μ' cv _ (hv μ' h3) h1 ((Ext.of_heap m0.length F μ (w:=w) (w':=w.drew) rfl rfl rfl rfl).trans h2 (Nat.le_refl _))
theorem execOp_append{s x:Operand} {t:TypeId} (ho:o.op = .call { callee:=.builtin .append,args:=#[s,x],argTypes:=#[t,t] }) :
  (execOp a.eval o).run P w=((Builtin.append_ #[t,t] o.type #[a.eval s,a.eval x]).run P w).andThen fun v w'=>.ok (.value v) w':=by
 unfold execOp
 simp[ho,resolve,invoke,builtin]
theorem arr_grow{old new:List AV} {olds news:List Value} (h1:VRL num μ old olds) (h2:VRL num μ new news) (z:Array Value):
  (old++new).length≤(olds.toArray++news.toArray++z).size∧∀ (q:Nat) (x:AV),(old++new)[q]?=some x→∃ v,(olds.toArray++news.toArray++z)[q]?=some v∧VR num μ x v:=by
 have h:=h1.append h2
 refine⟨by have:=h.1;simp at this ⊢;omega,fun q x hx=>?_⟩
 obtain⟨d,hd,hvd⟩:=h.get hx
 refine⟨d,?_,hvd⟩
 have hq:q < (olds++news).length:=(List.getElem?_eq_some_iff.1 hd).1
 rw[Array.getElem?_append_left (by simpa using hq)]
 simpa using hd
structure ElemIs (P:Program) (t e:TypeId) (i:TypeInfo) (z:Value) (sz bytes:Nat):Prop where
 h1:P.underlying t=some (.slice e)
 h2:P.info? e=some i
 h3:i.zero=some z
 h4:i.size=sz
 h5:i.bytes=bytes
 h6:z.cells.size=sz
theorem grown_fits{w:World} {z:Array Value} {need old sz:Nat} {e:TypeId} (hz:z.size=sz) {news:List Value} (hn:news.length=need * sz) :
  0+grownCap w need old e * sz≤(news.toArray++Builtin.zeroCells z (grownCap w need old e - need)).size:=by
 have:=grownCap_ge w need old e
 simp only[Array.size_append,List.size_toArray,size_zeroCells,hz,hn,← Nat.add_mul]
 rw[Nat.add_sub_cancel' this];omega
theorem does_append{s x:Operand} {t e:TypeId} (ho:o.op = .call { callee:=.builtin .append,args:=#[s,x],argTypes:=#[t,t] }) {i:TypeInfo} {z:Value} {sz bytes:Nat} (T:ElemIs P t e i z sz bytes) {u v r:AV} {m':Mem X}
  (hu:VR num μ u (a.eval s)) (hv:VR num μ v (a.eval x)) (h:appendA sz bytes u v m=some (r,m')) (hs:Sim A num F μ m w.heap):Does A num P o a m.length F μ w r m':=by
 obtain⟨hT1,hT2,hT3,hT4,hT5,hT6⟩:=T
 subst hT4;subst hT5
 unfold appendA at h
 split at h
 case h_2=>cases h
 rename_i n new hn hrow
 obtain⟨A1,c1,hx,hsrc⟩:=src_ok hrow hn hv hs
 split at h
 ·-- onto nil
  have hus:=hu.nils_inv
  split at h
  ·rename_i h0
   subst h0
   simp only[Option.some.injEq,Prod.mk.injEq] at h;obtain⟨rfl,rfl⟩:=h
   refine Does.value (.slice none 0 0) ?_ .nils hs
   rw[execOp_append ho,hus,hx,run_append_same t _ e i hT1 hT2 none 0 0 (Nat.le_refl _) A1 c1];rfl
  ·rename_i h0
   split at h
   ·rename_i hc
    obtain⟨hb,hb2,h1⟩:=hc
    simp only[Option.some.injEq,Prod.mk.injEq] at h;obtain⟨rfl,rfl⟩:=h
    rcases hsrc with hsrc|⟨ad,ds,rfl,hds,hdl,hcell⟩
    ·exact absurd hsrc.1 h0
    have hrun:=run_append_nil (P:=P) w t o.type e i z hT1 hT2 hT3 ad n c1 ds hdl hcell (by omega) (by omega) (by omega)
    refine does_newD (m0:=m) (ds.toArray++Builtin.zeroCells z.cells (grownCap w n 0 e - n)) e _ (by rw[execOp_append ho,hus,hx,hrun];rfl) ?_ ?_ (fun μ' hμ=>?_) hs
    ·have:=hds.1;simp;omega
    ·intro q x hq
     obtain⟨d,hd,hvd⟩:=hds.get hq
     refine⟨d,?_,hvd⟩
     rw[Array.getElem?_append_left (by simpa using (List.getElem?_eq_some_iff.1 hd).1)]
     simpa using hd
    ·have:=VR.slu (num:=num) (o:=0) (len:=n) (cap:=grownCap w n 0 e) hμ (grownCap_ge w n 0 e) (grown_fits hT6 hdl)
     simpa using this
   ·cases h
 ·-- onto an empty one
  obtain⟨A0,hus⟩:=hu.mt_inv
  split at h
  ·rename_i h0
   subst h0
   simp only[Option.some.injEq,Prod.mk.injEq] at h;obtain⟨rfl,rfl⟩:=h
   refine Does.value (.slice (some A0) 0 0) ?_ .mt hs
   rw[execOp_append ho,hus,hx,run_append_same t _ e i hT1 hT2 (some A0) 0 0 (Nat.le_refl _) A1 c1];rfl
  ·rename_i h0
   split at h
   ·rename_i hc
    obtain⟨hb,hb2,h1⟩:=hc
    simp only[Option.some.injEq,Prod.mk.injEq] at h;obtain⟨rfl,rfl⟩:=h
    rcases hsrc with hsrc|⟨ad,ds,rfl,hds,hdl,hcell⟩
    ·exact absurd hsrc.1 h0
    have hrun:=run_append_grow (P:=P) w t o.type e i z hT1 hT2 hT3 A0 0 0 [] (by simp) (by simp) ad n c1 ds hdl hcell (by omega) (by omega) (growslice_fits (by omega) (by simp only[Nat.zero_add];omega))
    simp only[Nat.zero_add] at hrun
    obtain⟨g1,g2⟩:=arr_grow (VRL.nil (num:=num) (μ:=μ)) hds (Builtin.zeroCells z.cells (grownCap w n 0 e - n))
    refine does_newD (m0:=m) _ e _ (by rw[execOp_append ho,hus,hx,hrun];rfl) g1 g2 (fun μ' hμ=>?_) hs
    have:=VR.slu (num:=num) (o:=0) (len:=n) (cap:=grownCap w n 0 e) hμ (grownCap_ge w n 0 e) (by
     have:=grown_fits (w:=w) (need:=n) (old:=0) (e:=e) hT6 hdl
     simpa using this)
    simpa using this
   ·cases h
 ·-- onto a slice whose capacity is known
  rename_i k q len c
  obtain⟨p,A0,c',hp,he,h3⟩:=hu.sl_inv
  have hcc:c'=c:=by
   rcases h3 with⟨_,h3|h3⟩|⟨_,h3,h4|h4⟩
   ·injection h3 with h3;exact h3.symm
   ·exact absurd h3.1 (by simp)
   ·cases h4
   ·injection h4 with h4;omega
  subst hcc
  split at h
  ·rename_i h0
   subst h0
   split at h
   ·rename_i hle
    simp only[Option.some.injEq,Prod.mk.injEq] at h;obtain⟨rfl,rfl⟩:=h
    refine Does.value (a.eval s) ?_ hu hs
    rw[execOp_append ho,he,hx,run_append_same t _ e i hT1 hT2 (some A0) len c' hle A1 c1];rfl
   ·cases h
  ·rename_i h0
   rcases hsrc with hsrc|⟨ad,ds,rfl,hds,hdl,hcell⟩
   ·exact absurd hsrc.1 h0
   split at h
   ·rename_i hroom
    split at h
    ·rename_i zz l hg
     split at h
     ·rename_i hc
      obtain⟨hfit,h1⟩:=hc
      simp only[Option.some.injEq,Prod.mk.injEq] at h;obtain⟨rfl,rfl⟩:=h
      rcases h3 with⟨rfl,h3⟩|⟨h3,h4,_⟩
      ·obtain⟨arr,T,fr,hz,hh,hr,hF⟩:=hs.row (getC_some hg) hp
       obtain⟨hFp,rfl⟩:=hF rfl
       have hnl:new.length=n * i.size:=hds.1.trans hdl
       have hfit2:q+len * i.size+new.length≤l.length:=by rw[hnl];rw[Nat.add_mul] at hfit;omega
       have hrun:=run_append_room' (P:=P) (q:=p.s+q) t o.type e i hT1 hT2 hh ad n c1 ds hdl hcell (hds.oneAll h1) hroom (by have:=hr.1;have:=hr.2.1;rw[← hds.1];omega)
       have hrow':=hr.splice hds (q:=q+len * i.size) hfit2
       rw[show p.s+(q+len * i.size)=p.s+q+len * i.size by omega] at hrow'
       obtain⟨k1,k2⟩:=hs.write (w':=w.setRow p.c (splice arr.toList (p.s+q+len * i.size) ds).toArray) (l':=splice l (q+len * i.size) new) (getC_some hg) hp (by simp) (setRow_heap w p.c arr _ T _ hh) (fun c hc=>setRow_other w p.c c _ hc) hrow' rfl rfl rfl
       intro next Q hnx
       unfold Oper.wp;rw[execOp_append ho,he,hx,hrun]
       exact hnx F μ _ _ (.sl hp) k1 k2
      ·omega
     ·cases h
    ·cases h
   ·rename_i hroom
    split at h
    ·rename_i old hold
     split at h
     ·rename_i hc
      obtain⟨hb,hb2,h1⟩:=hc
      simp only[Option.some.injEq,Prod.mk.injEq] at h;obtain⟨rfl,rfl⟩:=h
      obtain⟨A2,c2,he2,hsrc2⟩:=src_ok (n:=len) hold rfl hu hs
      have key:∃ olds,VRL num μ old olds∧olds.length=len * i.size∧∀ j u,olds[j]?=some u→w.cell? (A0.add j)=some u:=by
       rcases hsrc2 with⟨rfl,rfl⟩|⟨ad2,ds2,rfl,k1,k2,k3⟩
       ·exact⟨[],VRL.nil,by simp,by simp⟩
       ·rw[he] at he2;injection he2 with e1;injection e1 with e1;subst e1
        exact⟨ds2,k1,k2,k3⟩
      obtain⟨olds,k1,k2,k3⟩:=key
      have hrun:=run_append_grow (P:=P) w t o.type e i z hT1 hT2 hT3 A0 len c' olds k2 k3 ad n c1 ds hdl hcell (by omega) (by omega) (growslice_fits (by omega) (by omega))
      obtain⟨g1,g2⟩:=arr_grow k1 hds (Builtin.zeroCells z.cells (grownCap w (len+n) c' e - (len+n)))
      refine does_newD (m0:=m) _ e _ (by rw[execOp_append ho,he,hx,hrun];rfl) g1 g2 (fun μ' hμ=>?_) hs
      have hln:(olds++ds).length=(len+n) * i.size:=by simp[k2,hdl,Nat.add_mul]
      have:=VR.slu (num:=num) (o:=0) (len:=len+n) (cap:=grownCap w (len+n) c' e) hμ (grownCap_ge w (len+n) c' e) (by
       have:=grown_fits (w:=w) (need:=len+n) (old:=c') (e:=e) hT6 hln
       simpa [Nat.add_assoc] using this)
      simpa using this
     ·cases h
    ·cases h
 ·-- onto a slice whose capacity is not known
  rename_i k q len
  obtain⟨p,A0,c',hp,he,h3⟩:=hu.sl_inv
  split at h
  ·rename_i h0
   subst h0
   simp only[Option.some.injEq,Prod.mk.injEq] at h;obtain⟨rfl,rfl⟩:=h
   refine Does.value (a.eval s) ?_ hu hs
   have hle:len≤c':=by
    rcases h3 with⟨_,h3|h3⟩|⟨h3,h4,_⟩
    ·cases h3
    ·exact h3.2.1
    ·omega
   rw[execOp_append ho,he,hx,run_append_same t _ e i hT1 hT2 (some A0) len c' hle A1 c1];rfl
  ·rename_i h0
   rcases hsrc with hsrc|⟨ad,ds,rfl,hds,hdl,hcell⟩
   ·exact absurd hsrc.1 h0
   split at h
   ·rename_i zz l hg
    split at h
    ·rename_i hc
     obtain⟨rfl,hfit,hb,hb2,h1⟩:=hc
     simp only[Option.some.injEq,Prod.mk.injEq] at h;obtain⟨rfl,rfl⟩:=h
     obtain⟨arr,T,fr,hz,hh,hr,hF⟩:=hs.row (getC_some hg) hp
     obtain⟨hFp,rfl⟩:=hF rfl
     obtain⟨k1,k2⟩:=hr.range hfit
     have hnl:new.length=n * i.size:=hds.1.trans hdl
     have hone:((l.drop q).take (len * i.size)).all AV.one=true∧new.all AV.one=true:=by simpa using h1
     by_cases hroom:len+n≤c'
     ·rcases h3 with⟨rfl,h3|h3⟩|⟨h3,h4,_⟩
      ·cases h3
      ·obtain⟨_,hlc,hcr⟩:=h3
       rw[hz] at hcr
       have hcr2:q+len * i.size+n * i.size≤p.r:=by
        have:(len+n) * i.size≤c' * i.size:=Nat.mul_le_mul_right _ hroom
        rw[Nat.add_mul] at this;omega
       have hfitc:p.s+q+len * i.size+ds.length≤arr.size:=by have:=hr.2.1;rw[hdl];omega
       have hrun:=run_append_room' (P:=P) (q:=p.s+q) t o.type e i hT1 hT2 hh ad n c1 ds hdl hcell (hds.oneAll hone.2) hroom hfitc
       have hsp:∀ j,(splice arr.toList (p.s+q+len * i.size) ds)[j]?=if j < p.s+q+len * i.size then arr.toList[j]? else if j < p.s+q+len * i.size+ds.length then ds[j - (p.s+q+len * i.size)]? else arr.toList[j]?:=getElem?_splice _ _ _ (by simpa using hfitc)
       have hrow':RowAt num μ ⟨p.c,p.s+q,p.r - q,p.z⟩ ((l.drop q).take (len * i.size)++new) (splice arr.toList (p.s+q+len * i.size) ds).toArray:=by
        have hl1:((l.drop q).take (len * i.size)).length=len * i.size:=by simp;omega
        refine⟨by simp[hnl];omega,by simp[length_splice _ _ _ (show p.s+q+len * i.size+ds.length≤arr.toList.length by simpa using hfitc)];have:=hr.2.1;omega,fun j y hy=>?_⟩
        simp only[List.getElem?_toArray,hsp]
        rw[List.getElem?_append] at hy
        split at hy
        ·rename_i hj
         rw[if_pos (by omega)]
         rw[List.getElem?_take] at hy
         split at hy
         ·rw[List.getElem?_drop] at hy
          obtain⟨v',e1,e2⟩:=hr.2.2 _ y hy
          exact⟨v',by rw[show p.s+q+j=p.s+(q+j) by omega];simpa using e1,e2⟩
         ·cases hy
        ·rename_i hj
         rw[hl1] at hj hy
         rw[if_neg (by omega)]
         obtain⟨d,e1,e2⟩:=hds.get hy
         have:=(List.getElem?_eq_some_iff.1 e1).1
         rw[if_pos (by omega)]
         exact⟨d,by rw[show p.s+q+j - (p.s+q+len * i.size)=j - len * i.size by omega];exact e1,e2⟩
       obtain⟨μ',t1,t2,t3⟩:=hs.take (w':=w.setRow p.c (splice arr.toList (p.s+q+len * i.size) ds).toArray) (o:=q) (getC_some hg) hp (by simp) (setRow_heap w p.c arr _ T _ hh) (fun c hc=>setRow_other w p.c c _ hc) (by omega) hrow' rfl rfl rfl
       rw[hz] at t3
       intro next Q hnx
       unfold Oper.wp;rw[execOp_append ho,he,hx,hrun]
       have:=VR.slu (num:=num) (o:=0) (len:=len+n) (cap:=c') t3 hroom (by simp;omega)
       exact hnx F μ' _ _ (by simpa using this) t1 t2
      ·omega
     ·have key:∃ olds,VRL num μ ((l.drop q).take (len * i.size)) olds∧olds.length=len * i.size∧∀ j u,olds[j]?=some u→w.cell? (A0.add j)=some u:=by
       rcases h3 with⟨rfl,h3⟩|⟨rfl,h4,_⟩
       ·exact⟨_,k1,k2,fun j u hu=>range_cell hh j u hu⟩
       ·exact⟨[],by simpa using VRL.nil,by simp,by simp⟩
      obtain⟨olds,k1,k2,k3⟩:=key
      have hrun:=run_append_grow (P:=P) w t o.type e i z hT1 hT2 hT3 A0 len c' olds k2 k3 ad n c1 ds hdl hcell (by omega) (by omega) (growslice_fits (by omega) (by omega))
      obtain⟨g1,g2⟩:=arr_grow k1 hds (Builtin.zeroCells z.cells (grownCap w (len+n) c' e - (len+n)))
      have:=does_newD (P:=P) (o:=o) (a:=a) (A:=A) (m0:=m.set k .dead) (sz:=i.size) (v:=.sl m.length 0 (len+n) none) _ e _ (by rw[execOp_append ho,he,hx,hrun];rfl) g1 g2 (fun μ' hμ=>?_) (hs.kill k)
      ·simpa using this
      ·have hln:(olds++ds).length=(len+n) * i.size:=by simp[k2,hdl,Nat.add_mul]
       have:=VR.slu (num:=num) (i:=m.length) (o:=0) (len:=len+n) (cap:=grownCap w (len+n) c' e) (by simpa using hμ) (grownCap_ge w (len+n) c' e) (by
        have:=grown_fits (w:=w) (need:=len+n) (old:=c') (e:=e) hT6 hln
        simpa [Nat.add_assoc] using this)
       simpa using this
    ·cases h
   ·cases h
 ·cases h
end
end Go.Am
end
