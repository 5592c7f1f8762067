import Derived.Test.YtdfnfmocppgniaaXG06
import Derived.Laws.Tables
set_option linter.unusedSimpArgs false
set_option linter.unusedVariables false
section
namespace Go.Am
section
variable {X:Type} {A:AbsSem X} {num:Nat→Nat} {P:Program} {o:Oper} {a:Act} {F:Nat→Prop} {μ:Mu} {m:Mem X} {w:World}
theorem foldl_set(off:Nat):∀ (vs:List Value) (k:Nat) (cells:Array Value),off+k+vs.length≤cells.size →
  ((vs.zipIdx k).foldl (fun cs (x:Value × Nat)=>cs.setIfInBounds (off+x.2) x.1) cells).toList=splice cells.toList (off+k) vs
 | [],k,cells,_=>by simp[splice]
 | v :: vs,k,cells,h=>by
  simp only[List.zipIdx_cons,List.foldl_cons]
  simp only[List.length_cons] at h
  rw[foldl_set off vs (k+1) _ (by simp;omega)]
  apply List.ext_getElem?
  intro j
  rw[getElem?_splice _ _ _ (by simp;omega),getElem?_splice _ _ _ (by simp;omega)]
  simp only[Array.toList_setIfInBounds,List.getElem?_set,List.length_cons,Array.length_toList]
  by_cases h1:j < off+k
  ·rw[if_pos (by omega),if_neg (by omega),if_pos h1]
  ·by_cases h2:j=off+k
   ·subst h2
    rw[if_pos (by omega),if_pos rfl,if_pos (by omega),if_neg (by omega),if_pos (by omega)]
    simp
   ·rw[if_neg (by omega),if_neg h1]
    by_cases h3:j < off+(k+1)+vs.length
    ·rw[if_pos h3,if_pos (by omega)]
     rw[show j - (off+k)=(j - (off+(k+1)))+1 by omega,List.getElem?_cons_succ]
    ·rw[if_neg h3,if_neg (by omega),if_neg (by omega)]
theorem VRL.splice{l vs:List AV} {arr ds:List Value} (h:VRL num μ l arr) (hv:VRL num μ vs ds) {q:Nat} (hq:q+vs.length≤l.length):VRL num μ (splice l q vs) (splice arr q ds):=by
 unfold Go.Am.splice
 rw[hv.1]
 exact((h.take q).append hv).append (h.drop _)
theorem fill_ok(place:Nat→Option (Nat × Nat)):∀ (ps:List (Nat × Nat)) (parts:List (Nat × Value)) (vs:List AV) (z r:List AV) (cells:Array Value),fillA z ps vs=some r→VRL num μ vs (parts.map (·.2))→VRL num μ z cells.toList →
  (∀ (j:Nat) (p:Nat × Value),parts[j]?=some p→place p.1=ps[j]?)→∃ cells',Instr.fill place cells parts=some cells'∧VRL num μ r cells'.toList
 | [],parts,[],z,r,cells,h,hv,hz,hp=>by
  simp only[fillA,Option.some.injEq] at h;subst h
  have:parts=[]:=by have:=hv.1;simp at this;exact List.eq_nil_of_length_eq_zero this.symm
  subst this
  exact⟨cells,rfl,hz⟩
 | [],_,_ :: _,z,r,cells,h,_,_,_=>by simp[fillA] at h
 | _ :: _,_,[],z,r,cells,h,_,_,_=>by simp[fillA] at h
 | (off,size) :: ps,parts,v :: vs,z,r,cells,h,hv,hz,hp=>by
  simp only[fillA] at h
  split at h
  ·rename_i hc
   obtain⟨hc1,hc2,hc3⟩:=hc
   cases parts with
   | nil=>have:=hv.1;simp at this
   | cons p parts =>
    obtain⟨pi,pv⟩:=p
    obtain⟨d,ds',he,hd,hvs⟩:=hv.cons_inv
    simp only[List.map_cons,List.cons.injEq] at he
    obtain⟨rfl,rfl⟩:=he
    have hpl:=hp 0 (pi,pv) rfl
    simp only[List.getElem?_cons_zero] at hpl
    obtain⟨k1,_⟩:=hd.cells hc3
    have hsz:pv.cells.size=size:=by have:=k1.1;simp at this;omega
    have hcs:off+size≤cells.size:=by have:=hz.1;simp at this;omega
    have hf:=foldl_set off pv.cells.toList 0 cells (by simp;omega)
    have hz':VRL num μ (splice z off v.cells) (pv.cells.zipIdx.foldl (fun cs (c,j)=>cs.setIfInBounds (off+j) c) cells).toList:=by
     rw[← Array.foldl_toList,Array.toList_zipIdx]
     rw[hf]
     exact hz.splice k1 (by omega)
    obtain⟨cells',e1,e2⟩:=fill_ok place ps parts vs _ r _ h hvs hz' (fun j q hj=>hp (j+1) q (by simpa using hj))
    refine⟨cells',?_,e2⟩
    simp only[Instr.fill,hpl]
    rw[if_neg (by simp;omega)]
    exact e1
  ·cases h
def placesOf(P:Program) (t:TypeId):Option (Nat→Option (Nat × Nat)) :=
 match P.underlying t with
 | some (.array _ e)=>match P.info? e with
  | some ie=>some (fun i=>some (i * ie.size,ie.size))
  | none=>none
 | some (.struct fs)=>match fs.toList.mapM (fun f=>(P.info? f.type).map fun i=>(f.offset,i.size)) with
  | some places=>some (places.toArray[·]?)
  | none=>none
 | _=>none
theorem built_of{t:TypeId} {pl:Nat→Option (Nat × Nat)} (h:placesOf P t=some pl) {i:TypeInfo} {v:Value} (hi:P.info? t=some i) (hz:i.zero=some v) (parts:List (Nat × Value)) :
  P.built t parts=Instr.fill pl v.cells parts:=by
 unfold placesOf at h
 unfold Program.built
 rw[hi]
 split at h
 ·rename_i n e hu
  split at h
  ·rename_i ie hie
   injection h with h;subst h
   simp[hu,hz,hie]
  ·cases h
 ·rename_i fs hu
  split at h
  ·rename_i places hp
   injection h with h;subst h
   simp only[hu,hz,hp]
  ·cases h
 ·cases h
theorem does_build{t:TypeId} {parts:Array (Nat × Operand)} (ho:o.op = .build t parts) {pl:Nat→Option (Nat × Nat)} (hpl:placesOf P t=some pl) {z:List AV} (hz:zeroIs P t z=true) {ps:List (Nat × Nat)} {vs r:List AV}
  (hps:∀ (j:Nat) (p:Nat × Operand),parts.toList[j]?=some p→pl p.1=ps[j]?) (hv:VRL num μ vs (parts.toList.map fun p=>a.eval p.2)) (h:fillA z ps vs=some r) (hs:Sim A num F μ m w.heap) :
  Does A num P o a m.length F μ w (.agg r) m:=by
 obtain⟨i,v,hi,hzv,hzl⟩:=zeroIs_ok (num:=num) hz μ
 have hm:(parts.map fun(i,x)=>(i,a.eval x)).toList=parts.toList.map fun p=>(p.1,a.eval p.2):=by simp
 obtain⟨cells',e1,e2⟩:=fill_ok (num:=num) (μ:=μ) pl ps (parts.toList.map fun p=>(p.1,a.eval p.2)) vs z r v.cells h (by simpa [Function.comp_def] using hv) hzl (fun j p hj=>by
  rw[List.getElem?_map] at hj
  cases hq:parts.toList[j]? with
  | none=>rw[hq] at hj;cases hj
  | some q =>
   rw[hq] at hj;simp at hj;subst hj
   exact hps j q hq)
 refine Does.value (.agg cells') ?_ (by simpa using VR.agg_of e2) hs
 have hb:P.built t (parts.map fun(i,x)=>(i,a.eval x)).toList=some cells':=by rw[hm,built_of hpl hi hzv];exact e1
 simp only[execOp,ho,Sem.run_bind,run_build w t _ cells' hb,Result.andThen_ok,Sem.run_pure]
theorem getElem?_repeatL (z:List AV):∀ (n j:Nat),j < n * z.length→(repeatL n z)[j]?=z[j % z.length]?
 | 0,j,h=>by omega
 | n+1,j,h=>by
  have e:repeatL (n+1) z=z++repeatL n z:=by simp[repeatL,List.replicate_succ]
  rw[e,List.getElem?_append]
  split
  ·rename_i h1;rw[Nat.mod_eq_of_lt h1]
  ·rename_i h1
   rw[Nat.add_mul,Nat.one_mul] at h
   rw[getElem?_repeatL z n _ (by omega)]
   congr 1
   rw[← Nat.mod_eq_sub_mod (by omega)]
theorem length_repeatL(z:List AV) (n:Nat):(repeatL n z).length=n * z.length:=by simp[repeatL]
theorem madeCells_ok{z:List AV} {zv:Array Value} (h:VRL num μ z zv.toList) (n:Nat):VRL num μ (repeatL n z) (madeCells zv (n * zv.size)).toList:=by
 have hsz:z.length=zv.size:=by have:=h.1;simpa using this
 refine⟨by rw[length_repeatL,hsz];simp[size_madeCells],fun j x d hx hd=>?_⟩
 have hj:j < n * z.length:=by rw[← length_repeatL];exact(List.getElem?_eq_some_iff.1 hx).1
 rw[getElem?_repeatL z n j hj] at hx
 obtain⟨d',e1,e2⟩:=h.get hx
 have hpos:0 < zv.size:=by
  rcases Nat.eq_zero_or_pos zv.size with h0|h0
  ·rw[hsz,h0] at hj;omega
  ·exact h0
 have:d=d':=by
  rw[hsz] at e1
  have hlt:j % zv.size < zv.size:=Nat.mod_lt _ hpos
  simp[madeCells] at hd
  obtain⟨k,hk,hd⟩:=hd
  have hkj:k=j:=by
   rw[List.getElem?_range (by rw[← hsz];exact hj)] at hk
   injection hk with hk;exact hk.symm
  subst hkj
  simp[hlt] at e1 hd
  rw[← hd,← e1]
 subst this
 exact e2
theorem does_make{t e:TypeId} {x y:Operand} (ho:o.op = .makeSlice t x y) {i:TypeInfo} {zv:Value} {sz bytes:Nat} (T:ElemIs P t e i zv sz bytes) {z:List AV} (hz:zeroIs P e z=true) {n c:Int}
  (hx:VR num μ (.int .i64 n) (a.eval x)) (hy:VR num μ (.int .i64 c) (a.eval y)) (h0:0≤n) (h1:n≤c) (h2:c.toNat * bytes≤140737488355328) (h3:c≤140737488355328) (hs:Sim A num F μ m w.heap) :
  Does A num P o a m.length F μ w (.sl m.length 0 n.toNat (some c.toNat)) (m++[.cells sz false (repeatL c.toNat z)]):=by
 obtain⟨hT1,hT2,hT3,hT4,hT5,hT6⟩:=T
 subst hT4;subst hT5
 obtain⟨i',v',hi',hz',hzl⟩:=zeroIs_ok (num:=num) hz μ
 rw[hT2] at hi';injection hi' with hi';subst hi'
 rw[hT3] at hz';injection hz' with hz';subst hz'
 have hb:(i.bytes:Int) * c≤281474976710656:=by
  have e1:((c.toNat * i.bytes:Nat):Int)=c * (i.bytes:Int):=by rw[Int.natCast_mul,Int.toNat_of_nonneg (by omega)]
  have e2:((c.toNat * i.bytes:Nat):Int)≤140737488355328:=by omega
  rw[Int.mul_comm]
  omega
 have hrun:=run_make (P:=P) w t e i zv hT1 hT2 hT3 .i64 .i64 n c h0 h1 hb (by omega)
 have hm:=madeCells_ok (num:=num) (μ:=μ) hzl c.toNat
 rw[hT6] at hm
 exact does_new (madeCells zv.cells (c.toNat * i.size)) e (.slice (some ⟨w.heap.size,0,none⟩) n.toNat c.toNat) (by simp[execOp,ho,hx.int_inv,hy.int_inv,hrun]) hm (fun μ' hμ=>by simpa using VR.sl (num:=num) (o:=0) (len:=n.toNat) (cap:=c.toNat) hμ) hs
theorem does_clear{t e:TypeId} {x:Operand} (ho:o.op = .call { callee:=.builtin .clear,args:=#[x],argTypes:=#[t] }) {i:TypeInfo} {zv:Value} {sz bytes:Nat} (T:ElemIs P t e i zv sz bytes) {z:List AV} (hz:zeroIs P e z=true)
  {u:AV} {m':Mem X} (hx:VR num μ u (a.eval x)) (h:clearA sz z u m=some m') (hs:Sim A num F μ m w.heap):Does A num P o a m.length F μ w .skip m':=by
 obtain⟨hT1,hT2,hT3,hT4,hT5,hT6⟩:=T
 subst hT4;subst hT5
 obtain⟨i',v',hi',hz',hzl⟩:=zeroIs_ok (num:=num) hz μ
 rw[hT2] at hi';injection hi' with hi';subst hi'
 rw[hT3] at hz';injection hz' with hz';subst hz'
 have hzv:∀ w,(zeroValue e).run P w = .ok zv w:=fun w=>run_zeroValue' hT2 hT3
 have hex:(execOp a.eval o).run P w=((Builtin.clear_ #[t] o.type #[a.eval x]).run P w).andThen fun v w'=>.ok (.value v) w':=by
  unfold execOp
  simp[ho,resolve,invoke,builtin]
 unfold clearA at h
 split at h
 ·injection h with h;subst h
  have hus:=hx.nils_inv
  refine Does.value (.tuple #[]) ?_ VR.skip hs
  rw[hex,hus]
  simp[Builtin.clear_,run_underlying hT1]
 ·rename_i k q len cap
  obtain⟨p,A0,c',hp,he,h3⟩:=hx.sl_inv
  split at h
  ·rename_i h0
   injection h with h;subst h
   refine Does.value (.tuple #[]) ?_ VR.skip hs
   rw[hex,he,h0]
   simp[Builtin.clear_,run_underlying hT1]
  ·rename_i h0
   have hA:A0=⟨p.c,p.s+q,none⟩:=by
    rcases h3 with⟨h3,_⟩|⟨h3,_⟩
    ·exact h3
    ·exact absurd h3 h0
   subst hA
   unfold storeN at h
   split at h
   ·rename_i sz' l hg
    split at h
    ·rename_i hc
     obtain⟨hc1,hc2,hc3⟩:=hc
     injection h with h;subst h
     have hm:=madeCells_ok (num:=num) (μ:=μ) hzl len
     have hv:VR num μ (.agg (repeatL len z)) (.agg (madeCells zv.cells (len * zv.cells.size))):=by
      have:=VR.agg_of hm;simpa using this
     obtain⟨hv1,hv2⟩:=hv.cells hc3
     obtain⟨arr,T,fr,hz2,hh,hr,hF⟩:=hs.row (getC_some hg) hp
     obtain⟨hFp,rfl⟩:=hF rfl
     have hcells:(Value.agg (madeCells zv.cells (len * zv.cells.size))).cells=madeCells zv.cells (len * zv.cells.size):=rfl
     rw[hcells] at hv1 hv2
     have hsz:(madeCells zv.cells (len * zv.cells.size)).toList.length=len * i.size:=by simp[size_madeCells,hT6]
     have hlen:(AV.agg (repeatL len z)).cells.length=len * i.size:=hc1
     have hfit:p.s+q+(madeCells zv.cells (len * zv.cells.size)).toList.length≤arr.size:=by have:=hr.1;have:=hr.2.1;rw[hsz];omega
     have hst:=run_storeCells' (P:=P) (w:=w) (g:=p.c) (q:=p.s+q) hh hfit hv2
     have hrun:(execOp a.eval o).run P w = .ok (.value (.tuple #[])) (w.setRow p.c (splice arr.toList (p.s+q) (madeCells zv.cells (len * zv.cells.size)).toList).toArray):=by
      have hzc:Builtin.zeroCells zv.cells len=madeCells zv.cells (len * zv.cells.size):=rfl
      obtain⟨ln,rfl⟩:∃ ln,len=ln+1:=⟨len - 1,by omega⟩
      rw[hex,he]
      simp[Builtin.clear_,run_underlying hT1,hzv,hzc,hst,Result.andThen]
     have hrow:=hr.splice hv1 (q:=q) (by rw[hlen];omega)
     obtain⟨k1,k2⟩:=hs.write (w':=w.setRow p.c (splice arr.toList (p.s+q) (madeCells zv.cells (len * zv.cells.size)).toList).toArray) (l':=splice l q (AV.agg (repeatL len z)).cells) (getC_some hg) hp (by simp) (setRow_heap w p.c arr _ T _ hh) (fun c hc=>setRow_other w p.c c _ hc) hrow rfl rfl rfl
     intro next Q hnx
     unfold Oper.wp;rw[hrun]
     exact hnx F μ _ _ VR.skip k1 k2
    ·cases h
   ·cases h
 ·cases h
theorem does_lit{t e:TypeId} {len:Nat} {parts:Array (Nat × Operand)} (ho:o.op = .buildSlice t len parts) {i:TypeInfo} {zv:Value} {sz bytes:Nat} (T:ElemIs P t e i zv sz bytes) {z:List AV} (hz:zeroIs P e z=true) (hsmall:len * sz≤16777216)
  {ps:List (Nat × Nat)} {vs r:List AV} (hps:∀ (j:Nat) (p:Nat × Operand),parts.toList[j]?=some p→some (p.1 * sz,sz)=ps[j]?) (hv:VRL num μ vs (parts.toList.map fun p=>a.eval p.2)) (h:fillA (repeatL len z) ps vs=some r) (hs:Sim A num F μ m w.heap) :
  Does A num P o a m.length F μ w (.sl m.length 0 len (some len)) (m++[.cells sz false r]):=by
 obtain⟨hT1,hT2,hT3,hT4,hT5,hT6⟩:=T
 subst hT4;subst hT5
 obtain⟨i',v',hi',hz',hzl⟩:=zeroIs_ok (num:=num) hz μ
 rw[hT2] at hi';injection hi' with hi';subst hi'
 rw[hT3] at hz';injection hz' with hz';subst hz'
 have hm:=madeCells_ok (num:=num) (μ:=μ) hzl len
 rw[hT6] at hm
 have hmm:(parts.map fun(i,x)=>(i,a.eval x)).toList=parts.toList.map fun p=>(p.1,a.eval p.2):=by simp
 obtain⟨cells',e1,e2⟩:=fill_ok (num:=num) (μ:=μ) (fun j=>some (j * i.size,i.size)) ps (parts.toList.map fun p=>(p.1,a.eval p.2)) vs _ r (madeCells zv.cells (len * i.size)) h (by simpa [Function.comp_def] using hv) hm (fun j p hj=>by
  rw[List.getElem?_map] at hj
  cases hq:parts.toList[j]? with
  | none=>rw[hq] at hj;cases hj
  | some q =>
   rw[hq] at hj;simp at hj;subst hj
   exact hps j q hq)
 have hrun:(Instr.buildSlice t len (parts.map fun(i,x)=>(i,a.eval x))).run P w = .ok (.slice (some ⟨w.heap.size,0,none⟩) len len) (w.alloc (.cells cells' e)):=by
  have hn:¬ (16777216 < len * i.size):=by omega
  by_cases h0:len * i.size=0
  ·have e3:Instr.fill (fun j=>some (j * i.size,i.size)) #[] (parts.toList.map fun p=>(p.1,a.eval p.2))=some cells':=by
    have:madeCells zv.cells (len * i.size)=#[]:=by rw[h0];simp[madeCells]
    rw[this] at e1;exact e1
   have hr0:∀ f:Nat→Value,Array.map f (Array.range 0)=#[]:=fun f=>by rw[Array.range_zero'];simp
   simp[Instr.buildSlice,run_underlying hT1,sizeOf,typeInfo,zeroValue,hT2,hn,h0,newRow,hmm,hr0,e3]
  ·have e3:Instr.fill (fun j=>some (j * i.size,i.size)) (Array.map (fun x=>zv.cells[x % zv.cells.size]!) (Array.range (len * i.size))) (parts.toList.map fun p=>(p.1,a.eval p.2))=some cells':=e1
   simp[Instr.buildSlice,run_underlying hT1,sizeOf,typeInfo,zeroValue,hT2,hT3,hn,h0,newRow,hmm,e3]
 exact does_new cells' e (.slice (some ⟨w.heap.size,0,none⟩) len len) (by simp only[execOp,ho,Sem.run_bind,hrun,Result.andThen_ok,Sem.run_pure]) e2 (fun μ' hμ=>by simpa using VR.sl (num:=num) (o:=0) (len:=len) (cap:=len) hμ) hs
theorem does_len{x:Operand} {t e:TypeId} (ho:o.op = .call { callee:=.builtin .len,args:=#[x],argTypes:=#[t] }) {n:Nat} {v:AV} (hv:VR num μ v (a.eval x))
  (hn:lenA v=some n) (hu:P.underlying t=some (.slice e)) (hs:Sim A num F μ m w.heap):Does A num P o a m.length F μ w (.int .i64 n) m:=by
 have key:∃ A0 c,a.eval x = .slice A0 n c:=by
  unfold lenA at hn
  split at hn
  ·injection hn with hn;subst hn;exact⟨none,0,hv.nils_inv⟩
  ·injection hn with hn;subst hn
   obtain⟨A0,he⟩:=hv.mt_inv
   exact⟨some A0,0,he⟩
  ·injection hn with hn;subst hn
   obtain⟨p,A0,c',_,he,_⟩:=hv.sl_inv
   exact⟨some A0,c',he⟩
  ·cases hn
 obtain⟨A0,c,he⟩:=key
 refine Does.value (.int .i64 n) ?_ (.int _ _) hs
 unfold execOp
 simp[ho,resolve,invoke,builtin,he,Builtin.len_,run_underlying hu,goInt]
theorem run_foldI(f2:Value→Value→Sem Value) (f:Int→Int→Int) (hf:∀ k k' x y w,(f2 (.int k x) (.int k' y)).run P w = .ok (.int k (f x y)) w) {k:IntKind}:∀ (vs:List AV) (n r:Int) (ds:List Value),
  foldI f k n vs=some r→VRL num μ vs ds→(ds.foldlM f2 (.int k n)).run P w = .ok (.int k r) w
 | [],n,r,ds,h,hv=>by
  rw[hv.nil_inv]
  simp only[foldI,Option.some.injEq] at h;subst h
  simp
 | v :: vs,n,r,ds,h,hv=>by
  obtain⟨d,ds',rfl,h1,h2⟩:=hv.cons_inv
  cases v<;>simp only[foldI] at h<;>try (cases h;done)
  split at h
  ·rw[h1.int_inv]
   simp only[List.foldlM_cons,Sem.run_bind,hf,Result.andThen_ok]
   exact run_foldI f2 f hf vs _ r ds' h h2
  ·cases h
theorem does_min{args:Array Operand} {ts:Array TypeId} (ho:o.op = .call { callee:=.builtin .min,args:=args,argTypes:=ts }) {k:IntKind} {n r:Int} {vs:List AV} (hv:VRL num μ (.int k n :: vs) (args.toList.map a.eval))
  (h:foldI (fun a b=>if b < a then b else a) k n vs=some r) (hs:Sim A num F μ m w.heap):Does A num P o a m.length F μ w (.int k r) m:=by
 obtain⟨d,ds,he,h1,h2⟩:=hv.cons_inv
 refine Does.value (.int k r) ?_ (.int _ _) hs
 have:=run_foldI (P:=P) (w:=w) Builtin.min2 _ (fun k k' x y w=>by simp[Builtin.min2]) vs n r ds h h2
 unfold execOp
 simp[ho,resolve,invoke,builtin,Builtin.min_,he,h1.int_inv,this]
theorem does_max{args:Array Operand} {ts:Array TypeId} (ho:o.op = .call { callee:=.builtin .max,args:=args,argTypes:=ts }) {k:IntKind} {n r:Int} {vs:List AV} (hv:VRL num μ (.int k n :: vs) (args.toList.map a.eval))
  (h:foldI (fun a b=>if b > a then b else a) k n vs=some r) (hs:Sim A num F μ m w.heap):Does A num P o a m.length F μ w (.int k r) m:=by
 obtain⟨d,ds,he,h1,h2⟩:=hv.cons_inv
 refine Does.value (.int k r) ?_ (.int _ _) hs
 have:=run_foldI (P:=P) (w:=w) Builtin.max2 _ (fun k k' x y w=>by simp[Builtin.max2]) vs n r ds h h2
 unfold execOp
 simp[ho,resolve,invoke,builtin,Builtin.max_,he,h1.int_inv,this]

def flatFs(f:TypeId→Option (List Bool)):List Field→Nat→Option (List Bool)
 | [],_=>some []
 | fd :: fs,off=>if fd.name = "_"∨fd.offset≠off then none else match f fd.type with
  | some sh=>match flatFs f fs (off+sh.length) with
   | some r=>some (sh++r)
   | none=>none
  | none=>none
def flat(P:Program):Nat→TypeId→Option (List Bool)
 | 0,_=>none
 | d+1,t=>match P.underlying t,P.info? t with
  | some (.int _),some _=>some [true]
  | some .bool,some _=>some [false]
  | some (.struct fs),some i=>if P.stoodInHeld t=true then none else match flatFs (flat P d) fs.toList 0 with
   | some sh=>if i.size=sh.length then some sh else none
   | none=>none
  | _,_=>none
theorem eqAll_append:∀ {sh sk:List Bool} {xs ys:List AV} {b:Bool},eqAll (sh++sk) xs ys=some b →
  ∃ b1 b2,eqAll sh (xs.take sh.length) (ys.take sh.length)=some b1∧eqAll sk (xs.drop sh.length) (ys.drop sh.length)=some b2∧b=(b1 && b2)
 | [],sk,xs,ys,b,h=>⟨true,b,by simp[eqAll],by simpa using h,by simp⟩
 | s :: sh,sk,xs,ys,b,h=>by
  cases xs with
  | nil=>cases s<;>simp[eqAll] at h
  | cons x xs =>
   cases ys with
   | nil=>cases s<;>cases x<;>simp[eqAll] at h
   | cons y ys =>
    cases s<;>cases x<;>cases y<;>simp only[List.cons_append,eqAll] at h<;>try (cases h;done)
    ·split at h
     ·rename_i r hr
      injection h with h;subst h
      obtain⟨b1,b2,e1,e2,rfl⟩:=eqAll_append hr
      rename_i p q _
      exact⟨(p == q) && b1,b2,by simp only[List.length_cons,List.take_succ_cons,eqAll,e1],by simpa using e2,by rw[Bool.and_assoc]⟩
     ·cases h
    ·split at h
     ·rename_i hk
      split at h
      ·rename_i r hr
       injection h with h;subst h
       obtain⟨b1,b2,e1,e2,rfl⟩:=eqAll_append hr
       rename_i k1 p k2 q _
       exact⟨(p == q) && b1,b2,by simp only[List.length_cons,List.take_succ_cons,eqAll,e1,hk,if_true],by simpa using e2,by rw[Bool.and_assoc]⟩
      ·cases h
     ·cases h
def valOf(P:Program) (t:TypeId) (ds:Array Value) (off n:Nat):Value :=
 match aggOf P t with
 | some true=>.agg (ds.extract off (off+n))
 | _=>ds.getD off Go.undef
theorem run_part_flat{d:Nat} {t:TypeId} {sh:List Bool} (h:flat P d t=some sh) (ds:Array Value) (off:Nat) (hl:off+sh.length≤ds.size):(part t ds off).run P w = .ok (valOf P t ds off sh.length) w:=by
 cases d with
 | zero=>simp[flat] at h
 | succ d =>
  simp only[flat] at h
  split at h
  ·rename_i k i hu hi
   injection h with h;subst h
   have ha:aggOf P t=some false:=by simp[aggOf,hu]
   have hlt:off < ds.size:=by simp at hl;omega
   simp[part,run_isAgg' ha,valOf,ha,hlt]
  ·rename_i i hu hi
   injection h with h;subst h
   have ha:aggOf P t=some false:=by simp[aggOf,hu]
   have hlt:off < ds.size:=by simp at hl;omega
   simp[part,run_isAgg' ha,valOf,ha,hlt]
  ·rename_i fs i hu hi
   split at h
   ·cases h
   ·split at h
    ·rename_i n' hn'
     split at h
     ·rename_i hsz
      injection h with h;subst h
      have ha:aggOf P t=some true:=by simp[aggOf,hu]
      simp[part,run_isAgg' ha,run_sizeOf' hi,hsz,valOf,ha]
     ·cases h
    ·cases h
  ·cases h
theorem eqAll_len:∀ {sh:List Bool} {xs ys:List AV} {b:Bool},eqAll sh xs ys=some b→xs.length=sh.length∧ys.length=sh.length
 | [],xs,ys,b,h=>by cases xs<;>cases ys<;>simp[eqAll] at h ⊢
 | s :: sh,[],ys,b,h=>by cases s<;>simp[eqAll] at h
 | s :: sh,x :: xs,[],b,h=>by cases s<;>cases x<;>simp[eqAll] at h
 | s :: sh,x :: xs,y :: ys,b,h=>by
  cases s<;>cases x<;>cases y<;>simp only[eqAll] at h<;>try (cases h;done)
  ·split at h
   ·rename_i r hr;have:=eqAll_len hr;simp;omega
   ·cases h
  ·split at h
   ·split at h
    ·rename_i r hr;have:=eqAll_len hr;simp;omega
    ·cases h
   ·cases h
theorem eqFields_flat{f:TypeId→Option (List Bool)} {D:Nat} (hp:∀ t sh,f t=some sh→∀ (ds:Array Value) (off:Nat),off+sh.length≤ds.size→(part t ds off).run P w = .ok (valOf P t ds off sh.length) w)
  (he:∀ t sh,f t=some sh→∀ (off:Nat) (xs ys:List AV) (dx dy:Array Value) (b:Bool),VRL num μ xs ((dx.toList.drop off).take sh.length)→VRL num μ ys ((dy.toList.drop off).take sh.length) →
   off+sh.length≤dx.size→off+sh.length≤dy.size→eqAll sh xs ys=some b→(Op.equalIn D t (valOf P t dx off sh.length) (valOf P t dy off sh.length)).run P w = .ok b w) :
  ∀ (fs:List Field) (off:Nat) (sh:List Bool),flatFs f fs off=some sh→∀ (xs ys:List AV) (dx dy:Array Value) (b:Bool),VRL num μ xs ((dx.toList.drop off).take sh.length)→VRL num μ ys ((dy.toList.drop off).take sh.length) →
   off+sh.length≤dx.size→off+sh.length≤dy.size→eqAll sh xs ys=some b→(Op.eqFields D dx dy fs).run P w = .ok b w
 | [],off,sh,h,xs,ys,dx,dy,b,hx,hy,hlx,hly,hb=>by
  simp only[flatFs,Option.some.injEq] at h;subst h
  have:=eqAll_len hb
  have h1:xs=[]:=List.eq_nil_of_length_eq_zero this.1
  have h2:ys=[]:=List.eq_nil_of_length_eq_zero this.2
  subst h1;subst h2
  simp only[eqAll,Option.some.injEq] at hb;subst hb
  simp[Op.eqFields]
 | fd :: fs,off,sh,h,xs,ys,dx,dy,b,hx,hy,hlx,hly,hb=>by
  simp only[flatFs] at h
  split at h
  ·cases h
  ·rename_i hn
   have hn1:fd.name ≠ "_":=fun e=>hn (.inl e)
   have hn2:fd.offset=off:=Classical.byContradiction fun e=>hn (.inr e)
   split at h
   ·rename_i s1 hs1
    split at h
    ·rename_i s2 hs2
     injection h with h;subst h
     obtain⟨b1,b2,e1,e2,rfl⟩:=eqAll_append hb
     simp only[List.length_append] at hlx hly hx hy
     have hx1:VRL num μ (xs.take s1.length) ((dx.toList.drop off).take s1.length):=by
      have:=hx.take s1.length;rwa [List.take_take,Nat.min_eq_left (by omega)] at this
     have hy1:VRL num μ (ys.take s1.length) ((dy.toList.drop off).take s1.length):=by
      have:=hy.take s1.length;rwa [List.take_take,Nat.min_eq_left (by omega)] at this
     have hx2:VRL num μ (xs.drop s1.length) ((dx.toList.drop (off+s1.length)).take s2.length):=by
      have:=hx.drop s1.length;rwa [List.drop_take,List.drop_drop,show s1.length+s2.length - s1.length=s2.length by omega] at this
     have hy2:VRL num μ (ys.drop s1.length) ((dy.toList.drop (off+s1.length)).take s2.length):=by
      have:=hy.drop s1.length;rwa [List.drop_take,List.drop_drop,show s1.length+s2.length - s1.length=s2.length by omega] at this
     have p1:=hp fd.type s1 hs1 dx off (by omega)
     have p2:=hp fd.type s1 hs1 dy off (by omega)
     have p3:=he fd.type s1 hs1 off _ _ dx dy b1 hx1 hy1 (by omega) (by omega) e1
     have p4:=eqFields_flat hp he fs (off+s1.length) s2 hs2 _ _ dx dy b2 hx2 hy2 (by omega) (by omega) e2
     simp only[Op.eqFields,hn1,ne_eq,not_false_eq_true,if_true,Sem.run_bind,hn2,p1,p2,p3,Result.andThen_ok]
     cases b1
     ·simp
     ·simp[p4]
    ·cases h
   ·cases h
theorem VRL.at0{x:AV} {ds:Array Value} {off:Nat} (h:VRL num μ [x] ((ds.toList.drop off).take 1)) (hl:off < ds.size):VR num μ x (ds.getD off Go.undef):=by
 have:=h.2 0 x (ds[off]'hl) rfl (by simp[hl])
 simpa [hl] using this
theorem equal_flat:∀ (d:Nat) (t:TypeId) (sh:List Bool),flat P d t=some sh→∀ (D off:Nat) (xs ys:List AV) (dx dy:Array Value) (b:Bool),VRL num μ xs ((dx.toList.drop off).take sh.length)→VRL num μ ys ((dy.toList.drop off).take sh.length) →
  off+sh.length≤dx.size→off+sh.length≤dy.size→eqAll sh xs ys=some b→(Op.equalIn (D+d) t (valOf P t dx off sh.length) (valOf P t dy off sh.length)).run P w = .ok b w
 | 0,t,sh,h=>by simp[flat] at h
 | d+1,t,sh,h=>by
  intro D off xs ys dx dy b hx hy hlx hly hb
  obtain⟨hxl,hyl⟩:=eqAll_len hb
  simp only[flat] at h
  split at h
  ·rename_i k i hu hi
   injection h with h;subst h
   have ha:aggOf P t=some false:=by simp[aggOf,hu]
   match xs,ys,hb with
   | [.int k1 p],[.int k2 q],hb =>
    simp only[eqAll] at hb
    split at hb
    ·rename_i hk
     subst hk
     injection hb with hb;subst hb
     have f1:valOf P t dx off 1 = .int k1 p:=by simp only[valOf,ha];exact(VRL.at0 hx (by simp at hlx;omega)).int_inv
     have f2:valOf P t dy off 1 = .int k1 q:=by simp only[valOf,ha];exact(VRL.at0 hy (by simp at hly;omega)).int_inv
     simp only[List.length_cons,List.length_nil,Nat.zero_add]
     rw[f1,f2,show D+(d+1)=(D+d)+1 by omega,run_equalIn_int w (D+d) t k1 k p q hu]
     simp
    ·cases hb
  ·rename_i i hu hi
   injection h with h;subst h
   have ha:aggOf P t=some false:=by simp[aggOf,hu]
   match xs,ys,hb with
   | [.bool p],[.bool q],hb =>
    simp only[eqAll,Option.some.injEq] at hb;subst hb
    have f1:valOf P t dx off 1 = .bool p:=by simp only[valOf,ha];exact(VRL.at0 hx (by simp at hlx;omega)).bool_inv
    have f2:valOf P t dy off 1 = .bool q:=by simp only[valOf,ha];exact(VRL.at0 hy (by simp at hly;omega)).bool_inv
    simp only[List.length_cons,List.length_nil,Nat.zero_add]
    rw[f1,f2,show D+(d+1)=(D+d)+1 by omega,run_equalIn_bool' w (D+d) t p q hu]
    simp
  ·rename_i fs i hu hi
   split at h
   ·cases h
   ·rename_i hst
    split at h
    ·rename_i sh' hsh
     split at h
     ·rename_i hsz
      injection h with h;subst h
      have ha:aggOf P t=some true:=by simp[aggOf,hu]
      have hfo:P.fieldsOf t=fs:=by simp[Program.fieldsOf,hu]
      simp only[valOf,ha]
      rw[show D+(d+1)=(D+d)+1 by omega,run_equalIn_struct w (D+d) t _ _ (by rw[hfo];exact hu) (by simpa using hst),hfo]
      refine eqFields_flat (num:=num) (μ:=μ) (f:=flat P d) (D:=D+d) (fun t sh h ds off hl=>run_part_flat h ds off hl) (fun t sh h off xs ys dx dy b=>equal_flat d t sh h D off xs ys dx dy b) fs.toList 0 sh' hsh xs ys _ _ b ?_ ?_ ?_ ?_ hb
      ·have e:((dx.extract off (off+sh'.length)).toList.drop 0).take sh'.length=(dx.toList.drop off).take sh'.length:=by simp[List.take_drop,List.take_take]
       rw[e];exact hx
      ·have e:((dy.extract off (off+sh'.length)).toList.drop 0).take sh'.length=(dy.toList.drop off).take sh'.length:=by simp[List.take_drop,List.take_take]
       rw[e];exact hy
      ·simp;omega
      ·simp;omega
     ·cases h
    ·cases h
  ·cases h
end
end Go.Am
end
