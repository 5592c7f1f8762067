import Derived.Test.YtdfnfmocppgniaaXG09
set_option linter.unusedSimpArgs false
set_option linter.unusedVariables false
section
namespace Go.Am
def elemChk(P:Program) (t:TypeId) (sz:Nat) (bytes:Option Nat):Bool :=
 match P.underlying t with
 | some (.slice e)=>match P.info? e with
  | some i=>match i.zero with
   | some z=>decide (i.size=sz) && (match bytes with|none=>true|some b=>decide (i.bytes=b)) && decide (z.cells.size=sz)
   | none=>false
  | none=>false
 | _=>false
def elemZero(P:Program) (t:TypeId) (z:List AV):Bool :=
 match P.underlying t with
 | some (.slice e)=>zeroIs P e z
 | _=>false
def elemSize(P:Program) (t:TypeId) (sz:Nat):Bool :=
 match P.underlying t with
 | some (.slice e)=>match P.info? e with
  | some i=>decide (i.size=sz)
  | none=>false
 | _=>false
def arrChk(P:Program) (t:TypeId) (len sz:Nat) (n:Option (Option Nat)):Bool :=
 match P.underlying t with
 | some (.array l e)=>match P.info? e with
  | some i=>decide (l=len) && decide (i.size=sz) && (match n with|none=>true|some n=>decide (sizeN P e=some n))
  | none=>false
 | _=>false
def fieldChk(P:Program) (s:TypeId) (f off:Nat) (n:Option (Option Nat)):Bool :=
 match P.underlying s with
 | some (.struct fs)=>match fs[f]? with
  | some fd=>match P.info? fd.type with
   | some i=>decide (fd.offset=off) && decide (i.size≠0) && (match n with|none=>true|some n=>decide (sizeN P fd.type=some n))
   | none=>false
  | none=>false
 | _=>false
def eqChk(P:Program) (t:TypeId):EK→Bool
 | .bool=>match P.underlying t with|some .bool=>true|_=>false
 | .ptr=>match P.underlying t with
  | some (.pointer e)=>match P.info? e with
   | some i=>decide (i.size≠0)
   | none=>false
  | _=>false
 | .slc=>match P.underlying t with|some (.slice _)=>true|_=>false
 | .map=>match P.underlying t with|some (.map _ _)=>true|_=>false
 | .agg sh=>decide (flat P 20 t=some sh) && decide (aggOf P t=some true) && !P.eqGuardType P.depth t
def isIntT(P:Program) (t:TypeId) (k:IntKind):Bool :=
 match P.underlying t with
 | some (.int k')=>decide (k'=k)
 | _=>false
theorem isIntT_ok{P:Program} {t:TypeId} {k:IntKind} (h:isIntT P t k=true):P.underlying t=some (.int k):=by
 unfold isIntT at h
 split at h
 ·rename_i k' hu;simp at h;subst h;exact hu
 ·cases h
def optArgs(l h k:Option Operand):List Operand:=l.toList++(h.toList++k.toList)
def chkOp(P:Program) (num:Nat→Nat) (op:Op) (aop:AOp):Option (List Operand) :=
 match aop with
 | .mov=>match op with
  | .move x=>some [x]
  | .assign x=>some [x]
  | _=>none
 | .pick=>match op with
  | .pick c x y=>some [c,x,y]
  | _=>none
 | .box=>match op with
  | .box _ x=>some [x]
  | _=>none
 | .alloc z=>match op with
  | .alloc t=>if zeroIs P t z=true then some [] else none
  | _=>none
 | .build z ps=>match op with
  | .build t parts=>match placesOf P t with
   | some pl=>if zeroIs P t z=true∧parts.toList.map (fun p=>pl p.1)=ps.map some then some (parts.toList.map (·.2)) else none
   | none=>none
  | _=>none
 | .lit n sz z ps=>match op with
  | .buildSlice t len parts=>if len=n∧elemChk P t sz none=true∧elemZero P t z=true∧len * sz≤16777216∧parts.toList.map (fun p=>(p.1 * sz,sz))=ps then some (parts.toList.map (·.2)) else none
  | _=>none
 | .load n=>match op with
  | .load t x=>if sizeN P t=some n then some [x] else none
  | _=>none
 | .store n=>match op with
  | .store t x y=>if (P.info? t).map (·.size)=some n then some [x,y] else none
  | _=>none
 | .nilc=>match op with
  | .nilCheck x=>some [x]
  | _=>none
 | .bin b=>match op with
  | .binOp b' _ x y _=>if b=b' then some [x,y] else none
  | _=>none
 | .shf b=>match op with
  | .binOp b' _ x y _=>if b=b' then some [x,y] else none
  | _=>none
 | .eqv k neg=>match op with
  | .binOp b t x y _=>if b=eqlOp neg∧eqChk P t k=true then some [x,y] else none
  | _=>none
 | .not=>match op with
  | .unOp .not _ x=>some [x]
  | _=>none
 | .neg=>match op with
  | .unOp .neg _ x=>some [x]
  | _=>none
 | .conv k=>match op with
  | .convert s t x=>if (P.underlying s).isSome=true∧isIntT P t k=true then some [x] else none
  | _=>none
 | .mkfn f n=>match op with
  | .makeFunc (.func g) first cap=>if num f=g∧first.size=n then some (first.toList++cap.toList) else none
  | _=>none
 | .make sz bytes z=>match op with
  | .makeSlice t x y=>if elemChk P t sz (some bytes)=true∧elemZero P t z=true then some [x,y] else none
  | _=>none
 | .slice sz lo hi mx=>match op with
  | .slice t x l h k=>if elemSize P t sz=true∧lo=l.isSome∧hi=h.isSome∧mx=k.isSome then some (x :: optArgs l h k) else none
  | _=>none
 | .faddr off=>match op with
  | .fieldAddr s x f=>if fieldChk P s f off none=true then some [x] else none
  | _=>none
 | .iaddr sz none=>match op with
  | .indexAddr t x y=>if elemSize P t sz=true then some [x,y] else none
  | _=>none
 | .iaddr sz (some len)=>match op with
  | .indexAddr t x y=>if arrChk P t len sz none=true then some [x,y] else none
  | _=>none
 | .field off n=>match op with
  | .field s x f=>if fieldChk P s f off (some n)=true then some [x] else none
  | _=>none
 | .index len sz n=>match op with
  | .index t x y=>if arrChk P t len sz (some n)=true then some [x,y] else none
  | _=>none
 | .extract i=>match op with
  | .extract x j=>if i=j then some [x] else none
  | _=>none
 | .call f=>match op with
  | .call { callee:=.value (.func g),args,.. }=>if num f=g then some args.toList else none
  | _=>none
 | .callv=>match op with
  | .call { callee:=.value x,args,.. }=>some (x :: args.toList)
  | _=>none
 | .len=>match op with
  | .call { callee:=.builtin .len,args,argTypes }=>match args.toList,argTypes.toList with
   | [x],[t]=>match P.underlying t with
    | some (.slice _)=>some [x]
    | _=>none
   | _,_=>none
  | _=>none
 | .append sz bytes=>match op with
  | .call { callee:=.builtin .append,args,argTypes }=>match args.toList,argTypes.toList with
   | [s,x],[t,u]=>if t=u∧elemChk P t sz (some bytes)=true then some [s,x] else none
   | _,_=>none
  | _=>none
 | .min=>match op with
  | .call { callee:=.builtin .min,args,.. }=>some args.toList
  | _=>none
 | .max=>match op with
  | .call { callee:=.builtin .max,args,.. }=>some args.toList
  | _=>none
 | .clear sz z=>match op with
  | .call { callee:=.builtin .clear,args,argTypes }=>match args.toList,argTypes.toList with
   | [x],[t]=>if elemChk P t sz none=true∧elemZero P t z=true then some [x] else none
   | _,_=>none
  | _=>none
 | .trap=>some []
 | .cap=>match op with
  | .call { callee:=.builtin .cap,args,argTypes }=>match args.toList,argTypes.toList with
   | [x],[t]=>match P.underlying t with
    | some (.slice _)=>some [x]
    | _=>none
   | _,_=>none
  | _=>none
 | .lit0=>match op with
  | .buildSlice t 0 parts=>if (P.underlying t).isSome=true∧elemChk P t 1 none=true∧parts.toList.length=0 then some [] else none
  | _=>none
 | .mkmap=>match op with
  | .makeMap _ none=>some []
  | _=>none
 | .mget ok z=>match op with
  | .lookup t x y ok'=>if ok=ok'∧mapChk P t (some z)=true then some [x,y] else none
  | _=>none
 | .mset=>match op with
  | .mapUpdate t x y z=>if mapChk P t none=true then some [x,y,z] else none
  | .insert t x y z=>if mapChk P t none=true then some [x,y,z] else none
  | _=>none
 | .mdel=>match op with
  | .call { callee:=.builtin .delete,args,argTypes }=>match args.toList,argTypes.toList with
   | [x,y],t :: _=>if mapChk P t none=true then some [x,y] else none
   | _,_=>none
  | _=>none
 | .ment z=>match op with
  | .mapEntry t x y=>if mapChk P t (some z)=true then some [x,y] else none
  | _=>none
 | .mput=>match op with
  | .entryStore _ x y z=>some [x,y,z]
  | _=>none
 | .mlen=>match op with
  | .call { callee:=.builtin .len,args,argTypes }=>match args.toList,argTypes.toList with
   | [x],[t]=>if mapChk P t none=true then some [x] else none
   | _,_=>none
  | _=>none
 | .appendz sz bytes z=>match op with
  | .call { callee:=.builtin .append,args,argTypes }=>match args.toList,argTypes.toList with
   | [s,x],[t,u]=>if elemChk P t sz (some bytes)=true∧elemZero P t z=true∧0 < sz∧isIntT P u .i64=true then some [s,x] else none
   | _,_=>none
  | _=>none
section
variable {X:Type} {A:AbsSem X} {num:Nat→Nat} {P:Program} {o:Oper} {a:Act} {F:Nat→Prop} {μ:Mu} {m:Mem X} {w:World}
theorem elemChk_ok{t:TypeId} {sz:Nat} {b:Option Nat} (h:elemChk P t sz b=true):∃ e i z bytes,ElemIs P t e i z sz bytes∧(∀ n,b=some n→bytes=n):=by
 unfold elemChk at h
 split at h
 ·rename_i e hu
  split at h
  ·rename_i i hi
   split at h
   ·rename_i z hz
    simp only[Bool.and_eq_true,decide_eq_true_eq] at h
    obtain⟨⟨h1,h2⟩,h3⟩:=h
    refine⟨e,i,z,i.bytes,⟨hu,hi,hz,h1,rfl,h3⟩,fun n hn=>?_⟩
    subst hn
    simpa using h2
   ·cases h
  ·cases h
 ·cases h
theorem elemZero_ok{t e:TypeId} {z:List AV} (h:elemZero P t z=true) (hu:P.underlying t=some (.slice e)):zeroIs P e z=true:=by
 unfold elemZero at h
 rw[hu] at h
 exact h
theorem elemSize_ok{t:TypeId} {sz:Nat} (h:elemSize P t sz=true):∃ e i,P.underlying t=some (.slice e)∧P.info? e=some i∧i.size=sz:=by
 unfold elemSize at h
 split at h
 ·rename_i e hu
  split at h
  ·rename_i i hi;exact⟨e,i,hu,hi,by simpa using h⟩
  ·cases h
 ·cases h
theorem arrChk_ok{t:TypeId} {len sz:Nat} {n:Option (Option Nat)} (h:arrChk P t len sz n=true):∃ e i,P.underlying t=some (.array len e)∧P.info? e=some i∧i.size=sz∧∀ k,n=some k→sizeN P e=some k:=by
 unfold arrChk at h
 split at h
 ·rename_i l e hu
  split at h
  ·rename_i i hi
   simp only[Bool.and_eq_true,decide_eq_true_eq] at h
   obtain⟨⟨h1,h2⟩,h3⟩:=h
   subst h1
   refine⟨e,i,hu,hi,h2,fun k hk=>?_⟩
   subst hk
   simpa using h3
  ·cases h
 ·cases h
theorem fieldChk_ok{s:TypeId} {f off:Nat} {n:Option (Option Nat)} (h:fieldChk P s f off n=true):∃ fs fd i,P.underlying s=some (.struct fs)∧fs[f]?=some fd∧P.info? fd.type=some i∧fd.offset=off∧i.size≠0∧∀ k,n=some k→sizeN P fd.type=some k:=by
 unfold fieldChk at h
 split at h
 ·rename_i fs hu
  split at h
  ·rename_i fd hf
   split at h
   ·rename_i i hi
    simp only[Bool.and_eq_true,decide_eq_true_eq] at h
    obtain⟨⟨h1,h2⟩,h3⟩:=h
    refine⟨fs,fd,i,hu,hf,hi,h1,h2,fun k hk=>?_⟩
    subst hk
    simpa using h3
   ·cases h
  ·cases h
 ·cases h
theorem optN_ok{b:Bool} {vs vs':List AV} {n:Option Nat} (h:optN b vs=some (n,vs')) {l:Option Operand} (hb:b=l.isSome) {rest:List Operand} (hv:VRL num μ vs ((l.toList++rest).map a.eval)) :
  BoundIs n (l.map a.eval)∧VRL num μ vs' (rest.map a.eval):=by
 subst hb
 cases l with
 | none =>
  simp only[Option.isSome_none,optN,Option.some.injEq,Prod.mk.injEq] at h
  obtain⟨rfl,rfl⟩:=h
  exact⟨trivial,by simpa using hv⟩
 | some x =>
  simp only[Option.toList_some,List.singleton_append,List.map_cons] at hv
  unfold optN at h
  split at h
  ·rename_i hbb;simp at hbb
  ·rename_i k z vs0 _
   split at h
   ·rename_i h0
    simp only[Option.some.injEq,Prod.mk.injEq] at h
    obtain⟨rfl,rfl⟩:=h
    obtain⟨d,ds,he,h1,h2⟩:=hv.cons_inv
    injection he with e1 e2
    subst e1;subst e2
    exact⟨⟨k,z,h1.int_inv,h0,rfl⟩,h2⟩
   ·cases h
  ·cases h
theorem VRL.one_inv{x:AV} {y:Operand} (h:VRL num μ [x] ([y].map a.eval)):VR num μ x (a.eval y):=by
 obtain⟨d,ds,he,h1,_⟩:=h.cons_inv
 simp at he;obtain⟨rfl,rfl⟩:=he;exact h1
theorem VRL.two_inv{x x':AV} {y y':Operand} (h:VRL num μ [x,x'] ([y,y'].map a.eval)):VR num μ x (a.eval y)∧VR num μ x' (a.eval y'):=by
 obtain⟨d,ds,he,h1,h2⟩:=h.cons_inv
 simp at he;obtain⟨rfl,rfl⟩:=he
 exact⟨h1,VRL.one_inv (a:=a) (y:=y') (by simpa using h2)⟩
theorem VRL.three_inv{x x' x'':AV} {y y' y'':Operand} (h:VRL num μ [x,x',x''] ([y,y',y''].map a.eval)):VR num μ x (a.eval y)∧VR num μ x' (a.eval y')∧VR num μ x'' (a.eval y''):=by
 obtain⟨d,ds,he,h1,h2⟩:=h.cons_inv
 simp at he;obtain⟨rfl,rfl⟩:=he
 exact⟨h1,VRL.two_inv (a:=a) (y:=y') (y':=y'') (by simpa using h2)⟩
def Known(A:AbsSem X) (num:Nat→Nat) (P:Program) (G:List (Nat × AFun X)):Prop:=∀ g f,assoc G g=some f→callOk P (num g)=true∧Sound A num P (num g) f∧Mono f
theorem op_sound{G:List (Nat × AFun X)} (hG:Known A num P G) {aop:AOp} {xs:List Operand} (hc:chkOp P num o.op aop=some xs) {vs:List AV} (hv:VRL num μ vs (xs.map a.eval)) (hs:Sim A num F μ m w.heap)
  {v:AV} {m':Mem X} (h:amOp G aop vs m=some (v,m')):Does A num P o a m.length F μ w v m':=by
 cases aop with
 | mov =>
  simp only[chkOp] at hc
  unfold amOp at h
  split at hc<;>first|(cases hc;done)|skip
  all_goals
   rename_i x ho
   injection hc with hc;subst hc
   match vs,h with
   | [u],h =>
    simp only[Option.some.injEq,Prod.mk.injEq] at h;obtain⟨rfl,rfl⟩:=h
    exact does_mov (by simp[ho]) hv.one_inv hs
 | pick =>
  simp only[chkOp] at hc
  split at hc<;>first|(cases hc;done)|skip
  rename_i c x y ho
  injection hc with hc;subst hc
  match vs,h with
  | [.bool b,p,q],h =>
   simp only[amOp,Option.some.injEq,Prod.mk.injEq] at h;obtain⟨rfl,rfl⟩:=h
   obtain⟨h1,h2,h3⟩:=hv.three_inv
   exact does_pick ho h1 h2 h3 hs
 | box =>
  simp only[chkOp] at hc
  split at hc<;>first|(cases hc;done)|skip
  rename_i t x ho
  injection hc with hc;subst hc
  match vs,h with
  | [u],h =>
   simp only[amOp] at h
   split at h
   ·rename_i h1
    simp only[Option.some.injEq,Prod.mk.injEq] at h;obtain⟨rfl,rfl⟩:=h
    exact does_box ho hv.one_inv h1 hs
   ·cases h
 | alloc z =>
  simp only[chkOp] at hc
  split at hc<;>first|(cases hc;done)|skip
  rename_i t ho
  split at hc
  ·rename_i hz
   injection hc with hc;subst hc
   match vs,h with
   | [],h =>
    simp only[amOp,Option.some.injEq,Prod.mk.injEq] at h;obtain⟨rfl,rfl⟩:=h
    exact does_alloc ho hz hs
  ·cases hc
 | build z ps =>
  simp only[chkOp] at hc
  split at hc<;>first|(cases hc;done)|skip
  rename_i t parts ho
  split at hc
  ·rename_i pl hpl
   split at hc
   ·rename_i hz
    obtain⟨hz,hps⟩:=hz
    injection hc with hc;subst hc
    simp only[amOp] at h
    split at h
    ·rename_i cs hf
     simp only[Option.some.injEq,Prod.mk.injEq] at h;obtain⟨rfl,rfl⟩:=h
     refine does_build ho hpl hz (ps:=ps) (vs:=vs) (fun j p hj=>?_) (by simpa [Function.comp_def] using hv) hf hs
     have:=congrArg (·[j]?) hps
     simp only[List.getElem?_map,hj,Option.map_some] at this
     cases hq:ps[j]? with
     | none=>rw[hq] at this;cases this
     | some q=>rw[hq] at this;simpa using this
    ·cases h
   ·cases hc
  ·cases hc
 | lit n sz z ps =>
  simp only[chkOp] at hc
  split at hc<;>first|(cases hc;done)|skip
  rename_i t len parts ho
  split at hc
  ·rename_i hz
   obtain⟨rfl,h1,h2,h3,h4⟩:=hz
   injection hc with hc;subst hc
   obtain⟨e,i,zv,bytes,T,_⟩:=elemChk_ok h1
   simp only[amOp] at h
   split at h
   ·rename_i cs hf
    split at h
    ·simp only[Option.some.injEq,Prod.mk.injEq] at h;obtain⟨rfl,rfl⟩:=h
     refine does_lit ho T (elemZero_ok h2 T.h1) h3 (ps:=ps) (vs:=vs) (fun j p hj=>?_) (by simpa [Function.comp_def] using hv) hf hs
     have:=congrArg (·[j]?) h4
     simp only[List.getElem?_map,hj,Option.map_some] at this
     exact this
    ·cases h
   ·cases h
  ·cases hc
 | load n =>
  simp only[chkOp] at hc
  split at hc<;>first|(cases hc;done)|skip
  rename_i t x ho
  split at hc
  ·rename_i ht
   injection hc with hc;subst hc
   match vs,h with
   | [.ptr i q],h =>
    simp only[amOp] at h
    split at h
    ·rename_i u hu
     simp only[Option.some.injEq,Prod.mk.injEq] at h;obtain⟨rfl,rfl⟩:=h
     exact does_load ho ht hv.one_inv hu hs
    ·cases h
  ·cases hc
 | store n =>
  simp only[chkOp] at hc
  split at hc<;>first|(cases hc;done)|skip
  rename_i t x y ho
  split at hc
  ·rename_i ht
   injection hc with hc;subst hc
   match vs,h with
   | [.ptr i q,u],h =>
    simp only[amOp] at h
    split at h
    ·rename_i m1 hm
     simp only[Option.some.injEq,Prod.mk.injEq] at h;obtain⟨rfl,rfl⟩:=h
     cases hi:P.info? t with
     | none=>rw[hi] at ht;cases ht
     | some ti =>
      rw[hi] at ht
      obtain⟨h1,h2⟩:=hv.two_inv
      exact does_store ho hi (by simpa using ht) h1 h2 hm hs
    ·cases h
  ·cases hc
 | nilc =>
  simp only[chkOp] at hc
  split at hc<;>first|(cases hc;done)|skip
  rename_i x ho
  injection hc with hc;subst hc
  match vs,h with
  | [.ptr i q],h =>
   simp only[amOp,Option.some.injEq,Prod.mk.injEq] at h;obtain⟨rfl,rfl⟩:=h
   exact does_nilc ho hv.one_inv (.inl ⟨_,_,rfl⟩) hs
  | [.fn f p q],h =>
   simp only[amOp,Option.some.injEq,Prod.mk.injEq] at h;obtain⟨rfl,rfl⟩:=h
   exact does_nilc ho hv.one_inv (.inr ⟨_,_,_,rfl⟩) hs
 | bin b =>
  simp only[chkOp] at hc
  split at hc<;>first|(cases hc;done)|skip
  rename_i b' t x y yt ho
  split at hc
  ·rename_i hb
   subst hb
   injection hc with hc;subst hc
   match vs,h with
   | [.int k p,.int k' q],h =>
    simp only[amOp] at h
    split at h
    ·rename_i hk
     subst hk
     split at h
     ·rename_i u hu
      simp only[Option.some.injEq,Prod.mk.injEq] at h;obtain⟨rfl,rfl⟩:=h
      obtain⟨h1,h2⟩:=hv.two_inv
      exact does_bin ho h1 h2 hu hs
     ·cases h
    ·cases h
  ·cases hc
 | shf b =>
  simp only[chkOp] at hc
  split at hc<;>first|(cases hc;done)|skip
  rename_i b' t x y yt ho
  split at hc
  ·rename_i hb
   subst hb
   injection hc with hc;subst hc
   match vs,h with
   | [.int k p,.int k' q],h =>
    simp only[amOp] at h
    split at h
    ·rename_i u hu
     simp only[Option.some.injEq,Prod.mk.injEq] at h;obtain⟨rfl,rfl⟩:=h
     obtain⟨h1,h2⟩:=hv.two_inv
     exact does_shf ho h1 h2 hu hs
    ·cases h
  ·cases hc
 | eqv k neg =>
  simp only[chkOp] at hc
  split at hc<;>first|(cases hc;done)|skip
  rename_i b' t x y yt ho
  split at hc
  ·rename_i hb
   obtain⟨rfl,hk⟩:=hb
   injection hc with hc;subst hc
   match vs,h with
   | [p,q],h =>
    simp only[amOp] at h
    split at h
    ·rename_i b hb
     simp only[Option.some.injEq,Prod.mk.injEq] at h;obtain⟨rfl,rfl⟩:=h
     obtain⟨h1,h2⟩:=hv.two_inv
     cases k with
     | bool =>
      simp only[eqChk] at hk
      split at hk
      ·rename_i hu
       cases p<;>cases q<;>simp only[eqV] at hb<;>try (cases hb;done)
       injection hb with hb;subst hb
       exact does_eq_bool ho hu h1 h2 hs
      ·cases hk
     | ptr =>
      simp only[eqChk] at hk
      split at hk
      ·rename_i e hu
       split at hk
       ·rename_i i hi
        exact does_eq_ptr ho hu hi (by simpa using hk) h1 h2 hb hs
       ·cases hk
      ·cases hk
     | slc =>
      simp only[eqChk] at hk
      split at hk
      ·rename_i e hu
       exact does_eq_slc ho hu h1 h2 hb hs
      ·cases hk
     | map =>
      simp only[eqChk] at hk
      split at hk
      ·rename_i k e hu
       exact does_eq_map ho hu h1 h2 hb hs
      ·cases hk
     | agg sh =>
      simp only[eqChk,Bool.and_eq_true,decide_eq_true_eq,Bool.not_eq_true'] at hk
      obtain⟨⟨k1,k2⟩,k3⟩:=hk
      cases p<;>cases q<;>simp only[eqV] at hb<;>try (cases hb;done)
      exact does_eq_agg ho k1 k2 k3 h1 h2 hb hs
    ·cases h
  ·cases hc
 | not =>
  simp only[chkOp] at hc
  split at hc<;>first|(cases hc;done)|skip
  rename_i t x ho
  injection hc with hc;subst hc
  match vs,h with
  | [.bool b],h =>
   simp only[amOp,Option.some.injEq,Prod.mk.injEq] at h;obtain⟨rfl,rfl⟩:=h
   exact does_not ho hv.one_inv hs
 | neg =>
  simp only[chkOp] at hc
  split at hc<;>first|(cases hc;done)|skip
  rename_i t x ho
  injection hc with hc;subst hc
  match vs,h with
  | [.int k n],h =>
   simp only[amOp,Option.some.injEq,Prod.mk.injEq] at h;obtain⟨rfl,rfl⟩:=h
   exact does_neg ho hv.one_inv hs
 | conv k =>
  simp only[chkOp] at hc
  split at hc<;>first|(cases hc;done)|skip
  rename_i s t x ho
  split at hc
  ·rename_i hst
   obtain⟨h1,h2⟩:=hst
   injection hc with hc;subst hc
   match vs,h with
   | [.int k' n],h =>
    simp only[amOp,Option.some.injEq,Prod.mk.injEq] at h;obtain⟨rfl,rfl⟩:=h
    exact does_conv ho (Option.isSome_iff_exists.1 h1) (isIntT_ok h2) hv.one_inv hs
  ·cases hc
 | mkfn f n =>
  simp only[chkOp] at hc
  split at hc<;>first|(cases hc;done)|skip
  rename_i g first cap ho
  split at hc
  ·rename_i hst
   obtain⟨h1,h2⟩:=hst
   injection hc with hc;subst hc
   simp only[amOp] at h
   split at h
   ·simp only[Option.some.injEq,Prod.mk.injEq] at h;obtain⟨rfl,rfl⟩:=h
    have e1:=hv.take n
    have e2:=hv.drop n
    rw[← List.map_take,← h2] at e1
    rw[← List.map_drop,← h2] at e2
    simp only[← Array.length_toList,List.take_left,List.drop_left] at e1 e2
    exact does_mkfn ho h1 (by simpa [h2] using e1) (by simpa [h2] using e2) hs
   ·cases h
  ·cases hc
 | make sz bytes z =>
  simp only[chkOp] at hc
  split at hc<;>first|(cases hc;done)|skip
  rename_i t x y ho
  split at hc
  ·rename_i hst
   obtain⟨h1,h2⟩:=hst
   injection hc with hc;subst hc
   obtain⟨e,i,zv,bytes',T,hb⟩:=elemChk_ok h1
   have:=hb bytes rfl
   subst this
   match vs,h with
   | [.int .i64 n,.int .i64 c],h =>
    simp only[amOp] at h
    split at h
    ·rename_i hcond
     obtain⟨c1,c2,c3,c4⟩:=hcond
     simp only[Option.some.injEq,Prod.mk.injEq] at h;obtain⟨rfl,rfl⟩:=h
     obtain⟨k1,k2⟩:=hv.two_inv
     exact does_make ho T (elemZero_ok h2 T.h1) k1 k2 c1 c2 c3 c4 hs
    ·cases h
  ·cases hc
 | slice sz lo hi mx =>
  simp only[chkOp] at hc
  split at hc<;>first|(cases hc;done)|skip
  rename_i t x l hh k ho
  split at hc
  ·rename_i hst
   obtain⟨h1,h2,h3,h4⟩:=hst
   injection hc with hc;subst hc
   obtain⟨e,i,hu,hi,hsz⟩:=elemSize_ok h1
   subst hsz
   match vs,h with
   | u :: us,h =>
    simp only[amOp] at h
    split at h
    ·rename_i nl us1 o1
     split at h
     ·rename_i nh us2 o2
      split at h
      ·rename_i nk o3
       split at h
       ·rename_i r hr
        simp only[Option.some.injEq,Prod.mk.injEq] at h;obtain⟨rfl,rfl⟩:=h
        simp only[List.map_cons] at hv
        obtain⟨d,ds,he,k1,k2⟩:=hv.cons_inv
        injection he with e1 e2
        subst e1;subst e2
        obtain⟨b1,r1⟩:=optN_ok o1 h2 (rest:=hh.toList++k.toList) k2
        obtain⟨b2,r2⟩:=optN_ok o2 h3 (rest:=k.toList) r1
        obtain⟨b3,_⟩:=optN_ok o3 h4 (rest:=[]) (by simpa using r2)
        exact does_slice ho hu hi k1 b1 b2 b3 hr hs
       ·cases h
      ·cases h
     ·cases h
    ·cases h
  ·cases hc
 | faddr off =>
  simp only[chkOp] at hc
  split at hc<;>first|(cases hc;done)|skip
  rename_i s x f ho
  split at hc
  ·rename_i hst
   injection hc with hc;subst hc
   obtain⟨fs,fd,i,hu,hf,hi,rfl,h0,_⟩:=fieldChk_ok hst
   match vs,h with
   | [.ptr k q],h =>
    simp only[amOp,Option.some.injEq,Prod.mk.injEq] at h;obtain⟨rfl,rfl⟩:=h
    exact does_faddr ho hu hf hi h0 hv.one_inv hs
  ·cases hc
 | iaddr sz arr =>
  cases arr with
  | none =>
   simp only[chkOp] at hc
   split at hc<;>first|(cases hc;done)|skip
   rename_i t x y ho
   split at hc
   ·rename_i hst
    injection hc with hc;subst hc
    obtain⟨e,i,hu,hi,rfl⟩:=elemSize_ok hst
    match vs,h with
    | [.sl k q len cap,.int kk n],h =>
     simp only[amOp] at h
     split at h
     ·rename_i hn
      simp only[Option.some.injEq,Prod.mk.injEq] at h;obtain⟨rfl,rfl⟩:=h
      obtain⟨h1,h2⟩:=hv.two_inv
      exact does_iaddr ho hu hi h1 h2 hn.1 hn.2 hs
     ·cases h
   ·cases hc
  | some len =>
   simp only[chkOp] at hc
   split at hc<;>first|(cases hc;done)|skip
   rename_i t x y ho
   split at hc
   ·rename_i hst
    injection hc with hc;subst hc
    obtain⟨e,i,hu,hi,rfl,_⟩:=arrChk_ok hst
    match vs,h with
    | [.ptr k q,.int kk n],h =>
     simp only[amOp] at h
     split at h
     ·rename_i hn
      simp only[Option.some.injEq,Prod.mk.injEq] at h;obtain⟨rfl,rfl⟩:=h
      obtain⟨h1,h2⟩:=hv.two_inv
      exact does_iaddrA ho hu hi h1 h2 hn.1 hn.2 hs
     ·cases h
   ·cases hc
 | field off n =>
  simp only[chkOp] at hc
  split at hc<;>first|(cases hc;done)|skip
  rename_i s x f ho
  split at hc
  ·rename_i hst
   injection hc with hc;subst hc
   obtain⟨fs,fd,i,hu,hf,hi,rfl,h0,hn⟩:=fieldChk_ok hst
   cases n with
   | none =>
    match vs,h with
    | [.agg cs],h =>
     simp only[amOp] at h
     split at h
     ·rename_i u hu'
      simp only[Option.some.injEq,Prod.mk.injEq] at h;obtain⟨rfl,rfl⟩:=h
      exact does_field ho hu hf (hn none rfl) hv.one_inv (v:=u) hu' hs
     ·cases h
   | some k =>
    match vs,h with
    | [.agg cs],h =>
     simp only[amOp] at h
     split at h
     ·rename_i hle
      simp only[Option.some.injEq,Prod.mk.injEq] at h;obtain⟨rfl,rfl⟩:=h
      exact does_field ho hu hf (hn (some k) rfl) hv.one_inv (by simp[partA,hle]) hs
     ·cases h
  ·cases hc
 | index len sz n =>
  simp only[chkOp] at hc
  split at hc<;>first|(cases hc;done)|skip
  rename_i t x y ho
  split at hc
  ·rename_i hst
   injection hc with hc;subst hc
   obtain⟨e,i,hu,hi,rfl,hn⟩:=arrChk_ok hst
   cases n with
   | none =>
    match vs,h with
    | [.agg cs,.int kk j],h =>
     obtain⟨h1,h2⟩:=hv.two_inv
     simp only[amOp] at h
     split at h
     ·rename_i hj
      split at h
      ·rename_i u hu'
       simp only[Option.some.injEq,Prod.mk.injEq] at h;obtain⟨rfl,rfl⟩:=h
       exact does_index ho hu hi (hn none rfl) h1 h2 hj.1 hj.2 (v:=u) hu' hs
      ·cases h
     ·cases h
   | some k =>
    match vs,h with
    | [.agg cs,.int kk j],h =>
     obtain⟨h1,h2⟩:=hv.two_inv
     simp only[amOp] at h
     split at h
     ·rename_i hle
      simp only[Option.some.injEq,Prod.mk.injEq] at h;obtain⟨rfl,rfl⟩:=h
      exact does_index ho hu hi (hn (some k) rfl) h1 h2 hle.1 hle.2.1 (by simp[partA,hle.2.2]) hs
     ·cases h
  ·cases hc
 | extract i =>
  simp only[chkOp] at hc
  split at hc<;>first|(cases hc;done)|skip
  rename_i x j ho
  split at hc
  ·rename_i hij
   subst hij
   injection hc with hc;subst hc
   match vs,h with
   | [.tup us],h =>
    simp only[amOp] at h
    split at h
    ·rename_i u hu
     simp only[Option.some.injEq,Prod.mk.injEq] at h;obtain⟨rfl,rfl⟩:=h
     exact does_extract ho hv.one_inv hu hs
    ·cases h
  ·cases hc
 | call f =>
  simp only[chkOp] at hc
  split at hc<;>first|(cases hc;done)|skip
  rename_i g args ts ho
  split at hc
  ·rename_i hg
   subst hg
   injection hc with hc;subst hc
   simp only[amOp] at h
   split at h
   ·rename_i Fn hF
    obtain⟨k1,k2,_⟩:=hG _ _ hF
    exact does_call ho (g:=f) (first:=[]) (cap:=[]) (.fn (cs:=#[]) (ds:=#[]) rfl (by simp) rfl (by simp)) k1 k2 hv (by simpa using h) hs
   ·cases h
  ·cases hc
 | callv =>
  simp only[chkOp] at hc
  split at hc<;>first|(cases hc;done)|skip
  rename_i x args ts ho
  injection hc with hc;subst hc
  cases vs with
  | nil=>simp[amOp] at h
  | cons u us =>
   cases u<;>simp only[amOp] at h<;>try (cases h;done)
   rename_i f first cap
   split at h
   ·rename_i Fn hF
    obtain⟨k1,k2,_⟩:=hG _ _ hF
    simp only[List.map_cons] at hv
    obtain⟨d,ds,he,j1,j2⟩:=hv.cons_inv
    injection he with e1 e2
    subst e1;subst e2
    exact does_call ho j1 k1 k2 j2 h hs
   ·cases h
 | len =>
  simp only[chkOp] at hc
  split at hc<;>first|(cases hc;done)|skip
  rename_i args ts ho
  split at hc
  ·rename_i x t ha ht
   split at hc
   ·rename_i e hu
    injection hc with hc;subst hc
    match vs,h with
    | [u],h =>
     simp only[amOp] at h
     split at h
     ·rename_i n hn
      simp only[Option.some.injEq,Prod.mk.injEq] at h;obtain⟨rfl,rfl⟩:=h
      have e1:args=#[x]:=Array.toList_inj.1 (by simpa using ha)
      have e2:ts=#[t]:=Array.toList_inj.1 (by simpa using ht)
      subst e1;subst e2
      exact does_len ho hv.one_inv hn hu hs
     ·cases h
   ·cases hc
  ·cases hc
 | append sz bytes =>
  simp only[chkOp] at hc
  split at hc<;>first|(cases hc;done)|skip
  rename_i args ts ho
  split at hc
  ·rename_i s x t u ha ht
   split at hc
   ·rename_i hst
    obtain⟨rfl,h1⟩:=hst
    injection hc with hc;subst hc
    obtain⟨e,i,zv,bytes',T,hb⟩:=elemChk_ok h1
    have:=hb bytes rfl
    subst this
    match vs,h with
    | [p,q],h =>
     simp only[amOp] at h
     have e1:args=#[s,x]:=Array.toList_inj.1 (by simpa using ha)
     have e2:ts=#[t,t]:=Array.toList_inj.1 (by simpa using ht)
     subst e1;subst e2
     obtain⟨k1,k2⟩:=hv.two_inv
     exact does_append ho T k1 k2 h hs
   ·cases hc
  ·cases hc
 | min =>
  simp only[chkOp] at hc
  split at hc<;>first|(cases hc;done)|skip
  rename_i args ts ho
  injection hc with hc;subst hc
  cases vs with
  | nil=>simp[amOp] at h
  | cons u us =>
   cases u<;>simp only[amOp] at h<;>try (cases h;done)
   rename_i k n
   split at h
   ·rename_i r hr
    simp only[Option.some.injEq,Prod.mk.injEq] at h;obtain⟨rfl,rfl⟩:=h
    exact does_min ho hv hr hs
   ·cases h
 | max =>
  simp only[chkOp] at hc
  split at hc<;>first|(cases hc;done)|skip
  rename_i args ts ho
  injection hc with hc;subst hc
  cases vs with
  | nil=>simp[amOp] at h
  | cons u us =>
   cases u<;>simp only[amOp] at h<;>try (cases h;done)
   rename_i k n
   split at h
   ·rename_i r hr
    simp only[Option.some.injEq,Prod.mk.injEq] at h;obtain⟨rfl,rfl⟩:=h
    exact does_max ho hv hr hs
   ·cases h
 | clear sz z =>
  simp only[chkOp] at hc
  split at hc<;>first|(cases hc;done)|skip
  rename_i args ts ho
  split at hc
  ·rename_i x t ha ht
   split at hc
   ·rename_i hst
    obtain⟨h1,h2⟩:=hst
    injection hc with hc;subst hc
    obtain⟨e,i,zv,bytes',T,hb⟩:=elemChk_ok h1
    match vs,h with
    | [u],h =>
     simp only[amOp] at h
     split at h
     ·rename_i m1 hm
      simp only[Option.some.injEq,Prod.mk.injEq] at h;obtain⟨rfl,rfl⟩:=h
      have e1:args=#[x]:=Array.toList_inj.1 (by simpa using ha)
      have e2:ts=#[t]:=Array.toList_inj.1 (by simpa using ht)
      subst e1;subst e2
      exact does_clear ho T (elemZero_ok h2 T.h1) hv.one_inv hm hs
     ·cases h
   ·cases hc
  ·cases hc
 | trap =>
  unfold amOp at h
  cases h
 | cap =>
  simp only[chkOp] at hc
  split at hc<;>first|(cases hc;done)|skip
  rename_i args ts ho
  split at hc
  ·rename_i x t ha ht
   split at hc
   ·rename_i e hu
    injection hc with hc;subst hc
    match vs,h with
    | [u],h =>
     simp only[amOp] at h
     split at h
     ·rename_i n hn
      simp only[Option.some.injEq,Prod.mk.injEq] at h;obtain⟨rfl,rfl⟩:=h
      have e1:args=#[x]:=Array.toList_inj.1 (by simpa using ha)
      have e2:ts=#[t]:=Array.toList_inj.1 (by simpa using ht)
      subst e1;subst e2
      exact does_cap ho rfl hu hv.one_inv hn hs
     ·cases h
   ·cases hc
  ·cases hc
 | lit0 =>
  simp only[chkOp] at hc
  split at hc<;>first|(cases hc;done)|skip
  rename_i t parts ho
  split at hc
  ·rename_i hst
   obtain⟨h1,h2,h3⟩:=hst
   injection hc with hc;subst hc
   obtain⟨e,i,zv,bytes',T,hb⟩:=elemChk_ok h2
   match vs,h with
   | [],h =>
    simp only[amOp,Option.some.injEq,Prod.mk.injEq] at h;obtain⟨rfl,rfl⟩:=h
    have e1:parts=#[]:=Array.toList_inj.1 (List.eq_nil_of_length_eq_zero h3)
    subst e1
    exact does_lit0 ho T.h1 T.h2 hs
  ·cases hc
 | mkmap =>
  simp only[chkOp] at hc
  split at hc<;>first|(cases hc;done)|skip
  rename_i t ho
  injection hc with hc;subst hc
  match vs,h with
  | [],h =>
   simp only[amOp,Option.some.injEq,Prod.mk.injEq] at h;obtain⟨rfl,rfl⟩:=h
   exact does_mkmap ho hs
 | mget ok z =>
  simp only[chkOp] at hc
  split at hc<;>first|(cases hc;done)|skip
  rename_i t x y ok' ho
  split at hc
  ·rename_i hst
   obtain⟨rfl,h2⟩:=hst
   injection hc with hc;subst hc
   match vs,h with
   | [u,.int .i64 k],h =>
    simp only[amOp] at h
    split at h
    ·rename_i l hl
     simp only[Option.some.injEq,Prod.mk.injEq] at h;obtain⟨rfl,rfl⟩:=h
     obtain⟨g1,g2⟩:=hv.two_inv
     exact does_mget ho h2 g1 g2 hl hs
    ·cases h
  ·cases hc
 | mset =>
  have key:∀ {t:TypeId} {x y z:Operand},(o.op = .mapUpdate t x y z∨o.op = .insert t x y z)→mapChk P t none=true→VRL num μ vs ([x,y,z].map a.eval)→Does A num P o a m.length F μ w v m':=by
   intro t x y z ho h2 hv
   match vs,h with
   | [.map i,.int .i64 k,u],h =>
    simp only[amOp] at h
    split at h
    ·rename_i l c hl
     simp only[Option.some.injEq,Prod.mk.injEq] at h;obtain⟨rfl,rfl⟩:=h
     obtain⟨g1,g2,g3⟩:=hv.three_inv
     exact does_mset ho h2 g1 g2 g3 hl hs
    ·cases h
  simp only[chkOp] at hc
  split at hc<;>first|(cases hc;done)|skip
  all_goals
   rename_i t x y z ho
   split at hc
   ·rename_i h2
    injection hc with hc;subst hc
    exact key (by simp[ho]) h2 hv
   ·cases hc
 | mdel =>
  simp only[chkOp] at hc
  split at hc<;>first|(cases hc;done)|skip
  rename_i args ts ho
  split at hc
  ·rename_i x y t tl ha ht
   split at hc
   ·rename_i h2
    injection hc with hc;subst hc
    match vs,h with
    | [.map i,.int .i64 k],h =>
     simp only[amOp] at h
     split at h
     ·rename_i l c hl
      simp only[Option.some.injEq,Prod.mk.injEq] at h;obtain⟨rfl,rfl⟩:=h
      have e1:args=#[x,y]:=Array.toList_inj.1 (by simpa using ha)
      have e2:ts[0]?=some t:=by rw[← Array.getElem?_toList,ht];rfl
      subst e1
      obtain⟨g1,g2⟩:=hv.two_inv
      exact does_mdel ho e2 h2 g1 g2 hl hs
     ·cases h
   ·cases hc
  ·cases hc
 | ment z =>
  simp only[chkOp] at hc
  split at hc<;>first|(cases hc;done)|skip
  rename_i t x y ho
  split at hc
  ·rename_i h2
   injection hc with hc;subst hc
   have key:∃ i k,vs=[.map i,.int .i64 k]:=by
    unfold amOp at h
    split at h<;>first|(cases h;done)|skip
    all_goals first
     | (rename_i heq _;cases heq;done)
     | (rename_i heq;cases heq;done)
     | exact⟨_,_,rfl⟩
     | skip
   obtain⟨i,k,rfl⟩:=key
   obtain⟨g1,g2⟩:=hv.two_inv
   exact does_ment ho h2 g1 g2 h hs
  ·cases hc
 | mput =>
  simp only[chkOp] at hc
  split at hc<;>first|(cases hc;done)|skip
  rename_i t x y z ho
  injection hc with hc;subst hc
  match vs,h with
  | [.map i,.int .i64 b,u],h =>
   simp only[amOp] at h
   split at h
   ·rename_i l c hl
    split at h
    ·rename_i l' hp
     simp only[Option.some.injEq,Prod.mk.injEq] at h;obtain⟨rfl,rfl⟩:=h
     obtain⟨g1,g2,g3⟩:=hv.three_inv
     exact does_mput ho g1 g2 g3 hl hp hs
    ·cases h
   ·cases h
 | mlen =>
  simp only[chkOp] at hc
  split at hc<;>first|(cases hc;done)|skip
  rename_i args ts ho
  split at hc
  ·rename_i x t ha ht
   split at hc
   ·rename_i h2
    injection hc with hc;subst hc
    match vs,h with
    | [u],h =>
     simp only[amOp] at h
     split at h
     ·rename_i l hl
      simp only[Option.some.injEq,Prod.mk.injEq] at h;obtain⟨rfl,rfl⟩:=h
      have e1:args=#[x]:=Array.toList_inj.1 (by simpa using ha)
      have e2:ts=#[t]:=Array.toList_inj.1 (by simpa using ht)
      subst e1;subst e2
      exact does_mlen ho rfl h2 hv.one_inv hl hs
     ·cases h
   ·cases hc
  ·cases hc
 | appendz sz bytes z =>
  simp only[chkOp] at hc
  split at hc<;>first|(cases hc;done)|skip
  rename_i args ts ho
  split at hc
  ·rename_i s x t u ha ht
   split at hc
   ·rename_i hst
    obtain⟨h1,h2,h3,h4⟩:=hst
    injection hc with hc;subst hc
    obtain⟨e,i,zv,bytes',T,hb⟩:=elemChk_ok h1
    have hbb:=hb bytes rfl
    subst hbb
    match vs,h with
    | [.nils,.int .i64 n],h =>
     simp only[amOp] at h
     split at h
     ·rename_i hn
      obtain⟨n0,n1,n2⟩:=hn
      simp only[Option.some.injEq,Prod.mk.injEq] at h;obtain⟨rfl,rfl⟩:=h
      have e1:args=#[s,x]:=Array.toList_inj.1 (by simpa using ha)
      have e2:ts=#[t,u]:=Array.toList_inj.1 (by simpa using ht)
      subst e1;subst e2
      obtain⟨g1,g2⟩:=hv.two_inv
      exact does_appendz ho T ⟨_,isIntT_ok h4⟩ h3 (elemZero_ok h2 T.h1) g1 g2 n0 n1 n2 hs
     ·cases h
   ·cases hc
  ·cases hc
theorem appendA_len{sz bytes:Nat} {s x v:AV} {m m':Mem X} (h:appendA sz bytes s x m=some (v,m')):m.length≤m'.length:=by
 unfold appendA at h
 repeat' split at h
 all_goals first
  | (simp at h;done)
  | (simp only[Option.some.injEq,Prod.mk.injEq] at h;obtain⟨_,rfl⟩:=h;simp)
theorem storeN_len{m m':Mem X} {i q n:Nat} {v:AV} (h:storeN m i q n v=some m'):m.length≤m'.length:=by
 unfold storeN at h
 repeat' split at h
 all_goals first
  | (simp at h;done)
  | (simp only[Option.some.injEq] at h;subst h;simp)
theorem clearA_len{sz:Nat} {z:List AV} {x:AV} {m m':Mem X} (h:clearA sz z x m=some m'):m.length≤m'.length:=by
 unfold clearA at h
 repeat' split at h
 all_goals first
  | (cases h;done)
  | exact storeN_len h
  | (injection h with h;subst h;exact Nat.le_refl _)
theorem amOp_len{G:List (Nat × AFun X)} (hG:∀ g f,assoc G g=some f→Mono f) {op:AOp} {vs:List AV} {m m':Mem X} {v:AV} (h:amOp G op vs m=some (v,m')):m.length≤m'.length:=by
 unfold amOp at h
 repeat' split at h
 all_goals first
  | (simp at h;done)
  | exact appendA_len h
  | exact hG _ _ ‹_› _ _ _ _ h
  | (rename_i hst;simp only[Option.some.injEq,Prod.mk.injEq] at h;obtain⟨_,rfl⟩:=h;exact storeN_len hst)
  | (rename_i hst;simp only[Option.some.injEq,Prod.mk.injEq] at h;obtain⟨_,rfl⟩:=h;exact clearA_len hst)
  | (simp only[Option.some.injEq,Prod.mk.injEq] at h;obtain⟨_,rfl⟩:=h;simp)
end
end Go.Am
end
section
namespace Go.Am
mutual
theorem AV.beq_eq:∀ {a b:AV},AV.beq a b=true→a=b
 | .undef,b,h=>by cases b<;>simp_all[AV.beq]
 | .bool _,b,h=>by cases b<;>simp_all[AV.beq]
 | .int _ _,b,h=>by cases b<;>simp_all[AV.beq]
 | .str s,b,h=>by
  cases b<;>simp[AV.beq] at h
  rename_i t
  obtain⟨⟨s⟩⟩:=s
  obtain⟨⟨t⟩⟩:=t
  simp at h;simp[h]
 | .nilp,b,h=>by cases b<;>simp_all[AV.beq]
 | .ptr _ _,b,h=>by cases b<;>simp_all[AV.beq]
 | .nils,b,h=>by cases b<;>simp_all[AV.beq]
 | .mt,b,h=>by cases b<;>simp_all[AV.beq]
 | .yld l,b,h=>by cases b<;>simp_all[AV.beq]
 | .sl _ _ _ _,b,h=>by cases b<;>simp_all[AV.beq]
 | .nilm,b,h=>by cases b<;>simp_all[AV.beq]
 | .map _,b,h=>by cases b<;>simp_all[AV.beq]
 | .nilf,b,h=>by cases b<;>simp_all[AV.beq]
 | .fn f p q,b,h=>by
  cases b<;>simp[AV.beq] at h
  obtain⟨⟨rfl,h1⟩,h2⟩:=h
  rw[AV.beqL_eq h1,AV.beqL_eq h2]
 | .agg p,b,h=>by
  cases b<;>simp[AV.beq] at h
  rw[AV.beqL_eq h]
 | .tup p,b,h=>by
  cases b<;>simp[AV.beq] at h
  rw[AV.beqL_eq h]
theorem AV.beqL_eq:∀ {a b:List AV},AV.beqL a b=true→a=b
 | [],[],_=>rfl
 | a :: as,b :: bs,h=>by
  simp only[AV.beqL,Bool.and_eq_true] at h
  rw[AV.beq_eq h.1,AV.beqL_eq h.2]
 | [],_ :: _,h=>by simp[AV.beqL] at h
 | _ :: _,[],h=>by simp[AV.beqL] at h
end

section
variable {X:Type} {A:AbsSem X} {num:Nat→Nat} {P:Program}
def StepOk(G:List (Nat × AFun X)) (o:AOper) (env rt:List AV) (m:Mem X) (wd:Bool) (v:AV) (m':Mem X):Prop :=
 wantedA rt o.guard=some wd∧(wd=true→amOp G o.op (o.args.map (getS env rt)) m=some (v,m'))∧(wd=false→v = .skip∧m'=m)
structure Run (G:List (Nat × AFun X)) (ops:List AOper) (rt0:List AV) (Es:List (List AV)) (Ms:List (Mem X)) (Ws:List Bool) (Vs:List AV):Prop where
 le:Es.length=ops.length+1
 lm:Ms.length=ops.length+1
 lw:Ws.length=ops.length
 lv:Vs.length=ops.length
 step:∀ (k:Nat) (o:AOper) (e:List AV) (m m':Mem X) (wd:Bool) (v:AV),ops[k]?=some o→Es[k]?=some e→Ms[k]?=some m→Ms[k+1]?=some m'→Ws[k]?=some wd→Vs[k]?=some v →
  StepOk G o e (rt0++Vs.take k) m wd v m'∧Es[k+1]?=some (putL e o.dst v)
theorem run_of_amOpsT{G:List (Nat × AFun X)}:∀ {ops:List AOper} {env rt:List AV} {m:Mem X} {env':List AV} {m':Mem X} {tr:List (Bool × List AV × AV × Mem X)},amOpsT G ops env rt m=some (env',m',tr) →
  ∃ Es Ws,Run G ops rt Es (tr.map (fun e=>e.2.2.2)++[m']) Ws (tr.map fun e=>e.2.2.1)∧Es[0]?=some env∧Es[ops.length]?=some env'∧(tr.map (fun e=>e.2.2.2)++[m'])[0]?=some m ∧
   ∀ (k:Nat) (o:AOper) (e:List AV) (x:Bool × List AV × AV × Mem X),ops[k]?=some o→Es[k]?=some e→tr[k]?=some x→Ws[k]?=some x.1∧x.2.1=o.args.map (getS e (rt++(tr.map fun e=>e.2.2.1).take k))
 | [],env,rt,m,env',m',tr,h=>by
  simp only[amOpsT,Option.some.injEq,Prod.mk.injEq] at h
  obtain⟨rfl,rfl,rfl⟩:=h
  exact⟨[env],[],⟨rfl,rfl,rfl,rfl,by simp⟩,rfl,rfl,rfl,by simp⟩
 | o :: os,env,rt,m,env',m',tr,h=>by
  have fin:∀ (wd:Bool) (v:AV) (m1:Mem X) (tr1:List (Bool × List AV × AV × Mem X)),StepOk G o env rt m wd v m1→amOpsT G os (putL env o.dst v) (rt++[v]) m1=some (env',m',tr1)→tr=(wd,o.args.map (getS env rt),v,m) :: tr1 →
    ∃ Es Ws,Run G (o :: os) rt Es (tr.map (fun e=>e.2.2.2)++[m']) Ws (tr.map fun e=>e.2.2.1)∧Es[0]?=some env∧Es[(o :: os).length]?=some env'∧(tr.map (fun e=>e.2.2.2)++[m'])[0]?=some m ∧
    ∀ (k:Nat) (o':AOper) (e:List AV) (x:Bool × List AV × AV × Mem X),(o :: os)[k]?=some o'→Es[k]?=some e→tr[k]?=some x→Ws[k]?=some x.1∧x.2.1=o'.args.map (getS e (rt++(tr.map fun e=>e.2.2.1).take k)):=by
   intro wd v m1 tr1 hst hrec htr
   subst htr
   obtain⟨Es,Ws,hr,h0,hn,hm0,hx⟩:=run_of_amOpsT hrec
   refine⟨env :: Es,wd :: Ws,⟨by simp[hr.le],by simp[hr.lm],by simp[hr.lw],by simp[hr.lv],?_⟩,rfl,by simpa using hn,rfl,?_⟩
   ·intro k o' e m2 m3 wd' v' ho he hm hm' hw hv
    cases k with
    | zero =>
     simp at ho he hm hw hv
     subst ho;subst he;subst hm;subst hw;subst hv
     have e3:m3=m1:=by
      simp only[List.map_cons,List.cons_append,Nat.zero_add,List.getElem?_cons_succ] at hm'
      rw[hm0] at hm';injection hm' with hm';exact hm'.symm
     subst e3
     exact⟨by simpa using hst,by simpa using h0⟩
    | succ k =>
     have:=hr.step k o' e m2 m3 wd' v' (by simpa using ho) (by simpa using he) (by simpa using hm) (by simpa using hm') (by simpa using hw) (by simpa using hv)
     simpa [List.append_assoc] using this
   ·intro k o' e x ho he hx'
    cases k with
    | zero =>
     simp at ho he hx'
     subst ho;subst he;subst hx'
     exact⟨rfl,by simp⟩
    | succ k =>
     have:=hx k o' e x (by simpa using ho) (by simpa using he) (by simpa using hx')
     simpa [List.append_assoc] using this
  simp only[amOpsT] at h
  split at h
  ·rename_i hw
   split at h
   ·rename_i v m1 hop
    split at h
    ·rename_i e1 m2 tr1 hrec
     simp only[Option.some.injEq,Prod.mk.injEq] at h
     obtain⟨rfl,rfl,rfl⟩:=h
     exact fin true v m1 tr1 ⟨hw,fun _=>hop,by simp⟩ hrec rfl
    ·cases h
   ·cases h
  ·rename_i hw
   split at h
   ·rename_i e1 m2 tr1 hrec
    simp only[Option.some.injEq,Prod.mk.injEq] at h
    obtain⟨rfl,rfl,rfl⟩:=h
    exact fin false .skip m tr1 ⟨hw,by simp,fun _=>⟨rfl,rfl⟩⟩ hrec rfl
   ·cases h
  ·cases h
theorem amOps_iff_T{G:List (Nat × AFun X)}:∀ {ops:List AOper} {env rt:List AV} {m:Mem X} {env':List AV} {m':Mem X},amOps G ops env rt m=some (env',m')→∃ tr,amOpsT G ops env rt m=some (env',m',tr)
 | [],env,rt,m,env',m',h=>by
  simp only[amOps,Option.some.injEq,Prod.mk.injEq] at h
  obtain⟨rfl,rfl⟩:=h
  exact⟨[],rfl⟩
 | o :: os,env,rt,m,env',m',h=>by
  simp only[amOps] at h
  simp only[amOpsT]
  split at h
  ·rename_i hw
   split at h
   ·rename_i v m1 hop
    obtain⟨tr,htr⟩:=amOps_iff_T h
    exact⟨(true,o.args.map (getS env rt),v,m) :: tr,by simp only[htr]⟩
   ·cases h
  ·rename_i hw
   obtain⟨tr,htr⟩:=amOps_iff_T h
   exact⟨(false,o.args.map (getS env rt),.skip,m) :: tr,by simp only[htr]⟩
  ·cases h

def constV:AV→Value→Bool
 | .agg as,.agg vs=>constL as vs.toList
 | a,v=>constA a v
theorem constV_ok{x:AV} {v:Value} {μ:Mu} (h:constV x v=true):VR num μ x v:=by
 unfold constV at h
 split at h
 ·have:=VR.agg_of (constL_ok (num:=num) (μ:=μ) h);simpa using this
 ·exact constA_ok h
def srcOk(num:Nat→Nat) (L:List Nat) (ops:Array Oper) (σ:List Nat) (k:Nat) (x:Operand) (s:Src):Bool :=
 match x,s with
 | .tmp t,.tmp k'=>decide (k' < k) && decide (((σ[k']?).bind fun i=>(ops[i]?).bind (·.dst))=some t)
 | .tmp t,.loc j=>decide (L[j]?=some t)
 | .const v,.c av=>constV av v
 | .func g,.c (.fn f [] [])=>decide (num f=g)
 | _,_=>false
def srcsOk(num:Nat→Nat) (L:List Nat) (ops:Array Oper) (σ:List Nat) (k:Nat):List Operand→List Src→Bool
 | [],[]=>true
 | x :: xs,s :: ss=>srcOk num L ops σ k x s && srcsOk num L ops σ k xs ss
 | _,_=>false
def dstOk(L:List Nat) (nt:Nat) (d:Option Nat) (j:Option Nat):Bool :=
 match d,j with
 | none,none=>true
 | some d,none=>decide (d < nt) && !L.contains d
 | some d,some j=>decide (d < nt) && decide (L[j]?=some d)
 | none,some _=>false
def guardOk(ops:Array Oper) (σ:List Nat) (k:Nat) (g:Option (Nat × Bool)) (ag:Option (Nat × Bool)):Bool :=
 match g,ag with
 | none,none=>true
 | some (i,b),some (k',b')=>decide (b=b') && decide (k' < k) && decide (σ[k']?=some i) && ((ops[i]?).bind (·.dst)).isSome
 | _,_=>false
def operOk (P : Program) (num : Nat → Nat) (L : List Nat) (nt : Nat) (ops : Array Oper) (σ : List Nat) (k : Nat) (o : Oper) (ao : AOper) : Bool :=
  (match chkOp P num o.op ao.op with
   | some xs => srcsOk num L ops σ k xs ao.args
   | none => false) && dstOk L nt o.dst ao.dst && guardOk ops σ k o.guard ao.guard
def distinct:List Nat→Bool
 | []=>true
 | x :: xs=>!xs.contains x && distinct xs
theorem distinct_ok:∀ {l:List Nat},distinct l=true→∀ {i j:Nat} {x:Nat},l[i]?=some x→l[j]?=some x→i=j
 | [],_,i,j,x,h,_=>by simp at h
 | y :: l,h,i,j,x,hi,hj=>by
  simp only[distinct,Bool.and_eq_true,Bool.not_eq_true',List.contains_eq_mem,decide_eq_false_iff_not] at h
  cases i with
  | zero =>
   cases j with
   | zero=>rfl
   | succ j =>
    simp at hi hj;subst hi
    exact absurd (List.mem_of_getElem? hj) h.1
  | succ i =>
   cases j with
   | zero =>
    simp at hi hj;subst hj
    exact absurd (List.mem_of_getElem? hi) h.1
   | succ j=>have:=distinct_ok h.2 (i:=i) (j:=j) (x:=x) (by simpa using hi) (by simpa using hj);omega
def chkAll(P:Program) (num:Nat→Nat) (L:List Nat) (nt:Nat) (ops:Array Oper) (σ:List Nat) (aops:List AOper):Bool :=
 decide (aops.length=ops.size) && decide (σ.length=ops.size) && distinct σ && σ.all (· < ops.size) && distinct L && distinct (ops.toList.filterMap (·.dst)) &&
  (List.range ops.size).all fun k=>match σ[k]?,aops[k]? with
   | some i,some ao=>match ops[i]? with
    | some o=>operOk P num L nt ops σ k o ao
    | none=>false
   | _,_=>false
theorem filterMap_distinct:∀ {l:List Oper},distinct (l.filterMap (·.dst))=true→∀ {i j:Nat} {x y:Oper} {d:Nat},l[i]?=some x→l[j]?=some y→x.dst=some d→y.dst=some d→i=j
 | [],_,i,j,x,y,d,h,_,_,_=>by simp at h
 | z :: l,h,i,j,x,y,d,hi,hj,hx,hy=>by
  cases hz:z.dst with
  | none =>
   rw[List.filterMap_cons_none hz] at h
   cases i with
   | zero=>simp at hi;subst hi;rw[hz] at hx;cases hx
   | succ i =>
    cases j with
    | zero=>simp at hj;subst hj;rw[hz] at hy;cases hy
    | succ j=>have:=filterMap_distinct h (i:=i) (j:=j) (by simpa using hi) (by simpa using hj) hx hy;omega
  | some d0 =>
   rw[List.filterMap_cons_some hz] at h
   simp only[distinct,Bool.and_eq_true,Bool.not_eq_true',List.contains_eq_mem,decide_eq_false_iff_not] at h
   have hno:∀ (j:Nat) (y:Oper),l[j]?=some y→y.dst≠some d0:=fun j y hj hy=>h.1 (List.mem_filterMap.2 ⟨y,List.mem_of_getElem? hj,hy⟩)
   cases i with
   | zero =>
    simp at hi;subst hi
    rw[hz] at hx;injection hx with hx;subst hx
    cases j with
    | zero=>rfl
    | succ j=>exact absurd hy (hno j y (by simpa using hj))
   | succ i =>
    cases j with
    | zero =>
     simp at hj;subst hj
     rw[hz] at hy;injection hy with hy;subst hy
     exact absurd hx (hno i x (by simpa using hi))
    | succ j=>have:=filterMap_distinct h.2 (i:=i) (j:=j) (by simpa using hi) (by simpa using hj) hx hy;omega
structure RegOk (P:Program) (num:Nat→Nat) (L:List Nat) (nt:Nat) (ops:Array Oper) (σ:List Nat) (aops:List AOper):Prop where
 len:aops.length=ops.size
 sl:σ.length=ops.size
 inj:∀ {k k' i:Nat},σ[k]?=some i→σ[k']?=some i→k=k'
 lt:∀ {k i:Nat},σ[k]?=some i→i < ops.size
 Ln:∀ {j j' t:Nat},L[j]?=some t→L[j']?=some t→j=j'
 dst:∀ {i j:Nat} {x y:Oper} {d:Nat},ops[i]?=some x→ops[j]?=some y→x.dst=some d→y.dst=some d→i=j
 op:∀ {k i:Nat} {o:Oper} {ao:AOper},σ[k]?=some i→ops[i]?=some o→aops[k]?=some ao→operOk P num L nt ops σ k o ao=true
theorem regOk_of{L:List Nat} {nt:Nat} {ops:Array Oper} {σ:List Nat} {aops:List AOper} (h:chkAll P num L nt ops σ aops=true):RegOk P num L nt ops σ aops:=by
 unfold chkAll at h
 simp only[Bool.and_eq_true,decide_eq_true_eq] at h
 obtain⟨⟨⟨⟨⟨⟨h1,h2⟩,h3⟩,h4⟩,h5⟩,h6⟩,h7⟩:=h
 refine⟨h1,h2,fun a b=>distinct_ok h3 a b,fun {k i} hk=>?_,fun a b=>distinct_ok h5 a b,fun {i j x y d} a b c e=>filterMap_distinct h6 (i:=i) (j:=j) (by simpa using a) (by simpa using b) c e,fun {k i o ao} hk hi ha=>?_⟩
 ·have:=List.all_eq_true.1 h4 i (List.mem_of_getElem? hk)
  simpa using this
 ·have hk':k < ops.size:=by rw[← h2];exact(List.getElem?_eq_some_iff.1 hk).1
  have:=List.all_eq_true.1 h7 k (List.mem_range.2 hk')
  rw[hk,ha] at this
  simp only[hi] at this
  exact this
theorem operOk_ok{L:List Nat} {nt:Nat} {ops:Array Oper} {σ:List Nat} {k:Nat} {o:Oper} {ao:AOper} (h:operOk P num L nt ops σ k o ao=true) :
  (∃ xs,chkOp P num o.op ao.op=some xs∧srcsOk num L ops σ k xs ao.args=true)∧dstOk L nt o.dst ao.dst=true∧guardOk ops σ k o.guard ao.guard=true:=by
 unfold operOk at h
 simp only[Bool.and_eq_true] at h
 obtain⟨⟨h1,h2⟩,h3⟩:=h
 refine⟨?_,h2,h3⟩
 split at h1
 ·rename_i xs hxs;exact⟨xs,hxs,h1⟩
 ·cases h1
theorem srcs_VRL{L:List Nat} {ops:Array Oper} {σ:List Nat} {k:Nat} {μ:Mu} {a:Act} {env rt:List AV} :
  ∀ {xs:List Operand} {ss:List Src},srcsOk num L ops σ k xs ss=true→(∀ (x:Operand) (s:Src),s ∈ ss→srcOk num L ops σ k x s=true→VR num μ (getS env rt s) (a.eval x))→VRL num μ (ss.map (getS env rt)) (xs.map a.eval)
 | [],[],_,_=>VRL.nil
 | x :: xs,s :: ss,h,hall=>by
  simp only[srcsOk,Bool.and_eq_true] at h
  exact VRL.cons (hall x s (by simp) h.1) (srcs_VRL h.2 (fun x s hs=>hall x s (by simp[hs])))
 | [],_ :: _,h,_=>by simp[srcsOk] at h
 | _ :: _,[],h,_=>by simp[srcsOk] at h
def EnvOk(num:Nat→Nat) (L:List Nat) (nt:Nat) (μ:Mu) (env:List AV) (a:Act):Prop :=
 env.length=L.length∧a.tmps.size=nt∧∀ (j t:Nat),L[j]?=some t→VR num μ (env.getD j .skip) (a.tmps.getD t Go.undef)
theorem getD_put{a:Act} {d t:Nat} {v:Value} (hd:d < a.tmps.size):(a.put (some d) v).tmps.getD t Go.undef=if t=d then v else a.tmps.getD t Go.undef:=by
 simp only[Act.put,Array.getD_eq_getD_getElem?,Array.getElem?_setIfInBounds]
 by_cases h:d=t
 ·subst h;simp[hd]
 ·rw[if_neg h,if_neg (Ne.symm h)]
theorem size_put{a:Act} {d:Option Nat} {v:Value}:(a.put d v).tmps.size=a.tmps.size:=by
 cases d<;>simp[Act.put]
theorem defers_put{a:Act} {d:Option Nat} {v:Value}:(a.put d v).defers=a.defers:=by
 cases d<;>rfl
theorem EnvOk.mono{L:List Nat} {nt:Nat} {μ μ':Mu} {env:List AV} {a:Act} (h:EnvOk num L nt μ env a) (hm:∀ i p,μ i=some p→μ' i=some p):EnvOk num L nt μ' env a :=
 ⟨h.1,h.2.1,fun j t ht=>(h.2.2 j t ht).mono hm⟩
theorem EnvOk.put{L:List Nat} {nt:Nat} {μ:Mu} {env:List AV} {a:Act} (h:EnvOk num L nt μ env a) (hL:∀ {j j' t:Nat},L[j]?=some t→L[j']?=some t→j=j') {d j:Option Nat} (hd:dstOk L nt d j=true) {v:AV} {cv:Value} (hv:VR num μ v cv) :
  EnvOk num L nt μ (putL env j v) (a.put d cv):=by
 refine⟨by cases j<;>simp[putL,h.1],by rw[size_put];exact h.2.1,fun i t ht=>?_⟩
 unfold dstOk at hd
 cases d with
 | none =>
  cases j with
  | none=>exact h.2.2 i t ht
  | some j=>cases hd
 | some d =>
  cases j with
  | none =>
   simp only[Bool.and_eq_true,decide_eq_true_eq,Bool.not_eq_true',List.contains_eq_mem,decide_eq_false_iff_not] at hd
   rw[getD_put (by rw[h.2.1];exact hd.1)]
   rw[if_neg (fun e=>hd.2 (by subst e;exact List.mem_of_getElem? ht))]
   exact h.2.2 i t ht
  | some j =>
   simp only[Bool.and_eq_true,decide_eq_true_eq] at hd
   rw[getD_put (by rw[h.2.1];exact hd.1)]
   have hjl:j < env.length:=by rw[h.1];exact(List.getElem?_eq_some_iff.1 hd.2).1
   by_cases hij:i=j
   ·subst hij
    rw[hd.2] at ht;injection ht with ht;subst ht
    simp[putL,hjl,hv]
   ·rw[if_neg (fun e=>hij (hL ht (by rw[e];exact hd.2)))]
    have:=h.2.2 i t ht
    simpa [putL,List.getElem?_set,Ne.symm hij] using this
theorem wanted_of{ops:Array Oper} {σ:List Nat} {k:Nat} {o:Oper} {ao:AOper} {μ:Mu} {a:Act} {rt:List AV} {wd:Bool} (hg:guardOk ops σ k o.guard ao.guard=true) (hw:wantedA rt ao.guard=some wd)
  (hall:∀ (k':Nat) (b:Bool) (i d:Nat) (oi:Oper),ao.guard=some (k',b)→k' < k→σ[k']?=some i→ops[i]?=some oi→oi.dst=some d→d < a.tmps.size∧VR num μ (rt.getD k' .skip) (a.tmps.getD d Go.undef)):Region.wanted o (yielded ops a.tmps)=wd:=by
 unfold guardOk at hg
 unfold wantedA at hw
 unfold Region.wanted
 cases h1:o.guard with
 | none =>
  cases h2:ao.guard with
  | none=>rw[h2] at hw;simp at hw;simp[hw]
  | some _=>rw[h1,h2] at hg;cases hg
 | some ib =>
  obtain⟨i,b⟩:=ib
  cases h2:ao.guard with
  | none=>rw[h1,h2] at hg;cases hg
  | some kb =>
   obtain⟨k',b'⟩:=kb
   rw[h1,h2] at hg
   rw[h2] at hw
   simp only[Bool.and_eq_true,decide_eq_true_eq] at hg
   obtain⟨⟨⟨rfl,g2⟩,g3⟩,g4⟩:=hg
   obtain⟨d,hd⟩:=Option.isSome_iff_exists.1 g4
   cases ho:ops[i]? with
   | none=>rw[ho] at hd;cases hd
   | some oi =>
    rw[ho] at hd
    simp only[Option.bind_some] at hd
    obtain⟨hlt,hvr⟩:=hall k' b i d oi h2 g2 g3 ho hd
    simp only
    have hyd:yielded ops a.tmps i=match a.tmps[d]? with|some (.bool b)=>some b|_=>none:=by
     unfold yielded;rw[ho];simp only[Option.bind_some,hd]
     cases a.tmps[d]? with
     | none=>rfl
     | some u=>cases u<;>rfl
    have hdd:a.tmps[d]?=some (a.tmps.getD d Go.undef):=by simp[hlt]
    rw[hyd,hdd]
    have hrt:rt.getD k' .skip=match rt[k']? with|some v=>v|none=>.skip:=by rw[List.getD_eq_getElem?_getD];cases rt[k']?<;>rfl
    simp only at hw
    split at hw
    ·rename_i c hc
     injection hw with hw;subst hw
     rw[hrt,hc] at hvr
     simp only at hvr
     rw[hvr.bool_inv]
     simp
    ·rename_i hc
     injection hw with hw;subst hw
     rw[hrt,hc] at hvr
     simp only at hvr
     rw[hvr.skip_inv]
     simp[Go.undef]
    ·cases hw

theorem text_run{G:List (Nat × AFun X)} (hG:Known A num P G) {L:List Nat} {nt:Nat} {ops:Array Oper} {aops:List AOper} (R:RegOk P num L nt ops (List.range ops.size) aops) {Es:List (List AV)} {Ms:List (Mem X)} {Ws:List Bool} {Vs:List AV}
  (T:Run G aops [] Es Ms Ws Vs) {Q:Exit→Act→World→Prop} {n0:Nat} {F0:Nat→Prop} {μ0:Mu} {w0:World} {D:List Deferred}
  (hn:∀ (k:Nat) (m:Mem X),Ms[k]?=some m→n0≤m.length)
  (hQ:∀ F μ a w e m,Es[ops.size]?=some e→Ms[ops.size]?=some m→EnvOk num L nt μ e a→Sim A num F μ m w.heap→Ext n0 F0 μ0 w0 F μ w→a.defers=D→Q .normal a w) :
  ∀ (d k:Nat),k+d=ops.size→∀ (F:Nat→Prop) (μ:Mu) (a:Act) (w:World) (e:List AV) (m:Mem X),Es[k]?=some e→Ms[k]?=some m→EnvOk num L nt μ e a→Sim A num F μ m w.heap→Ext n0 F0 μ0 w0 F μ w→a.defers=D →
   (∀ (k' dd:Nat) (oi:Oper),k' < k→ops[k']?=some oi→oi.dst=some dd→dd < a.tmps.size∧VR num μ (Vs.getD k' .skip) (a.tmps.getD dd Go.undef))→wpOps P ops Q (List.range' k d) a w
 | 0,k,hk,F,μ,a,w,e,m,he,hm,hE,hS,hX,hD,_=>by
  have:k=ops.size:=by omega
  subst this
  simp only[List.range'_zero,wpOps]
  exact hQ F μ a w e m he hm hE hS hX hD
 | d+1,k,hk,F,μ,a,w,e,m,he,hm,hE,hS,hX,hD,hR=>by
  rw[List.range'_succ,wpOps_cons]
  have hkl:k < ops.size:=by omega
  have ho:ops[k]?=some ops[k]:=Array.getElem?_eq_getElem hkl
  have hao:aops[k]?=some (aops[k]'(by rw[R.len];exact hkl)):=List.getElem?_eq_getElem (by rw[R.len];exact hkl)
  have hσ:(List.range ops.size)[k]?=some k:=List.getElem?_range hkl
  obtain⟨⟨xs,hc,hsrc⟩,hdst,hgd⟩:=operOk_ok (R.op hσ ho hao)
  have hw:Ws[k]?=some (Ws[k]'(by rw[T.lw,R.len];exact hkl)):=List.getElem?_eq_getElem _
  have hv:Vs[k]?=some (Vs[k]'(by rw[T.lv,R.len];exact hkl)):=List.getElem?_eq_getElem _
  have hm':Ms[k+1]?=some (Ms[k+1]'(by rw[T.lm,R.len];omega)):=List.getElem?_eq_getElem _
  obtain⟨⟨s1,s2,s3⟩,he'⟩:=T.step k _ e m _ _ _ hao he hm hm' hw hv
  generalize ops[k]=o at *
  generalize aops[k]'(by rw[R.len];exact hkl)=ao at *
  generalize Ws[k]'(by rw[T.lw,R.len];exact hkl)=wd at *
  generalize hvg:Vs[k]'(by rw[T.lv,R.len];exact hkl)=v at *
  generalize Ms[k+1]'(by rw[T.lm,R.len];omega)=m1 at *
  simp only[List.nil_append] at s1 s2
  have hget:∀ k',k' < k→(Vs.take k).getD k' .skip=Vs.getD k' .skip:=fun k' hk'=>by
   simp[List.getD_eq_getElem?_getD,List.getElem?_take,hk']
  have hall:∀ (k' i dd:Nat) (oi:Oper),k' < k→(List.range ops.size)[k']?=some i→ops[i]?=some oi→oi.dst=some dd→dd < a.tmps.size∧VR num μ ((Vs.take k).getD k' .skip) (a.tmps.getD dd Go.undef):=by
   intro k' i dd oi hk' hi hoi hdd
   rw[List.getElem?_range (by omega)] at hi
   injection hi with hi;subst hi
   rw[hget k' hk']
   exact hR k' dd oi hk' hoi hdd
  have hwant:=wanted_of (num:=num) (μ:=μ) hgd s1 (fun k' _ i dd oi _=>hall k' i dd oi)
  have hargs:VRL num μ (ao.args.map (getS e (Vs.take k))) (xs.map a.eval):=by
   refine srcs_VRL hsrc (fun x s hmem hs=>?_)
   clear hmem
   unfold srcOk at hs
   split at hs
   ·rename_i t k'
    simp only[Bool.and_eq_true,decide_eq_true_eq] at hs
    obtain⟨h1,h2⟩:=hs
    rw[List.getElem?_range (by omega)] at h2
    simp only[Option.bind_some] at h2
    cases hoi:ops[k']? with
    | none=>rw[hoi] at h2;cases h2
    | some oi =>
     rw[hoi] at h2
     simp only[Option.bind_some] at h2
     have:=(hall k' k' t oi h1 (List.getElem?_range (by omega)) hoi h2).2
     simpa [getS,Act.eval] using this
   ·rename_i t j
    have:=hE.2.2 j t (by simpa using hs)
    simpa [getS,Act.eval] using this
   ·exact constV_ok hs
   ·rename_i g f
    simp only[decide_eq_true_eq] at hs
    subst hs
    exact .fn (cs:=#[]) (ds:=#[]) rfl (by simp) rfl (by simp)
   ·cases hs
  have next:∀ (F':Nat→Prop) (μ':Mu) (cv:Value) (w':World),VR num μ' v cv→Sim A num F' μ' m1 w'.heap→Ext m.length F μ w F' μ' w'→wpOps P ops Q (List.range' (k+1) d) (a.put o.dst cv) w':=by
   intro F' μ' cv w' h1 h2 h3
   have hle:=hS.mu_le h3
   refine text_run hG R T hn hQ d (k+1) (by omega) F' μ' _ w' _ m1 he' hm' ((hE.mono hle).put (fun a b=>R.Ln a b) hdst h1) h2 (hX.trans h3 (hn k m hm)) (by rw[defers_put];exact hD) (fun k' dd oi hk' hoi hdd=>?_)
   rw[size_put]
   rcases Nat.lt_succ_iff_lt_or_eq.1 hk' with hlt|heq
   ·obtain⟨h4,h5⟩:=hR k' dd oi hlt hoi hdd
    refine⟨h4,?_⟩
    cases hod:o.dst with
    | none=>simpa [Act.put] using h5.mono hle
    | some d0 =>
     have hne:dd≠d0:=fun e=>by
      have:=R.dst hoi ho hdd (by rw[hod,e])
      omega
     have hd0:d0 < a.tmps.size:=by
      rw[hod] at hdst
      rw[hE.2.1]
      unfold dstOk at hdst
      split at hdst<;>simp_all
     rw[getD_put hd0,if_neg hne]
     exact h5.mono hle
   ·subst heq
    rw[ho] at hoi;injection hoi with hoi;subst hoi
    have hd0:dd < a.tmps.size:=by
     rw[hdd] at hdst
     rw[hE.2.1]
     unfold dstOk at hdst
     split at hdst<;>simp_all
    refine⟨hd0,?_⟩
    rw[hdd,getD_put hd0,if_pos rfl]
    have:Vs.getD k' .skip=v:=by rw[List.getD_eq_getElem?_getD,hv];rfl
    rw[this]
    exact h1
  unfold wpOp
  rw[ho]
  simp only[hwant]
  cases wd with
  | true =>
   simp only[if_true]
   exact .inl (op_sound hG hc hargs hS (s2 rfl) _ Q next)
  | false =>
   simp only[Bool.false_eq_true,if_false]
   obtain⟨rfl,rfl⟩:=s3 rfl
   exact next F μ Go.undef w VR.skip hS (Ext.refl _ _ _ _)
end
end Go.Am
end
