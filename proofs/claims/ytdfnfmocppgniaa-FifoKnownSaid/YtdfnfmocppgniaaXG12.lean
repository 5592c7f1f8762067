import Derived.Test.YtdfnfmocppgniaaXG11
import Derived.LoopN
import Derived.Scope
import Derived.ScopeJumps
set_option linter.unusedSimpArgs false
set_option linter.unusedVariables false
section
namespace Go.Am
def condOk(L:List Nat) (x:Operand) (s:Src):Bool :=
 match x,s with
 | .tmp t,.loc j=>decide (L[j]?=some t)
 | .const v,.c av=>constV av v
 | _,_=>false
def AC.calm:AC→Bool
 | .seq a b=>a.calm && b.calm
 | .cond _ a b=>a.calm && b.calm
 | .block _ b=>b.calm
 | .loop b=>b.calm
 | .scope b=>b.calm
 | .goto _=>false
 | _=>true
def chkCode(P:Program) (num:Nat→Nat) (L:List Nat) (nt:Nat):Code→AC→Bool
 | .skip,.skip=>true
 | .label _,.skip=>true
 | .region _ ops draw,.region aops=>if draw=true then P.follows .mixedOrders && chkAll P num L nt ops (List.range ops.size) aops && chkDraw ops (List.range ops.size) 0 aops [] else chkAll P num L nt ops (List.range ops.size) aops
 | .region _ ops draw,.draw σ h aops stab=>draw && P.follows .mixedOrders && chkAll P num L nt ops σ aops && chkDraw ops σ h aops stab
 | .seq a b,.seq a' b'=>chkCode P num L nt a a' && chkCode P num L nt b b'
 | .cond c a b,.cond s a' b'=>condOk L c s && chkCode P num L nt a a' && chkCode P num L nt b b'
 | .block id b,.block id' b'=>decide (id=id') && chkCode P num L nt b b'
 | .loop b,.loop b'=>chkCode P num L nt b b'
 | .exit id,.exit id'=>decide (id=id')
 | .ret,.ret=>true
 | .scope b,.scope b'=>b'.calm && chkCode P num L nt b b'
 | .goto l,.goto l'=>decide (l=l')
 | .scope b,.scopeg l r b'=>chkCode P num L nt b b' && (match findLabel b l with|some rest=>chkCode P num L nt rest r|none=>false)
 | _,_=>false
def AX.ex:AX→Exit
 | .normal=>.normal
 | .exit id=>.exit id
 | .ret=>.ret
 | .goto l=>.goto l
section
variable {X:Type} {A:AbsSem X} {num:Nat→Nat} {P:Program}
theorem Sim.phantom{F:Nat→Prop} {μ:Mu} {m:Mem X} {H:Array Obj} (h:Sim A num F μ m H) (ch:Chunk X):Sim A num F μ (m++[ch]) H:=by
 obtain⟨own,h⟩:=h
 refine⟨own,h.isF,h.lt,fun i hi=>h.new i (by simp at hi;omega),fun i c p hi hp=>?_⟩
 have him:i < m.length:=by
  rcases Nat.lt_or_ge i m.length with h1|h1
  ·exact h1
  ·rw[h.new i h1] at hp;cases hp
 rw[List.getElem?_append_left him] at hi
 exact h.ok i c p hi hp
theorem hoist_sim{G:List (Nat × AFun X)} {ops:Array Oper} {cl:Array Nat} {σ:List Nat} {h:Nat} {aops:List AOper} {stab:List (Nat × List Nat)} (hlen:aops.length=ops.size) (D:DrawOk ops cl σ h aops stab)
  {Es:List (List AV)} {Ms:List (Mem X)} {Ws:List Bool} {Vs:List AV} (T:Run G aops [] Es Ms Ws Vs) {m0:Mem X} (hM0:Ms[0]?=some m0) {F:Nat→Prop} {μ:Mu} {H:Array Obj} (hS:Sim A num F μ m0 H) :
  ∀ k,k≤h→∃ m,Ms[k]?=some m∧Sim A num F μ m H:=by
 intro k
 induction k with
 | zero=>intro _;exact⟨m0,hM0,hS⟩
 | succ k ih =>
  intro hk
  obtain⟨m,hm,hSm⟩:=ih (by omega)
  have hkn:k < ops.size:=by have:=D.hle;omega
  have hao:=List.getElem?_eq_getElem (show k < aops.length by omega)
  have e2:Es[k]?=some (Es[k]'(by rw[T.le];omega)):=List.getElem?_eq_getElem _
  have e4:Ms[k+1]?=some (Ms[k+1]'(by rw[T.lm];omega)):=List.getElem?_eq_getElem _
  have e5:Ws[k]?=some (Ws[k]'(by rw[T.lw];omega)):=List.getElem?_eq_getElem _
  have e6:Vs[k]?=some (Vs[k]'(by rw[T.lv];omega)):=List.getElem?_eq_getElem _
  obtain⟨s1,s2,s3⟩:=(T.step k _ _ _ _ _ _ hao e2 hm e4 e5 e6).1
  have hop:=D.op hao hkn
  unfold opPre at hop
  simp only[Bool.and_eq_true] at hop
  have hH:=hop.2
  have hkd:kd h aops k = .H:=by unfold kd;rw[if_pos (by omega)]
  rw[hkd] at hH
  simp only[Bool.and_eq_true,decide_eq_true_eq] at hH
  obtain⟨⟨⟨q1,q2⟩,q3⟩,_⟩:=hH
  have hwd:Ws[k]'(by rw[T.lw];omega)=true:=by unfold wantedA at s1;rw[q2] at s1;simpa using s1.symm
  have:=s2 hwd
  rw[q3] at this
  split at q1
  ·rename_i z hz
   rw[hz] at this
   simp only[List.map_nil,amOp,Option.some.injEq,Prod.mk.injEq] at this
   refine⟨_,e4,?_⟩
   rw[← this.2]
   exact hSm.phantom _
  ·cases q1
theorem region_any {G : List (Nat × AFun X)} (hG : Known A num P G) {L : List Nat} {nt : Nat} {id : Nat} {ops : Array Oper} {σ : List Nat} {h : Nat} {aops : List AOper} {stab : List (Nat × List Nat)} (hm : P.follows .mixedOrders = true)
    (h1 : chkAll P num L nt ops σ aops = true) (h2 : chkDraw ops σ h aops stab = true) {e e' : List AV} {m m' : Mem X} {tr : List (Bool × List AV × AV × Mem X)} (hr : amOpsT G aops e [] m = some (e', m', tr)) (hst : stabOk G aops tr m' stab = true)
    {Q : Exit → Act → World → Prop} {F : Nat → Prop} {μ : Mu} {a : Act} {w : World} (hE : EnvOk num L nt μ e a) (hS : Sim A num F μ m w.heap)
    (hQ : ∀ F' μ' a' w', EnvOk num L nt μ' e' a' → Sim A num F' μ' m' w'.heap → Ext m.length F μ w F' μ' w' → a'.defers = a.defers → Q .normal a' w') : (Code.region id ops true).wp P Q a w := by
  have R := regOk_of (num := num) h1
  have D := drawOk_of h2
  obtain ⟨Es, Ws, T, hE0, hEn, hM0, hx⟩ := run_of_amOpsT hr
  refine wp_region_any hm ?_
  refine draw_run hG R D T hE0 hE.1 hM0 (by simpa using hx) hst (n0 := m.length) (F0 := F) (μ0 := μ) (w0 := w) (Df := a.defers) (Nat.le_refl _) (fun F' μ' a' w' e2 he2 g1 g2 g3 g4 => ?_) ops.size _ a _ F μ h ?_ ?_
  · rw [R.len] at hEn
    rw [hEn] at he2; injection he2 with he2; subst he2
    exact hQ F' μ' a' w' g1 g2 g3 g4
  · have hcl : ∀ j : Nat, (Array.replicate ops.size false).getD j false = false := fun j => by
      rcases Nat.lt_or_ge j ops.size with hj | hj
      · simp [hj]
      · simp [hj]
    exact { size := by simp
            closed := fun j o _ hl => by rw [hcl] at hl; cases hl
            cut := List.mem_cons_self
            sim := hoist_sim R.len D T hM0 hS h (Nat.le_refl _)
            eff := fun e i _ hk _ => by
              rw [hcl]
              constructor
              · intro h; cases h
              · intro hlt; unfold kd at hk; rw [if_pos hlt] at hk; cases hk
            hid := fun k i _ _ _ => by
              obtain ⟨own, hs⟩ := hS
              exact hs.new _ (by omega)
            val := fun k i d o _ hl => by rw [hcl] at hl; cases hl
            env := fun j t ht _ => hE.2.2 j t ht
            ext := Ext.of_heap _ _ _ rfl rfl rfl rfl
            tm := hE.2.1
            df := rfl }
  · exact Nat.le_trans (List.countP_le_length) (by simp)
theorem region_text{G:List (Nat × AFun X)} (hG:Known A num P G) {L:List Nat} {nt:Nat} {id:Nat} {ops:Array Oper} {aops:List AOper} (h1:chkAll P num L nt ops (List.range ops.size) aops=true)
  {e e':List AV} {m m':Mem X} (hr:amOps G aops e [] m=some (e',m')) {Q:Exit→Act→World→Prop} {F:Nat→Prop} {μ:Mu} {a:Act} {w:World} (hE:EnvOk num L nt μ e a) (hS:Sim A num F μ m w.heap)
  (hQ:∀ F' μ' a' w',EnvOk num L nt μ' e' a'→Sim A num F' μ' m' w'.heap→Ext m.length F μ w F' μ' w'→a'.defers=a.defers→Q .normal a' w'):(Code.region id ops false).wp P Q a w:=by
 have R:=regOk_of (num:=num) h1
 obtain⟨tr,htr⟩:=amOps_iff_T hr
 obtain⟨Es,Ws,T,hE0,hEn,hM0,hx⟩:=run_of_amOpsT htr
 have hlen:=R.len
 have hGm:∀ g f,assoc G g=some f→Mono f:=fun g f hf=>(hG g f hf).2.2
 have htrl:tr.length=aops.length:=by simpa using T.lv
 have mlast:(tr.map (fun e=>e.2.2.2)++[m'])[ops.size]?=some m':=by
  rw[List.getElem?_append_right (by simp;omega)]
  simp[htrl,hlen]
 have hn:∀ (k:Nat) (mm:Mem X),(tr.map (fun e=>e.2.2.2)++[m'])[k]?=some mm→m.length≤mm.length:=by
  intro k
  induction k with
  | zero=>intro mm hmm;rw[hM0] at hmm;injection hmm with hmm;rw[hmm];exact Nat.le_refl _
  | succ k ih =>
   intro mm hmm
   have hk:k < aops.length:=by
    have:=(List.getElem?_eq_some_iff.1 hmm).1
    rw[T.lm] at this;omega
   have e1:=List.getElem?_eq_getElem hk
   have e2:Es[k]?=some (Es[k]'(by rw[T.le];omega)):=List.getElem?_eq_getElem _
   have e3:(tr.map (fun e=>e.2.2.2)++[m'])[k]?=some ((tr.map (fun e=>e.2.2.2)++[m'])[k]'(by rw[T.lm];omega)):=List.getElem?_eq_getElem _
   have e5:Ws[k]?=some (Ws[k]'(by rw[T.lw];omega)):=List.getElem?_eq_getElem _
   have e6:(tr.map fun e=>e.2.2.1)[k]?=some ((tr.map fun e=>e.2.2.1)[k]'(by rw[T.lv];omega)):=List.getElem?_eq_getElem _
   obtain⟨_,s2,s3⟩:=(T.step k _ _ _ _ _ _ e1 e2 e3 hmm e5 e6).1
   refine Nat.le_trans (ih _ e3) ?_
   cases hw:Ws[k]'(by rw[T.lw];omega) with
   | true=>rw[hw] at s2;exact amOp_len hGm (s2 rfl)
   | false=>rw[hw] at s3;rw[(s3 rfl).2];exact Nat.le_refl _
 refine wp_region ?_
 rw[List.range_eq_range']
 refine text_run hG R T (n0:=m.length) (F0:=F) (μ0:=μ) (w0:=w) (D:=a.defers) hn (fun F' μ' a' w' e2 m2 he2 hm2 g1 g2 g3 g4=>?_) ops.size 0 (by omega) F μ a w e m hE0 hM0 hE hS (Ext.refl _ _ _ _) rfl (fun k' _ _ h=>absurd h (by omega))
 rw[R.len] at hEn
 rw[hEn] at he2;injection he2 with he2;subst he2
 rw[mlast] at hm2;injection hm2 with hm2;subst hm2
 exact hQ F' μ' a' w' g1 g2 g3 g4
theorem amOps_len{G:List (Nat × AFun X)} (hG:∀ g f,assoc G g=some f→Mono f):∀ {ops:List AOper} {env rt:List AV} {m:Mem X} {env':List AV} {m':Mem X},amOps G ops env rt m=some (env',m')→m.length≤m'.length
 | [],env,rt,m,env',m',h=>by
  simp only[amOps,Option.some.injEq,Prod.mk.injEq] at h
  rw[h.2];exact Nat.le_refl _
 | o :: os,env,rt,m,env',m',h=>by
  simp only[amOps] at h
  split at h
  ·split at h
   ·rename_i hop
    exact Nat.le_trans (amOp_len hG hop) (amOps_len hG h)
   ·cases h
  ·exact amOps_len hG h
  ·cases h
theorem amOps_of_T{G:List (Nat × AFun X)}:∀ {ops:List AOper} {env rt:List AV} {m:Mem X} {env':List AV} {m':Mem X} {tr:List (Bool × List AV × AV × Mem X)},amOpsT G ops env rt m=some (env',m',tr)→amOps G ops env rt m=some (env',m')
 | [],env,rt,m,env',m',tr,h=>by
  simp only[amOpsT,Option.some.injEq,Prod.mk.injEq] at h
  simp[amOps,h.1,h.2.1]
 | o :: os,env,rt,m,env',m',tr,h=>by
  simp only[amOpsT] at h
  simp only[amOps]
  split at h
  ·rename_i hw
   split at h
   ·rename_i v m1 hop
    split at h
    ·rename_i e1 m2 tr1 hrec
     simp only[Option.some.injEq,Prod.mk.injEq] at h
     obtain⟨rfl,rfl,_⟩:=h
     exact amOps_of_T hrec
    ·cases h
   ·cases h
  ·rename_i hw
   split at h
   ·rename_i e1 m2 tr1 hrec
    simp only[Option.some.injEq,Prod.mk.injEq] at h
    obtain⟨rfl,rfl,_⟩:=h
    exact amOps_of_T hrec
   ·cases h
  ·cases h
theorem iter_len{f:List AV→Mem X→Option (AX × List AV × Mem X)} (hf:∀ e m x e' m',f e m=some (x,e',m')→m.length≤m'.length):∀ (n:Nat) {e:List AV} {m:Mem X} {x:AX} {e':List AV} {m':Mem X},iter f n e m=some (x,e',m')→m.length≤m'.length
 | 0,_,_,_,_,_,h=>by simp[iter] at h
 | n+1,e,m,x,e',m',h=>by
  simp only[iter] at h
  split at h
  ·rename_i e1 m1 h1
   exact Nat.le_trans (hf _ _ _ _ _ h1) (iter_len hf n h)
  ·exact hf _ _ _ _ _ h
theorem am_len{G:List (Nat × AFun X)} (hG:∀ g f,assoc G g=some f→Mono f):∀ (c:AC) {e:List AV} {m:Mem X} {x:AX} {e':List AV} {m':Mem X},am G c e m=some (x,e',m')→m.length≤m'.length:=by
 intro c
 induction c with
 | skip=>intro e m x e' m' h;simp only[am,Option.some.injEq,Prod.mk.injEq] at h;rw[h.2.2];exact Nat.le_refl _
 | region ops =>
  intro e m x e' m' h
  simp only[am] at h
  split at h
  ·rename_i h1
   simp only[Option.some.injEq,Prod.mk.injEq] at h
   rw[← h.2.2];exact amOps_len hG h1
  ·cases h
 | draw σ hh ops stab =>
  intro e m x e' m' h
  simp only[am] at h
  split at h
  ·rename_i h1
   split at h
   ·simp only[Option.some.injEq,Prod.mk.injEq] at h
    rw[← h.2.2];exact amOps_len hG (amOps_of_T h1)
   ·cases h
  ·cases h
 | seq a b iha ihb =>
  intro e m x e' m' h
  simp only[am] at h
  split at h
  ·rename_i h1
   exact Nat.le_trans (iha h1) (ihb h)
  ·exact iha h
 | cond c t f iht ihf =>
  intro e m x e' m' h
  simp only[am] at h
  split at h
  ·split at h
   ·exact iht h
   ·exact ihf h
  ·cases h
 | block id b ih =>
  intro e m x e' m' h
  simp only[am] at h
  split at h
  ·rename_i h1
   split at h<;>(simp only[Option.some.injEq,Prod.mk.injEq] at h;rw[← h.2.2];exact ih h1)
  ·exact ih h
 | loop b ih =>
  intro e m x e' m' h
  simp only[am] at h
  exact iter_len (fun _ _ _ _ _ h=>ih h) _ h
 | exit id=>intro e m x e' m' h;simp only[am,Option.some.injEq,Prod.mk.injEq] at h;rw[h.2.2];exact Nat.le_refl _
 | ret=>intro e m x e' m' h;simp only[am,Option.some.injEq,Prod.mk.injEq] at h;rw[h.2.2];exact Nat.le_refl _
 | scope b ih=>intro e m x e' m' h;simp only[am] at h;exact ih h
 | goto l=>intro e m x e' m' h;simp only[am,Option.some.injEq,Prod.mk.injEq] at h;rw[h.2.2];exact Nat.le_refl _
 | scopeg l r b ihr ihb =>
  intro e m x e' m' h
  simp only[am] at h
  split at h
  ·rename_i h1
   split at h
   ·split at h
    ·cases h
    ·exact Nat.le_trans (ihb h1) (ihr h)
   ·cases h
  ·exact ihb h
theorem iter_calm{f:List AV→Mem X→Option (AX × List AV × Mem X)} (hf:∀ e m x e' m',f e m=some (x,e',m')→∀ l,x ≠ .goto l):∀ (n:Nat) {e:List AV} {m:Mem X} {x:AX} {e':List AV} {m':Mem X},iter f n e m=some (x,e',m')→∀ l,x ≠ .goto l
 | 0,_,_,_,_,_,h=>by simp[iter] at h
 | n+1,e,m,x,e',m',h=>by
  simp only[iter] at h
  split at h
  ·exact iter_calm hf n h
  ·exact hf _ _ _ _ _ h
theorem am_calm{G:List (Nat × AFun X)}:∀ (c:AC),c.calm=true→∀ {e:List AV} {m:Mem X} {x:AX} {e':List AV} {m':Mem X},am G c e m=some (x,e',m')→∀ l,x ≠ .goto l:=by
 intro c
 induction c with
 | skip=>intro _ e m x e' m' h;simp only[am,Option.some.injEq,Prod.mk.injEq] at h;rw[← h.1];intro l;simp
 | region ops =>
  intro _ e m x e' m' h
  simp only[am] at h
  split at h
  ·simp only[Option.some.injEq,Prod.mk.injEq] at h;rw[← h.1];intro l;simp
  ·cases h
 | draw σ hh ops stab =>
  intro _ e m x e' m' h
  simp only[am] at h
  split at h
  ·split at h
   ·simp only[Option.some.injEq,Prod.mk.injEq] at h;rw[← h.1];intro l;simp
   ·cases h
  ·cases h
 | seq a b iha ihb =>
  intro hc e m x e' m' h
  simp only[AC.calm,Bool.and_eq_true] at hc
  simp only[am] at h
  split at h
  ·exact ihb hc.2 h
  ·exact iha hc.1 h
 | cond c t f iht ihf =>
  intro hc e m x e' m' h
  simp only[AC.calm,Bool.and_eq_true] at hc
  simp only[am] at h
  split at h
  ·split at h
   ·exact iht hc.1 h
   ·exact ihf hc.2 h
  ·cases h
 | block id b ih =>
  intro hc e m x e' m' h
  simp only[AC.calm] at hc
  simp only[am] at h
  split at h
  ·rename_i h1
   split at h<;>(simp only[Option.some.injEq,Prod.mk.injEq] at h;rw[← h.1];intro l;simp)
  ·exact ih hc h
 | loop b ih =>
  intro hc e m x e' m' h
  simp only[AC.calm] at hc
  simp only[am] at h
  exact iter_calm (fun _ _ _ _ _ h=>ih hc h) _ h
 | exit id=>intro _ e m x e' m' h;simp only[am,Option.some.injEq,Prod.mk.injEq] at h;rw[← h.1];intro l;simp
 | ret=>intro _ e m x e' m' h;simp only[am,Option.some.injEq,Prod.mk.injEq] at h;rw[← h.1];intro l;simp
 | scope b ih=>intro hc e m x e' m' h;simp only[AC.calm] at hc;simp only[am] at h;exact ih hc h
 | goto l=>intro hc;simp[AC.calm] at hc
 | scopeg l r b ihr ihb =>
  intro _ e m x e' m' h
  simp only[am] at h
  split at h
  ·split at h
   ·split at h
    ·cases h
    ·rename_i hne
     intro l2 hx
     subst hx
     exact hne _ _ _ h
   ·cases h
  ·rename_i hne
   intro l2 hx
   subst hx
   exact hne _ _ _ h
theorem code_sound{G:List (Nat × AFun X)} (hG:Known A num P G) {L:List Nat} {nt:Nat}:∀ (ac:AC) (c:Code),chkCode P num L nt c ac=true→∀ {e e':List AV} {m m':Mem X} {x:AX},am G ac e m=some (x,e',m') →
  ∀ {Q:Exit→Act→World→Prop} {F:Nat→Prop} {μ:Mu} {a:Act} {w:World},EnvOk num L nt μ e a→Sim A num F μ m w.heap →
  (∀ F' μ' a' w',EnvOk num L nt μ' e' a'→Sim A num F' μ' m' w'.heap→Ext m.length F μ w F' μ' w'→a'.defers=a.defers→Q x.ex a' w')→c.wp P Q a w:=by
 have hGm:∀ g f,assoc G g=some f→Mono f:=fun g f hf=>(hG g f hf).2.2
 intro ac
 induction ac with
 | skip =>
  intro c hc e e' m m' x h Q F μ a w hE hS hQ
  simp only[am,Option.some.injEq,Prod.mk.injEq] at h
  obtain⟨rfl,rfl,rfl⟩:=h
  cases c<;>simp only[chkCode] at hc<;>first|(cases hc;done)|skip
  ·exact wp_skip (hQ F μ a w hE hS (Ext.refl _ _ _ _) rfl)
  ·exact wp_label (hQ F μ a w hE hS (Ext.refl _ _ _ _) rfl)
 | region aops =>
  intro c hc e e' m m' x h Q F μ a w hE hS hQ
  simp only[am] at h
  split at h
  ·rename_i e1 m1 h1
   simp only[Option.some.injEq,Prod.mk.injEq] at h
   obtain⟨rfl,rfl,rfl⟩:=h
   cases c<;>simp only[chkCode] at hc<;>first|(cases hc;done)|skip
   rename_i id ops draw
   split at hc
   ·rename_i hd
    subst hd
    simp only[Bool.and_eq_true] at hc
    obtain⟨tr,htr⟩:=amOps_iff_T h1
    exact region_any hG hc.1.1 hc.1.2 hc.2 htr (by simp[stabOk]) hE hS hQ
   ·rename_i hd
    have:draw=false:=by simpa using hd
    subst this
    exact region_text hG hc h1 hE hS hQ
  ·cases h
 | draw σ hh aops stab =>
  intro c hc e e' m m' x h Q F μ a w hE hS hQ
  simp only[am] at h
  split at h
  ·rename_i e1 m1 tr h1
   split at h
   ·rename_i hst
    simp only[Option.some.injEq,Prod.mk.injEq] at h
    obtain⟨rfl,rfl,rfl⟩:=h
    cases c<;>simp only[chkCode] at hc<;>first|(cases hc;done)|skip
    rename_i id ops draw
    simp only[Bool.and_eq_true] at hc
    obtain⟨⟨⟨hd,h2⟩,h3⟩,h4⟩:=hc
    subst hd
    exact region_any hG h2 h3 h4 h1 hst hE hS hQ
   ·cases h
  ·cases h
 | seq a1 b1 iha ihb =>
  intro c hc e e' m m' x h Q F μ a w hE hS hQ
  cases c<;>simp only[chkCode] at hc<;>first|(cases hc;done)|skip
  rename_i ca cb
  simp only[Bool.and_eq_true] at hc
  simp only[am] at h
  refine wp_seq ?_
  split at h
  ·rename_i e1 m1 h1
   refine iha ca hc.1 h1 hE hS (fun F' μ' a' w' g1 g2 g3 g4=>?_)
   refine ihb cb hc.2 h g1 g2 (fun F2 μ2 a2 w2 j1 j2 j3 j4=>?_)
   exact hQ F2 μ2 a2 w2 j1 j2 (g3.trans j3 (am_len hGm _ h1)) (j4.trans g4)
  ·rename_i hne
   refine iha ca hc.1 h hE hS (fun F' μ' a' w' g1 g2 g3 g4=>?_)
   have:=hQ F' μ' a' w' g1 g2 g3 g4
   cases x with
   | normal=>exact absurd h (hne e' m')
   | exit id=>exact this
   | ret=>exact this
   | goto l=>exact this
 | cond s t f iht ihf =>
  intro c hc e e' m m' x h Q F μ a w hE hS hQ
  cases c<;>simp only[chkCode] at hc<;>first|(cases hc;done)|skip
  rename_i cc ca cb
  simp only[Bool.and_eq_true] at hc
  simp only[am] at h
  have hcv:VR num μ (getS e [] s) (a.eval cc):=by
   have h1:=hc.1.1
   unfold condOk at h1
   split at h1
   ·rename_i tt j
    have:=hE.2.2 j tt (by simpa using h1)
    simpa [getS,Act.eval] using this
   ·exact constV_ok h1
   ·cases h1
  split at h
  ·rename_i b hb
   rw[hb] at hcv
   cases b with
   | true =>
    simp only[if_true] at h
    exact wp_cond_true hcv.bool_inv (iht ca hc.1.2 h hE hS hQ)
   | false =>
    simp only[Bool.false_eq_true,if_false] at h
    exact wp_cond_false hcv.bool_inv (ihf cb hc.2 h hE hS hQ)
  ·cases h
 | block id b ih =>
  intro c hc e e' m m' x h Q F μ a w hE hS hQ
  cases c<;>simp only[chkCode] at hc<;>first|(cases hc;done)|skip
  rename_i id' cb
  simp only[Bool.and_eq_true,decide_eq_true_eq] at hc
  obtain⟨rfl,hc⟩:=hc
  simp only[am] at h
  refine wp_block ?_
  split at h
  ·rename_i id2 e1 m1 h1
   refine ih cb hc h1 hE hS (fun F' μ' a' w' g1 g2 g3 g4=>?_)
   simp only[AX.ex,Exit.inBlock]
   split at h
   ·rename_i hid
    simp only[Option.some.injEq,Prod.mk.injEq] at h
    obtain⟨rfl,rfl,rfl⟩:=h
    rw[if_pos hid]
    exact hQ F' μ' a' w' g1 g2 g3 g4
   ·rename_i hid
    simp only[Option.some.injEq,Prod.mk.injEq] at h
    obtain⟨rfl,rfl,rfl⟩:=h
    rw[if_neg hid]
    exact hQ F' μ' a' w' g1 g2 g3 g4
  ·rename_i hne
   refine ih cb hc h hE hS (fun F' μ' a' w' g1 g2 g3 g4=>?_)
   have:=hQ F' μ' a' w' g1 g2 g3 g4
   cases x with
   | normal=>exact this
   | exit id2=>exact absurd h (hne id2 e' m')
   | ret=>exact this
   | goto l=>exact this
 | loop b ih =>
  intro c hc e e' m m' x h Q F μ a w hE hS hQ
  cases c<;>simp only[chkCode] at hc<;>first|(cases hc;done)|skip
  rename_i cb
  simp only[am] at h
  refine wp_loop_rounds FUEL ?_
  have key:∀ (n:Nat) {e:List AV} {m:Mem X},iter (am G b) n e m=some (x,e',m')→∀ {F:Nat→Prop} {μ:Mu} {a:Act} {w:World},EnvOk num L nt μ e a→Sim A num F μ m w.heap →
    (∀ F' μ' a' w',EnvOk num L nt μ' e' a'→Sim A num F' μ' m' w'.heap→Ext m.length F μ w F' μ' w'→a'.defers=a.defers→Q x.ex a' w')→Code.rounds P cb Q n a w:=by
   intro n
   induction n with
   | zero=>intro e m h;simp[iter] at h
   | succ n ihn =>
    intro e m h F μ a w hE hS hQ
    rw[rounds_succ]
    simp only[iter] at h
    split at h
    ·rename_i e1 m1 h1
     refine ih cb hc h1 hE hS (fun F' μ' a' w' g1 g2 g3 g4=>?_)
     exact ihn h g1 g2 (fun F2 μ2 a2 w2 j1 j2 j3 j4=>hQ F2 μ2 a2 w2 j1 j2 (g3.trans j3 (am_len hGm _ h1)) (j4.trans g4))
    ·rename_i hne
     refine ih cb hc h hE hS (fun F' μ' a' w' g1 g2 g3 g4=>?_)
     have:=hQ F' μ' a' w' g1 g2 g3 g4
     cases x with
     | normal=>exact absurd h (hne e' m')
     | exit id=>exact this
     | ret=>exact this
     | goto l=>exact this
  exact key FUEL h hE hS hQ
 | exit id =>
  intro c hc e e' m m' x h Q F μ a w hE hS hQ
  simp only[am,Option.some.injEq,Prod.mk.injEq] at h
  obtain⟨rfl,rfl,rfl⟩:=h
  cases c<;>simp only[chkCode] at hc<;>first|(cases hc;done)|skip
  have:=of_decide_eq_true hc
  subst this
  exact wp_exit (hQ F μ a w hE hS (Ext.refl _ _ _ _) rfl)
 | ret =>
  intro c hc e e' m m' x h Q F μ a w hE hS hQ
  simp only[am,Option.some.injEq,Prod.mk.injEq] at h
  obtain⟨rfl,rfl,rfl⟩:=h
  cases c<;>simp only[chkCode] at hc<;>first|(cases hc;done)|skip
  exact wp_ret (hQ F μ a w hE hS (Ext.refl _ _ _ _) rfl)
 | scope b ih =>
  intro c hc e e' m m' x h Q F μ a w hE hS hQ
  cases c<;>simp only[chkCode] at hc<;>first|(cases hc;done)|skip
  rename_i cb
  simp only[Bool.and_eq_true] at hc
  simp only[am] at h
  have hcalm:=am_calm b hc.1 h
  refine wp_scope_straight ?_
  refine ih cb hc.2 h hE hS (fun F' μ' a' w' g1 g2 g3 g4=>?_)
  have:=hQ F' μ' a' w' g1 g2 g3 g4
  cases x with
  | normal=>exact this
  | exit id=>exact this
  | ret=>exact this
  | goto l=>exact absurd rfl (hcalm l)
 | goto l =>
  intro c hc e e' m m' x h Q F μ a w hE hS hQ
  simp only[am,Option.some.injEq,Prod.mk.injEq] at h
  obtain⟨rfl,rfl,rfl⟩:=h
  cases c<;>simp only[chkCode] at hc<;>first|(cases hc;done)|skip
  have:=of_decide_eq_true hc
  subst this
  exact wp_goto (hQ F μ a w hE hS (Ext.refl _ _ _ _) rfl)
 | scopeg l r b ihr ihb =>
  intro c hc e e' m m' x h Q F μ a w hE hS hQ
  cases c<;>simp only[chkCode] at hc<;>first|(cases hc;done)|skip
  rename_i cb
  simp only[Bool.and_eq_true] at hc
  obtain⟨hcb,hcr⟩:=hc
  split at hcr
  ·rename_i rest hfl
   refine wp_scope_jumps l (fun a w=>rest.wp P (Exit.jump l (fun _ _=>False) Q) a w) (fun _ _=>0) hfl ?_ (fun a1 w1 hJ=>wp_mono hJ (fun e a w hh=>?_))
   ·simp only[am] at h
    split at h
    ·rename_i l' e1 m1 h1
     split at h
     ·rename_i hll
      subst hll
      split at h
      ·cases h
      ·rename_i hne
       refine ihb cb hcb h1 hE hS (fun F' μ' a' w' g1 g2 g3 g4=>⟨rfl,?_⟩)
       refine ihr rest hcr h g1 g2 (fun F2 μ2 a2 w2 j1 j2 j3 j4=>?_)
       have:=hQ F2 μ2 a2 w2 j1 j2 (g3.trans j3 (am_len hGm _ h1)) (j4.trans g4)
       cases x with
       | normal=>exact this
       | exit id=>exact this
       | ret=>exact this
       | goto l2=>exact absurd h (hne _ _ _)
     ·cases h
    ·rename_i hne
     refine ihb cb hcb h hE hS (fun F' μ' a' w' g1 g2 g3 g4=>?_)
     have:=hQ F' μ' a' w' g1 g2 g3 g4
     cases x with
     | normal=>exact this
     | exit id=>exact this
     | ret=>exact this
     | goto l2=>exact absurd h (hne _ _ _)
   ·cases e with
    | goto l'=>exact absurd hh.2 (fun h=>h)
    | normal=>exact hh
    | exit id=>exact hh
    | ret=>exact hh
    | panic ch=>exact hh
    | outgrown=>exact hh
  ·cases hcr

def resOk(P:Program) (L:List Nat):ResultVar→ARes→Bool
 | .tmp t,.loc j=>decide (L[j]?=some t)
 | .cell t ty,.cell j n=>decide (L[j]?=some t) && decide (sizeN P ty=some n)
 | _,_=>false
def resAllOk(P:Program) (L:List Nat):List ResultVar→List ARes→Bool
 | [],[]=>true
 | r :: rs,s :: ss=>resOk P L r s && resAllOk P L rs ss
 | _,_=>false
def chkFn(P:Program) (num:Nat→Nat) (L:List Nat) (fn:Func) (F:AFn):Bool :=
 match fn.body with
 | some c=>chkCode P num L fn.ntmps c F.body && decide (L.length=F.nloc) && decide (F.npar≤F.nloc) && decide (F.npar≤fn.ntmps) && decide (L.take F.npar=List.range F.npar) && (L.drop F.npar).all (fun t=>decide (F.npar≤t)) && resAllOk P L fn.results.toList F.res
 | none=>false
def resSem(tmps:Array Value):ResultVar→Sem Value
 | .tmp t=>pure (tmps.getD t Go.undef)
 | .cell q t=>do loadVar t (← asAddr (tmps.getD q Go.undef))
theorem results_ok{L:List Nat} {nt:Nat} {F:Nat→Prop} {μ:Mu} {m:Mem X} {w:World} {e:List AV} {a:Act} (hE:EnvOk num L nt μ e a) (hS:Sim A num F μ m w.heap) :
  ∀ {rs:List ResultVar} {ss:List ARes} {vs:List AV},resAllOk P L rs ss=true→resAll e m ss=some vs →
  ∃ ds:List Value,(rs.mapM (resSem a.tmps)).run P w = .ok ds w∧VRL num μ vs ds
 | [],[],vs,_,h=>by
  simp only[resAll,Option.some.injEq] at h;subst h
  exact⟨[],by simp,VRL.nil⟩
 | r :: rs,s :: ss,vs,hc,h=>by
  simp only[resAllOk,Bool.and_eq_true] at hc
  simp only[resAll] at h
  split at h
  ·rename_i v vs' hv hvs
   injection h with h;subst h
   obtain⟨ds,h1,h2⟩:=results_ok hE hS hc.2 hvs
   have hr:=hc.1
   cases r with
   | tmp t =>
    cases s with
    | loc j =>
     simp only[resOk,decide_eq_true_eq] at hr
     simp only[resA,Option.some.injEq] at hv
     refine⟨a.tmps.getD t Go.undef :: ds,by simp only[List.mapM_cons,Sem.run_bind,resSem,Sem.run_pure,Result.andThen_ok,h1],VRL.cons (by rw[← hv];exact hE.2.2 j t hr) h2⟩
    | cell j n=>simp[resOk] at hr
   | cell t ty =>
    cases s with
    | loc j=>simp[resOk] at hr
    | cell j n =>
     simp only[resOk,Bool.and_eq_true,decide_eq_true_eq] at hr
     simp only[resA] at hv
     split at hv
     ·rename_i i o hp
      have hvr:=hE.2.2 j t hr.1
      rw[hp] at hvr
      obtain⟨p,hpl,he⟩:=hvr.ptr_inv
      obtain⟨arr,T,fr,cv,k1,k2,k3⟩:=loadN_ok hv hS hpl
      refine⟨cv :: ds,?_,VRL.cons k2 h2⟩
      simp only[List.mapM_cons,Sem.run_bind,resSem,he,asAddr,Sem.run_pure,Result.andThen_ok,run_loadVar' hr.2 k1 k3,h1]
     ·cases hv
  ·cases h
 | [],_ :: _,_,hc,_=>by simp[resAllOk] at hc
 | _ :: _,[],_,hc,_=>by simp[resAllOk] at hc
theorem amFunc_mono{G:List (Nat × AFun X)} (hG:∀ g f,assoc G g=some f→Mono f) (F:AFn):Mono (amFunc G F):=by
 intro args m v m' h
 unfold amFunc at h
 split at h
 ·split at h
  ·rename_i e m1 h1
   split at h
   ·simp only[Option.some.injEq,Prod.mk.injEq] at h;rw[← h.2];exact am_len hG _ h1
   ·cases h
  ·rename_i e m1 h1
   split at h
   ·simp only[Option.some.injEq,Prod.mk.injEq] at h;rw[← h.2];exact am_len hG _ h1
   ·cases h
  ·cases h
 ·cases h
theorem tupA_ok{μ:Mu} {vs:List AV} {ds:List Value} (h:VRL num μ vs ds):VR num μ (tupA vs) (if hs:ds.toArray.size=1 then ds.toArray[0] else .tuple ds.toArray):=by
 match vs,ds,h with
 | [],[],h=>simpa [tupA] using VR.tup_of h
 | [v],[d],h=>simpa [tupA] using h.2 0 v d rfl rfl
 | v :: u :: vs,[],h=>have:=h.1;simp at this
 | v :: u :: vs,[d],h=>have:=h.1;simp at this
 | v :: u :: vs,d :: f :: ds,h=>simpa [tupA] using VR.tup_of h
 | [],d :: ds,h=>have:=h.1;simp at this
 | [v],[],h=>have:=h.1;simp at this
 | [v],d :: f :: ds,h=>have:=h.1;simp at this
theorem func_sound{G:List (Nat × AFun X)} (hG:Known A num P G) {k:FuncId} {fn:Func} (hf:P.funcs[k]?=some fn) {L:List Nat} {F:AFn} (hc:chkFn P num L fn F=true):Sound A num P k (amFunc G F):=by
 intro Fr μ m w args vs v m' hS hV h
 unfold chkFn at hc
 split at hc
 ·rename_i c hb
  simp only[Bool.and_eq_true,decide_eq_true_eq] at hc
  obtain⟨⟨⟨⟨⟨⟨c1,c2⟩,c3⟩,c4⟩,c5⟩,c6⟩,c7⟩:=hc
  unfold amFunc at h
  split at h
  ·rename_i hlen
   refine calls_of_wp hf hb ?_
   have hvl:vs.length=F.npar:=by rw[← hV.1,hlen]
   have hE:EnvOk num L fn.ntmps μ (args++List.replicate (F.nloc - F.npar) .skip) { tmps:=vs.toArray++Array.replicate (fn.ntmps - vs.toArray.size) Go.undef,defers:=[] }:=by
    refine⟨by simp[hlen,c2];omega,by simp[hvl];omega,fun j t ht=>?_⟩
    by_cases hj:j < F.npar
    ·have htj:t=j:=by
      have:(L.take F.npar)[j]?=some t:=by rw[List.getElem?_take,if_pos hj];exact ht
      rw[c5,List.getElem?_range hj] at this
      injection this with this;exact this.symm
     subst htj
     have e1:=List.getElem?_eq_getElem (show t < args.length by omega)
     obtain⟨d,hd,hvd⟩:=hV.get e1
     have e2:(args++List.replicate (F.nloc - F.npar) AV.skip).getD t .skip=args[t]'(by omega):=by
      rw[List.getD_eq_getElem?_getD,List.getElem?_append_left (by omega),e1];rfl
     have e3:(vs.toArray++Array.replicate (fn.ntmps - vs.toArray.size) Go.undef).getD t Go.undef=d:=by
      have hlt:t < vs.length:=by omega
      have:vs[t]'hlt=d:=by rw[List.getElem?_eq_getElem hlt] at hd;exact Option.some.inj hd
      simp only[Array.getD_eq_getD_getElem?]
      rw[Array.getElem?_append_left (by simpa using hlt)]
      simp[hlt,this]
     rw[e2,e3];exact hvd
    ·have htge:F.npar≤t:=by
      have:(L.drop F.npar)[j - F.npar]?=some t:=by rw[List.getElem?_drop,show F.npar+(j - F.npar)=j by omega];exact ht
      have:=List.all_eq_true.1 c6 t (List.mem_of_getElem? this)
      simpa using this
     have e2:(args++List.replicate (F.nloc - F.npar) AV.skip).getD j .skip = .skip:=by
      rw[List.getD_eq_getElem?_getD,List.getElem?_append_right (by omega),List.getElem?_replicate]
      split<;>rfl
     have e3:(vs.toArray++Array.replicate (fn.ntmps - vs.toArray.size) Go.undef).getD t Go.undef=Go.undef:=by
      simp only[Array.getD_eq_getD_getElem?]
      rw[Array.getElem?_append_right (by simp;omega)]
      simp only[Array.getElem?_replicate]
      split<;>rfl
     rw[e2,e3];exact VR.skip
   have fin:∀ (e:List AV) (m1:Mem X) (x:AX),(match resAll e m1 F.res with|some vs=>some (tupA vs,m1)|none=>none)=some (v,m')→(x = .normal∨x = .ret)→am G F.body (args++List.replicate (F.nloc - F.npar) .skip) m=some (x,e,m1) →
     c.wp P (bodyPost P fn fun e w'=>∃ F' μ' cv,e = .returned cv∧VR num μ' v cv∧Sim A num F' μ' m' w'.heap∧Ext m.length Fr μ w F' μ' w') { tmps:=vs.toArray++Array.replicate (fn.ntmps - vs.toArray.size) Go.undef,defers:=[] } w:=by
    intro e m1 x hr hx ham
    split at hr
    ·rename_i us hus
     simp only[Option.some.injEq,Prod.mk.injEq] at hr
     obtain⟨rfl,rfl⟩:=hr
     refine code_sound hG F.body c c1 ham hE hS (fun F' μ' a' w' g1 g2 g3 g4=>?_)
     obtain⟨ds,r1,r2⟩:=results_ok (P:=P) g1 g2 c7 hus
     have hres:(results fn a'.tmps).run P w' = .ok (if hs:ds.toArray.size=1 then ds.toArray[0] else .tuple ds.toArray) w':=by
      have e0:results fn a'.tmps=(do let vs ← fn.results.mapM (resSem a'.tmps);pure (if h:vs.size=1 then vs[0] else .tuple vs)):=by
       unfold results resSem
       congr 2
      rw[e0,Array.mapM_eq_mapM_toList]
      simp only[Sem.run_bind,Sem.run_map,Sem.run_pure,r1,Result.andThen_ok]
     rcases hx with rfl|rfl
     ·exact⟨g4,_,hres,F',μ',_,rfl,tupA_ok r2,g2,g3⟩
     ·exact⟨g4,_,hres,F',μ',_,rfl,tupA_ok r2,g2,g3⟩
    ·cases hr
   split at h
   ·rename_i e m1 h1
    exact fin e m1 .normal h (.inl rfl) h1
   ·rename_i e m1 h1
    exact fin e m1 .ret h (.inr rfl) h1
   ·cases h
  ·cases h
 ·cases hc
end
end Go.Am
end
section
namespace Go.Am.F10
set_option maxRecDepth 10000
def docs_Made:AFn:={ nloc:=4,npar:=1,res:=[.cell 2 (some 6)],body:=(.seq (.region [⟨.box,[.loc 0],some 1,none⟩,⟨.alloc [.int .i64 0,.int .i64 0,.int .i64 0,.int .i64 0,.int .i64 0,.int .i64 0],[],some 2,none⟩]) (.seq (.region [⟨.faddr 0,[.loc 1],none,none⟩,⟨.load none,[.tmp 0],none,none⟩,
 ⟨.call 87,[.tmp 1,.c (.int .i64 4)],none,none⟩,⟨.bin .add,[.c (.int .i64 1),.tmp 2],none,none⟩,⟨.mov,[.tmp 3],some 3,none⟩]) (.seq (.draw [0,1,2,3,4,5,6,7,8,9,10,11,12,13,14,15,16,17,18,19,20,21,22,23] 0 [⟨.mov,[.loc 3],none,none⟩,⟨.faddr 1,[.loc 1],none,none⟩,⟨.load none,[.tmp 1],none,none⟩,
 ⟨.call 87,[.tmp 2,.c (.int .i64 3)],none,none⟩,⟨.shf .shl,[.c (.int .i64 2),.tmp 3],none,none⟩,⟨.faddr 2,[.loc 1],none,none⟩,⟨.load none,[.tmp 5],none,none⟩,⟨.call 87,[.tmp 6,.c (.int .i64 20)],none,none⟩,⟨.bin .add,[.c (.int .i64 1),.tmp 7],none,none⟩,⟨.mov,[.loc 3],none,none⟩,
 ⟨.bin .add,[.tmp 9,.c (.int .i64 1)],none,none⟩,⟨.faddr 3,[.loc 1],none,none⟩,⟨.load none,[.tmp 11],none,none⟩,⟨.call 87,[.tmp 12,.c (.int .i64 3)],none,none⟩,⟨.bin .add,[.tmp 10,.tmp 13],none,none⟩,⟨.faddr 4,[.loc 1],none,none⟩,⟨.load none,[.tmp 15],none,none⟩,
 ⟨.call 87,[.tmp 16,.c (.int .i64 6)],none,none⟩,⟨.bin .add,[.c (.int .i64 2),.tmp 17],none,none⟩,⟨.faddr 5,[.loc 1],none,none⟩,⟨.load none,[.tmp 19],none,none⟩,⟨.call 87,[.tmp 20,.c (.int .i64 3)],none,none⟩,
 ⟨.build [.int .i64 0,.int .i64 0,.int .i64 0,.int .i64 0,.int .i64 0,.int .i64 0] [(0,1),(1,1),(2,1),(3,1),(4,1),(5,1)],[.tmp 0,.tmp 4,.tmp 8,.tmp 14,.tmp 18,.tmp 21],none,none⟩,⟨.store 6,[.loc 2,.tmp 22],none,none⟩] [(6,[0]),(12,[0,4]),(16,[0,4,8]),(20,[0,4,8,14])]) .ret)))}
def kit_Pick:AFn:={ nloc:=4,npar:=2,res:=[.loc 2],body:=(.seq (.region [⟨.mov,[.c (.int .i64 0)],some 2,none⟩]) (.seq (.seq (.region [⟨.mov,[.loc 1],none,none⟩,⟨.bin .leq,[.tmp 0,.c (.int .i64 0)],some 3,none⟩]) (.cond (.loc 3) (.seq (.region [
 ⟨.mov,[.c (.int .i64 0)],some 2,none⟩]) .ret) .skip)) (.seq (.region [⟨.mov,[.loc 0],none,none⟩,⟨.mov,[.loc 1],none,none⟩,⟨.bin .rem,[.tmp 0,.tmp 1],none,none⟩,⟨.mov,[.loc 1],none,none⟩,⟨.bin .add,[.tmp 2,.tmp 3],none,none⟩,⟨.mov,[.loc 1],none,none⟩,⟨.bin .rem,[.tmp 4,.tmp 5],none,none⟩,
 ⟨.mov,[.tmp 6],some 2,none⟩]) .ret)))}
def kit_SameInts:AFn:={ nloc:=7,npar:=2,res:=[.loc 2],body:=(.seq (.region [⟨.mov,[.c (.bool false)],some 2,none⟩]) (.seq (.seq (.region [⟨.mov,[.loc 0],none,none⟩,⟨.len,[.tmp 0],none,none⟩,⟨.mov,[.loc 1],none,none⟩,⟨.len,[.tmp 2],none,none⟩,
 ⟨.bin .neq,[.tmp 1,.tmp 3],some 4,none⟩]) (.cond (.loc 4) (.seq (.region [⟨.mov,[.c (.bool false)],some 2,none⟩]) .ret) .skip)) (.seq (.seq (.region [⟨.mov,[.c (.int .i64 0)],some 3,none⟩]) (.block 0 (.loop (.seq (.seq (.region [⟨.mov,[.loc 3],none,none⟩,⟨.mov,[.loc 0],none,none⟩,
 ⟨.len,[.tmp 1],none,none⟩,⟨.bin .lss,[.tmp 0,.tmp 2],some 5,none⟩]) (.cond (.loc 5) .skip (.exit 0))) (.seq (.block 1 (.seq (.region [⟨.mov,[.loc 0],none,none⟩,⟨.mov,[.loc 3],none,none⟩,⟨.iaddr 1 none,[.tmp 0,.tmp 1],none,none⟩,⟨.load none,[.tmp 2],none,none⟩,⟨.mov,[.loc 1],none,none⟩,
 ⟨.mov,[.loc 3],none,none⟩,⟨.iaddr 1 none,[.tmp 4,.tmp 5],none,none⟩,⟨.load none,[.tmp 6],none,none⟩,⟨.bin .neq,[.tmp 3,.tmp 7],some 6,none⟩]) (.cond (.loc 6) (.seq (.region [⟨.mov,[.c (.bool false)],some 2,none⟩]) .ret) .skip))) (.region [⟨.mov,[.loc 3],none,none⟩,
 ⟨.bin .add,[.tmp 0,.c (.int .i64 1)],none,none⟩,⟨.mov,[.tmp 1],some 3,none⟩])))))) (.seq (.region [⟨.mov,[.c (.bool true)],some 2,none⟩]) .ret))))}
def conf_Config_Right:AFn:={ nloc:=3,npar:=1,res:=[.loc 2],body:=(.seq (.region [⟨.box,[.loc 0],some 1,none⟩,⟨.mov,[.c (.bool false)],some 2,none⟩]) (.seq (.region [⟨.faddr 0,[.loc 1],none,none⟩,⟨.load none,[.tmp 0],none,none⟩,⟨.call 176,[.tmp 1,.c (.int .i64 1),.c (.int .i64 8)],none,none⟩,⟨.mov,[.tmp 2],none,none⟩,
 ⟨.faddr 1,[.loc 1],none,some (3,true)⟩,⟨.load none,[.tmp 4],none,some (3,true)⟩,⟨.call 176,[.tmp 5,.c (.int .i64 2),.c (.int .i64 64)],none,some (3,true)⟩,⟨.pick,[.tmp 3,.tmp 6,.c (.bool false)],none,none⟩,⟨.mov,[.tmp 7],none,none⟩,⟨.faddr 1,[.loc 1],none,some (8,true)⟩,
 ⟨.load none,[.tmp 9],none,some (8,true)⟩,⟨.faddr 1,[.loc 1],none,some (8,true)⟩,⟨.load none,[.tmp 11],none,some (8,true)⟩,⟨.bin .sub,[.tmp 12,.c (.int .i64 1)],none,some (8,true)⟩,⟨.bin .and,[.tmp 10,.tmp 13],none,some (8,true)⟩,⟨.bin .eql,[.tmp 14,.c (.int .i64 0)],none,some (8,true)⟩,
 ⟨.pick,[.tmp 8,.tmp 15,.c (.bool false)],none,none⟩,⟨.mov,[.tmp 16],none,none⟩,⟨.faddr 2,[.loc 1],none,some (17,true)⟩,⟨.load none,[.tmp 18],none,some (17,true)⟩,⟨.call 176,[.tmp 19,.c (.int .i64 1),.c (.int .i64 256)],none,some (17,true)⟩,⟨.pick,[.tmp 17,.tmp 20,.c (.bool false)],none,none⟩,
 ⟨.mov,[.tmp 21],none,none⟩,⟨.faddr 3,[.loc 1],none,some (22,true)⟩,⟨.load none,[.tmp 23],none,some (22,true)⟩,⟨.faddr 0,[.loc 1],none,some (22,true)⟩,⟨.load none,[.tmp 25],none,some (22,true)⟩,⟨.bin .add,[.tmp 26,.c (.int .i64 1)],none,some (22,true)⟩,
 ⟨.call 176,[.tmp 24,.tmp 27,.c (.int .i64 16)],none,some (22,true)⟩,⟨.pick,[.tmp 22,.tmp 28,.c (.bool false)],none,none⟩,⟨.mov,[.tmp 29],none,none⟩,⟨.faddr 4,[.loc 1],none,some (30,true)⟩,⟨.load none,[.tmp 31],none,some (30,true)⟩,
 ⟨.call 176,[.tmp 32,.c (.int .i64 2),.c (.int .i64 200)],none,some (30,true)⟩,⟨.pick,[.tmp 30,.tmp 33,.c (.bool false)],none,none⟩,⟨.mov,[.tmp 34],none,none⟩,⟨.faddr 5,[.loc 1],none,some (35,true)⟩,⟨.load none,[.tmp 36],none,some (35,true)⟩,
 ⟨.call 176,[.tmp 37,.c (.int .i64 0),.c (.int .i64 1000)],none,some (35,true)⟩,⟨.pick,[.tmp 35,.tmp 38,.c (.bool false)],none,none⟩,⟨.mov,[.tmp 39],some 2,none⟩]) .ret))}
def conf_within:AFn:={ nloc:=4,npar:=3,res:=[.loc 3],body:=(.seq (.region [⟨.mov,[.c (.bool false)],some 3,none⟩]) (.seq (.region [⟨.mov,[.loc 0],none,none⟩,⟨.mov,[.loc 1],none,none⟩,⟨.bin .geq,[.tmp 0,.tmp 1],none,none⟩,⟨.mov,[.tmp 2],none,none⟩,⟨.mov,[.loc 0],none,some (3,true)⟩,
 ⟨.mov,[.loc 2],none,some (3,true)⟩,⟨.bin .leq,[.tmp 4,.tmp 5],none,some (3,true)⟩,⟨.pick,[.tmp 3,.tmp 6,.c (.bool false)],none,none⟩,⟨.mov,[.tmp 7],some 3,none⟩]) .ret))}
end Go.Am.F10
end
