import Derived.Test.YtdfnfmocppgniaaXT14
import Derived.RangeFuncNested
set_option linter.unusedSimpArgs false
set_option linter.unusedVariables false
namespace Go.Proofs.Ytdfnfmocppgniaa
open Go Go.Am Go.Am.F15 Go.RowKit Go.Shelf
attribute [local go_sem] Oper.semAt_some
structure BelowX (N lo hi:Nat) (w w':World):Prop where
 os:w'.os=w.os
 tape:w'.tape=w.tape
 output:w'.output=w.output
 size:w.heap.size≤w'.heap.size
 block:∀ k,k < N→(k < lo∨hi≤k)→w'.heap[k]?=w.heap[k]?
theorem BelowX.trans{N lo hi:Nat} {a b c:World} (h:BelowX N lo hi a b) (k:BelowX N lo hi b c):BelowX N lo hi a c :=
 ⟨k.os.trans h.os,k.tape.trans h.tape,k.output.trans h.output,Nat.le_trans h.size k.size,fun i hi ho=>(k.block i hi ho).trans (h.block i hi ho)⟩
theorem _root_.Go.RowKit.Below.x{N lo hi:Nat} {a b:World} (h:Below N a b):BelowX N lo hi a b:=⟨h.os,h.tape,h.output,h.size,fun k hk _=>h.block k hk⟩
theorem belowX_b{n₀ lo hi:Nat} {w:World} (hn:n₀≤w.heap.size) (W:World) (l:Nat) (o o':Obj) (hl:w.heap.size≤l) (h:W.heap[l]?=some o) (h1:o.isCells=false) (h2:o.isWalk=false):BelowX n₀ lo hi W (W.putObj l o'):=(belowK_b hn W l o o' hl h h1 h2).x
theorem sim_stillX{μ:Mu} {m:Mem Unit} {H H':Array Obj} (h:Sim A0 num (fun _=>False) μ (roM m) H) (hk:∀ j ch p,(roM m)[j]?=some ch→ch ≠ .dead→μ j=some p→p.c < H.size→H'[p.c]?=H[p.c]?):Sim A0 num (fun _=>False) μ (roM m) H':=by
 obtain⟨own,h⟩:=h
 refine⟨own,h.isF,fun c h=>h.elim,h.new,fun i ch p hi hp=>?_⟩
 have hok:=h.ok i ch p hi hp
 have hi':=hi
 rw[roM_get] at hi'
 obtain⟨c,hc,rfl⟩:=Option.map_eq_some_iff.1 hi'
 cases c with
 | cells sz ro l =>
  obtain⟨arr,T,fr,k1,k2,k3⟩:=hok
  exact⟨arr,T,fr,k1,(hk i _ p hi (fun e=>by cases e) hp (Array.getElem?_eq_some_iff.1 k2).1).trans k2,k3⟩
 | abs x=>trivial
 | dead=>trivial
 | tab l c =>
  obtain⟨es,d,k1,k2⟩:=hok
  exact⟨es,d,(hk i _ p hi (fun e=>by cases e) hp (Array.getElem?_eq_some_iff.1 k1).1).trans k1,k2⟩
 | rtab l =>
  obtain⟨es,d,k1,k2⟩:=hok
  exact⟨es,d,(hk i _ p hi (fun e=>by cases e) hp (Array.getElem?_eq_some_iff.1 k1).1).trans k1,k2⟩
set_option maxRecDepth 100000 in
theorem each_stopsX{lo hi:Nat} {F0:Nat→Prop} {μ:Mu} {m:Mem Unit} {w0:World} (hS:Sim A0 num F0 μ m w0.heap) {b z:Nat} {ro:Bool} {pb:Pl} {fp:AV} {xs:List Int} (hpb:μ b=some pb) (hb:m[b]?=some (.cells z ro [fp])) (hrow:lineRows m fp=some xs) (hxs:xs.length < FUEL) (hμ:∀ j ch p,(roM m)[j]?=some ch→ch ≠ .dead→μ j=some p→p.c < lo∨hi≤p.c)
  (n:Nat):SeqStopsK Fence.wide n Try.prog 37 #[.pointer (some ⟨pb.c,pb.s+0,none⟩)] (fun x:Int=>#[Value.int .i64 x]) (BelowX w0.heap.size lo hi) (fun ys=>ys=xs) (fun p=>∃ q,xs=p++q) xs.length w0:=by
 intro l J Jx W hW hJ hJx hY h0
 refine callsIn_wide.2 ?_
 obtain⟨c,hc,hck,hres,hent⟩:=fn_parts chk_fifo_Line_each_1
 refine calls_of_wp Try.func37 hc ?_
 have hro:=hS.ro
 have still:∀ W',BelowX w0.heap.size lo hi w0 W'→Sim A0 num (fun _=>False) μ (roM m) W'.heap:=fun W' h=>sim_stillX hro (fun j ch p h1 h2 h3 hlt=>h.block p.c hlt (hμ j ch p h1 h2 h3))
 have hbl:b < m.length:=(List.getElem?_eq_some_iff.1 hb).1
 have hbr:(roM m)[b]?=some (.cells z true [fp]):=by rw[roM_get,hb];rfl
 have hrr:lineRows (roM m) fp=some xs:=by rw[lineRows_ro];exact hrow
 have E0:=hent μ [.yld l,.ptr b 0] [.func (.yield l) #[] #[],.pointer (some ⟨pb.c,pb.s+0,none⟩)] rfl (VRL.cons .yld (VRL.cons (.ptr hpb) VRL.nil))
 have hck:chkCode Try.prog num [0,1,3,4,5,16] Try.f37.ntmps c F15.fifo_Line_each_1.body=true:=hck
 rw[each_body] at hck
 obtain⟨cA,c1,rfl,kA,h1⟩:=chk_seq hck
 obtain⟨c2,rfl,h2⟩:=chk_block h1
 obtain⟨c3,rfl,h3⟩:=chk_loop h2
 obtain⟨c4,cD,rfl,h4,kD⟩:=chk_seq h3
 have h4':=h4
 obtain⟨cB',cC',rfl,kB,kC⟩:=chk_seq h4
 have eB:cB'=cB:=by unfold cB;rw[hc]
 have eC:cC'=cC:=by unfold cC;rw[hc]
 subst eB;subst eC
 have key:∀ (rest:List Int) (k:Nat) (pre:List Int) (a:Act) (W1:World),rest.length < k→Mid l pb (roM m) fp rest a→xs=pre++rest→J pre W1→BelowX w0.heap.size lo hi w0 W1 →
   Code.rounds Try.prog (.seq (.seq cB cC) cD) (Exit.inBlock 0 (bodyPost Try.prog Try.f37 fun e W'=>(∃ v,e = .returned v)∧((∃ ys,ys=xs∧J ys W')∨(∃ pre,(∃ q,xs=pre++q)∧Jx pre W')))) k a W1:=by
  intro rest
  induction rest with
  | nil =>
   intro k pre a W1 hk hm hx hj hW1
   obtain⟨x,ok,s3,s4,hat⟩:=hm.sx
   cases k with
   | zero=>exact absurd hk (by omega)
   | succ k =>
   cases ok with
   | true =>
    obtain⟨r,hr,_⟩:=eachD_run14 (l:=l) (u:=.undef) (v:=.undef) hbr hat
    cases hr
   | false =>
    rw[rounds_succ]
    refine wp_seq ?_
    obtain⟨y,e',m',ham,rfl,rfl⟩:=eachB_run14 (M:=roM m) (l:=l) (b:=b) (x:=x) (u:=.undef) (v:=.undef)
    refine code_sound k_fifo_Line_each_1 (.seq eachB eachC) (.seq cB cC) h4' ham (env_of hpb hm.size hm.s0 hm.s1 s3 s4) (still W1 hW1) (fun F1 μ1 a1 w1 g1 g2 g3 g4=>?_)
    simp only[AX.ex,Exit.then,Exit.inBlock,if_true]
    exact bodyPost_end (results_none rfl _ _ _) (g4.trans hm.df) ⟨⟨_,rfl⟩,.inl ⟨pre,by simp[hx],hJ pre W1 w1 none hj g3.grown (fun r h=>by cases h)⟩⟩
  | cons x rest ih =>
   intro k pre a W1 hk hm hx hj hW1
   obtain⟨x0,ok,s3,s4,hat⟩:=hm.sx
   cases k with
   | zero=>exact absurd hk (by omega)
   | succ k =>
   have hok:ok=true:=by
    rcases hat with⟨_,h⟩|⟨h,_⟩
    ·cases h
    ·exact h
   subst hok
   obtain⟨r,hr,hD⟩:=eachD_run14 (l:=l) (u:=.undef) (v:=.undef) hbr hat
   injection hr with hr1 hr2
   subst hr1;subst hr2
   obtain⟨fn,tmps,assign,body,hy,hR⟩:=hY pre x W1 hj (by rw[hx];simp)
   rw[rounds_succ]
   refine wp_seq (wp_seq ?_)
   refine(wpIn_wide (n:=n)).1 (eachB_wp hm.size s4 hm.s0 s3 hy hR (fun e w' h=>by rcases h with⟨rfl,_⟩|⟨rfl,_⟩<;>exact⟨_,rfl⟩) (fun bb w' a' hr q1 q2 q3 q4=>?_))
   show cC.wp _ _ _ _
   have t0:=(q3 0 (by omega)).trans hm.s0
   have t1:=(q3 1 (by omega)).trans hm.s1
   have t3:=(q3 3 (by omega)).trans s3
   have t4:=(q3 4 (by omega)).trans s4
   rcases hr with⟨hbb,hj',hk'⟩|⟨hbb,hjx⟩
   ·injection hbb with hbb;injection hbb with hbb;subst hbb
    refine cC_true q4 ?_
    show cD.wp _ _ _ _
    obtain⟨y,e',m',ham,x1,ok1,w2,u2,rfl,rfl,⟨K,rfl⟩,hat'⟩:=hD
    refine code_sound k_fifo_Line_each_1 eachD cD kD ham (env_of hpb q1 t0 t1 t3 t4) (still w' (hW1.trans hk')) (fun F1 μ1 a1 w1 g1 g2 g3 g4=>?_)
    show Code.rounds _ _ _ k a1 w1
    exact ih k (pre++[x]) a1 w1 (by simp at hk;omega) (mid_of hpb (g3.mu b (by rw[roM_length];exact hbl)) g1 (g4.trans (q2.trans hm.df)) hat') (by simp[hx]) (hJ _ w' w1 none hj' g3.grown (fun r h=>by cases h)) ((hW1.trans hk').trans (g3.below.mono (hW1.trans hk').size).x)
   ·injection hbb with hbb;injection hbb with hbb;subst hbb
    refine cC_false q4 ?_
    simp only[Exit.then,Exit.inBlock,if_true]
    exact bodyPost_end (results_none rfl _ _ _) (q2.trans hm.df) ⟨⟨_,rfl⟩,.inr ⟨_,⟨rest,by simp[hx]⟩,hjx⟩⟩
 refine wp_seq ?_
 obtain⟨x,e1,m1,ham,x0,ok0,rfl,rfl,rfl,hat⟩:=eachA_run14 (l:=l) hbr hrr
 refine code_sound k_fifo_Line_each_1 eachA cA kA ham E0 (still W hW.x) (fun F1 μ1 a1 w1 g1 g2 g3 g4=>?_)
 show (Code.block 0 (.loop _)).wp _ _ _ _
 refine wp_block (wp_loop_rounds (xs.length+1) ?_)
 refine key xs _ [] a1 w1 (by omega) (mid_of hpb (g3.mu b (by rw[roM_length];exact hbl)) g1 g4 hat) rfl (hJ [] W w1 none h0 g3.grown (fun r h=>by cases h)) (hW.trans (g3.below.mono hW.size)).x
end Go.Proofs.Ytdfnfmocppgniaa
