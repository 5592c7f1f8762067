import Derived.Test.YtdfnfmocppgniaaXJ14
import Derived.Test.YtdfnfmocppgniaaXG16
import Derived.TacticsInMore
import Derived.LoopNIn
import Derived.LoopIn
import Derived.Maps.AppendAt
import Derived.WalkKit
import Derived.OwnWalkIn
import Derived.BigFrameIn
import Derived.Shelf.Abstract
set_option linter.unusedSimpArgs false
set_option linter.unusedVariables false
namespace Go.Proofs.Ytdfnfmocppgniaa
open Go Go.Am Go.Am.F15 Go.RowKit
attribute [local go_sem] Oper.semAt_some
noncomputable def cB:Code:=match Try.f37.body with|some (.seq _ (.block _ (.loop (.seq (.seq b _) _))))=>b|_=>.skip
noncomputable def cC:Code:=match Try.f37.body with|some (.seq _ (.block _ (.loop (.seq (.seq _ c) _))))=>c|_=>.skip
theorem cC_eq:cC = .cond (.tmp 16) .skip (.exit 0):=by simp only[cC,Try.f37]
theorem cC_true{Q:Exit→Act→World→Prop} {a:Act} {w:World} (h:a.tmps.getD 16 undef = .bool true) (hq:Q .normal a w):cC.wp Try.prog Q a w:=by
 rw[cC_eq];exact wp_cond_true h (wp_skip hq)
theorem cC_false{Q:Exit→Act→World→Prop} {a:Act} {w:World} (h:a.tmps.getD 16 undef = .bool false) (hq:Q (.exit 0) a w):cC.wp Try.prog Q a w:=by
 rw[cC_eq];exact wp_cond_false h (wp_exit hq)
theorem arr27{t:Array Value} (h:t.size=27):∃ a0 a1 a2 a3 a4 a5 a6 a7 a8 a9 a10 a11 a12 a13 a14 a15 a16 a17 a18 a19 a20 a21 a22 a23 a24 a25 a26,t=#[a0,a1,a2,a3,a4,a5,a6,a7,a8,a9,a10,a11,a12,a13,a14,a15,a16,a17,a18,a19,a20,a21,a22,a23,a24,a25,a26]:=by
 rcases t with⟨l⟩
 match l,h with
 | [a0,a1,a2,a3,a4,a5,a6,a7,a8,a9,a10,a11,a12,a13,a14,a15,a16,a17,a18,a19,a20,a21,a22,a23,a24,a25,a26],_=>exact⟨a0,a1,a2,a3,a4,a5,a6,a7,a8,a9,a10,a11,a12,a13,a14,a15,a16,a17,a18,a19,a20,a21,a22,a23,a24,a25,a26,rfl⟩
set_option maxRecDepth 100000 in
set_option maxHeartbeats 1000000 in
theorem eachB_wp{n l:Nat} {x:Int} {Q:Exit→Act→World→Prop} {a:Act} {w:World} (hs:a.tmps.size=27) (h4:a.tmps.getD 4 undef = .bool true) (h0:a.tmps.getD 0 undef = .func (.yield l) #[] #[]) (h3:a.tmps.getD 3 undef = .int .i64 x)
  {R:Ending→World→Prop} {fn:FuncId} {tmps:Array Value} {assign body:Code} (hy:(Instr.yield l #[.int .i64 x]).run Try.prog w = .ok (.round l fn tmps assign body) w) (hR:RoundIn Fence.wide (n - 1) Try.prog l fn tmps assign body w R)
  (hRe:∀ e w',R e w'→∃ b,e = .returned (.bool b))
  (hQ:∀ b w' a',R (.returned (.bool b)) w'→a'.tmps.size=27→a'.defers=a.defers→(∀ t,t < 11→a'.tmps.getD t undef=a.tmps.getD t undef)→a'.tmps.getD 16 undef = .bool b→Q .normal a' w') :
  cB.wpIn Fence.wide n Try.prog Q a w:=by
 obtain⟨tm,df⟩:=a
 obtain⟨a0,a1,a2,a3,a4,a5,a6,a7,a8,a9,a10,a11,a12,a13,a14,a15,a16,a17,a18,a19,a20,a21,a22,a23,a24,a25,a26,rfl⟩:=arr27 hs
 simp only[Array.getD_eq_getD_getElem?,List.getElem?_toArray,List.getElem?_cons_succ,List.getElem?_cons_zero,Option.getD_some] at h4 h0 h3
 subst h4;subst h0;subst h3
 simp only[cB,Try.f37]
 gi_wp2
 refine⟨fun h=>(by cases h),hR.mono ?_⟩
 rintro e W' hr
 obtain⟨b,rfl⟩:=hRe e W' hr
 gi_wp2
 refine hQ b _ _ hr rfl rfl (fun t ht=>?_) ?_
 ·have ht:t=0∨t=1∨t=2∨t=3∨t=4∨t=5∨t=6∨t=7∨t=8∨t=9∨t=10:=by omega
  rcases ht with rfl|rfl|rfl|rfl|rfl|rfl|rfl|rfl|rfl|rfl|rfl<;>rfl
 ·rfl
theorem env_of{μ:Mu} {l b:Nat} {pb:Pl} (hpb:μ b=some pb) {a:Act} {x:Int} {ok:Bool} (hs:a.tmps.size=27) (h0:a.tmps.getD 0 undef = .func (.yield l) #[] #[]) (h1:a.tmps.getD 1 undef = .pointer (some ⟨pb.c,pb.s+0,none⟩))
  (h3:a.tmps.getD 3 undef = .int .i64 x) (h4:a.tmps.getD 4 undef = .bool ok):EnvOk num [0,1,3,4,5,16] 27 μ [.yld l,.ptr b 0,.int .i64 x,.bool ok,.undef,.undef] a:=by
 refine⟨rfl,hs,fun j t hj=>?_⟩
 match j,hj with
 | 0,hj=>injection hj with hj;subst hj;rw[h0];exact .yld
 | 1,hj=>injection hj with hj;subst hj;rw[h1];exact .ptr hpb
 | 2,hj=>injection hj with hj;subst hj;rw[h3];exact .int _ _
 | 3,hj=>injection hj with hj;subst hj;rw[h4];exact .bool _
 | 4,hj=>injection hj with hj;subst hj;exact .undef _
 | 5,hj=>injection hj with hj;subst hj;exact .undef _
 | j+6,hj=>simp at hj
structure Mid (l:Nat) (pb:Pl) (M:Mem Unit) (fp:AV) (rest:List Int) (a:Act):Prop where
 size:a.tmps.size=27
 df:a.defers=[]
 s0:a.tmps.getD 0 undef = .func (.yield l) #[] #[]
 s1:a.tmps.getD 1 undef = .pointer (some ⟨pb.c,pb.s+0,none⟩)
 sx:∃ x ok,a.tmps.getD 3 undef = .int .i64 x∧a.tmps.getD 4 undef = .bool ok∧At M fp x ok rest
theorem mid_of{l b:Nat} {pb:Pl} {M:Mem Unit} {fp:AV} {rest:List Int} {a:Act} {μ μ':Mu} {x:Int} {ok:Bool} {u v:AV} (hpb:μ b=some pb) (hm:μ' b=μ b) (hE:EnvOk num [0,1,3,4,5,16] 27 μ' [.yld l,.ptr b 0,.int .i64 x,.bool ok,u,v] a) (hd:a.defers=[]) (hat:At M fp x ok rest):Mid l pb M fp rest a:=by
 refine⟨hE.2.1,hd,?_,?_,x,ok,?_,?_,hat⟩
 ·exact(hE.slot 0 rfl rfl).yld_inv
 ·obtain⟨p,hp,he⟩:=(hE.slot (v:=.ptr b 0) 1 rfl rfl).ptr_inv
  rw[hm,hpb] at hp;injection hp with hp;subst hp;exact he
 ·exact(hE.slot 2 rfl rfl).int_inv
 ·exact(hE.slot 3 rfl rfl).bool_inv
set_option maxRecDepth 100000 in
theorem each_stops{F0:Nat→Prop} {μ:Mu} {m:Mem Unit} {w0:World} (hS:Sim A0 num F0 μ m w0.heap) {b z:Nat} {ro:Bool} {pb:Pl} {fp:AV} {xs:List Int} (hpb:μ b=some pb) (hb:m[b]?=some (.cells z ro [fp])) (hrow:lineRows m fp=some xs) (hxs:xs.length < FUEL)
  (n:Nat):SeqStopsK Fence.wide n Try.prog 37 #[.pointer (some ⟨pb.c,pb.s+0,none⟩)] (fun x:Int=>#[Value.int .i64 x]) (Below w0.heap.size) (fun ys=>ys=xs) (fun _=>True) xs.length w0:=by
 intro l J Jx W hW hJ hJx hY h0
 refine callsIn_wide.2 ?_
 obtain⟨c,hc,hck,hres,hent⟩:=fn_parts chk_fifo_Line_each_1
 refine calls_of_wp Try.func37 hc ?_
 have hro:=hS.ro
 have still:∀ W',Below w0.heap.size w0 W'→Sim A0 num (fun _=>False) μ (roM m) W'.heap:=fun W' h=>hro.still (fun c hc=>h.block c hc)
 have hbl:b < m.length:=(List.getElem?_eq_some_iff.1 hb).1
 have hbr:(roM m)[b]?=some (.cells z true [fp]):=by rw[roM_get,hb];rfl
 have hrr:lineRows (roM m) fp=some xs:=by rw[lineRows_ro];exact hrow
 have E0:=hent μ [.yld l,.ptr b 0] [.func (.yield l) #[] #[],.pointer (some ⟨pb.c,pb.s+0,none⟩)] rfl (VRL.cons .yld (VRL.cons (.ptr hpb) VRL.nil))
 have hck:chkCode Try.prog num [0,1,3,4,5,16] Try.f37.ntmps c F15.fifo_Line_each_1.body=true:=hck
 rw[each_body] at hck
 obtain⟨cA,c1,rfl,kA,h1⟩:=chk_seq hck
 obtain⟨c2,rfl,h2⟩:=chk_block h1
 obtain⟨c3,rfl,h3⟩:=chk_loop h2
 obtain⟨c4,cD,rfl,h4,kD⟩:=chk_seq h3
 have h4':=h4
 obtain⟨cB',cC',rfl,kB,kC⟩:=chk_seq h4
 have eB:cB'=cB:=by unfold cB;rw[hc]
 have eC:cC'=cC:=by unfold cC;rw[hc]
 subst eB;subst eC
 have key:∀ (rest:List Int) (k:Nat) (pre:List Int) (a:Act) (W1:World),rest.length < k→Mid l pb (roM m) fp rest a→xs=pre++rest→J pre W1→Below w0.heap.size w0 W1 →
   Code.rounds Try.prog (.seq (.seq cB cC) cD) (Exit.inBlock 0 (bodyPost Try.prog Try.f37 fun e W'=>(∃ v,e = .returned v)∧((∃ ys,ys=xs∧J ys W')∨(∃ pre,True∧Jx pre W')))) k a W1:=by
  intro rest
  induction rest with
  | nil =>
   intro k pre a W1 hk hm hx hj hW1
   obtain⟨x,ok,s3,s4,hat⟩:=hm.sx
   cases k with
   | zero=>exact absurd hk (by omega)
   | succ k =>
   cases ok with
   | true =>
    obtain⟨r,hr,_⟩:=eachD_run14 (l:=l) (u:=.undef) (v:=.undef) hbr hat
    cases hr
   | false =>
    rw[rounds_succ]
    refine wp_seq ?_
    obtain⟨y,e',m',ham,rfl,rfl⟩:=eachB_run14 (M:=roM m) (l:=l) (b:=b) (x:=x) (u:=.undef) (v:=.undef)
    refine code_sound k_fifo_Line_each_1 (.seq eachB eachC) (.seq cB cC) h4' ham (env_of hpb hm.size hm.s0 hm.s1 s3 s4) (still W1 hW1) (fun F1 μ1 a1 w1 g1 g2 g3 g4=>?_)
    simp only[AX.ex,Exit.then,Exit.inBlock,if_true]
    exact bodyPost_end (results_none rfl _ _ _) (g4.trans hm.df) ⟨⟨_,rfl⟩,.inl ⟨pre,by simp[hx],hJ pre W1 w1 none hj g3.grown (fun r h=>by cases h)⟩⟩
  | cons x rest ih =>
   intro k pre a W1 hk hm hx hj hW1
   obtain⟨x0,ok,s3,s4,hat⟩:=hm.sx
   cases k with
   | zero=>exact absurd hk (by omega)
   | succ k =>
   have hok:ok=true:=by
    rcases hat with⟨_,h⟩|⟨h,_⟩
    ·cases h
    ·exact h
   subst hok
   obtain⟨r,hr,hD⟩:=eachD_run14 (l:=l) (u:=.undef) (v:=.undef) hbr hat
   injection hr with hr1 hr2
   subst hr1;subst hr2
   obtain⟨fn,tmps,assign,body,hy,hR⟩:=hY pre x W1 hj (by rw[hx];simp)
   rw[rounds_succ]
   refine wp_seq (wp_seq ?_)
   refine(wpIn_wide (n:=n)).1 (eachB_wp hm.size s4 hm.s0 s3 hy hR (fun e w' h=>by rcases h with⟨rfl,_⟩|⟨rfl,_⟩<;>exact⟨_,rfl⟩) (fun bb w' a' hr q1 q2 q3 q4=>?_))
   show cC.wp _ _ _ _
   have t0:=(q3 0 (by omega)).trans hm.s0
   have t1:=(q3 1 (by omega)).trans hm.s1
   have t3:=(q3 3 (by omega)).trans s3
   have t4:=(q3 4 (by omega)).trans s4
   rcases hr with⟨hbb,hj',hk'⟩|⟨hbb,hjx⟩
   ·injection hbb with hbb;injection hbb with hbb;subst hbb
    refine cC_true q4 ?_
    show cD.wp _ _ _ _
    obtain⟨y,e',m',ham,x1,ok1,w2,u2,rfl,rfl,⟨K,rfl⟩,hat'⟩:=hD
    refine code_sound k_fifo_Line_each_1 eachD cD kD ham (env_of hpb q1 t0 t1 t3 t4) (still w' (hW1.trans hk')) (fun F1 μ1 a1 w1 g1 g2 g3 g4=>?_)
    show Code.rounds _ _ _ k a1 w1
    exact ih k (pre++[x]) a1 w1 (by simp at hk;omega) (mid_of hpb (g3.mu b (by rw[roM_length];exact hbl)) g1 (g4.trans (q2.trans hm.df)) hat') (by simp[hx]) (hJ _ w' w1 none hj' g3.grown (fun r h=>by cases h)) ((hW1.trans hk').trans (g3.below.mono (hW1.trans hk').size))
   ·injection hbb with hbb;injection hbb with hbb;subst hbb
    refine cC_false q4 ?_
    simp only[Exit.then,Exit.inBlock,if_true]
    exact bodyPost_end (results_none rfl _ _ _) (q2.trans hm.df) ⟨⟨_,rfl⟩,.inr ⟨_,trivial,hjx⟩⟩
 refine wp_seq ?_
 obtain⟨x,e1,m1,ham,x0,ok0,rfl,rfl,rfl,hat⟩:=eachA_run14 (l:=l) hbr hrr
 refine code_sound k_fifo_Line_each_1 eachA cA kA ham E0 (still W hW) (fun F1 μ1 a1 w1 g1 g2 g3 g4=>?_)
 show (Code.block 0 (.loop _)).wp _ _ _ _
 refine wp_block (wp_loop_rounds (xs.length+1) ?_)
 refine key xs _ [] a1 w1 (by omega) (mid_of hpb (g3.mu b (by rw[roM_length];exact hbl)) g1 g4 hat) rfl (hJ [] W w1 none h0 g3.grown (fun r h=>by cases h)) (hW.trans (g3.below.mono hW.size))
end Go.Proofs.Ytdfnfmocppgniaa
