import Derived.Test.YtaglnjaenigkaaaXG15
set_option linter.unusedSimpArgs false
set_option linter.unusedVariables false
section
namespace Go.Am.F15
open Go.Am.F10 (iC iC_at iC_len iC_one iC_app SI SI.val same_run Cf cfC rightP right_run)
variable {X:Type}
def KK(m m':Mem X):Prop:=m.length≤m'.length∧∀ (k sz:Nat) (ro:Bool) (L:List AV),m[k]?=some (Chunk.cells sz ro L)→sz≠3→sz≠13→m'[k]?=some (Chunk.cells sz ro L)
theorem KK.refl(m:Mem X):KK m m:=⟨Nat.le_refl _,fun _ _ _ _ h _ _=>h⟩
theorem KK.trans{m m' m'':Mem X} (h:KK m m') (h':KK m' m''):KK m m'':=⟨Nat.le_trans h.1 h'.1,fun k sz ro L e h1 h2=>h'.2 k sz ro L (h.2 k sz ro L e h1 h2) h1 h2⟩
theorem _root_.Go.Am.Keep.kk{m m':Mem X} (h:Keep m m'):KK m m':=⟨h.1,fun k sz ro L e _ _=>h.get e⟩
theorem PO.kk{m m':Mem X} {P:Pla} {s:Pc} (H:PO m P s) (h:KPl m m' P):KK m m':=by
 refine⟨h.1,fun k sz ro L e h1 h2=>(h.2 k (List.getElem?_eq_some_iff.1 e).1 (fun hk=>?_)).trans e⟩
 have key:∀ {i j xs},LN m i j xs→k≠i:=fun hl hki=>by
  obtain⟨l,hc⟩:=hl.cell
  rw[hki,hc] at e;injection e with e;injection e with e;exact h1 e.symm
 have key2:∀ {i j xs},LN m i j xs→j≠some k:=fun hl hj=>by
  obtain⟨tb,c,ht⟩:=hl.tab hj
  rw[ht] at e;cases e
 rcases hk with hk|hk|hk|hk|hk|hk|hk
 ·rw[hk,H.gp] at e;injection e with e;injection e with e;exact h2 e.symm
 ·exact key H.l1 hk
 ·exact key H.l2 hk
 ·exact key H.l3 hk
 ·exact key2 H.l1 hk
 ·exact key2 H.l2 hk
 ·exact key2 H.l3 hk
theorem si_kk{m m':Mem X} {w:Bool} {l:List Int} {v:AV} (h:SI m w l v) (k:KK m m'):SI m' w l v:=by
 obtain⟨h0,h⟩:=h
 refine⟨h0,?_⟩
 rcases h with h|⟨q,o,cap,h1,h2⟩
 ·exact .inl h
 ·refine .inr ⟨q,o,cap,h1,fun hn=>?_⟩
  obtain⟨ro,L,h3,h4⟩:=h2 hn
  exact⟨ro,L,k.2 q 1 ro L h3 (by decide) (by decide),h4⟩
def WP(m0 m:Mem X) (p:Nat) (s:Pc):Prop:=∃ P,P.p=p∧PO m P s∧∀ k,P.has k→m0.length≤k
def WS(m0 m:Mem X) (p:Nat) (s:Pc) (m':Mem X):Prop:=WP m0 m' p s∧Keep m0 m'∧KK m m'
theorem NP.wp{m0 m m':Mem X} {p:Nat} {s:Pc} (h:NP m m' p s) (hl:m0.length≤m.length):WP m0 m' p s:=by
 obtain⟨P,h1,h2,h3⟩:=h
 exact⟨P,h1,h2,fun k hk=>Nat.le_trans hl (h3 k hk)⟩
theorem WP.keep{m0 m m':Mem X} {p:Nat} {s:Pc} (h:WP m0 m p s) (hk:Keep m m'):WP m0 m' p s:=by
 obtain⟨P,h1,h2,h3⟩:=h
 exact⟨P,h1,h2.keep hk,h3⟩
theorem ws_of{m0 m m':Mem X} {P:Pla} {s s':Pc} {R:AV→Mem X→Prop} {r:AV} (hk0:Keep m0 m) (H:PO m P s) (h0:∀ k,P.has k→m0.length≤k) (h:StP m P s' R r m'):WS m0 m P.p s' m'∧R r m':=by
 obtain⟨P',h1,h2,h3,h4⟩:=h
 refine⟨⟨⟨P',h1.1,h3,fun k hk=>?_⟩,⟨Nat.le_trans hk0.1 h2.1,fun k hk=>?_⟩,H.kk h2⟩,h4⟩
 ·rcases Nat.lt_or_ge k m.length with hl|hl
  ·exact h0 k (h1.has hl hk)
  ·exact Nat.le_trans hk0.1 hl
 ·exact(h2.2 k (Nat.lt_of_lt_of_le hk hk0.1) (fun e=>by have:=h0 k e;omega)).trans (hk0.2 k hk)
section
variable {m0 m:Mem X} {p:Nat} {s:Pc}
theorem wpush_run{l:List Int} {w:Bool} {lv:AV} (H:WP m0 m p s) (hk:Keep m0 m) (hb:Bd s) (hl:SI m w l lv) (hf:l.length < 1000) :
  Fn GPP pool_Pool_Push [.ptr p 0,lv] m (fun r m'=>WS m0 m p { s with g:=addL s.g s.c.g l } m'∧r = .int .i64 (addE s.g s.c.g l)):=by
 obtain⟨P,rfl,H,h0⟩:=H
 exact Fn_mono (ppush_run H hb hl hf) fun v m' h=>ws_of hk H h0 h
theorem wputp_run{n:Int} (H:WP m0 m p s) (hk:Keep m0 m) (hb:Bd s):Fn GPP pool_Pool_PutP [.ptr p 0,.int .i64 n] m (fun r m'=>WS m0 m p { s with ps:=addL s.ps s.c.n [n] } m'∧r = .int .i64 (addE s.ps s.c.n [n])):=by
 obtain⟨P,rfl,H,h0⟩:=H
 exact Fn_mono (putp_run H hb) fun v m' h=>ws_of hk H h0 h
theorem wputm_run{n:Int} (H:WP m0 m p s) (hk:Keep m0 m) (hb:Bd s):Fn GPP pool_Pool_PutM [.ptr p 0,.int .i64 n] m (fun r m'=>WS m0 m p { s with ms:=addL s.ms s.c.m [n] } m'∧r = .int .i64 (addE s.ms s.c.m [n])):=by
 obtain⟨P,rfl,H,h0⟩:=H
 exact Fn_mono (putm_run H hb) fun v m' h=>ws_of hk H h0 h
theorem wpop_run(H:WP m0 m p s) (hk:Keep m0 m) (hb:Bd s) (n:Int):Fn GPo pool_Pool_Pop [.ptr p 0,.int .i64 n] m (fun r m'=>WS m0 m p { s with g:=s.g.drop (popN s.g n) } m'∧Go.Am.Own m m' 1 (s.g.take (popN s.g n)).length (iC (s.g.take (popN s.g n))) r):=by
 obtain⟨P,rfl,H,h0⟩:=H
 exact Fn_mono (ppop_run H hb n) fun v m' h=>ws_of hk H h0 h
theorem wtakep_run(H:WP m0 m p s) (hk:Keep m0 m) (hb:Bd s):Fn GTk pool_Pool_TakeP [.ptr p 0] m (fun r m'=>WS m0 m p { s with ps:=s.ps.tail } m'∧r=firstT s.ps):=by
 obtain⟨P,rfl,H,h0⟩:=H
 exact Fn_mono (takep_run H hb) fun v m' h=>ws_of hk H h0 h
theorem wtakem_run(H:WP m0 m p s) (hk:Keep m0 m) (hb:Bd s):Fn GTk pool_Pool_TakeM [.ptr p 0] m (fun r m'=>WS m0 m p { s with ms:=s.ms.tail } m'∧r=firstT s.ms):=by
 obtain⟨P,rfl,H,h0⟩:=H
 exact Fn_mono (takem_run H hb) fun v m' h=>ws_of hk H h0 h
theorem waddspin_run(H:WP m0 m p s) (hk:Keep m0 m) (n:Int):Fn [] pool_Pool_AddSpin [.ptr p 0,.int .i64 n] m (fun r m'=>WS m0 m p { s with spin:=spinN s n } m'∧r = .int .i64 (spinN s n)):=by
 obtain⟨P,rfl,H,h0⟩:=H
 exact Fn_mono (addspin_run H n) fun v m' h=>ws_of hk H h0 h
theorem wboth_no(H:WP m0 m p s) (h:s.ps=[]∨s.ms=[]):Fn GBo pool_Pool_Both [.ptr p 0] m (fun r m'=>r = .tup [.int .i64 (-1),.int .i64 (-1),.bool false]∧m'=m):=by
 obtain⟨P,rfl,H,h0⟩:=H
 exact both_no H h
theorem wboth_run(H:WP m0 m p s) (hk:Keep m0 m) (hb:Bd s) {x y:Int} {xs ys:List Int} (hps:s.ps=x :: xs) (hms:s.ms=y :: ys):Fn GBo pool_Pool_Both [.ptr p 0] m (fun r m'=>WS m0 m p { s with ps:=xs,ms:=ys } m'∧r = .tup [.int .i64 x,.int .i64 y,.bool true]):=by
 obtain⟨P,rfl,H,h0⟩:=H
 exact Fn_mono (both_run H hb hps hms) fun v m' h=>ws_of hk H h0 h
theorem wlen_eq(H:WP m0 m p s):c_pool_Pool_Len [.ptr p 0] m=some (.int .i64 s.g.length,m):=by
 obtain⟨P,rfl,H,h0⟩:=H
 exact plen_eq H
theorem wspin_eq(H:WP m0 m p s):c_pool_Pool_Spin [.ptr p 0] m=some (.int .i64 s.spin,m):=by
 obtain⟨P,rfl,H,h0⟩:=H
 exact pspin_eq H
theorem wbatch_eq(H:WP m0 m p s) (hn:s.c.n≠0):c_pool_Pool_Batch [.ptr p 0] m=some (.int .i64 (batchN s),m):=by
 obtain⟨P,rfl,H,h0⟩:=H
 exact batch_eq H hn
theorem wglobal_run(H:WP m0 m p s) (hb:Bd s):Fn GGl pool_Pool_Global [.ptr p 0] m (AllP m s.g):=by
 obtain⟨P,rfl,H,h0⟩:=H
 exact global_run H hb
theorem wps_run(H:WP m0 m p s) (hb:Bd s):Fn GGl pool_Pool_Ps [.ptr p 0] m (AllP m s.ps):=by
 obtain⟨P,rfl,H,h0⟩:=H
 exact ps_run H hb
theorem wms_run(H:WP m0 m p s) (hb:Bd s):Fn GGl pool_Pool_Ms [.ptr p 0] m (AllP m s.ms):=by
 obtain⟨P,rfl,H,h0⟩:=H
 exact ms_run H hb
end
def GWk:List (Nat × AFun X):=[(224,amFunc GNw pool_New),(237,amFunc GGl pool_Pool_Ps),(84,c_kit_SameInts),(238,amFunc GGl pool_Pool_Ms),(231,amFunc GBo pool_Pool_Both),(230,amFunc GTk pool_Pool_TakeM),(227,amFunc GPP pool_Pool_PutP),(225,amFunc GPP pool_Pool_Push),(232,c_pool_Pool_Batch),(226,amFunc GPo pool_Pool_Pop)]
theorem lits_si{m:Mem X} {xs:List Int} {n:Nat} (hn:n=xs.length):SI (m++[Chunk.cells 1 false (iC xs)]) true xs (.sl m.length 0 n (some n)):=by
 subst hn
 exact⟨by rw[iC_len];omega,.inr ⟨m.length,0,some xs.length,rfl,fun _=>⟨false,iC xs,get_concat,by rw[List.drop_zero,List.take_of_length_le (by rw[iC_len];omega)],by rw[iC_len];omega,fun _=>rfl⟩⟩⟩
theorem same_eq{m:Mem X} {w1 w2:Bool} {xs ys:List Int} {a b:AV} (ha:SI m w1 xs a) (hb:SI m w2 ys b) (hx:xs.length < 1000):c_kit_SameInts [a,b] m=some (.bool (decide (xs=ys)),m):=Fn_eq (same_run ha hb (by unfold FUEL;omega))
theorem same_lit{m:Mem X} {w1:Bool} {xs ys:List Int} {a:AV} {n:Nat} (ha:SI m w1 xs a) (hn:n=ys.length) (hx:xs.length < 1000):c_kit_SameInts [a,.sl m.length 0 n (some n)] (m++[Chunk.cells 1 false (iC ys)])=some (.bool (decide (xs=ys)),m++[Chunk.cells 1 false (iC ys)]) :=
 same_eq (ha.keep (Keep.app _ _)) (lits_si hn) hx
def cW:Cf:=⟨3,4,8,4,2,0⟩
set_option maxHeartbeats 8000000 in
theorem works_run{m:Mem X}:Fn GWk law15_works [] m (fun r m'=>r = .bool true∧Keep m m'):=by
 have a224:assoc (GWk (X:=X)) 224=some (amFunc GNw pool_New):=rfl
 have a237:assoc (GWk (X:=X)) 237=some (amFunc GGl pool_Pool_Ps):=rfl
 have a84:assoc (GWk (X:=X)) 84=some c_kit_SameInts:=rfl
 have a238:assoc (GWk (X:=X)) 238=some (amFunc GGl pool_Pool_Ms):=rfl
 have a231:assoc (GWk (X:=X)) 231=some (amFunc GBo pool_Pool_Both):=rfl
 have a230:assoc (GWk (X:=X)) 230=some (amFunc GTk pool_Pool_TakeM):=rfl
 have a227:assoc (GWk (X:=X)) 227=some (amFunc GPP pool_Pool_PutP):=rfl
 have a225:assoc (GWk (X:=X)) 225=some (amFunc GPP pool_Pool_Push):=rfl
 have a232:assoc (GWk (X:=X)) 232=some c_pool_Pool_Batch:=rfl
 have a226:assoc (GWk (X:=X)) 226=some (amFunc GPo pool_Pool_Pop):=rfl
 generalize (GWk (X:=X))=G at a224 a237 a84 a238 a231 a230 a227 a225 a232 a226 ⊢
 refine Fn_of rfl ?_
 simp(disch:=first|assumption|omega|(simp only[zl]<;>omega)|(simp only[zn])) only[law15_works,↓zd,zk,seval,reduceIte,List.map,AV.cells,List.all,AV.one,eqV,eqAll,splice,fillA,List.replicate,resAll,resA,zm,zg,a224]
 have hr:rightP cW:=by decide
 refine OK_fn (new_run (c:=cW) hr) ?_
 rintro _ m1 ⟨p,rfl,hk1,hn⟩
 have H1:WP m m1 p ⟨cW,[],[1,2],[1,2,3],0⟩:=hn.wp (Nat.le_refl _)
 simp(disch:=first|assumption|omega|(simp only[zl]<;>omega)|(simp only[zn])) only[↓zd,zk,seval,reduceIte,List.map,AV.cells,List.all,AV.one,eqV,eqAll,splice,fillA,List.replicate,resAll,resA,zm,zg,a237]
 refine OK_fn (wps_run H1 ⟨by decide,by decide,by decide⟩) ?_
 rintro v1 m2 ⟨hk2,ho1⟩
 have e1:c_kit_SameInts [v1,.sl m2.length 0 2 (some 2)] (m2++[Chunk.cells 1 false [.int .i64 1,.int .i64 2]])=some (.bool true,m2++[Chunk.cells 1 false [.int .i64 1,.int .i64 2]]):=same_lit (own_si ho1) (ys:=[1,2]) rfl (by decide)
 have r2:repeatL 2 [AV.int .i64 0]=[.int .i64 0,.int .i64 0]:=rfl
 have r3:repeatL 3 [AV.int .i64 0]=[.int .i64 0,.int .i64 0,.int .i64 0]:=rfl
 have r4:repeatL 4 [AV.int .i64 0]=[.int .i64 0,.int .i64 0,.int .i64 0,.int .i64 0]:=rfl
 have k3:=Keep.app m2 [Chunk.cells 1 false [AV.int .i64 1,.int .i64 2]]
 simp(disch:=first|assumption|omega|(simp only[zl]<;>omega)|(simp only[zn])) only[↓zd,zk,seval,reduceIte,List.map,AV.cells,List.all,AV.one,eqV,eqAll,splice,fillA,List.replicate,resAll,resA,zm,zg,evA,r2,a84,e1,a238]
 refine OK_fn (wms_run (H1.keep (hk2.trans k3)) ⟨by decide,by decide,by decide⟩) ?_
 rintro v2 m3 ⟨hk4,ho2⟩
 have e2:c_kit_SameInts [v2,.sl m3.length 0 3 (some 3)] (m3++[Chunk.cells 1 false [.int .i64 1,.int .i64 2,.int .i64 3]])=some (.bool true,m3++[Chunk.cells 1 false [.int .i64 1,.int .i64 2,.int .i64 3]]):=same_lit (own_si ho2) (ys:=[1,2,3]) rfl (by decide)
 have k5:=Keep.app m3 [Chunk.cells 1 false [AV.int .i64 1,.int .i64 2,.int .i64 3]]
 simp(disch:=first|assumption|omega|(simp only[zl]<;>omega)|(simp only[zn])) only[↓zd,zk,seval,reduceIte,List.map,AV.cells,List.all,AV.one,eqV,eqAll,splice,fillA,List.replicate,resAll,resA,zm,zg,evA,r3,a84,e2,a231]
 have K5:Keep m (m3++[Chunk.cells 1 false [AV.int .i64 1,.int .i64 2,.int .i64 3]]):=hk1.trans (hk2.trans (k3.trans (hk4.trans k5)))
 refine OK_fn (wboth_run (H1.keep (hk2.trans (k3.trans (hk4.trans k5)))) K5 ⟨by decide,by decide,by decide⟩ rfl rfl) ?_
 rintro _ m6 ⟨⟨H6,K6,_⟩,rfl⟩
 simp(disch:=first|assumption|omega|(simp only[zl]<;>omega)|(simp only[zn])) only[↓zd,zk,seval,reduceIte,List.map,AV.cells,List.all,AV.one,eqV,eqAll,splice,fillA,List.replicate,resAll,resA,zm,zg,a230]
 refine OK_fn (wtakem_run H6 K6 ⟨by decide,by decide,by decide⟩) ?_
 rintro _ m7 ⟨⟨H7,K7,_⟩,rfl⟩
 have f7:firstT [2,3] = .tup [.int .i64 2,.bool true]:=rfl
 simp(disch:=first|assumption|omega|(simp only[zl]<;>omega)|(simp only[zn])) only[↓zd,zk,seval,reduceIte,List.map,AV.cells,List.all,AV.one,eqV,eqAll,splice,fillA,List.replicate,resAll,resA,zm,zg,f7,a227]
 refine OK_fn (wputp_run (n:=0) H7 K7 ⟨by decide,by decide,by decide⟩) ?_
 rintro _ m8 ⟨⟨H8,K8,_⟩,rfl⟩
 have f8:addE [2] 3 [0]=0:=by decide
 have g8:addL [2] 3 [0]=[2,0]:=by decide
 simp only[cW,f8,g8] at H8 ⊢
 simp(disch:=first|assumption|omega|(simp only[zl]<;>omega)|(simp only[zn])) only[↓zd,zk,seval,reduceIte,List.map,AV.cells,List.all,AV.one,eqV,eqAll,splice,fillA,List.replicate,resAll,resA,zm,zg,f8,a237]
 refine OK_fn (wps_run H8 ⟨by decide,by decide,by decide⟩) ?_
 rintro v9 m9 ⟨hk9,ho9⟩
 have e9:c_kit_SameInts [v9,.sl m9.length 0 2 (some 2)] (m9++[Chunk.cells 1 false [.int .i64 2,.int .i64 0]])=some (.bool true,m9++[Chunk.cells 1 false [.int .i64 2,.int .i64 0]]):=same_lit (own_si ho9) (ys:=[2,0]) rfl (by decide)
 have k10:=Keep.app m9 [Chunk.cells 1 false [AV.int .i64 2,.int .i64 0]]
 simp(disch:=first|assumption|omega|(simp only[zl]<;>omega)|(simp only[zn])) only[↓zd,zk,seval,reduceIte,List.map,AV.cells,List.all,AV.one,eqV,eqAll,splice,fillA,List.replicate,resAll,resA,zm,zg,evA,r2,r4,a84,e9,a225]
 have k11:=Keep.app (m9++[Chunk.cells 1 false [AV.int .i64 2,.int .i64 0]]) [Chunk.cells 1 false [AV.int .i64 5,.int .i64 0,.int .i64 7,.int .i64 1]]
 have hl11:SI ((m9++[Chunk.cells 1 false [AV.int .i64 2,.int .i64 0]])++[Chunk.cells 1 false [AV.int .i64 5,.int .i64 0,.int .i64 7,.int .i64 1]]) true [5,0,7,1] (.sl (m9++[Chunk.cells 1 false [AV.int .i64 2,.int .i64 0]]).length 0 4 (some 4)):=lits_si (xs:=[5,0,7,1]) rfl
 have kk:=hk9.trans (k10.trans k11)
 have H11:=H8.keep kk
 have K11:=K8.trans kk
 simp only[List.append_assoc,List.cons_append,List.nil_append,List.length_append,List.length_cons,List.length_nil,Nat.zero_add] at hl11 H11 K11
 refine OK_fn (wpush_run H11 K11 ⟨by decide,by decide,by decide⟩ hl11 (by decide)) ?_
 rintro _ m12 ⟨⟨H12,K12,_⟩,rfl⟩
 have f12:addE [] 8 [5,0,7,1]=0:=by decide
 have g12:addL [] 8 [5,0,7,1]=[5,0,7,1]:=by decide
 simp only[f12,g12] at H12 ⊢
 have b12:c_pool_Pool_Batch [.ptr p 0] m12=some (.int .i64 2,m12):=wbatch_eq H12 (by decide)
 simp(disch:=first|assumption|omega|(simp only[zl]<;>omega)|(simp only[zn])) only[↓zd,zk,seval,reduceIte,List.map,AV.cells,List.all,AV.one,eqV,eqAll,splice,fillA,List.replicate,resAll,resA,zm,zg,a232,b12,a226]
 refine OK_fn (wpop_run H12 K12 ⟨by decide,by decide,by decide⟩ 3) ?_
 rintro v13 m13 ⟨⟨H13,K13,_⟩,ho13⟩
 have p13:popN [5,0,7,1] 3=3:=by decide
 simp only[p13] at H13 ho13
 have b13:c_pool_Pool_Batch [.ptr p 0] m13=some (.int .i64 1,m13):=wbatch_eq H13 (by decide)
 have e13:c_kit_SameInts [v13,.sl m13.length 0 3 (some 3)] (m13++[Chunk.cells 1 false [.int .i64 5,.int .i64 0,.int .i64 7]])=some (.bool true,m13++[Chunk.cells 1 false [.int .i64 5,.int .i64 0,.int .i64 7]]):=same_lit (own_si ho13) (ys:=[5,0,7]) rfl (by decide)
 simp(disch:=first|assumption|omega|(simp only[zl]<;>omega)|(simp only[zn])) only[↓zd,zk,seval,reduceIte,List.map,AV.cells,List.all,AV.one,eqV,eqAll,splice,fillA,List.replicate,resAll,resA,zm,zg,a232,b13,evA,r3,repeatL_one,a84,e13,a225]
 have k14:=Keep.app (m13++[Chunk.cells 1 false [AV.int .i64 5,.int .i64 0,.int .i64 7]]) [Chunk.cells 1 false [AV.int .i64 1]]
 have hl14:SI ((m13++[Chunk.cells 1 false [AV.int .i64 5,.int .i64 0,.int .i64 7]])++[Chunk.cells 1 false [AV.int .i64 1]]) true [1] (.sl (m13++[Chunk.cells 1 false [AV.int .i64 5,.int .i64 0,.int .i64 7]]).length 0 1 (some 1)):=lits_si (xs:=[1]) rfl
 have kk2:=(Keep.app m13 [Chunk.cells 1 false [AV.int .i64 5,.int .i64 0,.int .i64 7]]).trans k14
 have H14:=H13.keep kk2
 have K14:=K13.trans kk2
 simp only[List.append_assoc,List.cons_append,List.nil_append,List.length_append,List.length_cons,List.length_nil,Nat.zero_add] at hl14 H14 K14
 refine OK_fn (wpush_run H14 K14 ⟨by decide,by decide,by decide⟩ hl14 (by decide)) ?_
 rintro _ m15 ⟨⟨H15,K15,_⟩,rfl⟩
 have f15:addE ([5,0,7,1].drop 3) 8 [1]=140:=by decide
 rw[show addE _ _ [1]=140 from f15]
 simp(disch:=first|assumption|omega|(simp only[zl]<;>omega)|(simp only[zn])) only[↓zd,zk,seval,reduceIte,List.map,AV.cells,List.all,AV.one,eqV,eqAll,splice,fillA,List.replicate,resAll,resA,zm,zg,evA,repeatL_one,a225]
 have hl16:SI (m15++[Chunk.cells 1 false [AV.int .i64 8]]) true [8] (.sl m15.length 0 1 (some 1)):=lits_si (xs:=[8]) rfl
 have k16:=Keep.app m15 [Chunk.cells 1 false [AV.int .i64 8]]
 refine OK_fn (wpush_run (H15.keep k16) (K15.trans k16) ⟨by decide,by decide,by decide⟩ hl16 (by decide)) ?_
 rintro _ m17 ⟨⟨_,K17,_⟩,rfl⟩
 have f17:addE (addL ([5,0,7,1].drop 3) 8 [1]) 8 [8]=2:=by decide
 rw[show addE _ _ [8]=2 from f17]
 simp(disch:=first|assumption|omega|(simp only[zl]<;>omega)|(simp only[zn])) only[↓zd,zk,seval,reduceIte,List.map,AV.cells,List.all,AV.one,eqV,eqAll,splice,fillA,List.replicate,resAll,resA,zm,zg]
 exact K17
end Go.Am.F15
end
section
namespace Go.Am.F15
open Go.Am.F10 (iC iC_at iC_len iC_one iC_app SI SI.val same_run Cf cfC rightP right_run)
variable {X:Type}
theorem nil_takep(m:Mem X):Fn GTk pool_Pool_TakeP [.nilp] m (fun r m'=>r = .tup [.int .i64 0,.bool false]∧m'=m):=Fn_of rfl (by simp(disch:=first|assumption|omega|(simp only[zl]<;>omega)|(simp only[zn])) only[pool_Pool_TakeP,↓zd,zk,seval,reduceIte,List.map,AV.cells,List.all,AV.one,eqV,eqAll,splice,fillA,List.replicate,resAll,resA,zm,zg])
theorem nil_takem(m:Mem X):Fn GTk pool_Pool_TakeM [.nilp] m (fun r m'=>r = .tup [.int .i64 0,.bool false]∧m'=m):=Fn_of rfl (by simp(disch:=first|assumption|omega|(simp only[zl]<;>omega)|(simp only[zn])) only[pool_Pool_TakeM,↓zd,zk,seval,reduceIte,List.map,AV.cells,List.all,AV.one,eqV,eqAll,splice,fillA,List.replicate,resAll,resA,zm,zg])
theorem nil_both(m:Mem X):Fn GBo pool_Pool_Both [.nilp] m (fun r m'=>r = .tup [.int .i64 0,.int .i64 0,.bool false]∧m'=m):=Fn_of rfl (by simp(disch:=first|assumption|omega|(simp only[zl]<;>omega)|(simp only[zn])) only[pool_Pool_Both,↓zd,zk,seval,reduceIte,List.map,AV.cells,List.all,AV.one,eqV,eqAll,splice,fillA,List.replicate,resAll,resA,zm,zg])
theorem nil_push(m:Mem X) (lv:AV):Fn GPP pool_Pool_Push [.nilp,lv] m (fun r m'=>r = .int .i64 1∧m'=m):=Fn_of rfl (by simp(disch:=first|assumption|omega|(simp only[zl]<;>omega)|(simp only[zn])) only[pool_Pool_Push,↓zd,zk,seval,reduceIte,List.map,AV.cells,List.all,AV.one,eqV,eqAll,splice,fillA,List.replicate,resAll,resA,zm,zg])
theorem nil_pop(m:Mem X) (n:Int):Fn GPo pool_Pool_Pop [.nilp,.int .i64 n] m (fun r m'=>r = .nils∧m'=m):=Fn_of rfl (by simp(disch:=first|assumption|omega|(simp only[zl]<;>omega)|(simp only[zn])) only[pool_Pool_Pop,↓zd,zk,seval,reduceIte,List.map,AV.cells,List.all,AV.one,eqV,eqAll,splice,fillA,List.replicate,resAll,resA,zm,zg])
theorem nil_len(m:Mem X):c_pool_Pool_Len [.nilp] m=some (.int .i64 0,m):=Fn_eq (Fn_of rfl (by simp(disch:=first|assumption|omega|(simp only[zl]<;>omega)|(simp only[zn])) only[pool_Pool_Len,↓zd,zk,seval,reduceIte,List.map,AV.cells,List.all,AV.one,eqV,eqAll,splice,fillA,List.replicate,resAll,resA,zm,zg]))
theorem nil_batch(m:Mem X):c_pool_Pool_Batch [.nilp] m=some (.int .i64 0,m):=Fn_eq (Fn_of rfl (by simp(disch:=first|assumption|omega|(simp only[zl]<;>omega)|(simp only[zn])) only[pool_Pool_Batch,↓zd,zk,seval,reduceIte,List.map,AV.cells,List.all,AV.one,eqV,eqAll,splice,fillA,List.replicate,resAll,resA,zm,zg]))
theorem nil_putp(m:Mem X) (n:Int):Fn GPP pool_Pool_PutP [.nilp,.int .i64 n] m (fun r m'=>r = .int .i64 1∧m'=m):=Fn_of rfl (by simp(disch:=first|assumption|omega|(simp only[zl]<;>omega)|(simp only[zn])) only[pool_Pool_PutP,↓zd,zk,seval,reduceIte,List.map,AV.cells,List.all,AV.one,eqV,eqAll,splice,fillA,List.replicate,resAll,resA,zm,zg])
theorem nil_putm(m:Mem X) (n:Int):Fn GPP pool_Pool_PutM [.nilp,.int .i64 n] m (fun r m'=>r = .int .i64 1∧m'=m):=Fn_of rfl (by simp(disch:=first|assumption|omega|(simp only[zl]<;>omega)|(simp only[zn])) only[pool_Pool_PutM,↓zd,zk,seval,reduceIte,List.map,AV.cells,List.all,AV.one,eqV,eqAll,splice,fillA,List.replicate,resAll,resA,zm,zg])
theorem nil_global(m:Mem X):Fn GGl pool_Pool_Global [.nilp] m (fun r m'=>r = .nils∧m'=m):=Fn_of rfl (by simp(disch:=first|assumption|omega|(simp only[zl]<;>omega)|(simp only[zn])) only[pool_Pool_Global,↓zd,zk,seval,reduceIte,List.map,AV.cells,List.all,AV.one,eqV,eqAll,splice,fillA,List.replicate,resAll,resA,zm,zg])
theorem nil_ps(m:Mem X):Fn GGl pool_Pool_Ps [.nilp] m (fun r m'=>r = .nils∧m'=m):=Fn_of rfl (by simp(disch:=first|assumption|omega|(simp only[zl]<;>omega)|(simp only[zn])) only[pool_Pool_Ps,↓zd,zk,seval,reduceIte,List.map,AV.cells,List.all,AV.one,eqV,eqAll,splice,fillA,List.replicate,resAll,resA,zm,zg])
theorem nil_ms(m:Mem X):Fn GGl pool_Pool_Ms [.nilp] m (fun r m'=>r = .nils∧m'=m):=Fn_of rfl (by simp(disch:=first|assumption|omega|(simp only[zl]<;>omega)|(simp only[zn])) only[pool_Pool_Ms,↓zd,zk,seval,reduceIte,List.map,AV.cells,List.all,AV.one,eqV,eqAll,splice,fillA,List.replicate,resAll,resA,zm,zg])
theorem nil_spin(m:Mem X):c_pool_Pool_Spin [.nilp] m=some (.int .i64 0,m):=Fn_eq (Fn_of rfl (by simp(disch:=first|assumption|omega|(simp only[zl]<;>omega)|(simp only[zn])) only[pool_Pool_Spin,↓zd,zk,seval,reduceIte,List.map,AV.cells,List.all,AV.one,eqV,eqAll,splice,fillA,List.replicate,resAll,resA,zm,zg]))
theorem nil_addspin(m:Mem X) (n:Int):c_pool_Pool_AddSpin [.nilp,.int .i64 n] m=some (.int .i64 0,m):=Fn_eq (Fn_of rfl (by simp(disch:=first|assumption|omega|(simp only[zl]<;>omega)|(simp only[zn])) only[pool_Pool_AddSpin,↓zd,zk,seval,reduceIte,List.map,AV.cells,List.all,AV.one,eqV,eqAll,splice,fillA,List.replicate,resAll,resA,zm,zg]))
theorem nil_copy(m:Mem X):Fn GCo pool_Pool_Copy [.nilp] m (fun r m'=>r = .nilp∧m'=m):=Fn_of rfl (by simp(disch:=first|assumption|omega|(simp only[zl]<;>omega)|(simp only[zn])) only[pool_Pool_Copy,↓zd,zk,seval,reduceIte,List.map,AV.cells,List.all,AV.one,eqV,eqAll,splice,fillA,List.replicate,resAll,resA,zm,zg])
theorem nil_same(m:Mem X):Fn GPS pool_Same [.nilp,.nilp] m (fun r m'=>r = .bool true∧m'=m):=Fn_of rfl (by simp(disch:=first|assumption|omega|(simp only[zl]<;>omega)|(simp only[zn])) only[pool_Same,↓zd,zk,seval,reduceIte,List.map,AV.cells,List.all,AV.one,eqV,eqAll,splice,fillA,List.replicate,resAll,resA,zm,zg])
theorem nil_same2(m:Mem X) (p:Nat):Fn GPS pool_Same [.nilp,.ptr p 0] m (fun r m'=>r = .bool false∧m'=m):=Fn_of rfl (by simp(disch:=first|assumption|omega|(simp only[zl]<;>omega)|(simp only[zn])) only[pool_Same,↓zd,zk,seval,reduceIte,List.map,AV.cells,List.all,AV.one,eqV,eqAll,splice,fillA,List.replicate,resAll,resA,zm,zg])
def GNo:List (Nat × AFun X):=[(229,amFunc GTk pool_Pool_TakeP),(230,amFunc GTk pool_Pool_TakeM),(231,amFunc GBo pool_Pool_Both),(225,amFunc GPP pool_Pool_Push),(226,amFunc GPo pool_Pool_Pop),(233,c_pool_Pool_Len),(232,c_pool_Pool_Batch),(227,amFunc GPP pool_Pool_PutP),(228,amFunc GPP pool_Pool_PutM),(235,amFunc GGl pool_Pool_Global),(237,amFunc GGl pool_Pool_Ps),(238,amFunc GGl pool_Pool_Ms),(239,c_pool_Pool_Spin),(234,c_pool_Pool_AddSpin),(242,amFunc GCo pool_Pool_Copy),(246,amFunc GPS pool_Same),(224,amFunc GNw pool_New),(223,amFunc GWk law15_works)]
def cN:Cf:=⟨1,2,1,2,2,0⟩
set_option maxRecDepth 100000 in
set_option maxHeartbeats 8000000 in
theorem none_run{m:Mem X} (n:Int):Fn GNo law15_PoolNone [.int .i64 n] m (fun r m'=>r = .bool true∧Keep m m'):=by
 have a229:assoc (GNo (X:=X)) 229=some (amFunc GTk pool_Pool_TakeP):=rfl
 have a230:assoc (GNo (X:=X)) 230=some (amFunc GTk pool_Pool_TakeM):=rfl
 have a231:assoc (GNo (X:=X)) 231=some (amFunc GBo pool_Pool_Both):=rfl
 have a225:assoc (GNo (X:=X)) 225=some (amFunc GPP pool_Pool_Push):=rfl
 have a226:assoc (GNo (X:=X)) 226=some (amFunc GPo pool_Pool_Pop):=rfl
 have a233:assoc (GNo (X:=X)) 233=some c_pool_Pool_Len:=rfl
 have a232:assoc (GNo (X:=X)) 232=some c_pool_Pool_Batch:=rfl
 have a227:assoc (GNo (X:=X)) 227=some (amFunc GPP pool_Pool_PutP):=rfl
 have a228:assoc (GNo (X:=X)) 228=some (amFunc GPP pool_Pool_PutM):=rfl
 have a235:assoc (GNo (X:=X)) 235=some (amFunc GGl pool_Pool_Global):=rfl
 have a237:assoc (GNo (X:=X)) 237=some (amFunc GGl pool_Pool_Ps):=rfl
 have a238:assoc (GNo (X:=X)) 238=some (amFunc GGl pool_Pool_Ms):=rfl
 have a239:assoc (GNo (X:=X)) 239=some c_pool_Pool_Spin:=rfl
 have a234:assoc (GNo (X:=X)) 234=some c_pool_Pool_AddSpin:=rfl
 have a242:assoc (GNo (X:=X)) 242=some (amFunc GCo pool_Pool_Copy):=rfl
 have a246:assoc (GNo (X:=X)) 246=some (amFunc GPS pool_Same):=rfl
 have a224:assoc (GNo (X:=X)) 224=some (amFunc GNw pool_New):=rfl
 have a223:assoc (GNo (X:=X)) 223=some (amFunc GWk law15_works):=rfl
 generalize (GNo (X:=X))=G at a229 a230 a231 a225 a226 a233 a232 a227 a228 a235 a237 a238 a239 a234 a242 a246 a224 a223 ⊢
 have f229:=fun m:Mem X=>Fn_eq (nil_takep m)
 have f230:=fun m:Mem X=>Fn_eq (nil_takem m)
 have f231:=fun m:Mem X=>Fn_eq (nil_both m)
 have f225:=fun(m:Mem X) lv=>Fn_eq (nil_push m lv)
 have f226:=fun(m:Mem X)=>Fn_eq (nil_pop m n)
 have f227:=fun(m:Mem X)=>Fn_eq (nil_putp m n)
 have f228:=fun(m:Mem X)=>Fn_eq (nil_putm m n)
 have f235:=fun(m:Mem X)=>Fn_eq (nil_global m)
 have f237:=fun(m:Mem X)=>Fn_eq (nil_ps m)
 have f238:=fun(m:Mem X)=>Fn_eq (nil_ms m)
 have f242:=fun(m:Mem X)=>Fn_eq (nil_copy m)
 have f246:=fun(m:Mem X)=>Fn_eq (nil_same m)
 have k1:=Keep.app m [Chunk.cells 1 false [AV.int .i64 n]]
 refine Fn_of rfl ?_
 simp(disch:=first|assumption|omega|(simp only[zl]<;>omega)|(simp only[zn])) only[law15_PoolNone,↓zd,zk,seval,reduceIte,List.map,AV.cells,List.all,AV.one,eqV,eqAll,splice,fillA,List.replicate,resAll,resA,zm,zg,evA,repeatL_one,a229,f229,a230,f230,a231,f231,a225,f225,a226,f226,a233,nil_len,a232,nil_batch,a227,f227,a228,f228,a235,f235,a237,f237,a238,f238,a239,nil_spin,a234,nil_addspin,a242,f242,a246,f246,a224,ev_len,lenA]
 refine OK_fn (new_run (c:=cN) (by decide)) ?_
 rintro _ m2 ⟨p,rfl,hk2,_⟩
 have g246:=Fn_eq (nil_same2 m2 p)
 simp(disch:=first|assumption|omega|(simp only[zl]<;>omega)|(simp only[zn])) only[↓zd,zk,seval,reduceIte,List.map,AV.cells,List.all,AV.one,eqV,eqAll,splice,fillA,List.replicate,resAll,resA,zm,zg,a246,g246,a223]
 refine OK_fn works_run ?_
 rintro _ m3 ⟨rfl,hk3⟩
 simp(disch:=first|assumption|omega|(simp only[zl]<;>omega)|(simp only[zn])) only[↓zd,zk,seval,reduceIte,List.map,AV.cells,List.all,AV.one,eqV,eqAll,splice,fillA,List.replicate,resAll,resA,zm,zg]
 exact k1.trans (hk2.trans hk3)
end Go.Am.F15
end
section
namespace Go.Am
open Go.ChangeShapes Go.WideShapes Go.ChangeAt Go.RowKit
section
variable {X:Type}
def IsA(P:Program) (m:Mem X):Nat→TypeId→List AV→Prop
 | 0,_,_=>False
 | n+1,t,as =>
  match P.underlying t with
  | some .bool=>∃ b,as=[.bool b]
  | some (.int k)=>∃ z,as=[.int k z]∧(Lit.int k z).wf=true
  | some (.slice e)=>as=[.nils]∨∃ i len cap,as=[.sl i 0 len (some cap)]∧i < m.length∧len≤cap∧cap≤maxLen ∧
    (0 < len→∃ l,m[i]?=some (.cells (P.cellsOf e) true l)∧l.length=len * P.cellsOf e∧∀ k,k < len→IsA P m n e ((l.drop (k * P.cellsOf e)).take (P.cellsOf e)))
  | some (.struct fs)=>as.length=P.cellsOf t∧∀ (j:Nat) (f:Field),fs[j]?=some f→IsA P m n f.type ((as.drop f.offset).take (P.cellsOf f.type))
  | _=>False
theorem IsA.mono{P:Program} {m:Mem X} (m2:Mem X):∀ {n:Nat} {t:TypeId} {as:List AV},IsA P m n t as→IsA P (m++m2) n t as
 | 0,_,_,h=>h
 | n+1,t,as,h=>by
  unfold IsA at h ⊢
  split at h
  ·exact h
  ·exact h
  ·rcases h with h|⟨i,len,cap,h1,hi,h2,h3,h4⟩
   ·exact .inl h
   ·refine .inr ⟨i,len,cap,h1,by simp;omega,h2,h3,fun hl=>?_⟩
    obtain⟨l,h5,h6,h7⟩:=h4 hl
    exact⟨l,by rw[List.getElem?_append_left hi];exact h5,h6,fun k hk=>(h7 k hk).mono m2⟩
  ·exact⟨h.1,fun j f hf=>(h.2 j f hf).mono m2⟩
  ·exact h
def fieldsOk(P:Program):Nat→List Field→Option Nat
 | o,[]=>some o
 | o,f :: fs=>if f.offset=o then fieldsOk P (o+P.cellsOf f.type) fs else none
def tyOk(P:Program):Nat→TypeId→Bool
 | 0,_=>false
 | n+1,t =>
  match P.underlying t with
  | some .bool=>true
  | some (.int _)=>true
  | some (.slice e)=>decide (0 < P.cellsOf e) && tyOk P n e
  | some (.struct fs)=>decide (fieldsOk P 0 fs.toList=some (P.cellsOf t)) && fs.toList.all (fun f=>tyOk P n f.type)
  | _=>false
variable {A:AbsSem X} {num:Nat→Nat} {P:Program} {H:Type} {enc:TypeId × Value→H}
abbrev nof:Nat→Prop:=fun _=>False
theorem sim_row{μ:Mu} {m:Mem X} {Hp:Array Obj} (h:Sim A num nof μ m Hp) (p:Pl) (ch:Chunk X) (hc:∀ own,ChunkOk A num μ nof own p Hp ch):Sim A num nof (fun i=>if i=m.length then some p else μ i) (m++[ch]) Hp∧∀ i q,μ i=some q→(fun i=>if i=m.length then some p else μ i) i=some q:=by
 obtain⟨own,hs⟩:=h
 have hm:∀ i q,μ i=some q→(fun i=>if i=m.length then some p else μ i) i=some q:=by
  intro i q hq
  have:i < m.length:=by
   rcases Nat.lt_or_ge i m.length with h|h
   ·exact h
   ·rw[hs.new i h] at hq;cases hq
  simp only[show ¬ i=m.length by omega,if_false];exact hq
 refine⟨⟨own,hs.isF,hs.lt,fun i hi=>?_,fun i c q hi hq=>?_⟩,hm⟩
 ·simp only[List.length_append,List.length_cons,List.length_nil] at hi
  simp only[show ¬ i=m.length by omega,if_false]
  exact hs.new i (by omega)
 ·by_cases him:i=m.length
  ·subst him
   simp only[if_true,Option.some.injEq] at hq
   subst hq
   rw[List.getElem?_append_right (Nat.le_refl _)] at hi
   simp only[Nat.sub_self,List.getElem?_cons_zero,Option.some.injEq] at hi
   subst hi
   exact(hc _).keep hm (fun _=>Iff.rfl) (fun _ _=>rfl) (fun _ _ _=>⟨rfl,fun h=>h⟩)
  ·simp only[him,if_false] at hq
   have hlt:i < m.length:=by
    rcases Nat.lt_or_ge i m.length with h|h
    ·exact h
    ·rw[hs.new i h] at hq;cases hq
   rw[List.getElem?_append_left hlt] at hi
   exact(hs.ok i c q hi hq).keep hm (fun _=>Iff.rfl) (fun _ _=>rfl) (fun _ _ _=>⟨rfl,fun h=>h⟩)
theorem cells?_inv {w:World} {b:Nat} {a:Addr} {n:Nat} {cs:List Value} (h:w.cells? b a n=some cs):cs.length=n∧∀ i,i < n→w.cell? (a.add i)=cs[i]?:=by
 unfold World.cells? at h
 split at h
 ·exact⟨by simpa using mapM_some_length h,fun i hi=>by
   have:=mapM_some_get h i i (by simp[hi])
   exact this⟩
 ·cases h
theorem cell?_inv {w:World} {a:Addr} {v:Value} (h:w.cell? a=some v):a.spot=none∧∃ arr T fr,w.heap[a.block]?=some (.cells arr T fr)∧arr[a.off]?=some v:=by
 unfold World.cell? at h
 split at h
 ·rename_i c T fr hc
  split at h
  ·cases h
  ·rename_i hs
   exact⟨by simpa using hs,c,T,fr,hc,h⟩
 ·cases h
theorem add_block(a:Addr) (n:Nat):(a.add n).block=a.block:=by unfold Addr.add;split<;>rfl
theorem add_off(a:Addr) (n:Nat):(a.add n).off=a.off+n:=by unfold Addr.add;split<;>simp_all
theorem read_rows{w:World} {a:Addr} {e:TypeId} {n n' len:Nat} {spare:Nat→Bool} {held:Bool}
  (ih:∀ {cs:List Value} {x:DataW H × List MemPlace},DataW.trod enc P w 0 spare held n e cs=some x→∀ (μ:Mu) (m:Mem X),Sim A num nof μ m w.heap →
   ∃ (μ':Mu) (m2:Mem X) (as:List AV),Sim A num nof μ' (m++m2) w.heap∧(∀ i q,μ i=some q→μ' i=some q)∧VRL num μ' as cs∧IsA P (m++m2) n' e as)
  {arr:Array Value} {T:TypeId} {fr:Nat × Nat} (harr:w.heap[a.block]?=some (.cells arr T fr)) (hsz:0 < P.cellsOf e)
  (hel:∀ i,i < len→∃ cs y,w.cells? 0 (a.add (i * P.cellsOf e)) (P.cellsOf e)=some cs∧DataW.trod enc P w 0 spare held n e cs=some y) (μ:Mu) (m:Mem X) (hS:Sim A num nof μ m w.heap) :
  ∀ j,j≤len→∃ (μ':Mu) (m2:Mem X) (l:List AV),Sim A num nof μ' (m++m2) w.heap∧(∀ i q,μ i=some q→μ' i=some q)∧l.length=j * P.cellsOf e∧(0 < j→a.off+j * P.cellsOf e≤arr.size) ∧
   (∀ (o:Nat) (b:AV),l[o]?=some b→∃ v,arr[a.off+o]?=some v∧VR num μ' b v)∧∀ k,k < j→IsA P (m++m2) n' e ((l.drop (k * P.cellsOf e)).take (P.cellsOf e)):=by
 intro j
 induction j with
 | zero=>intro _;exact⟨μ,[],[],by simpa using hS,fun _ _ h=>h,by simp,fun h=>absurd h (Nat.lt_irrefl _),fun o b h=>by simp at h,fun k h=>absurd h (Nat.not_lt_zero _)⟩
 | succ j ihj =>
  intro hj
  obtain⟨μ1,m1,l,h1,h2,h3,h4,h5,h6⟩:=ihj (by omega)
  obtain⟨cs,y,hc,hy⟩:=hel j (by omega)
  obtain⟨hcl,hcg⟩:=cells?_inv hc
  obtain⟨μ2,m2,as,g1,g2,g3,g4⟩:=ih hy μ1 (m++m1) h1
  have hal:as.length=P.cellsOf e:=g3.1.trans hcl
  have hget:∀ q,q < P.cellsOf e→∃ v,cs[q]?=some v∧arr[a.off+(j * P.cellsOf e+q)]?=some v:=by
   intro q hq
   have hv:=List.getElem?_eq_getElem (show q < cs.length by omega)
   have:=(hcg q hq).trans hv
   obtain⟨_,arr',T',fr',k1,k2⟩:=cell?_inv this
   rw[add_block,add_block,harr] at k1
   simp only[Option.some.injEq,Obj.cells.injEq] at k1
   rw[add_off,add_off,← k1.1] at k2
   exact⟨_,hv,by rw[← k2];congr 1;omega⟩
  refine⟨μ2,m1++m2,l++as,by rw[← List.append_assoc];exact g1,fun i q h=>g2 i q (h2 i q h),by rw[List.length_append,h3,hal,Nat.succ_mul],fun _=>?_,?_,?_⟩
  ·obtain⟨v,_,hv⟩:=hget (P.cellsOf e - 1) (by omega)
   have:=(Array.getElem?_eq_some_iff.1 hv).1
   rw[Nat.succ_mul]
   omega
  ·intro o b hb
   by_cases ho:o < l.length
   ·rw[List.getElem?_append_left ho] at hb
    obtain⟨v,e1,e2⟩:=h5 o b hb
    exact⟨v,e1,e2.mono g2⟩
   ·rw[List.getElem?_append_right (by omega)] at hb
    have hq:o - l.length < P.cellsOf e:=by have:=(List.getElem?_eq_some_iff.1 hb).1;omega
    obtain⟨v,e1,e2⟩:=hget _ hq
    refine⟨v,?_,g3.2 _ _ _ hb e1⟩
    rw[← e2];congr 1;omega
  ·intro k hk
   by_cases hkj:k < j
   ·have:((l++as).drop (k * P.cellsOf e)).take (P.cellsOf e)=(l.drop (k * P.cellsOf e)).take (P.cellsOf e):=by
     have hle:k * P.cellsOf e+P.cellsOf e≤l.length:=by rw[h3,← Nat.succ_mul];exact Nat.mul_le_mul_right _ hkj
     rw[List.drop_append_of_le_length (by omega),List.take_append_of_le_length (by simp;omega)]
    rw[this,← List.append_assoc]
    exact(h6 k hkj).mono m2
   ·have hkj:k=j:=by omega
    subst hkj
    rw[← h3,List.drop_left,← hal,List.take_length,← List.append_assoc]
    exact g4
theorem read_fields{w:World} {n n':Nat} {spare:Nat→Bool} {held:Bool}
  (ih:∀ {t:TypeId} {cs:List Value} {x:DataW H × List MemPlace},tyOk P n' t=true→DataW.trod enc P w 0 spare held n t cs=some x→∀ (μ:Mu) (m:Mem X),Sim A num nof μ m w.heap →
   ∃ (μ':Mu) (m2:Mem X) (as:List AV),Sim A num nof μ' (m++m2) w.heap∧(∀ i q,μ i=some q→μ' i=some q)∧VRL num μ' as cs∧IsA P (m++m2) n' t as) (cs:List Value) :
  ∀ (fs:List Field) (o o':Nat),fieldsOk P o fs=some o'→o'=cs.length→fs.all (fun f=>tyOk P n' f.type)=true →
   (∀ f,f ∈ fs→∃ x,DataW.trod enc P w 0 spare held n f.type ((cs.drop f.offset).take (P.cellsOf f.type))=some x)→∀ (μ:Mu) (m:Mem X),Sim A num nof μ m w.heap →
   ∃ (μ':Mu) (m2:Mem X) (as:List AV),Sim A num nof μ' (m++m2) w.heap∧(∀ i q,μ i=some q→μ' i=some q)∧VRL num μ' as (cs.drop o)∧o≤cs.length∧∀ f,f ∈ fs→o≤f.offset∧IsA P (m++m2) n' f.type ((as.drop (f.offset - o)).take (P.cellsOf f.type))
 | [],o,o',ho,ho',_,_,μ,m,hS=>by
  simp only[fieldsOk,Option.some.injEq] at ho
  subst ho
  exact⟨μ,[],[],by simpa using hS,fun _ _ h=>h,by rw[ho',List.drop_length];exact VRL.nil,by omega,fun f hf=>by simp at hf⟩
 | f :: fs,o,o',ho,ho',hall,hx,μ,m,hS=>by
  simp only[fieldsOk] at ho
  split at ho
  ·rename_i hfo
   simp only[List.all_cons,Bool.and_eq_true] at hall
   obtain⟨x,hx1⟩:=hx f (by simp)
   obtain⟨μ1,m1,as1,h1,h2,h3,h4⟩:=ih hall.1 hx1 μ m hS
   obtain⟨μ2,m2,as2,g1,g2,g3,g4,g5⟩:=read_fields ih cs fs _ o' ho ho' hall.2 (fun f hf=>hx f (by simp[hf])) μ1 (m++m1) h1
   have hl1:as1.length=P.cellsOf f.type:=by
    rw[h3.1,List.length_take,List.length_drop,hfo];omega
   refine⟨μ2,m1++m2,as1++as2,by rw[← List.append_assoc];exact g1,fun i q h=>g2 i q (h2 i q h),?_,by omega,fun f' hf'=>?_⟩
   ·have:cs.drop o=(cs.drop o).take (P.cellsOf f.type)++cs.drop (o+P.cellsOf f.type):=by
     rw[← List.drop_drop];exact(List.take_append_drop _ _).symm
    rw[this]
    rw[hfo] at h3
    exact(h3.mono g2).append g3
   ·simp only[List.mem_cons] at hf'
    rcases hf' with rfl|hf'
    ·refine⟨by omega,?_⟩
     rw[hfo,Nat.sub_self,List.drop_zero,List.take_left' hl1,← List.append_assoc]
     exact h4.mono m2
    ·obtain⟨k1,k2⟩:=g5 f' hf'
     refine⟨by omega,?_⟩
     have:(as1++as2).drop (f'.offset - o)=as2.drop (f'.offset - (o+P.cellsOf f.type)):=by
      rw[List.drop_append,List.drop_of_length_le (by omega),List.nil_append];congr 1;omega
     rw[this,← List.append_assoc]
     exact k2
  ·cases ho
theorem read{w:World} {spare:Nat→Bool} {held:Bool} (hsp:∀ b,spare b=true):∀ (n':Nat) {n:Nat} {t:TypeId} {cs:List Value} {x:DataW H × List MemPlace},tyOk P n' t=true→DataW.trod enc P w 0 spare held n t cs=some x→∀ (μ:Mu) (m:Mem X),Sim A num nof μ m w.heap →
   ∃ (μ':Mu) (m2:Mem X) (as:List AV),Sim A num nof μ' (m++m2) w.heap∧(∀ i q,μ i=some q→μ' i=some q)∧VRL num μ' as cs∧IsA P (m++m2) n' t as
 | 0,_,_,_,_,h,_,_,_,_=>by simp[tyOk] at h
 | n'+1,n,t,cs,x,h,ht,μ,m,hS=>by
  unfold tyOk at h
  split at h
  ·rename_i hu
   obtain⟨b,rfl,_⟩:=DataW.trod_bool hu ht
   exact⟨μ,[],[.bool b],by simpa using hS,fun _ _ h=>h,VRL.cons (.bool b) VRL.nil,by unfold IsA;rw[hu];exact⟨b,rfl⟩⟩
  ·rename_i k hu
   obtain⟨z,rfl,_,hw⟩:=DataW.trod_int hu ht
   exact⟨μ,[],[.int k z],by simpa using hS,fun _ _ h=>h,VRL.cons (.int k z) VRL.nil,by unfold IsA;rw[hu];exact⟨z,rfl,hw⟩⟩
  ·rename_i e hu
   simp only[Bool.and_eq_true,decide_eq_true_eq] at h
   rcases DataW.trod_slice hu ht with⟨rfl,_⟩|⟨a,len,cap,elems,rest,n2,rfl,rfl,_,_,hlc,hcm,hel,he,hr,_⟩
   ·exact⟨μ,[],[.nils],by simpa using hS,fun _ _ h=>h,VRL.cons .nils VRL.nil,by unfold IsA;rw[hu];exact .inl rfl⟩
   ·obtain⟨hrl,hre⟩:=hr (hsp _)
    have hel':∀ i,i < len→∃ cs y,w.cells? 0 (a.add (i * P.cellsOf e)) (P.cellsOf e)=some cs∧DataW.trod enc P w 0 spare held n2 e cs=some y:=by
     intro i hi
     have:=he i hi
     rw[List.getElem?_eq_getElem (show i < elems.length by omega)] at this
     simp only[Option.bind_eq_some_iff] at this
     obtain⟨cs,h1,h2⟩:=this
     exact⟨cs,_,h1,h2⟩
    have hspot:0 < cap→a.spot=none:=by
     intro hc
     by_cases hl:0 < len
     ·obtain⟨cs,y,h1,_⟩:=hel' 0 hl
      obtain⟨hcl,hg⟩:=cells?_inv h1
      have:=(hg 0 h.1).trans (List.getElem?_eq_getElem (show 0 < cs.length by omega))
      have:=(cell?_inv this).1
      simpa [Addr.add] using this
     ·have:=hre 0 (by omega)
      rw[List.getElem?_eq_getElem (show 0 < rest.length by omega)] at this
      simp only[Option.bind_eq_some_iff] at this
      obtain⟨cs,h1,_⟩:=this
      obtain⟨hcl,hg⟩:=cells?_inv h1
      have:=(hg 0 h.1).trans (List.getElem?_eq_getElem (show 0 < cs.length by omega))
      have:=(cell?_inv this).1
      have hl0:len=0:=by omega
      subst hl0
      simpa [Addr.add] using this
    by_cases hl:0 < len
    ·obtain⟨cs0,y0,h1,_⟩:=hel' 0 hl
     obtain⟨hcl,hg⟩:=cells?_inv h1
     have h0:=(hg 0 h.1).trans (List.getElem?_eq_getElem (show 0 < cs0.length by omega))
     obtain⟨_,arr,T,fr,harr,_⟩:=cell?_inv h0
     rw[add_block,add_block] at harr
     obtain⟨μ1,m1,l,g1,g2,g3,g4,g5,g6⟩:=read_rows (A:=A) (num:=num) (n':=n') (fun hy μ m hS=>read hsp n' h.2 hy μ m hS) harr h.1 hel' μ m hS len (Nat.le_refl _)
     obtain⟨k1,k2⟩:=sim_row g1 ⟨a.block,a.off,len * P.cellsOf e,P.cellsOf e⟩ (.cells (P.cellsOf e) true l) (fun own=>⟨arr,T,fr,rfl,harr,⟨by rw[g3];exact Nat.le_refl _,g4 hl,g5⟩,fun _ h=>h,fun h=>by cases h⟩)
     refine⟨_,m1++[.cells (P.cellsOf e) true l],[.sl (m++m1).length 0 len (some cap)],by rw[← List.append_assoc];exact k1,fun i q hq=>k2 i q (g2 i q hq),VRL.cons ?_ VRL.nil,?_⟩
     ·have:=VR.sl (num:=num) (μ:=fun i=>if i=(m++m1).length then some ⟨a.block,a.off,len * P.cellsOf e,P.cellsOf e⟩ else μ1 i) (i:=(m++m1).length) (o:=0) (len:=len) (cap:=cap) (p:=⟨a.block,a.off,len * P.cellsOf e,P.cellsOf e⟩) (by simp)
      have ha:a=⟨a.block,a.off,none⟩:=by obtain⟨b,o,s⟩:=a;simp only[Addr.mk.injEq,true_and];exact hspot (by omega)
      rw[ha];exact this
     ·unfold IsA;rw[hu]
      refine .inr ⟨_,len,cap,rfl,by simp,hlc,hcm,fun _=>⟨l,?_,g3,fun k hk=>?_⟩⟩
      ·rw[← List.append_assoc,List.getElem?_append_right (Nat.le_refl _)];simp
      ·rw[← List.append_assoc];exact(g6 k hk).mono _
    ·have hl0:len=0:=by omega
     subst hl0
     obtain⟨k1,k2⟩:=sim_row hS ⟨a.block,a.off,0,P.cellsOf e⟩ (.dead:Chunk X) (fun own=>trivial)
     refine⟨_,[.dead],[.sl m.length 0 0 (some cap)],k1,k2,VRL.cons ?_ VRL.nil,?_⟩
     ·by_cases hc:0 < cap
      ·have:=VR.sl (num:=num) (μ:=fun i=>if i=m.length then some ⟨a.block,a.off,0,P.cellsOf e⟩ else μ i) (i:=m.length) (o:=0) (len:=0) (cap:=cap) (p:=⟨a.block,a.off,0,P.cellsOf e⟩) (by simp)
       have ha:a=⟨a.block,a.off,none⟩:=by obtain⟨b,o,s⟩:=a;simp only[Addr.mk.injEq,true_and];exact hspot hc
       rw[ha];exact this
      ·have hc0:cap=0:=by omega
       subst hc0
       exact VR.slz0 (p:=⟨a.block,a.off,0,P.cellsOf e⟩) (by simp)
     ·unfold IsA;rw[hu]
      exact .inr ⟨_,0,cap,rfl,by simp,hlc,hcm,fun h=>absurd h (Nat.lt_irrefl _)⟩
  ·rename_i fs hu
   simp only[Bool.and_eq_true,decide_eq_true_eq] at h
   obtain⟨xs,n2,rfl,rfl,hcl,hxl,hx⟩:=DataW.trod_struct hu ht
   obtain⟨μ1,m1,as,g1,g2,g3,_,g5⟩:=read_fields (A:=A) (num:=num) (n':=n') (fun hk hy μ m hS=>read hsp n' hk hy μ m hS) cs fs.toList 0 (P.cellsOf t) h.1 hcl.symm h.2 (fun f hf=>by
    obtain⟨i,hi⟩:=List.mem_iff_getElem?.1 hf
    have:=hx i f (by simpa using hi)
    have hil:i < xs.length:=by
     have:=(List.getElem?_eq_some_iff.1 hi).1
     simp at this;omega
    exact⟨xs[i],this.trans (List.getElem?_eq_getElem hil)⟩) μ m hS
   refine⟨μ1,m1,as,g1,g2,by simpa using g3,?_⟩
   unfold IsA;rw[hu]
   refine⟨by rw[g3.1,List.drop_zero,hcl],fun j f hf=>?_⟩
   have:=(g5 f (by
    have hj:=List.getElem?_eq_some_iff.1 (show fs.toList[j]?=some f by simpa using hf)
    rw[← hj.2];exact List.getElem_mem _)).2
   simpa using this
  ·cases h
def IsV(P:Program) (m:Mem X) (n:Nat) (t:TypeId) (a:AV):Prop :=
 match P.underlying t with
 | some (.struct _)=>∃ cs,a = .agg cs∧IsA P m n t cs
 | _=>IsA P m n t [a]
theorem IsV.mono{m:Mem X} (m2:Mem X) {n:Nat} {t:TypeId} {a:AV} (h:IsV P m n t a):IsV P (m++m2) n t a:=by
 unfold IsV at h ⊢
 split at h
 ·obtain⟨cs,h1,h2⟩:=h;exact⟨cs,h1,h2.mono m2⟩
 ·exact IsA.mono m2 h
def IsVs(P:Program) (m:Mem X) (n:Nat):List TypeId→List AV→Prop
 | [],as=>as=[]
 | t :: ts,as=>∃ a as',as=a :: as'∧IsV P m n t a∧IsVs P m n ts as'
theorem IsVs.mono{m:Mem X} (m2:Mem X) {n:Nat}:∀ {ts:List TypeId} {as:List AV},IsVs P m n ts as→IsVs P (m++m2) n ts as
 | [],_,h=>h
 | _ :: _,_,⟨a,as',h1,h2,h3⟩=>⟨a,as',h1,h2.mono m2,h3.mono m2⟩
theorem read_all{w:World} {spare:Nat→Bool} {held:Bool} {base:Nat} {r:Reach} (hsp:∀ b,spare b=true) (n:Nat):∀ {ts:List TypeId} {vs:List Value} {ds:List (DataW H)} {p:List MemPlace},ts.all (tyOk P n)=true →
  DataW.TrodAll enc P w 0 spare held ts vs ds p→(∀ (j:Nat) t v,ts[j]?=some t→vs[j]?=some v→Value.okWide P w r base t v)→∀ (μ:Mu) (m:Mem X),Sim A num nof μ m w.heap →
  ∃ (μ':Mu) (m2:Mem X) (as:List AV),Sim A num nof μ' (m++m2) w.heap∧(∀ i q,μ i=some q→μ' i=some q)∧VRL num μ' as vs∧IsVs P (m++m2) n ts as∧ds.length=ts.length
 | [],vs,ds,p,_,h,_,μ,m,hS=>by
  obtain⟨rfl,rfl,rfl⟩:=trodAll_nil h
  exact⟨μ,[],[],by simpa using hS,fun _ _ h=>h,VRL.nil,rfl,rfl⟩
 | t :: ts,vs,ds,p,hok,h,hval,μ,m,hS=>by
  obtain⟨v,vs',d,ds',p1,q1,rfl,rfl,rfl,⟨fuel,h1⟩,h2⟩:=trodAll_cons h
  simp only[List.all_cons,Bool.and_eq_true] at hok
  obtain⟨μ1,m1,as1,g1,g2,g3,g4⟩:=read (A:=A) (num:=num) hsp n hok.1 h1 μ m hS
  obtain⟨μ2,m2,as2,k1,k2,k3,k4,k5⟩:=read_all hsp n hok.2 h2 (fun j t v ht hv=>hval (j+1) t v (by simpa using ht) (by simpa using hv)) μ1 (m++m1) g1
  have hv:=hval 0 t v rfl rfl
  have:∃ a,VR num μ1 a v∧IsV P (m++m1) n t a:=by
   cases n with
   | zero=>simp[tyOk] at hok
   | succ n =>
    unfold IsV
    split
    ·rename_i fs hu
     obtain⟨cs,rfl,_⟩:=okWide_struct hu hv
     exact⟨.agg as1,by simpa [Value.cells] using VR.agg_of g3,as1,rfl,g4⟩
    ·rename_i hu
     have hone:∃ a,as1=[a]:=by
      unfold IsA at g4
      split at g4
      ·obtain⟨b,rfl⟩:=g4;exact⟨_,rfl⟩
      ·obtain⟨z,rfl,_⟩:=g4;exact⟨_,rfl⟩
      ·rcases g4 with rfl|⟨i,len,cap,rfl,_⟩<;>exact⟨_,rfl⟩
      ·rename_i fs hu';exact absurd hu' (hu fs)
      ·exact g4.elim
     obtain⟨a,rfl⟩:=hone
     refine⟨a,?_,g4⟩
     have hl:=g3.1
     cases v with
     | agg cs =>
      exfalso
      have ho:Cell.okWide P w r base t (.agg cs):=by
       have:=hv
       unfold Value.okWide at this
       split at this
       ·rename_i fs hu';exact absurd hu' (hu fs)
       ·rename_i hu'
        unfold tyOk at hok
        rw[hu'] at hok
        simp at hok
       ·exact this
      unfold IsA at g4
      split at g4
      ·rename_i hu';simp[Cell.okWide,hu',Cell.ok] at ho
      ·rename_i k hu';simp[Cell.okWide,hu',Cell.ok] at ho
      ·rename_i e hu';simp[Cell.okWide,hu',Cell.ok] at ho
      ·rename_i fs hu';exact hu fs hu'
      ·exact g4
     | _=>exact g3.2 0 _ _ rfl rfl
  obtain⟨a,ha,hai⟩:=this
  refine⟨μ2,m1++m2,a :: as2,by rw[← List.append_assoc];exact k1,fun i q h=>k2 i q (g2 i q h),VRL.cons (ha.mono k2) k3,⟨a,as2,rfl,?_,?_⟩,by simp[k5]⟩
  ·rw[← List.append_assoc];exact hai.mono m2
  ·rw[← List.append_assoc];exact k4
theorem law_body{k:FuncId} {f:Func} {s:ChangeSpec} {F:AFun X} {tb:TypeId} (n:Nat) (hF:Sound A num P k F) (hvars:s.vars=[]) (hfn:∀ ds:List (DataW H),ds.length=f.params.toList.length→s.fn H ds={ results:=[.lit (.bool true)],args:=ds })
  (hres:f.resultTypes=#[tb]) (htb:P.underlying tb=some .bool) (hl:laidOutB P=true) (hr:f.params.toList.all (fun t=>P.readableRec t && decide (t < P.types.size) && tyOk P n t)=true)
  (hrun:∀ (m:Mem X) as,IsVs P m n f.params.toList as→∃ m',F as m=some (.bool true,m'))
  (W:World) (base:Nat) (args:Array Value) (ds gs:List (DataW H)) (before:List MemPlace) (hval:∀ (j:Nat) t v,f.params[j]?=some t→args[j]?=some v→Value.okWide P W .any base t v)
  (hW:DataW.Whole enc P f.params.toList s.vars false W args.toList ds gs before):Calls P k args W fun e W'=>∃ v,e = .returned v∧s.post enc P f false true false false W args v W':=by
 have hW':=hW
 obtain⟨p,q,hA,hV,rfl,hfz,hnd⟩:=hW
 rw[hvars] at hV
 obtain⟨rfl,rfl⟩:=trodVars_none hV
 simp only[List.all_eq_true,Bool.and_eq_true,decide_eq_true_eq] at hr
 obtain⟨μ,m,as,h1,_,h3,h4,h5⟩:=read_all (A:=A) (num:=num) (fun _=>rfl) n (by simp only[List.all_eq_true];exact fun t ht=>(hr t ht).2) hA (fun j t v ht hv=>hval j t v (by simpa using ht) (by simpa using hv)) (fun _=>none) [] (sim_nil W.heap)
 obtain⟨m',hm'⟩:=hrun _ _ h4
 have:=law_calls hF h1 h3 hm'
 simp only[Array.toArray_toList] at this
 refine this.mono fun e W' ⟨he,hb⟩=>?_
 subst he
 exact⟨_,rfl,law_post (tb:=tb) hW' hvars (by rw[List.append_nil];exact hfn ds h5) hres htb hl (fun t ht=>(hr t ht).1) hb⟩
section
variable {P:Program} {m:Mem X} {n:Nat}
end
theorem known_am{G G':List (Nat × AFun X)} {g:Nat} {F:AFn} (hc:callOk P (num g)=true) (hK:Known A num P G') (hs:Sound A num P (num g) (amFunc G' F)) (hG:Known A num P G):Known A num P ((g,amFunc G' F) :: G) :=
 known_cons hc hs (amFunc_mono (fun g f h=>(hK g f h).2.2) F) hG
end
end Go.Am
end
section
namespace Go.Am.F15
open Go.Am.F10 (iC iC_at iC_len iC_one iC_app SI SI.val same_run Cf cfC rightP right_run Nx si_take si_drop si_row cutA dropA madeC made_eq pick_eq)
variable {X:Type}
structure Act where
 k:Int
 n:Int
 l:List Int
 v:AV
def aC(a:Act):List AV:=[.int .i64 a.k,.int .i64 a.n,a.v]
theorem aC_len(a:Act):(aC a).length=3:=rfl
def AS(m:Mem X) (l:List Act) (v:AV):Prop:=Sl m false 3 l.length (l.flatMap aC) v∧∀ a ∈ l,SI m false a.l a.v
theorem AS.keep{m m':Mem X} {l:List Act} {v:AV} (h:AS m l v) (k:Keep m m'):AS m' l v:=⟨h.1.keep k,fun a ha=>(h.2 a ha).keep k⟩
theorem AS.get{m:Mem X} {l:List Act} {v:AV} (h:AS m l v) {i:Nat} {a:Act} (ha:l[i]?=some a):∃ q o cap ro L,v = .sl q o l.length cap∧m[q]?=some (.cells 3 ro L)∧o+l.length * 3≤L.length∧L[o+i * 3]?=some (.int .i64 a.k)∧L[o+i * 3+1]?=some (.int .i64 a.n)∧L[o+i * 3+2]?=some a.v:=by
 have hi:i < l.length:=(List.getElem?_eq_some_iff.1 ha).1
 obtain⟨q,o,cap,ro,L,h1,h2,h3,h4,_⟩:=h.1.at (by omega)
 have key:∀ j,j < 3→L[o+i * 3+j]?=(aC a)[j]?:=fun j hj=>by
  rw[Nat.add_assoc,sl_get h3 (by omega),rows_at aC_len ha hj]
 exact⟨q,o,cap,ro,L,h1,h2,h4,key 0 (by omega),key 1 (by omega),key 2 (by omega)⟩
def fewB(l:List Act) (most:Nat):Bool:=((l.take (most+1)).all fun a=>decide (a.l.length≤20)) && decide (l.length≤most)
def FwInv(l:List Act) (most:Nat) (lv:AV) (m0:Mem X) (k:Nat) (e:List AV) (m:Mem X):Prop:=∃ (n:Nat) (x4 x5:AV),
 e=[lv,.int .i64 most,.bool false,.int .i64 n,x4,x5]∧m=m0∧k=most+1 - n∧n≤most+1∧n≤l.length∧((l.take n).all fun a=>decide (a.l.length≤20))=true
theorem few_run{m:Mem X} {l:List Act} {lv:AV} {most:Nat} (h:AS m l lv) (hm:most < 1000):Fn [] law15_few [lv,.int .i64 most] m (fun r m'=>r = .bool (fewB l most)∧m'=m):=by
 have hlen:=h.1.len
 refine Fn_of rfl ?_
 simp(disch:=first|assumption|omega|(simp only[zl]<;>omega)|(simp only[zn])) only[law15_few,↓zd,zk,seval,reduceIte,List.map,AV.cells,List.all,AV.one,eqV,eqAll,splice,fillA,List.replicate,resAll,resA,zm,zg]
 refine W_loop (FwInv l most lv m) (most+1) (by unfold FUEL;omega) ⟨0,_,_,rfl,rfl,rfl,by omega,Nat.zero_le _,rfl⟩ ?_
 rintro k e m' ⟨n,x4,x5,rfl,rfl,rfl,hn,hnl,ha⟩
 simp(disch:=first|assumption|omega|(simp only[zl]<;>omega)|(simp only[zn])) only[↓zd,zk,seval,reduceIte,List.map,AV.cells,List.all,AV.one,eqV,eqAll,splice,fillA,List.replicate,resAll,resA,zm,zg,ev_len,hlen]
 have out:(n=most+1∨n=l.length)→fewB l most=decide (l.length≤most):=fun ho=>by
  have:l.take (most+1)=l.take n:=by
   rcases ho with rfl|rfl
   ·rfl
   ·rw[List.take_length,List.take_of_length_le hn]
  simp only[fewB,this,ha,Bool.true_and]
 have hdd:decide ((l.length:Int)≤(most:Int))=decide (l.length≤most):=by
  by_cases h:l.length≤most
  ·rw[decide_eq_true h,decide_eq_true (by omega)]
  ·rw[decide_eq_false h,decide_eq_false (by omega)]
 by_cases h1:n < l.length
 ·have d1:decide ((n:Int) < (l.length:Int))=true:=decide_eq_true (by omega)
  by_cases h2:n≤most
  ·have d2:decide ((n:Int)≤(most:Int))=true:=decide_eq_true (by omega)
   obtain⟨a,hai⟩:∃ a,l[n]?=some a:=⟨_,List.getElem?_eq_getElem h1⟩
   obtain⟨q,o,cap,ro,L,rfl,g1,g2,g3,g4,g5⟩:=h.get hai
   have hal:=(h.2 a (List.mem_of_getElem? hai)).len
   have htk:l.take (n+1)=l.take n++[a]:=by rw[List.take_add_one,hai];rfl
   by_cases h3:a.l.length≤20
   ·have d3:((20:Int) < (a.l.length:Int))=False:=eq_false (by omega)
    simp(disch:=first|assumption|omega|(simp only[zl]<;>omega)|(simp only[zn])) only[↓zd,zk,seval,reduceIte,List.map,AV.cells,List.all,AV.one,eqV,eqAll,splice,fillA,List.replicate,resAll,resA,zm,zg,d1,d2,g1,g5,ev_len,hal,d3]
    refine⟨_,by omega,n+1,_,_,rfl,rfl,rfl,by omega,by omega,?_⟩
    rw[htk,List.all_append,ha]
    simp[h3]
   ·have d3:((20:Int) < (a.l.length:Int))=True:=eq_true (by omega)
    simp(disch:=first|assumption|omega|(simp only[zl]<;>omega)|(simp only[zn])) only[↓zd,zk,seval,reduceIte,List.map,AV.cells,List.all,AV.one,eqV,eqAll,splice,fillA,List.replicate,resAll,resA,zm,zg,d1,d2,g1,g5,ev_len,hal,d3]
    have:fewB l most=false:=by
     simp only[fewB,Bool.and_eq_false_iff]
     left
     rw[List.all_eq_false]
     exact⟨a,List.mem_of_getElem? (i:=n) (by rw[List.getElem?_take,if_pos (by omega)];exact hai),by simpa using h3⟩
    rw[this]
  ·have d2:decide ((n:Int)≤(most:Int))=false:=decide_eq_false (by omega)
   simp(disch:=first|assumption|omega|(simp only[zl]<;>omega)|(simp only[zn])) only[↓zd,zk,seval,reduceIte,List.map,AV.cells,List.all,AV.one,eqV,eqAll,splice,fillA,List.replicate,resAll,resA,zm,zg,d1,d2,ev_len,hlen,hdd]
   rw[out (.inl (by omega)),decide_eq_false (by omega)]
 ·have d1:decide ((n:Int) < (l.length:Int))=false:=decide_eq_false (by omega)
  simp(disch:=first|assumption|omega|(simp only[zl]<;>omega)|(simp only[zn])) only[↓zd,zk,seval,reduceIte,List.map,AV.cells,List.all,AV.one,eqV,eqAll,splice,fillA,List.replicate,resAll,resA,zm,zg,d1,ev_len,hlen,hdd]
  rw[out (.inr (by omega))]
def OInv(l:List Int) (n:Nat) (lv:AV) (m0:Mem X) (k:Nat) (e:List AV) (m:Mem X):Prop:=∃ (d:Nat) (x5 x6:AV) (L:List AV),
 e=[lv,.int .i64 n,.bool false,.sl m0.length 0 n (some n),.int .i64 d,x5,x6]∧k=l.length - d∧d≤l.length∧Keep m0 m∧m[m0.length]?=some (.cells 1 false L)∧L.length=n∧∀ x:Nat,x < n→L[x]?=some (.bool (decide ((x:Int) ∈ l.take d)))
set_option maxHeartbeats 1000000 in
theorem once_run{m:Mem X} {l:List Int} {w:Bool} {lv:AV} {n:Nat} (h:SI m w l lv) (hl:l.length < 1000) (hn:n < 1000) (hin:inbB n l=true) (hnd:l.Nodup):Fn [] law15_once [lv,.int .i64 n] m (fun r m'=>r = .bool true∧Keep m m'):=by
 have hlen:=h.len
 have hin':∀ x ∈ l,0≤x∧x < n:=fun x hx=>by
  have:=List.all_eq_true.1 hin x hx
  simpa using this
 refine Fn_of rfl ?_
 have hmk:∀ (G:List (Nat × AFun X)) (m:Mem X),amOp G (.make 1 1 [AV.bool false]) [.int .i64 n,.int .i64 n] m=some (.sl m.length 0 n (some n),m++[.cells 1 false (List.replicate n (.bool false))]):=fun G m=>by
  simp only[amOp]
  rw[if_pos (by omega)]
  simp[repeatL]
 simp(disch:=first|assumption|omega|(simp only[zl]<;>omega)|(simp only[zn])) only[law15_once,↓zd,zk,seval,reduceIte,List.map,AV.cells,List.all,AV.one,eqV,eqAll,splice,fillA,List.replicate,resAll,resA,zm,zg,hmk]
 refine W_loop (OInv l n lv m) l.length (by unfold FUEL;omega) ⟨0,_,_,List.replicate n (.bool false),rfl,rfl,Nat.zero_le _,Keep.app _ _,get_concat,by simp,fun x hx=>by simp[hx]⟩ ?_
 rintro k e m' ⟨d,x5,x6,L,rfl,rfl,hd,hk,hg,hL,hat⟩
 have lm:=(List.getElem?_eq_some_iff.1 hg).1
 simp(disch:=first|assumption|omega|(simp only[zl]<;>omega)|(simp only[zn])) only[↓zd,zk,seval,reduceIte,List.map,AV.cells,List.all,AV.one,eqV,eqAll,splice,fillA,List.replicate,resAll,resA,zm,zg,ev_len,hlen]
 refine CW_of (fun hc=>?_) (fun hc=>?_)
 ·simp only[decide_eq_true_eq] at hc
  obtain⟨q,o,cap,ro,A,rfl,hq,_,hA,hv⟩:=h.val (by omega)
  obtain⟨x,hxi⟩:∃ x,l[d]?=some x:=⟨_,List.getElem?_eq_getElem (by omega)⟩
  obtain⟨b0,b1⟩:=hin' x (List.mem_of_getElem? hxi)
  have hq':=hk.get hq
  have d0:decide (x < 0)=false:=decide_eq_false (by omega)
  have d1:decide ((n:Int)≤x)=false:=decide_eq_false (by omega)
  have htk:=take_succ hxi
  have hnot:x ∉ l.take d:=fun hm=>by
   have:=hnd.sublist (List.take_sublist (d+1) l)
   rw[htk,List.nodup_append] at this
   exact this.2.2 x hm x (by simp) rfl
  have hx0:L[x.toNat]?=some (.bool false):=by
   rw[hat x.toNat (by omega),show ((x.toNat:Nat):Int)=x by omega,decide_eq_false hnot]
  have hxl:x.toNat < L.length:=by omega
  have ix:(0≤x∧x < (n:Int))=True:=eq_true (by omega)
  simp(disch:=first|assumption|omega|(simp only[zl]<;>omega)|(simp only[zn])) only[↓zd,zk,seval,reduceIte,List.map,AV.cells,List.all,AV.one,eqV,eqAll,splice,fillA,List.replicate,resAll,resA,zm,zg,hq',hv d x hxi,d0,d1,hg,hx0]
  refine⟨_,by omega,d+1,_,_,L.set x.toNat (.bool true),rfl,rfl,by omega,hk.set (Nat.le_refl _) _,List.getElem?_set_self lm,by simp[hL],fun y hy=>?_⟩
  rw[htk]
  by_cases hxy:x.toNat=y
  ·subst hxy
   rw[List.getElem?_set_self hxl,show ((x.toNat:Nat):Int)=x by omega]
   simp
  ·rw[List.getElem?_set_ne hxy,hat y hy]
   have:¬ (y:Int)=x:=fun e=>hxy (by omega)
   simp[this]
 ·simp only[decide_eq_false_iff_not] at hc
  simp(disch:=first|assumption|omega|(simp only[zl]<;>omega)|(simp only[zn])) only[↓zd,zk,seval,reduceIte,List.map,AV.cells,List.all,AV.one,eqV,eqAll,splice,fillA,List.replicate,resAll,resA,zm,zg]
  exact hk
end Go.Am.F15
end
section
namespace Go.Am.F15
open Go.Am.F10 (iC iC_at iC_len iC_one iC_app SI SI.val same_run Cf cfC rightP right_run Nx si_take si_drop si_row cutA dropA madeC made_eq pick_eq)
open Go.Am.F06 (sqN sqT)
variable {X:Type}
def LV(m0 m:Mem X) (xs:List Int) (v:AV):Prop:=SI m true xs v∧(v = .nils∨∃ q o n l,v = .sl q o n none∧m[q]?=some (.cells 1 false l)∧m0.length≤q∧q < m.length∧o+n≤l.length)
theorem LV.nx{m0 m:Mem X} {xs:List Int} {v:AV} (h:LV m0 m xs v):Nx m v:=by
 rcases h.2 with h|⟨q,o,n,l,h1,h2,_⟩
 ·exact .inl h
 ·exact .inr ⟨q,o,n,l,h1,h2⟩
theorem LV.kk{m0 m m':Mem X} {xs:List Int} {v:AV} (h:LV m0 m xs v) (k:KK m m'):LV m0 m' xs v:=by
 refine⟨si_kk h.1 k,?_⟩
 rcases h.2 with h|⟨q,o,n,l,h1,h2,h3,h4⟩
 ·exact .inl h
 ·exact .inr ⟨q,o,n,l,h1,k.2 q 1 false l h2 (by decide) (by decide),h3,Nat.lt_of_lt_of_le h4.1 k.1,h4.2⟩
theorem LV.drop{m0 m:Mem X} {xs:List Int} {v:AV} (h:LV m0 m xs v) {k:Nat} (hk:k≤xs.length):LV m0 m (xs.drop k) (dropA v k):=by
 refine⟨(si_drop h.1 h.nx hk).2,?_⟩
 rcases h.2 with rfl|⟨q,o,n,l,rfl,h2,h3,h4⟩
 ·exact .inl rfl
 ·have hn:n=xs.length:=by have:=h.1.len;simp only[lenA,Option.some.injEq] at this;exact this
  exact .inr ⟨q,o+k,n - k,l,rfl,h2,h3,h4.1,by omega⟩
theorem lv_push{m0 m:Mem X} {w:Bool} {xs ys:List Int} {v y:AV} (h:LV m0 m xs v) (hy:SI m w ys y) (hl:xs.length≤100000) (hl2:ys.length≤100000) (hm:m0.length≤m.length) :
  ∃ v' m',appendA 1 8 v y m=some (v',m')∧LV m0 m' (xs++ys) v'∧m.length≤m'.length∧(∀ k,k < m.length→(∀ l,m[k]?≠some (.cells 1 false l))∨k < m0.length→m'[k]?=m[k]?):=by
 have hr:=si_row hy
 have hlen:=hy.len
 have hxl:=h.1.len
 by_cases h0:ys.length=0
 ·have hx:ys=[]:=List.length_eq_zero_iff.1 h0
  subst hx
  rw[List.append_nil]
  refine⟨v,m,?_,h,Nat.le_refl _,fun _ _ _=>rfl⟩
  rcases h.2 with rfl|⟨q,o,n,l,rfl,_⟩<;>simp only[appendA,hlen,hr,List.length_nil,if_true]
 have new:∀ (v:AV) (M:Mem X),M.length=m.length→SI (M++[Chunk.cells 1 false (iC (xs++ys))]) true (xs++ys) (.sl m.length 0 (xs++ys).length none)∧LV m0 (M++[Chunk.cells 1 false (iC (xs++ys))]) (xs++ys) (.sl m.length 0 (xs++ys).length none):=fun v M hM=>by
  have hg:(M++[Chunk.cells 1 false (iC (xs++ys))])[m.length]?=some (.cells 1 false (iC (xs++ys))):=by rw[← hM];exact get_concat
  have hs:SI (M++[Chunk.cells 1 false (iC (xs++ys))]) true (xs++ys) (.sl m.length 0 (xs++ys).length none):=⟨by rw[iC_len];omega,.inr ⟨m.length,0,none,rfl,fun _=>⟨false,_,hg,by rw[List.drop_zero,List.take_of_length_le (by rw[iC_len];omega)],by rw[iC_len];omega,fun _=>rfl⟩⟩⟩
  exact⟨hs,hs,.inr ⟨m.length,0,_,_,rfl,hg,hm,by simp;omega,by rw[iC_len];omega⟩⟩
 rcases h.2 with rfl|⟨q,o,n,l,rfl,hq,hq1,hq2,hq3⟩
 ·have hxs:xs=[]:=List.length_eq_zero_iff.1 (by simp only[lenA,Option.some.injEq] at hxl;exact hxl.symm)
  subst hxs
  refine⟨.sl m.length 0 ys.length none,m++[.cells 1 false (iC ys)],?_,by simpa using (new .nils m rfl).2,by simp,fun k hk _=>List.getElem?_append_left hk⟩
  simp only[appendA,hlen,hr]
  rw[if_neg h0,if_pos ⟨by omega,by omega,iC_one _⟩]
 ·have hn:n=xs.length:=by simp only[lenA,Option.some.injEq] at hxl;exact hxl
  subst hn
  have hcut:(l.drop o).take (xs.length * 1)=iC xs:=by
   rcases Nat.eq_zero_or_pos xs.length with h|hp
   ·rw[List.length_eq_zero_iff.1 h];simp[iC]
   ·obtain⟨q',o',cap',ro,L,hv,h2,h3,h4,_⟩:=h.1.at hp
    injection hv with e1 e2 e3 e4
    subst e1;subst e2
    rw[hq] at h2;injection h2 with h2;injection h2 with _ _ h2;subst h2
    exact h3
  refine⟨.sl m.length 0 (xs.length+ys.length) none,m.set q .dead++[.cells 1 false (iC xs++iC ys)],?_,?_,by simp,fun k hk ho=>?_⟩
  ·simp only[appendA,hlen,hr,Am.getC,hq,hcut]
   rw[if_neg h0,if_pos]
   exact⟨trivial,by omega,by omega,by omega,by rw[List.all_append,iC_one,iC_one];rfl⟩
  ·have:=(new .nils (m.set q .dead) (by simp)).2
   simpa [iC] using this
  ·have hqk:q≠k:=by
    rintro rfl
    rcases ho with ho|ho
    ·exact ho _ hq
    ·omega
   rw[List.getElem?_append_left (by simpa using hk),List.getElem?_set_ne hqk]
theorem PO.ne1{m:Mem X} {P:Pla} {s:Pc} (H:PO m P s) {k:Nat} (hk:P.has k) (l:List AV):m[k]?≠some (.cells 1 false l):=fun e=>by
 have key:∀ {i j xs},LN m i j xs→k≠i:=fun hl hki=>by
  obtain⟨l,hc⟩:=hl.cell
  rw[hki,hc] at e;cases e
 have key2:∀ {i j xs},LN m i j xs→j≠some k:=fun hl hj=>by
  obtain⟨tb,c,ht⟩:=hl.tab hj
  rw[ht] at e;cases e
 rcases hk with hk|hk|hk|hk|hk|hk|hk
 ·rw[hk,H.gp] at e;cases e
 ·exact key H.l1 hk
 ·exact key H.l2 hk
 ·exact key H.l3 hk
 ·exact key2 H.l1 hk
 ·exact key2 H.l2 hk
 ·exact key2 H.l3 hk
theorem WP.push{m0 m m':Mem X} {p:Nat} {s:Pc} (H:WP m0 m p s) (h:∀ k,k < m.length→(∀ l,m[k]?≠some (.cells 1 false l))→m'[k]?=m[k]?):WP m0 m' p s:=by
 obtain⟨P,h1,h2,h3⟩:=H
 exact⟨P,h1,h2.at fun k hk=>h k (h2.lt hk) (h2.ne1 hk),h3⟩
def bdLoop:AC:=match sqN 6 law15_PoolBounds.body with | .seq _ (.block _ (.loop b))=>b|c=>c
def bdB:AC:=match bdLoop with | .seq _ (.seq (.block _ b) _)=>b|c=>c
def bdC:AC:=match bdLoop with | .seq c _=>c|c=>c
def bdI:AC:=match bdLoop with | .seq _ (.seq _ i)=>i|c=>c
def bdR:AC:=.region [⟨.mov,[.c (.int .i64 0)],some 6,none⟩]
def bdEnd:AC:=sqT 7 law15_PoolBounds.body
def bdSW:AC:=sqN 2 bdB
def bdT:AC:=sqT 3 bdB
theorem bd_body:law15_PoolBounds.body = .seq (sqN 0 law15_PoolBounds.body) (.seq (sqN 1 law15_PoolBounds.body) (.seq (sqN 2 law15_PoolBounds.body) (.seq (sqN 3 law15_PoolBounds.body) (.seq (sqN 4 law15_PoolBounds.body) (.seq (sqN 5 law15_PoolBounds.body)
  (.seq (.seq bdR (.block 0 (.loop (.seq bdC (.seq (.block 1 (.seq (sqN 0 bdB) (.seq (sqN 1 bdB) (.seq bdSW bdT)))) bdI))))) bdEnd)))))):=rfl
def Inb(s:Pc):Prop:=inbB s.c.g s.g=true∧inbB s.c.n s.ps=true∧inbB s.c.m s.ms=true∧0≤s.spin∧s.spin≤s.c.m
theorem inb_len{n:Int} {l:List Int} (h:inbB n l=true) (nd:l.Nodup) (hn:n≤256):l.length≤256:=by
 have h1:∀ x ∈ l,0≤x∧x < n:=fun x hx=>by
  have:=List.all_eq_true.1 h x hx
  simpa using this
 exact few_of 256 nd fun x hx=>by have:=h1 x hx;omega
theorem WP.nd{m0 m:Mem X} {p:Nat} {s:Pc} (H:WP m0 m p s):s.g.Nodup∧s.ps.Nodup∧s.ms.Nodup:=by
 obtain⟨P,_,H,_⟩:=H
 exact⟨H.l1.nodup,H.l2.nodup,H.l3.nodup⟩
theorem WP.bd{m0 m:Mem X} {p:Nat} {s:Pc} (H:WP m0 m p s) (h:Inb s) (hr:rightP s.c):Bd s:=by
 obtain⟨n1,n2,n3⟩:=H.nd
 obtain⟨h1,h2,h3,_⟩:=h
 obtain⟨r1,_,r2,r3,_⟩:=hr
 have a:=inb_len h1 n1 (by omega)
 have b:=inb_len h2 n2 (by omega)
 have c:=inb_len h3 n3 (by omega)
 exact⟨by omega,by omega,by omega⟩
theorem once_int{m:Mem X} {l:List Int} {w:Bool} {lv:AV} {n:Int} (h:SI m w l lv) (hl:l.length < 1000) (h0:0≤n) (hn:n < 1000) (hin:inbB n l=true) (hnd:l.Nodup):Fn [] law15_once [lv,.int .i64 n] m (fun r m'=>r = .bool true∧Keep m m'):=by
 have e:((n.toNat:Nat):Int)=n:=Int.toNat_of_nonneg h0
 have:=once_run (n:=n.toNat) h hl (by omega) (by rw[e];exact hin) hnd
 rwa [e] at this
def GBd:List (Nat × AFun X):=[(222,c_law15_few),(223,amFunc GWk law15_works),(133,c_docs_Made),(224,amFunc GNw pool_New),(87,c_kit_Pick),(225,amFunc GPP pool_Pool_Push),(226,amFunc GPo pool_Pool_Pop),(227,amFunc GPP pool_Pool_PutP),(228,amFunc GPP pool_Pool_PutM),(229,amFunc GTk pool_Pool_TakeP),(230,amFunc GTk pool_Pool_TakeM),(231,amFunc GBo pool_Pool_Both),(232,c_pool_Pool_Batch),(233,c_pool_Pool_Len),(234,c_pool_Pool_AddSpin),(84,c_kit_SameInts),(235,amFunc GGl pool_Pool_Global),(236,c_law15_once),(237,amFunc GGl pool_Pool_Ps),(238,amFunc GGl pool_Pool_Ms),(239,c_pool_Pool_Spin)]
def Aft(m0:Mem X) (c:Cf) (cb p:Nat) (i:Nat) (a0 a1:AV) (s:Pc) (got line:List Int) (e:List AV) (m:Mem X):Prop :=
 ∃ lv gv x7 x9 x10 x11 x12 x13 x14 x15 x16 x17 x18 x19 x20 x21 x22 x23 x24 x25,e=[a0,a1,.ptr cb 0,.bool false,.ptr p 0,lv,.int .i64 i,x7,gv,x9,x10,x11,x12,x13,x14,x15,x16,x17,x18,x19,x20,x21,x22,x23,x24,x25] ∧
  Keep m0 m∧WP m0 m p s∧s.c=c∧Inb s∧LV m0 m line lv∧SI m true got gv∧m[cb]?=some (.cells 6 false (cfC c))∧line=got++s.g∧got.length < 1000
def Nex(m0:Mem X) (c:Cf) (cb p:Nat) (i:Nat) (a0 a1:AV) (s:Pc) (e:List AV) (m:Mem X):Prop :=
 ∃ lv x7 gv x9 x10 x11 x12 x13 x14 x15 x16 x17 x18 x19 x20 x21 x22 x23 x24 x25,e=[a0,a1,.ptr cb 0,.bool false,.ptr p 0,lv,.int .i64 i,x7,gv,x9,x10,x11,x12,x13,x14,x15,x16,x17,x18,x19,x20,x21,x22,x23,x24,x25] ∧
  Keep m0 m∧WP m0 m p s∧s.c=c∧Inb s∧LV m0 m s.g lv∧m[cb]?=some (.cells 6 false (cfC c))
set_option maxRecDepth 100000 in
set_option maxHeartbeats 8000000 in
theorem bdT_run{m0 m:Mem X} {c:Cf} {cb p i:Nat} {a0 a1:AV} {s:Pc} {got line:List Int} {e:List AV} (hr:rightP c) (h:Aft m0 c cb p i a0 a1 s got line e m) :
  W GBd bdT (fun y e' m'=>y = .normal∧Nex m0 c cb p i a0 a1 s e' m') e m:=by
 have a84:assoc (GBd (X:=X)) 84=some c_kit_SameInts:=rfl
 have a235:assoc (GBd (X:=X)) 235=some (amFunc GGl pool_Pool_Global):=rfl
 have a236:assoc (GBd (X:=X)) 236=some (amFunc [] law15_once):=rfl
 have a237:assoc (GBd (X:=X)) 237=some (amFunc GGl pool_Pool_Ps):=rfl
 have a238:assoc (GBd (X:=X)) 238=some (amFunc GGl pool_Pool_Ms):=rfl
 have a239:assoc (GBd (X:=X)) 239=some c_pool_Pool_Spin:=rfl
 generalize (GBd (X:=X))=G at a84 a235 a236 a237 a238 a239 ⊢
 obtain⟨lv,gv,x7,x9,x10,x11,x12,x13,x14,x15,x16,x17,x18,x19,x20,x21,x22,x23,x24,x25,rfl,hk,H,rfl,hin,hlv,hgv,gb,rfl,hgl⟩:=h
 have hbd:=H.bd hin hr
 have l1:=hlv.1.len
 have l2:=hgv.len
 have hlt:((((got++s.g).length:Nat):Int) < ((got.length:Nat):Int))=False:=eq_false (by simp;omega)
 have h0:(0≤((got.length:Nat):Int))=True:=eq_true (by omega)
 obtain⟨t1,t2⟩:=si_take hlv.1 hlv.nx (k:=got.length) (by simp)
 obtain⟨d1,d2⟩:=si_drop hlv.1 hlv.nx (k:=got.length) (by simp)
 have hdr:=hlv.drop (k:=got.length) (by simp)
 simp only[List.take_left,List.drop_left] at t2 d2 hdr
 have e1:=same_eq hgv t2 hgl
 simp(disch:=first|assumption|omega|(simp only[zl]<;>omega)|(simp only[zn])) only[bdT,bdB,bdLoop,sqN,sqT,law15_PoolBounds,↓zd,zk,seval,reduceIte,List.map,AV.cells,List.all,AV.one,eqV,eqAll,splice,fillA,List.replicate,resAll,resA,zm,zg,evA,ev_len,l1,l2,hlt,h0,t1,d1,a84,e1,Int.toNat_natCast,a235]
 refine OKT_fn (wglobal_run H hbd) ?_
 rintro v1 m1 ⟨k1,o1⟩
 have H1:=H.keep k1
 have gb1:=k1.get gb
 have e2:=same_eq (own_si o1) (d2.keep k1) (by have:=hbd.1;omega)
 simp(disch:=first|assumption|omega|(simp only[zl]<;>omega)|(simp only[zn])) only[↓zd,zk,seval,reduceIte,List.map,AV.cells,List.all,AV.one,eqV,eqAll,splice,fillA,List.replicate,resAll,resA,zm,zg,a84,e2,a235]
 refine OKT_fn (wglobal_run H1 hbd) ?_
 rintro v2 m2 ⟨k2,o2⟩
 have H2:=H1.keep k2
 have gb2:=k2.get gb1
 simp only[cfC] at gb gb1 gb2
 obtain⟨n1,n2,n3⟩:=H.nd
 obtain⟨i1,i2,i3,i4,i5⟩:=hin
 obtain⟨r1,r0,r2,r3,r4⟩:=hr
 obtain⟨b1,b2,b3⟩:=hbd
 simp(disch:=first|assumption|omega|(simp only[zl]<;>omega)|(simp only[zn])) only[↓zd,zk,seval,reduceIte,List.map,AV.cells,List.all,AV.one,eqV,eqAll,splice,fillA,List.replicate,resAll,resA,zm,zg,gb2,a236]
 refine OKT_fn (once_int (own_si o2) b1 (by omega) (by omega) i1 n1) ?_
 rintro _ m3 ⟨rfl,k3⟩
 have H3:=H2.keep k3
 have gb3:=k3.get gb2
 simp(disch:=first|assumption|omega|(simp only[zl]<;>omega)|(simp only[zn])) only[↓zd,zk,seval,reduceIte,List.map,AV.cells,List.all,AV.one,eqV,eqAll,splice,fillA,List.replicate,resAll,resA,zm,zg,gb3,a237]
 refine OKT_fn (wps_run H3 ⟨b1,b2,b3⟩) ?_
 rintro v4 m4 ⟨k4,o4⟩
 have H4:=H3.keep k4
 have gb4:=k4.get gb3
 simp(disch:=first|assumption|omega|(simp only[zl]<;>omega)|(simp only[zn])) only[↓zd,zk,seval,reduceIte,List.map,AV.cells,List.all,AV.one,eqV,eqAll,splice,fillA,List.replicate,resAll,resA,zm,zg,gb4,a236]
 refine OKT_fn (once_int (own_si o4) b2 (by omega) (by omega) i2 n2) ?_
 rintro _ m5 ⟨rfl,k5⟩
 have H5:=H4.keep k5
 have gb5:=k5.get gb4
 simp(disch:=first|assumption|omega|(simp only[zl]<;>omega)|(simp only[zn])) only[↓zd,zk,seval,reduceIte,List.map,AV.cells,List.all,AV.one,eqV,eqAll,splice,fillA,List.replicate,resAll,resA,zm,zg,gb5,a238]
 refine OKT_fn (wms_run H5 ⟨b1,b2,b3⟩) ?_
 rintro v6 m6 ⟨k6,o6⟩
 have H6:=H5.keep k6
 have gb6:=k6.get gb5
 simp(disch:=first|assumption|omega|(simp only[zl]<;>omega)|(simp only[zn])) only[↓zd,zk,seval,reduceIte,List.map,AV.cells,List.all,AV.one,eqV,eqAll,splice,fillA,List.replicate,resAll,resA,zm,zg,gb6,a236]
 refine OKT_fn (once_int (own_si o6) b3 (by omega) (by omega) i3 n3) ?_
 rintro _ m7 ⟨rfl,k7⟩
 have H7:=H6.keep k7
 have gb7:=k7.get gb6
 have hs7:=wspin_eq H7
 have j1:decide (s.spin < 0)=false:=decide_eq_false (by omega)
 have j2:decide (s.c.m < s.spin)=false:=decide_eq_false (by omega)
 simp(disch:=first|assumption|omega|(simp only[zl]<;>omega)|(simp only[zn])) only[↓zd,zk,seval,reduceIte,List.map,AV.cells,List.all,AV.one,eqV,eqAll,splice,fillA,List.replicate,resAll,resA,zm,zg,gb1,gb2,gb3,gb4,gb5,gb6,gb7,a239,hs7,j1,j2]
 have kk:=k1.trans (k2.trans (k3.trans (k4.trans (k5.trans (k6.trans k7)))))
 exact⟨_,_,_,_,_,_,_,_,_,_,_,_,_,_,_,_,_,_,_,_,rfl,hk.trans kk,H7,rfl,⟨i1,i2,i3,i4,i5⟩,hdr.kk kk.kk,gb7⟩
end Go.Am.F15
end
section
namespace Go.Am.F15
open Go.Am.F10 (iC iC_at iC_len iC_one iC_app SI SI.val same_run Cf cfC rightP right_run Nx si_take si_drop si_row cutA dropA madeC made_eq pick_eq)
open Go.Am.F06 (sqN sqT)
variable {X:Type}
theorem inb_app{n:Int} {xs l:List Int} (h1:inbB n xs=true) (h2:inbB n l=true):inbB n (xs++l)=true:=by
 simp only[inbB,List.all_append,Bool.and_eq_true] at h1 h2 ⊢
 exact⟨h1,h2⟩
theorem inb_addL{n:Int} {xs l:List Int} (h:inbB n xs=true):inbB n (addL xs n l)=true:=by
 unfold addL
 split
 ·split
  ·exact inb_app h (by assumption)
  ·exact h
 ·exact h
theorem inb_sub{n:Int} {xs ys:List Int} (h:inbB n xs=true) (hs:∀ y ∈ ys,y ∈ xs):inbB n ys=true:=by
 unfold inbB at h ⊢
 rw[List.all_eq_true] at h ⊢
 exact fun y hy=>h y (hs y hy)
theorem spinN_b{s:Pc} (n:Int) (h:0≤s.c.m):0≤spinN s n∧spinN s n≤s.c.m:=by
 unfold spinN mxI
 generalize hx:mnI _ s.c.m=y
 have hy:y≤s.c.m:=by
  rw[← hx];unfold mnI;split<;>omega
 split<;>omega
theorem batch_b{s:Pc} (hn:1≤s.c.n∧s.c.n≤8) (hq:2≤s.c.q∧s.c.q≤64) (hl:s.g.length < 1000):0≤batchN s∧batchN s≤s.g.length∧batchN s≤s.c.q.tdiv 2∧(batchN s=0 ↔ s.g.length=0)∧IntKind.i64.wrap (s.c.q.tdiv 2)=s.c.q.tdiv 2:=by
 have h1:0≤(s.g.length:Int).tdiv s.c.n:=Int.tdiv_nonneg (by omega) (by omega)
 have h2:(s.g.length:Int).tdiv s.c.n≤s.g.length:=Int.tdiv_le_self _ (by omega)
 have h3:s.c.q.tdiv 2=s.c.q / 2:=Int.tdiv_eq_ediv_of_nonneg (by omega)
 unfold batchN
 rw[wrapI (x:=(s.g.length:Int).tdiv s.c.n) (by omega) (by omega),wrapI (x:=(s.g.length:Int).tdiv s.c.n+1) (by omega) (by omega),wrapI (x:=s.c.q.tdiv 2) (by omega) (by omega),h3]
 refine⟨by omega,by omega,by omega,⟨fun h=>by omega,fun h=>by omega⟩,rfl⟩
set_option maxRecDepth 100000 in
set_option maxHeartbeats 16000000 in
theorem bdSW_run{m0 m:Mem X} {c:Cf} {cb p i:Nat} {a0 a1:AV} {s:Pc} {lv x9 x10 x11 x12 x13 x14 x15 x16 x17 x18 x19 x20 x21 x22 x23 x24 x25:AV} {ats:List Act} {a:Act} {k:Int} (hr:rightP c) (hA:AS m0 ats a1) (ha:ats[i]?=some a) (hal:a.l.length≤20) (hk0:0≤k) (hk8:k < 8)
  (hk:Keep m0 m) (H:WP m0 m p s) (hc:s.c=c) (hin:Inb s) (hlv:LV m0 m s.g lv) (gb:m[cb]?=some (.cells 6 false (cfC c))) :
  W GBd bdSW (fun y e' m'=>y = .normal∧∃ s' got line,Aft m0 c cb p i a0 a1 s' got line e' m') [a0,a1,.ptr cb 0,.bool false,.ptr p 0,lv,.int .i64 i,.int .i64 k,.nils,x9,x10,x11,x12,x13,x14,x15,x16,x17,x18,x19,x20,x21,x22,x23,x24,x25] m:=by
 have a225:assoc (GBd (X:=X)) 225=some (amFunc GPP pool_Pool_Push):=rfl
 have a226:assoc (GBd (X:=X)) 226=some (amFunc GPo pool_Pool_Pop):=rfl
 have a227:assoc (GBd (X:=X)) 227=some (amFunc GPP pool_Pool_PutP):=rfl
 have a228:assoc (GBd (X:=X)) 228=some (amFunc GPP pool_Pool_PutM):=rfl
 have a229:assoc (GBd (X:=X)) 229=some (amFunc GTk pool_Pool_TakeP):=rfl
 have a230:assoc (GBd (X:=X)) 230=some (amFunc GTk pool_Pool_TakeM):=rfl
 have a231:assoc (GBd (X:=X)) 231=some (amFunc GBo pool_Pool_Both):=rfl
 have a232:assoc (GBd (X:=X)) 232=some c_pool_Pool_Batch:=rfl
 have a233:assoc (GBd (X:=X)) 233=some c_pool_Pool_Len:=rfl
 have a234:assoc (GBd (X:=X)) 234=some (amFunc [] pool_Pool_AddSpin):=rfl
 generalize (GBd (X:=X))=G at a225 a226 a227 a228 a229 a230 a231 a232 a233 a234 ⊢
 subst hc
 have hbd:=H.bd hin hr
 obtain⟨b1,b2,b3⟩:=hbd
 obtain⟨i1,i2,i3,i4,i5⟩:=hin
 have hr':=hr
 obtain⟨r1,r0,r2,r3,r4⟩:=hr
 have rq:2≤s.c.q∧s.c.q≤64:=by unfold F10.roomP at r0;omega
 obtain⟨q,o,cap,ro,L,rfl,g0,gl,g1,g2,g3⟩:=hA.get ha
 have g0':=hk.get g0
 have hi:=(List.getElem?_eq_some_iff.1 ha).1
 have hv:=(hA.2 a (List.mem_of_getElem? ha)).keep hk
 -- what a step of the pool leaves
 have go:∀ (s':Pc) (got:List Int) (m':Mem X) (gv:AV) (z7 z9 z10 z11 z12 z13 z14 z15 z16 z17 z18 z19 z20 z21 z22 z23 z24 z25:AV),WS m0 m p s' m'→s'.c=s.c→Inb s'→SI m' true got gv→s.g=got++s'.g →
   ∃ s' got line,Aft m0 s.c cb p i a0 (.sl q o ats.length cap) s' got line [a0,.sl q o ats.length cap,.ptr cb 0,.bool false,.ptr p 0,lv,.int .i64 i,z7,gv,z9,z10,z11,z12,z13,z14,z15,z16,z17,z18,z19,z20,z21,z22,z23,z24,z25] m':=by
  intro s' got m' gv z7 z9 z10 z11 z12 z13 z14 z15 z16 z17 z18 z19 z20 z21 z22 z23 z24 z25 hws hc hi hg hl
  have hgl:got.length≤s.g.length:=by rw[hl];simp
  exact⟨s',got,s.g,_,_,_,_,_,_,_,_,_,_,_,_,_,_,_,_,_,_,_,_,rfl,hws.2.1,hws.1,hc,hi,hlv.kk hws.2.2,hg,hws.2.2.2 cb 6 false _ gb (by decide) (by decide),hl,by omega⟩
 have d1:(k=0∨k=1∨k=2∨k=3∨k=4∨k=5∨k=6∨k=7):=by omega
 rcases d1 with rfl|rfl|rfl|rfl|rfl|rfl|rfl|rfl
 ·simp(disch:=first|assumption|omega|(simp only[zl]<;>omega)|(simp only[zn])) only[bdSW,bdB,bdLoop,sqN,law15_PoolBounds,↓zd,zk,seval,reduceIte,List.map,AV.cells,List.all,AV.one,eqV,eqAll,splice,fillA,List.replicate,resAll,resA,zm,zg,g0',g3,a225]
  refine OK_fn (wpush_run H hk ⟨b1,b2,b3⟩ hv (by omega)) ?_
  rintro _ m1 ⟨hws,rfl⟩
  cases hib:inbB s.c.g a.l with
  | false =>
   have e1:addE s.g s.c.g a.l=2:=by simp[addE,hib]
   have e2:addL s.g s.c.g a.l=s.g:=by simp[addL,hib]
   rw[e2] at hws
   simp(disch:=first|assumption|omega|(simp only[zl]<;>omega)|(simp only[zn])) only[↓zd,zk,seval,reduceIte,List.map,AV.cells,List.all,AV.one,eqV,eqAll,splice,fillA,List.replicate,resAll,resA,zm,zg,e1]
   exact go _ [] _ _ _ _ _ _ _ _ _ _ _ _ _ _ _ _ _ _ _ _ hws rfl ⟨i1,i2,i3,i4,i5⟩ Sl.nil rfl
  | true =>
   cases hft:fitsB s.g a.l with
   | false =>
    have e1:addE s.g s.c.g a.l=140:=by simp[addE,hib,hft]
    have e2:addL s.g s.c.g a.l=s.g:=by simp[addL,hib,hft]
    rw[e2] at hws
    simp(disch:=first|assumption|omega|(simp only[zl]<;>omega)|(simp only[zn])) only[↓zd,zk,seval,reduceIte,List.map,AV.cells,List.all,AV.one,eqV,eqAll,splice,fillA,List.replicate,resAll,resA,zm,zg,e1]
    exact go _ [] _ _ _ _ _ _ _ _ _ _ _ _ _ _ _ _ _ _ _ _ hws rfl ⟨i1,i2,i3,i4,i5⟩ Sl.nil rfl
   | true =>
    have e1:addE s.g s.c.g a.l=0:=by simp[addE,hib,hft]
    have e2:addL s.g s.c.g a.l=s.g++a.l:=by simp[addL,hib,hft]
    rw[e2] at hws
    obtain⟨H1,hk1,hkk⟩:=hws
    have g1':=hk1.get g0
    obtain⟨v2,m2,hap,hlv2,hl2,hk2⟩:=lv_push (hlv.kk hkk) (si_kk hv hkk) (by omega) (by omega) hk1.1
    simp(disch:=first|assumption|omega|(simp only[zl]<;>omega)|(simp only[zn])) only[↓zd,zk,seval,reduceIte,List.map,AV.cells,List.all,AV.one,eqV,eqAll,splice,fillA,List.replicate,resAll,resA,zm,zg,e1,g1',g3,evA,hap]
    have gb1:=hkk.2 cb 6 false _ gb (by decide) (by decide)
    exact⟨_,[],_,_,_,_,_,_,_,_,_,_,_,_,_,_,_,_,_,_,_,_,_,rfl,⟨Nat.le_trans hk1.1 hl2,fun k h1=>(hk2 k (Nat.lt_of_lt_of_le h1 hk1.1) (.inr h1)).trans (hk1.2 k h1)⟩,H1.push fun k h1 h2=>hk2 k h1 (.inl h2),rfl,⟨inb_app i1 hib,i2,i3,i4,i5⟩,hlv2,Sl.nil,(hk2 cb (List.getElem?_eq_some_iff.1 gb1).1 (.inl fun l e=>by rw[gb1] at e;cases e)).trans gb1,rfl,by simp⟩
 ·simp(disch:=first|assumption|omega|(simp only[zl]<;>omega)|(simp only[zn])) only[bdSW,bdB,bdLoop,sqN,law15_PoolBounds,↓zd,zk,seval,reduceIte,List.map,AV.cells,List.all,AV.one,eqV,eqAll,splice,fillA,List.replicate,resAll,resA,zm,zg,g0',g2,a226]
  refine OK_fn (wpop_run H hk ⟨b1,b2,b3⟩ a.n) ?_
  rintro v1 m1 ⟨hws,ho⟩
  simp(disch:=first|assumption|omega|(simp only[zl]<;>omega)|(simp only[zn])) only[↓zd,zk,seval,reduceIte,List.map,AV.cells,List.all,AV.one,eqV,eqAll,splice,fillA,List.replicate,resAll,resA,zm,zg]
  exact go _ _ _ _ _ _ _ _ _ _ _ _ _ _ _ _ _ _ _ _ _ _ hws rfl ⟨inb_sub i1 fun y hy=>List.mem_of_mem_drop hy,i2,i3,i4,i5⟩ (own_si ho) (List.take_append_drop _ _).symm
 ·simp(disch:=first|assumption|omega|(simp only[zl]<;>omega)|(simp only[zn])) only[bdSW,bdB,bdLoop,sqN,law15_PoolBounds,↓zd,zk,seval,reduceIte,List.map,AV.cells,List.all,AV.one,eqV,eqAll,splice,fillA,List.replicate,resAll,resA,zm,zg,g0',g2,a227]
  refine OK_fn (wputp_run H hk ⟨b1,b2,b3⟩) ?_
  rintro _ m1 ⟨hws,rfl⟩
  simp(disch:=first|assumption|omega|(simp only[zl]<;>omega)|(simp only[zn])) only[↓zd,zk,seval,reduceIte,List.map,AV.cells,List.all,AV.one,eqV,eqAll,splice,fillA,List.replicate,resAll,resA,zm,zg]
  exact go _ [] _ _ _ _ _ _ _ _ _ _ _ _ _ _ _ _ _ _ _ _ hws rfl ⟨i1,inb_addL i2,i3,i4,i5⟩ Sl.nil rfl
 ·simp(disch:=first|assumption|omega|(simp only[zl]<;>omega)|(simp only[zn])) only[bdSW,bdB,bdLoop,sqN,law15_PoolBounds,↓zd,zk,seval,reduceIte,List.map,AV.cells,List.all,AV.one,eqV,eqAll,splice,fillA,List.replicate,resAll,resA,zm,zg,g0',g2,a228]
  refine OK_fn (wputm_run H hk ⟨b1,b2,b3⟩) ?_
  rintro _ m1 ⟨hws,rfl⟩
  simp(disch:=first|assumption|omega|(simp only[zl]<;>omega)|(simp only[zn])) only[↓zd,zk,seval,reduceIte,List.map,AV.cells,List.all,AV.one,eqV,eqAll,splice,fillA,List.replicate,resAll,resA,zm,zg]
  exact go _ [] _ _ _ _ _ _ _ _ _ _ _ _ _ _ _ _ _ _ _ _ hws rfl ⟨i1,i2,inb_addL i3,i4,i5⟩ Sl.nil rfl
 ·simp(disch:=first|assumption|omega|(simp only[zl]<;>omega)|(simp only[zn])) only[bdSW,bdB,bdLoop,sqN,law15_PoolBounds,↓zd,zk,seval,reduceIte,List.map,AV.cells,List.all,AV.one,eqV,eqAll,splice,fillA,List.replicate,resAll,resA,zm,zg,a229]
  refine OK_fn (wtakep_run H hk ⟨b1,b2,b3⟩) ?_
  rintro _ m1 ⟨hws,rfl⟩
  simp(disch:=first|assumption|omega|(simp only[zl]<;>omega)|(simp only[zn])) only[↓zd,zk,seval,reduceIte,List.map,AV.cells,List.all,AV.one,eqV,eqAll,splice,fillA,List.replicate,resAll,resA,zm,zg]
  exact go _ [] _ _ _ _ _ _ _ _ _ _ _ _ _ _ _ _ _ _ _ _ hws rfl ⟨i1,inb_sub i2 fun y hy=>List.mem_of_mem_tail hy,i3,i4,i5⟩ Sl.nil rfl
 ·simp(disch:=first|assumption|omega|(simp only[zl]<;>omega)|(simp only[zn])) only[bdSW,bdB,bdLoop,sqN,law15_PoolBounds,↓zd,zk,seval,reduceIte,List.map,AV.cells,List.all,AV.one,eqV,eqAll,splice,fillA,List.replicate,resAll,resA,zm,zg,a230]
  refine OK_fn (wtakem_run H hk ⟨b1,b2,b3⟩) ?_
  rintro _ m1 ⟨hws,rfl⟩
  simp(disch:=first|assumption|omega|(simp only[zl]<;>omega)|(simp only[zn])) only[↓zd,zk,seval,reduceIte,List.map,AV.cells,List.all,AV.one,eqV,eqAll,splice,fillA,List.replicate,resAll,resA,zm,zg]
  exact go _ [] _ _ _ _ _ _ _ _ _ _ _ _ _ _ _ _ _ _ _ _ hws rfl ⟨i1,i2,inb_sub i3 fun y hy=>List.mem_of_mem_tail hy,i4,i5⟩ Sl.nil rfl
 ·simp(disch:=first|assumption|omega|(simp only[zl]<;>omega)|(simp only[zn])) only[bdSW,bdB,bdLoop,sqN,law15_PoolBounds,↓zd,zk,seval,reduceIte,List.map,AV.cells,List.all,AV.one,eqV,eqAll,splice,fillA,List.replicate,resAll,resA,zm,zg,a231]
  by_cases he:s.ps=[]∨s.ms=[]
  ·refine OK_fn (wboth_no H he) ?_
   rintro _ m1 ⟨rfl,rfl⟩
   simp(disch:=first|assumption|omega|(simp only[zl]<;>omega)|(simp only[zn])) only[↓zd,zk,seval,reduceIte,List.map,AV.cells,List.all,AV.one,eqV,eqAll,splice,fillA,List.replicate,resAll,resA,zm,zg]
   exact go s [] _ _ _ _ _ _ _ _ _ _ _ _ _ _ _ _ _ _ _ _ ⟨H,hk,KK.refl _⟩ rfl ⟨i1,i2,i3,i4,i5⟩ Sl.nil rfl
  ·obtain⟨x,xs,hps⟩:=List.exists_cons_of_ne_nil (fun h=>he (.inl h))
   obtain⟨y,ys,hms⟩:=List.exists_cons_of_ne_nil (fun h=>he (.inr h))
   refine OK_fn (wboth_run H hk ⟨b1,b2,b3⟩ hps hms) ?_
   rintro _ m1 ⟨hws,rfl⟩
   simp(disch:=first|assumption|omega|(simp only[zl]<;>omega)|(simp only[zn])) only[↓zd,zk,seval,reduceIte,List.map,AV.cells,List.all,AV.one,eqV,eqAll,splice,fillA,List.replicate,resAll,resA,zm,zg]
   exact go _ [] _ _ _ _ _ _ _ _ _ _ _ _ _ _ _ _ _ _ _ _ hws rfl ⟨i1,inb_sub i2 fun z hz=>by rw[hps];exact List.mem_cons_of_mem _ hz,inb_sub i3 fun z hz=>by rw[hms];exact List.mem_cons_of_mem _ hz,i4,i5⟩ Sl.nil rfl
 ·have hbt:=wbatch_eq H (by omega)
  have hln:=wlen_eq H
  obtain⟨c1,c2,c3,c4,c5⟩:=batch_b r1 rq b1
  have e0:decide (batchN s=0)=decide ((s.g.length:Int)=0):=by
   by_cases h:s.g.length=0
   ·rw[decide_eq_true (c4.2 h),decide_eq_true (by omega)]
   ·rw[decide_eq_false (fun e=>h (c4.1 e)),decide_eq_false (by omega)]
  have e1:decide (s.c.q.tdiv 2 < batchN s)=false:=decide_eq_false (by omega)
  have e2:decide ((s.g.length:Int) < batchN s)=false:=decide_eq_false (by omega)
  have e3:decide (batchN s < 0)=false:=decide_eq_false (by omega)
  have hp:popN s.g (batchN s)=(batchN s).toNat:=by unfold popN;omega
  have gb':=gb
  simp only[cfC] at gb'
  simp(disch:=first|assumption|omega|(simp only[zl]<;>omega)|(simp only[zn])) only[bdSW,bdB,bdLoop,sqN,law15_PoolBounds,↓zd,zk,seval,reduceIte,List.map,AV.cells,List.all,AV.one,eqV,eqAll,splice,fillA,List.replicate,resAll,resA,zm,zg,a232,hbt,a233,hln,gb',c5,e0,e1,e2,e3,a226]
  refine OK_fn (wpop_run H hk ⟨b1,b2,b3⟩ (batchN s)) ?_
  rintro v1 m1 ⟨⟨H1,hk1,kk1⟩,ho⟩
  rw[hp] at H1 ho
  have hol:lenA v1=some (batchN s).toNat:=by
   have:=(own_si ho).len
   rw[this,List.length_take,Nat.min_eq_left (by omega)]
  have e4:(((batchN s).toNat:Nat):Int)=batchN s:=Int.toNat_of_nonneg c1
  have g1':=hk1.get g0
  simp(disch:=first|assumption|omega|(simp only[zl]<;>omega)|(simp only[zn])) only[↓zd,zk,seval,reduceIte,List.map,AV.cells,List.all,AV.one,eqV,eqAll,splice,fillA,List.replicate,resAll,resA,zm,zg,ev_len,hol,e4,g1',g2,a234]
  refine OK_fn (waddspin_run H1 hk1 a.n) ?_
  rintro _ m2 ⟨⟨H2,hk2,kk2⟩,rfl⟩
  simp(disch:=first|assumption|omega|(simp only[zl]<;>omega)|(simp only[zn])) only[↓zd,zk,seval,reduceIte,List.map,AV.cells,List.all,AV.one,eqV,eqAll,splice,fillA,List.replicate,resAll,resA,zm,zg]
  obtain⟨s1,s2⟩:=spinN_b (s:={ s with g:=s.g.drop (batchN s).toNat }) a.n (by show 0≤s.c.m;omega)
  exact go _ _ _ _ _ _ _ _ _ _ _ _ _ _ _ _ _ _ _ _ _ _ ⟨H2,hk2,kk1.trans kk2⟩ rfl ⟨inb_sub i1 fun y hy=>List.mem_of_mem_drop hy,i2,i3,s1,s2⟩ (si_kk (own_si ho) kk2) (List.take_append_drop _ _).symm
end Go.Am.F15
end
section
namespace Go.Am.F15
open Go.Am.F10 (iC iC_at iC_len iC_one iC_app SI SI.val same_run Cf cfC rightP right_run Nx si_take si_drop si_row cutA dropA madeC made_eq pick_eq)
open Go.Am.F06 (sqN sqT)
variable {X:Type}
theorem inb_from{a n:Int} (h:0≤a):inbB n (fromL a n)=true:=by
 unfold inbB
 rw[List.all_eq_true]
 intro x hx
 rw[mem_fromL] at hx
 simp;omega
def BdI(m0:Mem X) (c:Cf) (cb p:Nat) (ats:List Act) (a0 a1:AV) (k:Nat) (e:List AV) (m:Mem X):Prop:=∃ (i:Nat) (s:Pc),k=ats.length - i∧i≤ats.length∧Nex m0 c cb p i a0 a1 s e m
set_option maxRecDepth 100000 in
set_option maxHeartbeats 16000000 in
theorem bounds_run{m:Mem X} {c0:Cf} {ats:List Act} {a1:AV} (hA:AS m ats a1):Fn GBd law15_PoolBounds [.agg (cfC c0),a1] m (fun r m'=>r = .bool true∧Keep m m'):=by
 have a222:assoc (GBd (X:=X)) 222=some (amFunc [] law15_few):=rfl
 have a223:assoc (GBd (X:=X)) 223=some (amFunc GWk law15_works):=rfl
 have a133:assoc (GBd (X:=X)) 133=some c_docs_Made:=rfl
 have a224:assoc (GBd (X:=X)) 224=some (amFunc GNw pool_New):=rfl
 have a87:assoc (GBd (X:=X)) 87=some c_kit_Pick:=rfl
 have hT:=@bdT_run X
 have hSW:=@bdSW_run X
 generalize (GBd (X:=X))=G at a222 a223 a133 a224 a87 hT hSW ⊢
 have hmade:∀ M:Mem X,c_docs_Made [.agg (cfC c0)] M=some (.agg (cfC (madeC c0)),M++[.cells 6 false (cfC c0),.cells 6 false (cfC (madeC c0))]):=fun M=>made_eq M c0
 have hr:rightP (madeC c0):=F10.made_right c0
 generalize hc:madeC c0=c at hmade hr
 have k0:=Keep.app m [Chunk.cells 6 false (cfC c0)]
 have hfew:amFunc [] law15_few [a1,.int .i64 60] (m++[Chunk.cells 6 false (cfC c0)])=some (.bool (fewB ats 60),m++[Chunk.cells 6 false (cfC c0)]):=Fn_eq (few_run (hA.keep k0) (most:=60) (by decide))
 simp only[cfC] at hmade hfew
 refine Fn_of rfl ?_
 rw[bd_body]
 cases hf:fewB ats 60 with
 | false =>
  rw[hf] at hfew
  simp(disch:=first|assumption|omega|(simp only[zl]<;>omega)|(simp only[zn])) only[sqN,law15_PoolBounds,↓zd,zk,seval,reduceIte,List.map,AV.cells,List.all,AV.one,eqV,eqAll,splice,fillA,List.replicate,resAll,resA,zm,zg,cfC,a222,hfew,a223]
  refine OK_fn works_run ?_
  rintro _ m1 ⟨rfl,hk1⟩
  simp(disch:=first|assumption|omega|(simp only[zl]<;>omega)|(simp only[zn])) only[↓zd,zk,seval,reduceIte,List.map,AV.cells,List.all,AV.one,eqV,eqAll,splice,fillA,List.replicate,resAll,resA,zm,zg]
  exact k0.trans hk1
 | true =>
  rw[hf] at hfew
  have hall:ats.length≤60∧∀ a ∈ ats,a.l.length≤20:=by
   simp only[fewB,Bool.and_eq_true,decide_eq_true_eq,List.all_eq_true] at hf
   refine⟨hf.2,fun a ha=>?_⟩
   have:=hf.1 a (by rw[List.take_of_length_le (by omega)];exact ha)
   simpa using this
  obtain⟨hal,ha20⟩:=hall
  simp(disch:=first|assumption|omega|(simp only[zl]<;>omega)|(simp only[zn])) only[sqN,law15_PoolBounds,↓zd,zk,seval,reduceIte,List.map,AV.cells,List.all,AV.one,eqV,eqAll,splice,fillA,List.replicate,resAll,resA,zm,zg,cfC,a222,hfew,a133,hmade,a224]
  refine OK_fn (new_run (c:=c) hr) ?_
  rintro _ m1 ⟨p,rfl,hk1,hnp⟩
  have kk1:Keep m m1:=(Keep.app m [_,_,_]).trans hk1
  have gb1:m1[m.length]?=some (.cells 6 false (cfC c)):=by
   refine hk1.get ?_
   simp[cfC]
  have hpick:∀ (M:Mem X) (k:Int),c_kit_Pick [.int .i64 k,.int .i64 8] M=some (.int .i64 (k % 8),M):=fun M k=>pick_eq M k 8 (by decide) (by decide)
  have hlen:=hA.1.len
  simp(disch:=first|assumption|omega|(simp only[zl]<;>omega)|(simp only[zn])) only[↓zd,zk,seval,reduceIte,List.map,AV.cells,List.all,AV.one,eqV,eqAll,splice,fillA,List.replicate,resAll,resA,zm,zg,bdR]
  refine W_loop (BdI m c m.length p ats (.agg (cfC c0)) a1) ats.length (by unfold FUEL;omega) ⟨0,newS c,rfl,Nat.zero_le _,_,_,_,_,_,_,_,_,_,_,_,_,_,_,_,_,_,_,_,_,rfl,kk1,hnp.wp (by simp),rfl,⟨rfl,inb_from (by decide),inb_from (by decide),Int.le_refl _,by show (0:Int)≤c.m;have:=hr.2.2.2.1;have:=hr.1;omega⟩,⟨Sl.nil,.inl rfl⟩,gb1⟩ ?_
  rintro k e m' ⟨i,s,rfl,hi,lv,x7,gv,x9,x10,x11,x12,x13,x14,x15,x16,x17,x18,x19,x20,x21,x22,x23,x24,x25,rfl,hk,H,hsc,hin,hlv,gb⟩
  simp(disch:=first|assumption|omega|(simp only[zl]<;>omega)|(simp only[zn])) only[↓zd,zk,seval,reduceIte,List.map,AV.cells,List.all,AV.one,eqV,eqAll,splice,fillA,List.replicate,resAll,resA,zm,zg,bdC,bdLoop,sqN,law15_PoolBounds,ev_len,hlen]
  refine CW_of (fun h=>?_) (fun h=>?_)
  ·simp only[decide_eq_true_eq] at h
   obtain⟨a,hai⟩:∃ a,ats[i]?=some a:=⟨_,List.getElem?_eq_getElem (by omega)⟩
   obtain⟨q,o,cap,ro,L,rfl,g0,gl,g1,g2,g3⟩:=hA.get hai
   have g0':=hk.get g0
   simp(disch:=first|assumption|omega|(simp only[zl]<;>omega)|(simp only[zn])) only[↓zd,zk,seval,reduceIte,List.map,AV.cells,List.all,AV.one,eqV,eqAll,splice,fillA,List.replicate,resAll,resA,zm,zg,bdB,bdLoop,sqN,law15_PoolBounds,g0',g1,a87,hpick]
   refine W_mono (hSW hr hA hai (ha20 a (List.mem_of_getElem? hai)) (Int.emod_nonneg _ (by decide)) (Int.emod_lt_of_pos _ (by decide)) hk H hsc hin hlv gb) ?_
   rintro y e1 m2 ⟨rfl,s1,got,line,hAft⟩
   rw[thenQ_normal]
   refine W_mono (hT hr hAft) ?_
   rintro y e2 m3 ⟨rfl,lv2,y7,gv2,y9,y10,y11,y12,y13,y14,y15,y16,y17,y18,y19,y20,y21,y22,y23,y24,y25,rfl,hk3,H3,hsc3,hin3,hlv3,gb3⟩
   simp(disch:=first|assumption|omega|(simp only[zl]<;>omega)|(simp only[zn])) only[↓zd,zk,seval,reduceIte,List.map,AV.cells,List.all,AV.one,eqV,eqAll,splice,fillA,List.replicate,resAll,resA,zm,zg,bdI,bdLoop,sqN,law15_PoolBounds]
   exact⟨_,by omega,i+1,s1,rfl,by omega,_,_,_,_,_,_,_,_,_,_,_,_,_,_,_,_,_,_,_,_,rfl,hk3,H3,hsc3,hin3,hlv3,gb3⟩
  ·simp only[decide_eq_false_iff_not] at h
   simp(disch:=first|assumption|omega|(simp only[zl]<;>omega)|(simp only[zn])) only[↓zd,zk,seval,reduceIte,List.map,AV.cells,List.all,AV.one,eqV,eqAll,splice,fillA,List.replicate,resAll,resA,zm,zg,bdEnd,sqT,law15_PoolBounds,a223]
   refine OK_fn works_run ?_
   rintro _ m2 ⟨rfl,hk2⟩
   simp(disch:=first|assumption|omega|(simp only[zl]<;>omega)|(simp only[zn])) only[↓zd,zk,seval,reduceIte,List.map,AV.cells,List.all,AV.one,eqV,eqAll,splice,fillA,List.replicate,resAll,resA,zm,zg]
   exact hk.trans hk2
end Go.Am.F15
end
section
namespace Go.Am.F10
open Go.Am.F06
variable {X:Type}
theorem rows_arg{α:Type} {f:α→List AV} {sz:Nat} (hf:∀ x,(f x).length=sz) {m:Mem X} {i len cap:Nat} (hl:0 < len→∃ l,m[i]?=some (.cells sz true l)∧l.length=len * sz∧∀ k,k < len→∃ x:α,(l.drop (k * sz)).take sz=f x) :
  ∃ ws:List α,Sl m false sz ws.length (ws.flatMap f) (.sl i 0 len (some cap)):=by
 by_cases h0:0 < len
 ·obtain⟨l,h2,h3,h4⟩:=hl h0
  obtain⟨ws,e1,e2⟩:=rows_of hf len h3 h4
  subst e1;subst e2
  have hlen:=rows_len hf ws
  exact⟨ws,hlen,.inr ⟨i,0,some cap,rfl,fun _=>⟨true,_,h2,by rw[List.drop_zero,← hlen,List.take_length],by omega,fun h=>by cases h⟩⟩⟩
 ·have:len=0:=by omega
  subst this
  exact⟨[],by simp,.inr ⟨i,0,some cap,rfl,fun h=>absurd h (Nat.lt_irrefl _)⟩⟩
end Go.Am.F10
end
section
namespace Go.Am.F15
open Go.Am.F10 (iC iC_at iC_len iC_one iC_app SI SI.val rows_arg)
open Go.ChangeShapes Go.WideShapes Go.ChangeAt Go.RowKit
variable {X:Type}
theorem _root_.Go.Am.IsA.sliceAt{P:Program} {m:Mem X} {n:Nat} {t:TypeId} {as:List AV} (h:IsA P m (n+2) t as) {fs:Array Field} (hu:P.underlying t=some (.struct fs)) (j:Nat) {f:Field} (hf:fs[j]?=some f) {e:TypeId} (hk:P.underlying f.type=some (.slice e)) (h1:P.cellsOf f.type=1) :
  ∃ v,as[f.offset]?=some v∧(v = .nils∨∃ i len cap,v = .sl i 0 len (some cap)∧(0 < len→∃ l,m[i]?=some (.cells (P.cellsOf e) true l)∧l.length=len * P.cellsOf e∧∀ k,k < len→IsA P m n e ((l.drop (k * P.cellsOf e)).take (P.cellsOf e)))):=by
 unfold IsA at h;rw[hu] at h
 have:=h.2 j f hf
 unfold IsA at this;rw[hk,h1] at this
 have key:∀ v,(as.drop f.offset).take 1=[v]→as[f.offset]?=some v:=fun v hv=>by
  have:((as.drop f.offset).take 1)[0]?=some v:=by rw[hv];rfl
  simpa using this
 rcases this with h|⟨i,len,cap,h,_,_,_,hl⟩
 ·exact⟨_,key _ h,.inl rfl⟩
 ·exact⟨_,key _ h,.inr ⟨i,len,cap,rfl,hl⟩⟩
end Go.Am.F15
end
