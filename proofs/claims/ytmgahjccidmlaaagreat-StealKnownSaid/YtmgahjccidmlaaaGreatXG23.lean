import Derived.Test.YtmgahjccidmlaaaGreatXG22
set_option linter.unusedSimpArgs false
set_option linter.unusedVariables false
section
namespace Go.Am.F12
open Go.Am.F06 Go.Am.F10 Go.Am.F09 Go.Am.F11
def Gkw:List (Nat × AFun Ob):=[(133,F10.c_docs_Made),(159,F10.c_conf_Config_Word),(265,amFunc F11.Gsp F11.law11_StealPlays),(266,amFunc F11.Gsk F11.law11_StealKeeps),(267,amFunc F11.Gnone F11.law11_StealNone),(268,pureF F11.worksG)]
theorem tns_len(ts:List (Int × Int)):(ts.flatMap tnC).length=ts.length * 2:=rows_len (f:=tnC) (sz:=2) (fun _=>rfl) ts
theorem tn_one(ts:List (Int × Int)):(ts.flatMap tnC).all AV.one=true:=by
 rw[List.all_eq_true]
 intro x hx
 obtain⟨a,_,h⟩:=List.mem_flatMap.1 hx
 simp only[tnC,List.mem_cons,List.not_mem_nil,or_false] at h
 rcases h with rfl|rfl<;>rfl
structure Kn3 (mm:MM) (i:Nat) (bs:List Int) (ps:List Pk) (ts:List (Int × Int)) (b y t:AV) (qb qy qt:Nat):Prop where
 lb:bs.length=i
 lp:ps.length=i
 lt:ts.length=i
 hb:∀ x,x ∈ bs→0≤x∧x < 256
 hp:∀ x,x ∈ ps→W64 x.v
 rb:Rw mm qb i 1 (bs.map (AV.int .u8)) b
 ry:Rw mm qy i 3 (ps.flatMap pkC) y
 rt:Rw mm qt i 2 (ts.flatMap tnC) t
 ne:0 < i→(qb≠qy∧qb≠qt)∧qy≠qt
def kwB:AC:=match sqN 2 law11_StealKnown.body with | .seq _ (.block _ (.loop b))=>b|_=>.skip
def kwC:AC:=match kwB with | .seq c _=>c|_=>.skip
def kwX:AC:=match kwB with | .seq _ (.seq (.block _ r) _)=>r|_=>.skip
def kwI:AC:=match kwB with | .seq _ (.seq _ i)=>i|_=>.skip
def kwL:AC:=sqN 4 kwX
def kwR:AC:=sqT 5 kwX
def kwE:AC:=sqT 3 law11_StealKnown.body
def KwE(m:MM) (c:Cf) (cb n i:Nat) (b y t:AV) (kk:Int) (e:List AV):Prop:=∃ z8 z9 z10:AV,e=[.bool false,.int .i64 kk,.int .i64 n,b,y,t,.ptr cb 0,.int .i64 i,z8,z9,z10]∧0≤kk∧kk < 100003∧m[cb]?=some (.cells 6 false (cfC c))
def KwJ(c:Cf) (cb n:Nat) (k:Nat) (e:List AV) (m:MM):Prop:=∃ (i:Nat) (kk:Int) (bs:List Int) (ps:List Pk) (ts:List (Int × Int)) (b y t:AV) (qb qy qt:Nat),k=60 - i∧i≤60∧KwE m c cb n i b y t kk e∧Kn3 m i bs ps ts b y t qb qy qt
def kw6:List AV:=[.int .i64 0,.int .i64 0,.int .i64 1,.int .i64 1,.int .i64 1,.int .i64 2]
theorem kw6_at{u:Nat} (h:u < 6):∃ z:Int,kw6[u]?=some (.int .i64 z):=by
 rcases (show u=0∨u=1∨u=2∨u=3∨u=4∨u=5 by omega) with rfl|rfl|rfl|rfl|rfl|rfl<;>exact⟨_,rfl⟩
set_option maxHeartbeats 16000000 in
theorem kwL_run{m:MM} {c:Cf} {cb n:Nat} {kk:Int} {z7 z8 z9 z10:AV} (hc:1≤c.n∧c.n≤8) (hq:0≤c.q∧c.q≤64) (hk0:0≤kk) (hk1:kk < 100003) (gc:m[cb]?=some (.cells 6 false (cfC c))) :
  W Gkw kwL (fun x e m'=>x = .normal∧∃ (kk:Int) (bs:List Int) (ps:List Pk) (ts:List (Int × Int)) (b y t:AV) (qb qy qt:Nat),KwE m' c cb n 60 b y t kk e∧Kn3 m' 60 bs ps ts b y t qb qy qt) [.bool false,.int .i64 kk,.int .i64 n,.nils,.nils,.nils,.ptr cb 0,z7,z8,z9,z10] m:=by
 have a159:assoc Gkw 159=some F10.c_conf_Config_Word:=rfl
 generalize Gkw=G at a159 ⊢
 simp(disch:=first|assumption|omega|(simp only[zl]<;>omega)|(simp only[zn])) only[kwL,kwX,kwB,sqN,law11_StealKnown,↓zd,zk,seval,reduceIte,List.map,AV.cells,List.all,AV.one,eqV,eqAll,splice,fillA,List.replicate,resAll,resA,zm,zg]
 refine W_loop (KwJ c cb n) 60 (by simp only[FUEL];omega) ⟨0,kk,[],[],[],.nils,.nils,.nils,0,0,0,rfl,by omega,⟨_,_,_,rfl,hk0,hk1,gc⟩,⟨rfl,rfl,rfl,(fun x h=>by cases h),(fun x h=>by cases h),Rw.nil,Rw.nil,Rw.nil,fun h=>absurd h (Nat.lt_irrefl _)⟩⟩ ?_
 clear hk0 hk1 gc
 rintro k e m ⟨i,kk,bs,ps,ts,b,y,t,qb,qy,qt,rfl,hi,⟨y8,y9,y10,rfl,hk0,hk1,gc⟩,h3⟩
 rcases Nat.lt_or_ge i 60 with hi2|hi2
 ·obtain⟨lb,lp,lt,hb,hp,rb,ry,rt,ne⟩:=h3
  have e6:kk.tmod 6=kk % 6:=Int.tmod_eq_emod_of_nonneg hk0
  have e66:kk.tdiv 6=kk / 6:=Int.tdiv_eq_ediv_of_nonneg hk0
  have e7:kk.tmod 7=kk % 7:=Int.tmod_eq_emod_of_nonneg hk0
  have en:kk.tmod c.n=kk % c.n:=Int.tmod_eq_emod_of_nonneg hk0
  have e77:kk.tdiv 7=kk / 7:=Int.tdiv_eq_ediv_of_nonneg hk0
  have h70:=Int.emod_nonneg kk (b:=7) (by omega)
  have h71:=Int.emod_lt_of_pos kk (b:=7) (by omega)
  have eq1:(kk / 7).tmod (c.q+2)=kk / 7 % (c.q+2):=Int.tmod_eq_emod_of_nonneg (by omega)
  have hq0:=Int.emod_nonneg (kk / 7) (b:=c.q+2) (by omega)
  have hq1:=Int.emod_lt_of_pos (kk / 7) (b:=c.q+2) (by omega)
  have ekk:(kk * 31+7 * (i:Int)+11).tmod 100003=(kk * 31+7 * (i:Int)+11) % 100003:=Int.tmod_eq_emod_of_nonneg (by omega)
  have hm0:=Int.emod_nonneg (kk * 31+7 * (i:Int)+11) (b:=100003) (by omega)
  have hm1:=Int.emod_lt_of_pos (kk * 31+7 * (i:Int)+11) (b:=100003) (by omega)
  have eu:IntKind.u32.wrap (kk % 7)=kk % 7:=by rw[wrap32];omega
  have n0:¬ (c.n=0):=by omega
  have n1:¬ (c.q+2=0):=by omega
  have hwr:=fun m:MM=>word_run (m:=m) c (kk % c.n)
  obtain⟨u,hu⟩:∃ u:Nat,kk % 6=u:=⟨(kk % 6).toNat,by omega⟩
  have hu6:u < 6:=by omega
  obtain⟨zz,hz⟩:=kw6_at hu6
  have old:∀ {q:Nat},(0 < i→q < m.length)→∀ {r:Nat},m.length < r→i=0∨r≠q:=fun hq r hr=>by
   by_cases h:0 < i
   ·have:=hq h;right;omega
   ·left;omega
  obtain⟨b',m1,hap1,rb1,hl1,hf1⟩:=rb.push (x:=[.int .u8 (kk % 256)]) (bytes:=1) (by rw[List.length_map];omega) rfl (u8_one _) rfl (by omega) (by omega)
  have ry1:=ry.keep (m':=m1) (fun h=>hf1 _ (ry.lt h) (.inr (ne h).1.1.symm))
  have rt1:=rt.keep (m':=m1) (fun h=>hf1 _ (rt.lt h) (.inr (ne h).1.2.symm))
  have gc1:m1[cb]?=some (.cells 6 false (cfC c)):=(hf1 _ (List.getElem?_eq_some_iff.1 gc).1 (rb.n6 gc (by decide))).trans gc
  have hb1:=rb1.lt (by omega)
  obtain⟨mK,hmK⟩:∃ mK:MM,mK=m1++[Chunk.cells 6 false (cfC c),.cells 7 false (cfC c++[.int .i64 (kk % c.n)]),.cells 6 false (cfC c)]:=⟨_,rfl⟩
  have kK:Keep m1 mK:=by rw[hmK];exact .app _ _
  have lK:mK.length=m1.length+3:=by rw[hmK];simp
  have rbK:=rb1.keep (m':=mK) (fun _=>kK.2 _ (by omega))
  have ryK:=ry1.keep (m':=mK) (fun h=>kK.2 _ (ry1.lt h))
  have rtK:=rt1.keep (m':=mK) (fun h=>kK.2 _ (rt1.lt h))
  have gcK:=kK.get gc1
  obtain⟨y',m3,hap3,ry3,hl3,hf3⟩:=ryK.push (x:=pkC ⟨decide ((u:Int)=0),addrA c (kk % c.n) 0,kk % 7 * 4294967296+(kk % 7+kk / 7 % (c.q+2))⟩) (bytes:=24) (by rw[pks_len];omega) rfl (pk_one _) rfl (by omega) (by omega)
  have rb3:=rbK.keep (m':=m3) (fun _=>hf3 _ (by omega) (old ry.lt (by omega)))
  have rt3:=rtK.keep (m':=m3) (fun h=>hf3 _ (rtK.lt h) (.inr (ne h).2.symm))
  have gc3:m3[cb]?=some (.cells 6 false (cfC c)):=(hf3 _ (List.getElem?_eq_some_iff.1 gcK).1 (ryK.n6 gcK (by decide))).trans gcK
  have hly3:=ry3.lt (by omega)
  obtain⟨mL,hmL⟩:∃ mL:MM,mL=m3++[Chunk.cells 1 false kw6]:=⟨_,rfl⟩
  have kL:Keep m3 mL:=by rw[hmL];exact .app _ _
  have lL:mL.length=m3.length+1:=by rw[hmL];simp
  have rbL:=rb3.keep (m':=mL) (fun _=>kL.2 _ (by omega))
  have ryL:=ry3.keep (m':=mL) (fun _=>kL.2 _ hly3)
  have rtL:=rt3.keep (m':=mL) (fun h=>kL.2 _ (rt3.lt h))
  have gcL:=kL.get gc3
  obtain⟨t',m4,hap4,rt4,hl4,hf4⟩:=rtL.push (x:=tnC (zz,kk / 6)) (bytes:=16) (by rw[tns_len];omega) rfl (tn_one _) rfl (by omega) (by omega)
  have rb4:=rbL.keep (m':=m4) (fun _=>hf4 _ (by omega) (old rt.lt (by omega)))
  have ry4:=ryL.keep (m':=m4) (fun _=>hf4 _ (by omega) (old rt.lt (by omega)))
  have gc4:m4[cb]?=some (.cells 6 false (cfC c)):=(hf4 _ (List.getElem?_eq_some_iff.1 gcL).1 (by
   rcases rtL with⟨h,_⟩|⟨_,_,h⟩
   ·exact .inl h
   ·exact .inr fun hh=>by rw[hh,h] at gcL;injection gcL with gcL;injection gcL with gcL;cases gcL)).trans gcL
  have o1:=rb.one
  have o3:=ry.one
  have o4:=rt.one
  simp only[AV.one] at o1 o3 o4
  simp only[pkC] at hap3
  simp only[tnC] at hap4
  simp only[kw6] at hz
  subst hmK
  subst hmL
  simp only[kw6,cfC,List.cons_append,List.nil_append,List.append_assoc,List.length_append,List.length_cons,List.length_nil,Nat.zero_add,Nat.reduceAdd] at hwr hap3 hap4 gc gc1
  have gc1':=fun K:MM=>(Keep.app m1 K).get gc1
  simp(disch:=first|assumption|omega|(simp only[zl]<;>omega)|(simp only[zn])) only[↓zd,zk,seval,reduceIte,List.map,AV.cells,List.all,AV.one,eqV,eqAll,splice,fillA,List.replicate,resAll,resA,zm,zg,evA,fillA,repeatL,List.flatten_cons,List.flatten_nil,wrap8,e6,hu,e66,e7,en,e77,eq1,ekk,eu,n0,n1,o1,o3,o4,gc1,gc1',a159,hwr,shl_eq,hap1,hap3,hz,hap4]
  refine⟨60 - (i+1),by omega,i+1,(kk * 31+7 * (i:Int)+11) % 100003,bs++[kk % 256],ps++[⟨decide ((u:Int)=0),addrA c (kk % c.n) 0,kk % 7 * 4294967296+(kk % 7+kk / 7 % (c.q+2))⟩],ts++[(zz,kk / 6)],b',y',t',m.length+1,m1.length+3+1,m3.length+1+1,rfl,by omega,⟨_,_,_,rfl,hm0,hm1,gc4⟩,⟨by simp<;>omega,by simp<;>omega,by simp<;>omega,?_,?_,?_,?_,?_,fun _=>by omega⟩⟩
  ·intro x hx
   rcases List.mem_append.1 hx with h|h
   ·exact hb x h
   ·rw[List.mem_singleton.1 h];omega
  ·intro x hx
   rcases List.mem_append.1 hx with h|h
   ·exact hp x h
   ·rw[List.mem_singleton.1 h];unfold W64;simp only;omega
  ·rw[List.map_append];exact rb4
  ·rw[List.flatMap_append]
   rw[lK] at ry4
   simpa using ry4
  ·rw[List.flatMap_append]
   rw[lL] at rt4
   simpa [tnC] using rt4
 ·simp(disch:=first|assumption|omega|(simp only[zl]<;>omega)|(simp only[zn])) only[↓zd,zk,seval,reduceIte,List.map,AV.cells,List.all,AV.one,eqV,eqAll,splice,fillA,List.replicate,resAll,resA,zm,zg]
  have:i=60:=by omega
  subst this
  exact⟨kk,bs,ps,ts,b,y,t,qb,qy,qt,⟨_,_,_,rfl,hk0,hk1,gc⟩,h3⟩
theorem sb_cut{M:MM} {q:Nat} {bs:List Int} (h:M[q]?=some (.cells 1 false (bs.map (AV.int .u8)))) {o n:Nat} (hn:o+n≤bs.length) (cap:Option Nat):SB M ((bs.drop o).take n) (.sl q o n cap):=by
 have hl:((bs.drop o).take n).length=n:=by rw[List.length_take,List.length_drop];omega
 refine⟨by rw[List.length_map];omega,.inr ⟨q,o,cap,by rw[hl],fun _=>⟨false,_,h,?_,by rw[hl,List.length_map];omega,fun h=>by cases h⟩⟩⟩
 rw[hl,Nat.mul_one,← List.map_drop,← List.map_take]
set_option maxHeartbeats 16000000 in
theorem kwR_run{m:MM} {c:Cf} {cb n:Nat} {kk:Int} {bs:List Int} {ps:List Pk} {ts:List (Int × Int)} {b y t z8 z9 z10:AV} {qb qy qt:Nat} (hn:n < 60) (hc:1≤c.n∧c.n≤8) (gc:m[cb]?=some (.cells 6 false (cfC c))) (h3:Kn3 m 60 bs ps ts b y t qb qy qt) :
  W Gkw kwR (fun x e _=>x = .normal∧(∃ y3 y4 y5 y6 y7 y8 y9 y10:AV,e=[.bool false,.int .i64 kk,.int .i64 n,y3,y4,y5,y6,y7,y8,y9,y10])) [.bool false,.int .i64 kk,.int .i64 n,b,y,t,.ptr cb 0,.int .i64 60,z8,z9,z10] m:=by
 have a265:assoc Gkw 265=some (amFunc F11.Gsp F11.law11_StealPlays):=rfl
 have a266:assoc Gkw 266=some (amFunc F11.Gsk F11.law11_StealKeeps):=rfl
 have a267:assoc Gkw 267=some (amFunc F11.Gnone F11.law11_StealNone):=rfl
 generalize Gkw=G at a265 a266 a267 ⊢
 obtain⟨lb,lp,lt,hb,hp,rb,ry,rt,_⟩:=h3
 rcases rb with⟨h,_⟩|⟨_,rfl,hqb⟩
 ·omega
 have sy:SPk m false ps y:=by rw[← lp] at ry;exact ry.sl (pks_len ps)
 have st:STn m false ts t:=by rw[← lt] at rt;exact rt.sl (tns_len ts)
 have e3:(n:Int).tmod 3=((n % 3:Nat):Int):=by rw[Int.tmod_eq_emod_of_nonneg (by omega)];omega
 have e2:(n:Int).tdiv 2=((n / 2:Nat):Int):=by rw[Int.tdiv_eq_ediv_of_nonneg (by omega)];omega
 have e23:((n / 2:Nat):Int).tmod 3=((n / 2 % 3:Nat):Int):=by rw[Int.tmod_eq_emod_of_nonneg (by omega)];omega
 have e4:(n:Int).tmod 4=((n % 4:Nat):Int):=by rw[Int.tmod_eq_emod_of_nonneg (by omega)];omega
 have n0:¬ (c.n=0):=by omega
 have t20:Int.toNat 20=20:=rfl
 have t40:Int.toNat 40=40:=rfl
 have hbl:(bs.map (AV.int .u8)).length=60:=by rw[List.length_map];exact lb
 have hq':=fun(M:MM) (hM:Keep m M)=>hM.get hqb
 have gc':=fun(M:MM) (hM:Keep m M)=>hM.get gc
 have hbs:∀ (o k:Nat) (x:Int),x ∈ (bs.drop o).take k→0≤x∧x < 256:=fun o k x hx=>hb x (List.mem_of_mem_drop (List.mem_of_mem_take hx))
 have h1:=fun(M:MM) (hM:Keep m M) (p v:Int) (cap:Option Nat)=>splays_run (c:=c) (p:=p) (v:=v) (sb_cut (hq' M hM) (o:=0) (n:=20) (by omega) cap) (hbs _ _) (sy.keep hM) hp
 simp only[cfC,List.cons_append,List.nil_append] at h1 gc gc'
 simp(disch:=first|assumption|omega|(simp only[zl]<;>omega)|(simp only[zn])) only[kwR,sqT,kwX,kwB,sqN,law11_StealKnown,↓zd,zk,seval,reduceIte,List.map,AV.cells,List.all,AV.one,eqV,eqAll,splice,fillA,List.replicate,resAll,resA,zm,zg,gc,e3,e2,e23,evA,sliceA,getC_gcO,Option.getD_none,Option.getD_some,hqb,hbl,t20,t40,Nat.mul_one,a265]
 refine OKT_fn (h1 m (.refl _) _ _ none) ?_
 rintro _ m1 ⟨rfl,k1⟩
 have g1:=gc' m1 k1
 have q1:=hq' m1 k1
 have en:(n:Int).tmod c.n=(n:Int) % c.n:=Int.tmod_eq_emod_of_nonneg (by omega)
 have ew:IntKind.i64.wrap ((n:Int)+1)=(n:Int)+1:=wrapI (by omega) (by omega)
 have en1:((n:Int)+1).tmod c.n=((n:Int)+1) % c.n:=Int.tmod_eq_emod_of_nonneg (by omega)
 have hz:=fun(M:MM) (n:Nat)=>(get_concat:(M++[Chunk.cells 3 false (repeatL n [.bool false,.int .i64 0,.int .u64 0])])[M.length]?=_)
 have h2:=fun(M:MM) (hM:Keep m M) (p v:Int)=>splays_run (c:=c) (p:=p) (v:=v) (sb_cut (hq' _ (hM.trans (Keep.app M [Chunk.cells 3 false (repeatL 40 [.bool false,.int .i64 0,.int .u64 0])]))) (o:=20) (n:=20) (by omega) none) (hbs _ _) (spk_rep (hz M 40)) (rep_w64 40)
 have h5:=fun(M:MM) (hM:Keep m M)=>skeeps_run (c0:=c) (sb_cut (hq' M hM) (o:=40) (n:=20) (by omega) none) (hbs _ _) (st.keep hM)
 have h7:=fun(M:MM) (p:Int)=>F11.none_run M c p
 simp only[cfC,List.cons_append,List.nil_append] at h2 h5 h7
 simp(disch:=first|assumption|omega|(simp only[zl]<;>omega)|(simp only[zn])) only[↓zd,zk,seval,reduceIte,List.map,AV.cells,List.all,AV.one,eqV,eqAll,splice,fillA,List.replicate,resAll,resA,zm,zg,evA,evC,sliceA,getC_gcO,Option.getD_none,Option.getD_some,g1,q1,hbl,t20,t40,Nat.mul_one,n0,en,ew,en1,a265]
 refine OKT_fn (h2 m1 k1 _ _) ?_
 rintro _ m2 ⟨rfl,k2⟩
 have k2':=k1.trans ((Keep.app m1 _).trans k2)
 have g2:=gc' m2 k2'
 have q2:=hq' m2 k2'
 simp(disch:=first|assumption|omega|(simp only[zl]<;>omega)|(simp only[zn])) only[↓zd,zk,seval,reduceIte,List.map,AV.cells,List.all,AV.one,eqV,eqAll,splice,fillA,List.replicate,resAll,resA,zm,zg,evA,sliceA,getC_gcO,Option.getD_none,Option.getD_some,g1,g2,q1,q2,hbl,t20,t40,Nat.mul_one,n0,en,ew,en1,a266]
 refine OKT_fn (h5 m2 k2') ?_
 rintro _ m3 ⟨rfl,k3⟩
 have k3':=k2'.trans k3
 have g3:=gc' m3 k3'
 simp(disch:=first|assumption|omega|(simp only[zl]<;>omega)|(simp only[zn])) only[↓zd,zk,seval,reduceIte,List.map,AV.cells,List.all,AV.one,eqV,eqAll,splice,fillA,List.replicate,resAll,resA,zm,zg,g2,g3,e4,a267]
 refine OKT_fn (h7 _ _) ?_
 rintro _ m4 ⟨rfl,_⟩
 have g1':=fun K=>gc' (m1++K) (k1.trans (Keep.app m1 K))
 have q1':=fun K=>hq' (m1++K) (k1.trans (Keep.app m1 K))
 simp(disch:=first|assumption|omega|(simp only[zl]<;>omega)|(simp only[zn])) only[↓zd,zk,seval,reduceIte,List.map,AV.cells,List.all,AV.one,eqV,eqAll,splice,fillA,List.replicate,resAll,resA,zm,zg,evA,sliceA,getC_gcO,Option.getD_none,Option.getD_some,gc,g1,g1',g2,q1,q1',hbl,t20,t40,Nat.mul_one,n0,en,ew,en1]
 exact⟨_,_,_,_,_,_,_,_,rfl⟩
end Go.Am.F12
end
section
namespace Go.Am.F12
open Go.Am.F06 Go.Am.F10 Go.Am.F09 Go.Am.F11
def kwA:AC:=sqN 0 law11_StealKnown.body
def kwA1:AC:=sqN 1 law11_StealKnown.body
def kwY0:AC:=sqN 0 kwX
def kwY1:AC:=sqN 1 kwX
def kwY2:AC:=sqN 2 kwX
def kwY3:AC:=sqN 3 kwX
theorem sknown_body:law11_StealKnown={ nloc:=11,npar:=0,res:=[.loc 0],body:=.seq kwA (.seq kwA1 (.seq (.seq (.region [⟨.mov,[.c (.int .i64 0)],some 2,none⟩]) (.block 0 (.loop (.seq kwC (.seq (.block 1 (.seq kwY0 (.seq kwY1 (.seq kwY2 (.seq kwY3 (.seq kwL kwR)))))) kwI))))) kwE)) }:=rfl
theorem kwY_run{m:MM} {n:Nat} {kk:Int} {z3 z4 z5 z6 z7 z8 z9 z10:AV} {Q:AX→List AV→MM→Prop} {R:AC} (hn:n < 60)
  (h:∀ (c:Cf) (m':MM) (cb:Nat),(1≤c.n∧c.n≤8)→(0≤c.q∧c.q≤64)→m'[cb]?=some (.cells 6 false (cfC c))→W Gkw R Q [.bool false,.int .i64 kk,.int .i64 n,.nils,.nils,.nils,.ptr cb 0,z7,z8,z9,z10] m') :
  W Gkw (.seq kwY0 (.seq kwY1 (.seq kwY2 (.seq kwY3 R)))) Q [.bool false,.int .i64 kk,.int .i64 n,z3,z4,z5,z6,z7,z8,z9,z10] m:=by
 have a133:assoc Gkw 133=some F10.c_docs_Made:=rfl
 generalize Gkw=G at a133 h ⊢
 have e3:(n:Int).tdiv 3=(n:Int) / 3:=Int.tdiv_eq_ediv_of_nonneg (by omega)
 have e5:(n:Int).tdiv 5=(n:Int) / 5:=Int.tdiv_eq_ediv_of_nonneg (by omega)
 have w1:IntKind.i64.wrap (1+(n:Int))=1+(n:Int):=wrapI (by omega) (by omega)
 have w3:IntKind.i64.wrap ((n:Int) / 3)=(n:Int) / 3:=wrapI (by omega) (by omega)
 have w5:IntKind.i64.wrap ((n:Int) / 5)=(n:Int) / 5:=wrapI (by omega) (by omega)
 have fmade:=fun m:MM=>made_eq m ⟨1+n,(n:Int) / 3,5,(n:Int) / 5,3,0⟩
 have hri:=made_right ⟨1+n,(n:Int) / 3,5,(n:Int) / 5,3,0⟩
 generalize madeC ⟨1+n,(n:Int) / 3,5,(n:Int) / 5,3,0⟩=c at fmade hri
 have hh:=fun m' cb=>h c m' cb
 clear h
 simp only[cfC] at fmade hh
 simp(disch:=first|assumption|omega|(simp only[zl]<;>omega)|(simp only[zn])) only[kwY0,kwY1,kwY2,kwY3,kwX,kwB,sqN,law11_StealKnown,↓zd,zk,seval,reduceIte,List.map,AV.cells,List.all,AV.one,eqV,eqAll,splice,fillA,List.replicate,resAll,resA,zm,zg,e3,e5,w1,w3,w5,a133,fmade]
 unfold rightP roomP at hri
 refine hh _ _ ⟨by omega,by omega⟩ ⟨by omega,by omega⟩ ?_
 exact get_mid
def KwI9(k:Nat) (e:List AV):Prop:=∃ (n:Nat) (kk:Int) (y3 y4 y5 y6 y7 y8 y9 y10:AV),e=[.bool false,.int .i64 kk,.int .i64 n,y3,y4,y5,y6,y7,y8,y9,y10]∧k=60 - n∧n≤60∧0≤kk∧kk < 100003
theorem sknown_run{m0:MM}:Fn Gkw law11_StealKnown [] m0 (fun r _=>r = .bool true):=by
 refine Fn_of rfl ?_
 rw[sknown_body]
 simp only[List.nil_append]
 have a268:assoc Gkw 268=some (pureF F11.worksG):=rfl
 have a265:assoc Gkw 265=some (amFunc F11.Gsp F11.law11_StealPlays):=rfl
 simp(disch:=first|assumption|omega|(simp only[zl]<;>omega)|(simp only[zn])) only[kwA,kwA1,sqN,law11_StealKnown,↓zd,zk,seval,reduceIte,List.map,AV.cells,List.all,AV.one,eqV,eqAll,splice,fillA,List.replicate,resAll,resA,zm,zg]
 refine W_loop (fun k e _=>KwI9 k e) 60 (by simp only[FUEL];omega) ⟨0,1,_,_,_,_,_,_,_,_,rfl,rfl,by omega,by omega,by omega⟩ ?_
 rintro k e mm ⟨n,kk,y3,y4,y5,y6,y7,y8,y9,y10,rfl,rfl,hn,hk0,hk1⟩
 rcases Nat.lt_or_ge n 60 with hn6|hn6
 ·simp(disch:=first|assumption|omega|(simp only[zl]<;>omega)|(simp only[zn])) only[kwC,kwB,sqN,law11_StealKnown,↓zd,zk,seval,reduceIte,List.map,AV.cells,List.all,AV.one,eqV,eqAll,splice,fillA,List.replicate,resAll,resA,zm,zg]
  rw[← (evW Gkw).2.1]
  refine kwY_run hn6 fun c m1 cb hc hq gc=>?_
  refine W_seq (W_mono (kwL_run hc hq hk0 hk1 gc) ?_)
  rintro _ e m2 ⟨rfl,kk2,bs,ps,ts,b,y,t,qb,qy,qt,⟨z8,z9,z10,rfl,hk20,hk21,gc2⟩,h3⟩
  refine W_mono (kwR_run hn6 hc gc2 h3) ?_
  rintro _ e m4 ⟨rfl,u3,u4,u5,u6,u7,u8,u9,u10,rfl⟩
  simp(disch:=first|assumption|omega|(simp only[zl]<;>omega)|(simp only[zn])) only[kwI,kwB,sqN,law11_StealKnown,↓zd,zk,seval,reduceIte,List.map,AV.cells,List.all,AV.one,eqV,eqAll,splice,fillA,List.replicate,resAll,resA,zm,zg]
  exact⟨60 - (n+1),by omega,n+1,kk2,_,_,_,_,_,_,_,_,rfl,rfl,by omega,hk20,hk21⟩
 ·have t3:Int.toNat 3=3:=rfl
  simp(disch:=first|assumption|omega|(simp only[zl]<;>omega)|(simp only[zn])) only[kwC,kwE,kwB,sqN,sqT,law11_StealKnown,↓zd,zk,seval,reduceIte,List.map,AV.cells,List.all,AV.one,eqV,eqAll,splice,fillA,List.replicate,resAll,resA,zm,zg,evC,t3,a265]
  have hz:=fun(M:MM) (n:Nat)=>(get_concat:(M++[Chunk.cells 3 false (repeatL n [.bool false,.int .i64 0,.int .u64 0])])[M.length]?=_)
  have h1:=splays_run (m0:=mm++[Chunk.cells 3 false (repeatL 3 [.bool false,.int .i64 0,.int .u64 0])]) (c:=⟨0,0,0,0,0,0⟩) (p:=0) (v:=1) (bs:=[]) (bv:=.nils) Sl.nil (fun x h=>by cases h) (spk_rep (hz mm 3)) (rep_w64 3)
  simp only[cfC] at h1
  refine OK_fn h1 ?_
  rintro _ m1 ⟨rfl,_⟩
  simp(disch:=first|assumption|omega|(simp only[zl]<;>omega)|(simp only[zn])) only[↓zd,zk,seval,reduceIte,List.map,AV.cells,List.all,AV.one,eqV,eqAll,splice,fillA,List.replicate,resAll,resA,zm,zg,a268,pureF,F11.worksG]
end Go.Am.F12
end
