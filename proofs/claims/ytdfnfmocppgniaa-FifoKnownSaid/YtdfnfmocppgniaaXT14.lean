import Derived.Test.YtdfnfmocppgniaaXR14
set_option linter.unusedSimpArgs false
set_option linter.unusedVariables false
namespace Go.Proofs.Ytdfnfmocppgniaa
open Go Go.Am Go.Am.F15 Go.RowKit Go.Shelf
attribute [local go_sem] Oper.semAt_some
theorem info3:(Try.prog.info? 3).map (fun i=>(i.zero,i.size,i.bytes))=some (some (.int .i64 0),1,8):=by kernel_rfl
theorem und22:Try.prog.underlying 22=some (.slice 3):=by kernel_rfl
set_option maxRecDepth 100000 in
set_option maxHeartbeats 2000000 in
theorem append_in{F0:Nat→Prop} {μ:Mu} {m:Mem Unit} {w:World} (hS:Sim A0 num F0 μ m w.heap) {b z:Nat} {ro:Bool} {pb:Pl} {fp:AV} {xs:List Int} (hpb:μ b=some pb) (hb:m[b]?=some (.cells z ro [fp])) (hrow:lineRows m fp=some xs) (hlen:xs.length≤1000000) :
  CallsIn Fence.wide 5 Try.prog 36 #[.slice none 0 0,.func (.func 37) #[] #[.pointer (some ⟨pb.c,pb.s+0,none⟩)]] w fun e W'=>∃ v,e = .returned v∧W'.ownsRow w.heap.size 3 1 v xs.length (xs.map (Value.int .i64))∧(xs=[]→v = .slice none 0 0)∧Below w.heap.size w W':=by
 obtain⟨i0,hi,hz0,hz1,hz2⟩:=info_parts info3
 refine callsIn_of_wp_marks Try.func36 rfl trivial ?_ rfl
 simp only[Try.ntmps36,List.size_toArray,List.length_cons,List.length_nil,Nat.reduceAdd,Nat.reduceSub,Array.replicate_succ,Array.replicate_zero,List.push_toArray,List.append_toArray,List.nil_append,List.cons_append]
 gi_wp2
 have bO:=Boxed.new w 22 (.slice none 0 0)
 have hB0:Below w.heap.size w (w.alloc (.cells #[.slice none 0 0] 22)):=(Below.refl _ w).alloc (Nat.le_refl _) _
 refine wpIn_rangeFunc_ownG rfl (by decide) (gf:=37) (lb:=#[.pointer (some ⟨pb.c,pb.s+0,none⟩)]) rfl trivial (enters_of Try.func37 (by kernel_rfl) rfl)
  (each_stops hS hpb hb hrow (by unfold FUEL;omega) 4) belowK_t (belowK_b (by simp)) hB0 (fun _=>rfl)
  (fun pre W=>(∃ v,Boxed W w.heap.size 22 v∧W.ownsRow w.heap.size 3 1 v pre.length (pre.map (Value.int .i64))∧(pre=[]→v = .slice none 0 0))∧Below w.heap.size w W)
  (fun _ _ _=>False)
  (OwnFrom.and (Own.from (holdsRow_own w.heap.size w.heap.size 22 3 1 (fun pre:List Int=>pre.length) (fun pre:List Int=>pre.map (Value.int .i64)) (fun pre v=>pre=[]→v = .slice none 0 0)) _) (ownFrom_below (Nat.le_refl _) (by simp)))
  (fun _ _ _ _ _ hs _ _=>hs)
  ⟨⟨_,bO,World.ownsRow_nil _ _ _ _,fun _=>rfl⟩,hB0⟩
  (fun x=>{ tmps:=#[.slice none 0 0,.func (.func 37) #[] #[.pointer (some ⟨pb.c,pb.s+0,none⟩)],.pointer (some ⟨w.heap.size,0,none⟩),undef,.slice none 0 0,.int .i64 x,.func (.func 37) #[] #[.pointer (some ⟨pb.c,pb.s+0,none⟩)],.int .i64 x,undef,undef,undef,undef,undef],defers:=[] }) ?assign ?body ?done ?stop
 case assign =>
  intro l x W K hK
  gi_wp2
  exact hK
 case body =>
  rintro l pre x W ⟨⟨v,hv,hrow,_⟩,hB⟩ hlt
  have hc:=hv.cell
  gi_wp2_with (gi_at_builtin;refine wpListIn_append_own _ rfl _ _ 22 rfl w.heap.size 3 i0 (.int .i64 0) 1 8 und22 hi hz0 hz1 hz2 rfl (by decide) _ _ _ rfl (hrow.alloc _) ⟨W.heap.size,0,none⟩ 1 1 [.int .i64 x] rfl rfl (cell_one_new _ _ _) (by simp[Value.oneCell']) (by unfold maxLen;omega) (by omega) (by have:=hB.size;simp;omega) ?_;intro v' w1 hown' hgrow _;obtain⟨g',cap',rfl⟩:=ownsRow_succ hown';obtain⟨hv1,hv2,hr2,hk2,hb2⟩:=hv.appended (by decide) hrow hB.size (Nat.le_refl _) hown' hgrow;have hc1:=hv1.cell;have hf1:=hv1.frozen)
  exact⟨hk2.from _,hb2,⟨_,hv2,by simpa using hr2,by simp⟩,hB.trans hb2⟩
 case done =>
  rintro D ys W hD rfl ⟨⟨v,hv,hrow,hnil⟩,hB⟩ hK
  have hc:=hv.cell
  gi_wp2
  refine⟨by simp,.inl ⟨_,_,rfl,run_takeDeferred hK,?_⟩⟩
  exact⟨_,results_tmp rfl _ _ _,v,rfl,ownsRow_putObj hrow _ hK rfl,hnil,hB.trans (belowK_b (w:=w) (Nat.le_refl _) W D _ _ (by simp at hD;omega) hK rfl rfl)⟩
 case stop =>
  rintro D c pre W _ _ h _
  exact h.elim
theorem s_slices_AppendSeq_int:S 36 (appendF 131):=by
 intro F μ m w args vs v m' hS hV h
 unfold appendF at h
 split at h
 case h_2=>cases h
 rename_i f b
 split at h
 case isFalse=>cases h
 rename_i hf
 subst hf
 split at h
 case h_2=>cases h
 rename_i z ro fp hb
 obtain⟨v1,vs1,rfl,r1,hV⟩:=hV.cons_inv
 obtain⟨v2,vs2,rfl,r2,hV⟩:=hV.cons_inv
 obtain rfl:=hV.nil_inv
 obtain rfl:=r1.nils_inv
 obtain⟨pb,hpb,rfl⟩:∃ pb,μ b=some pb∧v2 = .func (.func 37) #[] #[.pointer (some ⟨pb.c,pb.s+0,none⟩)]:=by
  obtain⟨cs,ds,rfl,k1,k2⟩:=r2.fn_inv
  obtain⟨d,ds',e1,r3,k3⟩:=k2.cons_inv
  have e2:=k3.nil_inv
  obtain⟨p,hp,rfl⟩:=r3.ptr_inv
  have e3:=k1.nil_inv
  refine⟨p,hp,?_⟩
  have h1:cs=#[]:=by rw[← Array.toArray_toList (xs:=cs),e3]
  have h2:ds=#[.pointer (some ⟨p.c,p.s+0,none⟩)]:=by rw[← Array.toArray_toList (xs:=ds),e1,e2]
  rw[h1,h2];rfl
 have fin:∀ xs,lineRows m fp=some xs→xs.length≤1000000→((xs=[]∧v = .nils∧m'=m)∨(xs≠[]∧v = .sl m.length 0 xs.length none∧m'=m++[.cells 1 false (xs.map (AV.int .i64))])) →
   Calls Try.prog 36 [Value.slice none 0 0,.func (.func 37) #[] #[.pointer (some ⟨pb.c,pb.s+0,none⟩)]].toArray w fun e w'=>∃ F' μ' cv,e = .returned cv∧VR num μ' v cv∧Sim A0 num F' μ' m' w'.heap∧Ext m.length F μ w F' μ' w':=by
  intro xs hrow hlen hvm
  refine callsIn_wide.1 ((append_in hS hpb hb hrow hlen).mono ?_)
  rintro e W' ⟨cv,rfl,hown,hnil,hB⟩
  rcases hvm with⟨rfl,rfl,rfl⟩|⟨hne,rfl,rfl⟩
  ·refine⟨F,μ,cv,rfl,?_,hS.keptAll hB.size hB.block,⟨fun _ _=>rfl,fun _ h=>.inl h,hB.size,fun c hc _=>hB.block c hc,hB.os,hB.tape,hB.output⟩⟩
   rw[hnil rfl];exact .nils
  ·rcases hown.2 with⟨rfl,h0⟩|⟨g,cap,cur,rfl,hg,hgb,hn,hcap,hcs,ht⟩
   ·exact absurd (List.eq_nil_of_length_eq_zero h0) hne
   obtain⟨F',μ',g1,g2,g3⟩:=hS.addRow hB hg hgb (l:=xs.map (AV.int .i64)) (by rw[List.length_map,hcs];omega) (fun o a ha=>by
    rw[List.getElem?_map,Option.map_eq_some_iff] at ha
    obtain⟨x,hx,rfl⟩:=ha
    refine⟨.int .i64 x,?_,.int _ _⟩
    have hol:o < xs.length:=(List.getElem?_eq_some_iff.1 hx).1
    have:(cur.toList.take (xs.length * 1))[o]?=some (.int .i64 x):=by rw[ht,List.getElem?_map,hx];rfl
    rw[List.getElem?_take,if_pos (by omega)] at this
    simpa using this)
   refine⟨F',μ',_,rfl,?_,g1,g2⟩
   have:=VR.slu (num:=num) (o:=0) (len:=xs.length) (cap:=cap) g3 hn (by show 0+cap * 1≤cur.size;omega)
   simpa using this
 split at h
 ·rename_i hrow
  simp only[Option.some.injEq,Prod.mk.injEq] at h
  exact fin [] hrow (by simp) (.inl ⟨rfl,h.1.symm,h.2.symm⟩)
 ·rename_i x xs hrow
  split at h
  ·rename_i hl
   simp only[Option.some.injEq,Prod.mk.injEq] at h
   exact fin (x :: xs) hrow (by simp;omega) (.inr ⟨by simp,h.1.symm,h.2.symm⟩)
  ·cases h
 ·cases h
theorem m_slices_AppendSeq_int:Mono (F14.c_slices_AppendSeq_int (X:=Unit)):=appendF_mono 131
end Go.Proofs.Ytdfnfmocppgniaa
