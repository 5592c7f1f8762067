import Derived.Test.YtdfnfmocppgniaaRows
import Derived.Test.YtdfnfmocppgniaaXK14y
import Derived.Test.YtdfnfmocppgniaaXG21
import Derived.Lib.SmallJoins
set_option linter.unusedSimpArgs false
set_option linter.unusedVariables false
namespace Go.Proofs.Ytdfnfmocppgniaa
open Go.Am Go.Joins Go.ChangeShapes Go.WideShapes Go.RowKit Go.Deep Go.ChangeAt
theorem Try.own:ownKnob Try.prog.godebug=none:=by kernel_rfl
theorem Try.laidOut:laidOutB Try.prog=true:=by kernel_rfl
set_option maxRecDepth 100000 in
theorem ints_of{m:Mem Unit} {n:Nat} {a:AV} (h:IsV Try.prog m (n+2) 22 a):∃ xs:List Int,F10.SI m false xs a∧F15.Fit a:=by
 have c3:Try.prog.cellsOf 3=1:=by kernel_rfl
 rcases h.sliceV Try.underlying22 with rfl|⟨i,len,cap,rfl,_,hc,_,hl⟩
 ·exact⟨[],Sl.nil,F15.Fit.nil⟩
 ·rw[c3] at hl
  obtain⟨ys,hy⟩:=F15.ints_arg (m:=m) (i:=i) (len:=len) (cap:=cap) fun h0'=>by
   obtain⟨l',e1,e2,e3⟩:=hl h0'
   refine⟨l',e1,e2,fun k' hk'=>?_⟩
   obtain⟨z,hz,_⟩:=(e3 k' hk').intOf Try.underlying3
   exact⟨z,hz⟩
  exact⟨ys,hy,F15.Fit.sl hc⟩
set_option maxRecDepth 100000 in
theorem acts_of{m:Mem Unit} {n:Nat} {a:AV} (h:IsV Try.prog m (n+4) 43 a):∃ ats:List F15.Act,F15.AS m ats a∧∀ x ∈ ats,F15.Fit x.v:=by
 rcases h.sliceV Try.underlying43 with rfl|⟨i,len,cap,rfl,_,_,_,hl⟩
 ·exact⟨[],⟨Sl.nil,fun a ha=>by cases ha⟩,fun a ha=>by cases ha⟩
 ·have c50:Try.prog.cellsOf 50=3:=by kernel_rfl
  have c3:Try.prog.cellsOf 3=1:=by kernel_rfl
  have c22:Try.prog.cellsOf 22=1:=by kernel_rfl
  rw[c50] at hl
  refine F15.acts_fit fun h0=>?_
  obtain⟨l,h1,h2,h3⟩:=hl h0
  refine⟨l,h1,h2,fun k hk=>?_⟩
  have hr:=h3 k hk
  obtain⟨x,g0,_⟩:=hr.intAt Try.underlying50 0 rfl Try.underlying3 c3
  obtain⟨y,g1,_⟩:=hr.intAt Try.underlying50 1 rfl Try.underlying3 c3
  obtain⟨v,g2,hv⟩:=hr.sliceFit Try.underlying50 2 rfl Try.underlying22 c22
  have hlen:((l.drop (k * 3)).take 3).length=3:=by rw[List.length_take,List.length_drop];omega
  rcases hv with rfl|⟨i',len',cap',rfl,hcp,hl'⟩
  ·exact⟨⟨x,y,[],.nils⟩,F15.act_of hlen g0 g1 g2 [],Sl.nil,F15.Fit.nil⟩
  ·rw[c3] at hl'
   obtain⟨ys,hy⟩:=F15.ints_arg (m:=m) (i:=i') (len:=len') (cap:=cap') fun h0'=>by
    obtain⟨l',e1,e2,e3⟩:=hl' h0'
    refine⟨l',e1,e2,fun k' hk'=>?_⟩
    obtain⟨z,hz,_⟩:=(e3 k' hk').intOf Try.underlying3
    exact⟨z,hz⟩
   exact⟨⟨x,y,ys,.sl i' 0 len' (some cap')⟩,F15.act_of hlen g0 g1 g2 ys,hy,F15.Fit.sl hcp⟩
theorem s_law:S 5 (amFunc F15.GPl14 F14.law14_FifoPlays):=e_plays
set_option maxRecDepth 100000 in
theorem law_run(m:Mem Unit) (vs:List AV) (h:IsVs Try.prog m 4 Try.f5.params.toList vs):∃ m',amFunc F15.GPl14 F14.law14_FifoPlays vs m=some (.bool true,m'):=by
 rw[Try.params5] at h
 obtain⟨a,vs,rfl,ha,b,vs,rfl,hb,c,vs,rfl,hc,rfl⟩:=h
 obtain⟨zs,hs,hS⟩:=ints_of ha
 obtain⟨ats,hA,hF⟩:=acts_of hb
 obtain⟨n,rfl,_⟩:=hc.intV Try.underlying3
 obtain⟨r,m',h1,rfl,_⟩:=F15.plays14_run hs hS hA hF n
 exact⟨m',h1⟩
set_option maxRecDepth 100000 in
theorem fifoPlays_lifted(os:Os) (started:os.Started) (H:Type) (enc:TypeId × Value→H) :
  ReturnsInHanded {} Try.checked os 5 .any (Rows.fifoPlaysSpec.pre6 enc Try.prog Try.f5 Rows.fifoPlaysRow.domain false) (Rows.fifoPlaysSpec.post enc Try.prog Try.f5 false true false false):=by
 refine returnsInHanded_of_change (C:=Try.checked) Try.own started (by kernel_rfl) Try.func5
  (ChangeSpec.witness6 (enc:=enc) (C:=Try.checked) false ⟨#[],#[.slice none 0 0,.slice none 0 0,.int .i64 0],[]⟩ 8 (by kernel_rfl) (by kernel_rfl) (by kernel_rfl) (by kernel_rfl)) ?_
 intro W base args ds gs before hval hW _ _
 exact law_body (tb:=4) 4 s_law rfl (fun ds hl=>by
  rw[Try.params5] at hl
  match ds,hl with
  | [_,_,_],_=>rfl) rfl (by kernel_rfl) Try.laidOut (by rw[Try.params5];kernel_rfl) law_run W base args ds gs before hval hW
theorem fifoPlays_holds:Rows.FifoPlaysSaid :=
 OpenClaim.holds_of_wide 5 Try.f5 rfl rfl rfl rfl rfl rfl rfl ⟨rfl,rfl,rfl,rfl,rfl⟩ rfl rfl rfl rfl rfl (by kernel_rfl) Try.func5 (by kernel_rfl)
  (of_decide_eq_true (by kernel_rfl)) (by unfold Func.isWrapper;first|(rw[if_pos (by decide +kernel)];kernel_rfl)|(rw[if_neg (by decide +kernel)];exact⟨rfl,rfl⟩))
  (fun os started H enc _=>fifoPlays_lifted os started H enc)
#print axioms fifoPlays_holds
end Go.Proofs.Ytdfnfmocppgniaa
