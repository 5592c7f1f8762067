import Derived.Test.YtdfnfmocppgniaaRows
import Derived.Test.YtdfnfmocppgniaaXK14f
import Derived.Test.YtdfnfmocppgniaaXG19
import Derived.Lib.SmallJoins
set_option linter.unusedSimpArgs false
set_option linter.unusedVariables false
namespace Go.Proofs.Ytdfnfmocppgniaa
open Go.Am Go.Joins Go.ChangeShapes Go.WideShapes Go.RowKit Go.Deep Go.ChangeAt
theorem Try.own:ownKnob Try.prog.godebug=none:=by kernel_rfl
theorem Try.laidOut:laidOutB Try.prog=true:=by kernel_rfl
set_option maxRecDepth 100000 in
theorem ints_of{m:Mem Unit} {n:Nat} {a:AV} (h:IsV Try.prog m (n+2) 22 a):∃ xs:List Int,F10.SI m false xs a∧F15.Fit a:=by
 have c3:Try.prog.cellsOf 3=1:=by kernel_rfl
 rcases h.sliceV Try.underlying22 with rfl|⟨i,len,cap,rfl,_,hc,_,hl⟩
 ·exact⟨[],Sl.nil,F15.Fit.nil⟩
 ·rw[c3] at hl
  obtain⟨ys,hy⟩:=F15.ints_arg (m:=m) (i:=i) (len:=len) (cap:=cap) fun h0'=>by
   obtain⟨l',e1,e2,e3⟩:=hl h0'
   refine⟨l',e1,e2,fun k' hk'=>?_⟩
   obtain⟨z,hz,_⟩:=(e3 k' hk').intOf Try.underlying3
   exact⟨z,hz⟩
  exact⟨ys,hy,F15.Fit.sl hc⟩
theorem s_law:S 3 (amFunc F15.GFf F14.law14_FifoFirst):=e_first
theorem law_run(m:Mem Unit) (vs:List AV) (h:IsVs Try.prog m 4 Try.f3.params.toList vs):∃ m',amFunc F15.GFf F14.law14_FifoFirst vs m=some (.bool true,m'):=by
 rw[Try.params3] at h
 obtain⟨a,vs,rfl,ha,rfl⟩:=h
 obtain⟨xs,hs,_⟩:=ints_of ha
 obtain⟨r,m',h1,rfl,_⟩:=F15.first14_run hs
 exact⟨m',h1⟩
set_option maxRecDepth 100000 in
theorem fifoFirst_lifted(os:Os) (started:os.Started) (H:Type) (enc:TypeId × Value→H) :
  ReturnsInHanded {} Try.checked os 3 .any (Rows.fifoFirstSpec.pre6 enc Try.prog Try.f3 Rows.fifoFirstRow.domain false) (Rows.fifoFirstSpec.post enc Try.prog Try.f3 false true false false):=by
 refine returnsInHanded_of_change (C:=Try.checked) Try.own started (by kernel_rfl) Try.func3
  (ChangeSpec.witness6 (enc:=enc) (C:=Try.checked) false ⟨#[],#[.slice none 0 0],[]⟩ 8 (by kernel_rfl) (by kernel_rfl) (by kernel_rfl) (by kernel_rfl)) ?_
 intro W base args ds gs before hval hW _ _
 exact law_body (tb:=4) 4 s_law rfl (fun ds hl=>by
  rw[Try.params3] at hl
  match ds,hl with
  | [_],_=>rfl) rfl (by kernel_rfl) Try.laidOut (by rw[Try.params3];kernel_rfl) law_run W base args ds gs before hval hW
theorem fifoFirst_holds:Rows.FifoFirstSaid :=
 OpenClaim.holds_of_wide 3 Try.f3 rfl rfl rfl rfl rfl rfl rfl ⟨rfl,rfl,rfl,rfl,rfl⟩ rfl rfl rfl rfl rfl (by kernel_rfl) Try.func3 (by kernel_rfl)
  (of_decide_eq_true (by kernel_rfl)) (by unfold Func.isWrapper;first|(rw[if_pos (by decide +kernel)];kernel_rfl)|(rw[if_neg (by decide +kernel)];exact⟨rfl,rfl⟩))
  (fun os started H enc _=>fifoFirst_lifted os started H enc)
#print axioms fifoFirst_holds
end Go.Proofs.Ytdfnfmocppgniaa
