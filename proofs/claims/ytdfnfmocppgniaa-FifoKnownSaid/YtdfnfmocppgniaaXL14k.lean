import Derived.Test.YtdfnfmocppgniaaRows
import Derived.Test.YtdfnfmocppgniaaXK14k
import Derived.Lib.SmallJoins
set_option linter.unusedSimpArgs false
set_option linter.unusedVariables false
namespace Go.Proofs.Ytdfnfmocppgniaa
open Go.Am Go.Joins Go.ChangeShapes Go.WideShapes Go.RowKit Go.Deep Go.ChangeAt
theorem Try.own:ownKnob Try.prog.godebug=none:=by kernel_rfl
theorem Try.laidOut:laidOutB Try.prog=true:=by kernel_rfl
theorem s_law:S 6 (amFunc F15.GKn14 F14.law14_FifoKnown):=e_known
theorem law_run(m:Mem Unit) (vs:List AV) (h:IsVs Try.prog m 4 Try.f6.params.toList vs):∃ m',amFunc F15.GKn14 F14.law14_FifoKnown vs m=some (.bool true,m'):=by
 rw[Try.params6] at h
 obtain rfl:=h
 obtain⟨r,m',h1,rfl,_⟩:=F15.fknown_run (m:=m)
 exact⟨m',h1⟩
set_option maxRecDepth 100000 in
theorem fifoKnown_lifted(os:Os) (started:os.Started) (H:Type) (enc:TypeId × Value→H) :
  ReturnsInHanded {} Try.checked os 6 .any (Rows.fifoKnownSpec.pre6 enc Try.prog Try.f6 Rows.fifoKnownRow.domain false) (Rows.fifoKnownSpec.post enc Try.prog Try.f6 false true false false):=by
 refine returnsInHanded_of_change (C:=Try.checked) Try.own started (by kernel_rfl) Try.func6
  (ChangeSpec.witness6 (enc:=enc) (C:=Try.checked) false ⟨#[],#[],[]⟩ 8 (by kernel_rfl) (by kernel_rfl) (by kernel_rfl) (by kernel_rfl)) ?_
 intro W base args ds gs before hval hW _ _
 exact law_body (tb:=4) 4 s_law rfl (fun ds hl=>by
  rw[Try.params6] at hl
  match ds,hl with
  | [],_=>rfl) rfl (by kernel_rfl) Try.laidOut (by rw[Try.params6];kernel_rfl) law_run W base args ds gs before hval hW
theorem fifoKnown_holds:Rows.FifoKnownSaid :=
 OpenClaim.holds_of_wide 6 Try.f6 rfl rfl rfl rfl rfl rfl rfl ⟨rfl,rfl,rfl,rfl,rfl⟩ rfl rfl rfl rfl rfl (by kernel_rfl) Try.func6 (by kernel_rfl)
  (of_decide_eq_true (by kernel_rfl)) (by unfold Func.isWrapper;first|(rw[if_pos (by decide +kernel)];kernel_rfl)|(rw[if_neg (by decide +kernel)];exact⟨rfl,rfl⟩))
  (fun os started H enc _=>fifoKnown_lifted os started H enc)
#print axioms fifoKnown_holds
end Go.Proofs.Ytdfnfmocppgniaa
