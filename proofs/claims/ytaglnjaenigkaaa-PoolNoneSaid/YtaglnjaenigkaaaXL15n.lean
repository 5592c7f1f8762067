import Derived.Test.YtaglnjaenigkaaaRows
import Derived.Test.YtaglnjaenigkaaaXK15n
import Derived.Lib.SmallJoins
set_option linter.unusedSimpArgs false
set_option linter.unusedVariables false
namespace Go.Proofs.Ytaglnjaenigkaaa
open Go.Am Go.Joins Go.ChangeShapes Go.WideShapes Go.RowKit Go.Deep Go.ChangeAt
theorem Try.own:ownKnob Try.prog.godebug=none:=by kernel_rfl
theorem Try.laidOut:laidOutB Try.prog=true:=by kernel_rfl
theorem s_law:S 5 (amFunc F15.GNo F15.law15_PoolNone):=e_none
set_option maxRecDepth 100000 in
theorem law_run(m:Mem Unit) (vs:List AV) (h:IsVs Try.prog m 4 Try.f5.params.toList vs):∃ m',amFunc F15.GNo F15.law15_PoolNone vs m=some (.bool true,m'):=by
 rw[Try.params5] at h
 obtain⟨a,vs,rfl,ha,rfl⟩:=h
 obtain⟨n,rfl,_⟩:=ha.intV Try.underlying3
 obtain⟨r,m',h1,rfl,_⟩:=F15.none_run (m:=m) n
 exact⟨m',h1⟩
set_option maxRecDepth 100000 in
theorem poolNone_lifted(os:Os) (started:os.Started) (H:Type) (enc:TypeId × Value→H) :
  ReturnsInHanded {} Try.checked os 5 .any (Rows.poolNoneSpec.pre6 enc Try.prog Try.f5 Rows.poolNoneRow.domain false) (Rows.poolNoneSpec.post enc Try.prog Try.f5 false true false false):=by
 refine returnsInHanded_of_change (C:=Try.checked) Try.own started (by kernel_rfl) Try.func5
  (ChangeSpec.witness6 (enc:=enc) (C:=Try.checked) false ⟨#[],#[.int .i64 0],[]⟩ 8 (by kernel_rfl) (by kernel_rfl) (by kernel_rfl) (by kernel_rfl)) ?_
 intro W base args ds gs before hval hW _ _
 exact law_body (tb:=4) 4 s_law rfl (fun ds hl=>by
  rw[Try.params5] at hl
  match ds,hl with
  | [_],_=>rfl) rfl (by kernel_rfl) Try.laidOut (by rw[Try.params5];kernel_rfl) law_run W base args ds gs before hval hW
theorem poolNone_holds:Rows.PoolNoneSaid :=
 OpenClaim.holds_of_wide 5 Try.f5 rfl rfl rfl rfl rfl rfl rfl ⟨rfl,rfl,rfl,rfl,rfl⟩ rfl rfl rfl rfl rfl (by kernel_rfl) Try.func5 (by kernel_rfl)
  (of_decide_eq_true (by kernel_rfl)) (by unfold Func.isWrapper;first|(rw[if_pos (by decide +kernel)];kernel_rfl)|(rw[if_neg (by decide +kernel)];exact⟨rfl,rfl⟩))
  (fun os started H enc _=>poolNone_lifted os started H enc)
#print axioms poolNone_holds
end Go.Proofs.Ytaglnjaenigkaaa
