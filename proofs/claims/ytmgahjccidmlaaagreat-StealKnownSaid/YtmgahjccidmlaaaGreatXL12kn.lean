import Derived.Test.YtmgahjccidmlaaaGreatRows
import Derived.Test.YtmgahjccidmlaaaGreatXK12n
import Derived.Lib.SmallJoins
set_option linter.unusedSimpArgs false
set_option linter.unusedVariables false
namespace Go.Proofs.YtmgahjccidmlaaaGreat
open Go.Am Go.Joins Go.ChangeShapes Go.WideShapes Go.RowKit Go.Deep Go.ChangeAt
theorem Tryz.own:ownKnob Tryz.prog.godebug=none:=by kernel_rfl
theorem Tryz.laidOut:laidOutB Tryz.prog=true:=by kernel_rfl
theorem s_law:S 3 (amFunc F12.Gkw F12.law11_StealKnown):=e_known
theorem known_any(m:Mem Ob):∃ m',amFunc F12.Gkw F12.law11_StealKnown [] m=some (.bool true,m'):=by
 obtain⟨r,m',h1,rfl⟩:=F12.sknown_run (m0:=m)
 exact⟨m',h1⟩
theorem law_run(m:Mem Ob) (vs:List AV) (h:IsVs Tryz.prog m 4 Tryz.f3.params.toList vs):∃ m',amFunc F12.Gkw F12.law11_StealKnown vs m=some (.bool true,m'):=by
 rw[Tryz.params3] at h
 have h:vs=[]:=h
 subst h
 exact known_any m
set_option maxRecDepth 100000 in
theorem stealKnown_lifted(os:Os) (started:os.Started) (H:Type) (enc:TypeId × Value→H) :
  ReturnsInHanded {} Tryz.checked os 3 .any (Rows.stealKnownSpec.pre6 enc Tryz.prog Tryz.f3 Rows.stealKnownRow.domain false) (Rows.stealKnownSpec.post enc Tryz.prog Tryz.f3 false true false false):=by
 refine returnsInHanded_of_change (C:=Tryz.checked) Tryz.own started (by kernel_rfl) Tryz.func3
  (ChangeSpec.witness6 (enc:=enc) (C:=Tryz.checked) false ⟨#[],#[],[]⟩ 8 (by kernel_rfl) (by kernel_rfl) (by kernel_rfl) (by kernel_rfl)) ?_
 intro W base args ds gs before hval hW _ _
 exact law_body (tb:=4) 4 s_law rfl (fun ds hl=>by
  rw[Tryz.params3] at hl
  match ds,hl with
  | [],_=>rfl) rfl (by kernel_rfl) Tryz.laidOut (by rw[Tryz.params3];kernel_rfl) law_run W base args ds gs before hval hW
theorem stealKnown_holds:Rows.StealKnownSaid :=
 OpenClaim.holds_of_wide 3 Tryz.f3 rfl rfl rfl rfl rfl rfl rfl ⟨rfl,rfl,rfl,rfl,rfl⟩ rfl rfl rfl rfl rfl (by kernel_rfl) Tryz.func3 (by kernel_rfl)
  (of_decide_eq_true (by kernel_rfl)) (by unfold Func.isWrapper;first|(rw[if_pos (by decide +kernel)];kernel_rfl)|(rw[if_neg (by decide +kernel)];exact⟨rfl,rfl⟩))
  (fun os started H enc _=>stealKnown_lifted os started H enc)
#print axioms stealKnown_holds
end Go.Proofs.YtmgahjccidmlaaaGreat
