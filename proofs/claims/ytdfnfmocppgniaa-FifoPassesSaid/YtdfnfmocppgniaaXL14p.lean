import Derived.Test.YtdfnfmocppgniaaRows
import Derived.Test.YtdfnfmocppgniaaXK14p
import Derived.Test.YtdfnfmocppgniaaXG19
import Derived.Lib.SmallJoins
set_option linter.unusedSimpArgs false
set_option linter.unusedVariables false
namespace Go.Proofs.Ytdfnfmocppgniaa
open Go.Am Go.Joins Go.ChangeShapes Go.WideShapes Go.RowKit Go.Deep Go.ChangeAt
theorem Try.own:ownKnob Try.prog.godebug=none:=by kernel_rfl
theorem Try.laidOut:laidOutB Try.prog=true:=by kernel_rfl
set_option maxRecDepth 100000 in
theorem ints_of{m:Mem Unit} {n:Nat} {a:AV} (h:IsV Try.prog m (n+2) 22 a):∃ xs:List Int,F10.SI m false xs a∧F15.Sb m a:=by
 have c3:Try.prog.cellsOf 3=1:=by kernel_rfl
 rcases h.sliceV Try.underlying22 with rfl|⟨i,len,cap,rfl,_,hc,_,hl⟩
 ·exact⟨[],Sl.nil,.inl rfl⟩
 ·rw[c3] at hl
  obtain⟨ys,hy⟩:=F15.ints_arg (m:=m) (i:=i) (len:=len) (cap:=cap) fun h0'=>by
   obtain⟨l',e1,e2,e3⟩:=hl h0'
   refine⟨l',e1,e2,fun k' hk'=>?_⟩
   obtain⟨z,hz,_⟩:=(e3 k' hk').intOf Try.underlying3
   exact⟨z,hz⟩
  exact⟨ys,hy,.inr (.inl ⟨_,_,_,_,rfl,hc⟩)⟩
theorem s_law:S 4 (amFunc F15.GPs F14.law14_FifoPasses):=e_passes
theorem law_run(m:Mem Unit) (vs:List AV) (h:IsVs Try.prog m 4 Try.f4.params.toList vs):∃ m',amFunc F15.GPs F14.law14_FifoPasses vs m=some (.bool true,m'):=by
 rw[Try.params4] at h
 obtain⟨a,vs,rfl,ha,b,vs,rfl,hb,c,vs,rfl,hc,rfl⟩:=h
 obtain⟨xs,hs,hS⟩:=ints_of ha
 obtain⟨ys,ht,_⟩:=ints_of hb
 obtain⟨n,rfl,_⟩:=hc.intV Try.underlying3
 obtain⟨r,m',h1,rfl,_⟩:=F15.passes_run (n:=n) hs ht hS
 exact⟨m',h1⟩
set_option maxRecDepth 100000 in
theorem fifoPasses_lifted(os:Os) (started:os.Started) (H:Type) (enc:TypeId × Value→H) :
  ReturnsInHanded {} Try.checked os 4 .any (Rows.fifoPassesSpec.pre6 enc Try.prog Try.f4 Rows.fifoPassesRow.domain false) (Rows.fifoPassesSpec.post enc Try.prog Try.f4 false true false false):=by
 refine returnsInHanded_of_change (C:=Try.checked) Try.own started (by kernel_rfl) Try.func4
  (ChangeSpec.witness6 (enc:=enc) (C:=Try.checked) false ⟨#[],#[.slice none 0 0,.slice none 0 0,.int .i64 0],[]⟩ 8 (by kernel_rfl) (by kernel_rfl) (by kernel_rfl) (by kernel_rfl)) ?_
 intro W base args ds gs before hval hW _ _
 exact law_body (tb:=4) 4 s_law rfl (fun ds hl=>by
  rw[Try.params4] at hl
  match ds,hl with
  | [_,_,_],_=>rfl) rfl (by kernel_rfl) Try.laidOut (by rw[Try.params4];kernel_rfl) law_run W base args ds gs before hval hW
theorem fifoPasses_holds:Rows.FifoPassesSaid :=
 OpenClaim.holds_of_wide 4 Try.f4 rfl rfl rfl rfl rfl rfl rfl ⟨rfl,rfl,rfl,rfl,rfl⟩ rfl rfl rfl rfl rfl (by kernel_rfl) Try.func4 (by kernel_rfl)
  (of_decide_eq_true (by kernel_rfl)) (by unfold Func.isWrapper;first|(rw[if_pos (by decide +kernel)];kernel_rfl)|(rw[if_neg (by decide +kernel)];exact⟨rfl,rfl⟩))
  (fun os started H enc _=>fifoPasses_lifted os started H enc)
#print axioms fifoPasses_holds
end Go.Proofs.Ytdfnfmocppgniaa
