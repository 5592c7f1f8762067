import Derived.Test.YtaglnjaenigkaaaRows
import Derived.Test.YtaglnjaenigkaaaXK15p
import Derived.Test.YtaglnjaenigkaaaXG17
import Derived.Lib.SmallJoins
set_option linter.unusedSimpArgs false
set_option linter.unusedVariables false
namespace Go.Proofs.Ytaglnjaenigkaaa
open Go.Am Go.Joins Go.ChangeShapes Go.WideShapes Go.RowKit Go.Deep Go.ChangeAt
theorem Try.own:ownKnob Try.prog.godebug=none:=by kernel_rfl
theorem Try.laidOut:laidOutB Try.prog=true:=by kernel_rfl
set_option maxRecDepth 100000 in
theorem cf_of{m:Mem Unit} {n:Nat} {a:AV} (h:IsV Try.prog m (n+2) 23 a):∃ c:F10.Cf,a = .agg (F10.cfC c):=by
 obtain⟨cs,rfl,hl,h⟩:=h.structV Try.underlying23
 have c3:Try.prog.cellsOf 3=1:=by kernel_rfl
 have c23:Try.prog.cellsOf 23=6:=by kernel_rfl
 rw[c23] at hl
 obtain⟨z0,h0,_⟩:=h.intAt Try.underlying23 0 rfl Try.underlying3 c3
 obtain⟨z1,h1,_⟩:=h.intAt Try.underlying23 1 rfl Try.underlying3 c3
 obtain⟨z2,h2,_⟩:=h.intAt Try.underlying23 2 rfl Try.underlying3 c3
 obtain⟨z3,h3,_⟩:=h.intAt Try.underlying23 3 rfl Try.underlying3 c3
 obtain⟨z4,h4,_⟩:=h.intAt Try.underlying23 4 rfl Try.underlying3 c3
 obtain⟨z5,h5,_⟩:=h.intAt Try.underlying23 5 rfl Try.underlying3 c3
 exact⟨⟨z0,z1,z2,z3,z4,z5⟩,congrArg AV.agg (F10.cf_list hl h0 h1 h2 h3 h4 h5)⟩
set_option maxRecDepth 100000 in
theorem acts_of{m:Mem Unit} {n:Nat} {a:AV} (h:IsV Try.prog m (n+4) 24 a):∃ ats:List F15.Act,F15.AS m ats a∧∀ x ∈ ats,F15.Fit x.v:=by
 rcases h.sliceV Try.underlying24 with rfl|⟨i,len,cap,rfl,_,_,_,hl⟩
 ·exact⟨[],⟨Sl.nil,fun a ha=>by cases ha⟩,fun a ha=>by cases ha⟩
 ·have c33:Try.prog.cellsOf 33=3:=by kernel_rfl
  have c3:Try.prog.cellsOf 3=1:=by kernel_rfl
  have c30:Try.prog.cellsOf 30=1:=by kernel_rfl
  rw[c33] at hl
  refine F15.acts_fit fun h0=>?_
  obtain⟨l,h1,h2,h3⟩:=hl h0
  refine⟨l,h1,h2,fun k hk=>?_⟩
  have hr:=h3 k hk
  obtain⟨x,g0,_⟩:=hr.intAt Try.underlying33 0 rfl Try.underlying3 c3
  obtain⟨y,g1,_⟩:=hr.intAt Try.underlying33 1 rfl Try.underlying3 c3
  obtain⟨v,g2,hv⟩:=hr.sliceFit Try.underlying33 2 rfl Try.underlying30 c30
  have hlen:((l.drop (k * 3)).take 3).length=3:=by rw[List.length_take,List.length_drop];omega
  rcases hv with rfl|⟨i',len',cap',rfl,hcp,hl'⟩
  ·exact⟨⟨x,y,[],.nils⟩,F15.act_of hlen g0 g1 g2 [],Sl.nil,F15.Fit.nil⟩
  ·rw[c3] at hl'
   obtain⟨ys,hy⟩:=F15.ints_arg (m:=m) (i:=i') (len:=len') (cap:=cap') fun h0'=>by
    obtain⟨l',e1,e2,e3⟩:=hl' h0'
    refine⟨l',e1,e2,fun k' hk'=>?_⟩
    obtain⟨z,hz,_⟩:=(e3 k' hk').intOf Try.underlying3
    exact⟨z,hz⟩
   exact⟨⟨x,y,ys,.sl i' 0 len' (some cap')⟩,F15.act_of hlen g0 g1 g2 ys,hy,F15.Fit.sl hcp⟩
theorem s_law:S 4 (amFunc F15.GPl F15.law15_PoolPlays):=e_plays
set_option maxRecDepth 100000 in
theorem law_run(m:Mem Unit) (vs:List AV) (h:IsVs Try.prog m 4 Try.f4.params.toList vs):∃ m',amFunc F15.GPl F15.law15_PoolPlays vs m=some (.bool true,m'):=by
 rw[Try.params4] at h
 obtain⟨a,vs,rfl,ha,b,vs,rfl,hb,rfl⟩:=h
 obtain⟨c,rfl⟩:=cf_of ha
 obtain⟨ats,hA,hF⟩:=acts_of hb
 obtain⟨r,m',h1,rfl,_⟩:=F15.plays_run (c:=c) hA hF
 exact⟨m',h1⟩
set_option maxRecDepth 100000 in
theorem poolPlays_lifted(os:Os) (started:os.Started) (H:Type) (enc:TypeId × Value→H) :
  ReturnsInHanded {} Try.checked os 4 .any (Rows.poolPlaysSpec.pre6 enc Try.prog Try.f4 Rows.poolPlaysRow.domain false) (Rows.poolPlaysSpec.post enc Try.prog Try.f4 false true false false):=by
 refine returnsInHanded_of_change (C:=Try.checked) Try.own started (by kernel_rfl) Try.func4
  (ChangeSpec.witness6 (enc:=enc) (C:=Try.checked) false ⟨#[],#[.agg #[.int .i64 0,.int .i64 0,.int .i64 0,.int .i64 0,.int .i64 0,.int .i64 0],.slice none 0 0],[]⟩ 8 (by kernel_rfl) (by kernel_rfl) (by kernel_rfl) (by kernel_rfl)) ?_
 intro W base args ds gs before hval hW _ _
 exact law_body (tb:=4) 4 s_law rfl (fun ds hl=>by
  rw[Try.params4] at hl
  match ds,hl with
  | [_,_],_=>rfl) rfl (by kernel_rfl) Try.laidOut (by rw[Try.params4];kernel_rfl) law_run W base args ds gs before hval hW
theorem poolPlays_holds:Rows.PoolPlaysSaid :=
 OpenClaim.holds_of_wide 4 Try.f4 rfl rfl rfl rfl rfl rfl rfl ⟨rfl,rfl,rfl,rfl,rfl⟩ rfl rfl rfl rfl rfl (by kernel_rfl) Try.func4 (by kernel_rfl)
  (of_decide_eq_true (by kernel_rfl)) (by unfold Func.isWrapper;first|(rw[if_pos (by decide +kernel)];kernel_rfl)|(rw[if_neg (by decide +kernel)];exact⟨rfl,rfl⟩))
  (fun os started H enc _=>poolPlays_lifted os started H enc)
#print axioms poolPlays_holds
end Go.Proofs.Ytaglnjaenigkaaa
