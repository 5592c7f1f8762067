/- distafflaw18.SliceTells: what is told of looks whose times do not fall: true for every input; the input reads as it did. -/
import Derived.Test.YtfiogjimbhgacaaRows
import Derived.Test.YtfiogjimbhgacaaXS18
import Derived.Test.YtfiogjimbhgacaaXU18
import Derived.Test.YtfiogjimbhgacaaXAmRead
import Derived.Lib.SmallJoins
set_option linter.unusedSimpArgs false
set_option linter.unusedVariables false
namespace Go.Proofs.Ytfiogjimbhgacaa
open Go.Am Go.Joins Go.ChangeShapes Go.WideShapes Go.RowKit Go.Deep Go.ChangeAt

theorem Try.own : ownKnob Try.prog.godebug = none := by kernel_rfl
theorem Try.laidOut : laidOutB Try.prog = true := by kernel_rfl

abbrev A0 : AbsSem Unit := AbsSem.no Unit
abbrev S (k : Nat) (f : AFun Unit) : Prop := Sound A0 num Try.prog k f

theorem s_next : S 16 (pureF F18.nextG) := lift_sound (F18.next_lift []) (func_sound known_nil Try.func16 chk_slice_count_next)
theorem s_old : S 17 F18.oldF := lift_sound (F18.old_lift []) (func_sound known_nil Try.func17 chk_slice_Look_1)
theorem k_look : Known A0 num Try.prog [(13, pureF F18.nextG), (14, F18.oldF)] :=
  known_cons ok_slice_count_next s_next (F18.next_lift []).mono (known_cons ok_slice_Look_1 s_old (F18.old_lift []).mono known_nil)
theorem l_look : Lift (amFunc [(13, pureF F18.nextG), (14, F18.oldF)] F18.slice_Look) (pureF (X := Unit) F18.lookG) := F18.look_lift _ rfl rfl
theorem s_look : S 7 (pureF F18.lookG) := lift_sound l_look (func_sound k_look Try.func7 chk_slice_Look)
theorem s_poll : S 15 (pureF F18.pollG) := lift_sound (F18.poll_lift []) (func_sound known_nil Try.func15 chk_slice_Poll)
theorem k_works : Known A0 num Try.prog F18.Gworks :=
  known_cons ok_slice_Look s_look l_look.mono (known_cons ok_slice_Poll s_poll (F18.poll_lift []).mono known_nil)
theorem s_works : S 6 (pureF F18.worksG) := lift_sound F18.works_lift (func_sound k_works Try.func6 chk_law18_works)
theorem s_same : S 8 (amFunc [] F18.law18_same) := func_sound known_nil Try.func8 chk_law18_same
theorem k_tells : Known A0 num Try.prog (F18.Gtells (X := Unit)) :=
  known_cons ok_law18_works s_works F18.works_lift.mono (known_cons ok_slice_Look s_look l_look.mono (known_am ok_law18_same known_nil s_same known_nil))
theorem s_law : S 3 (amFunc F18.Gtells F18.law18_SliceTells) := func_sound k_tells Try.func3 chk_law18_SliceTells

theorem law_run (m : Mem Unit) (vs : List AV) (h : IsVs Try.prog m 4 Try.f3.params.toList vs) : ∃ m', amFunc F18.Gtells F18.law18_SliceTells vs m = some (.bool true, m') := by
  have out : ∀ {vs : List AV}, Go.Am.Fn (F18.Gtells (X := Unit)) F18.law18_SliceTells vs m (fun r _ => r = .bool true) → ∃ m', amFunc F18.Gtells F18.law18_SliceTells vs m = some (.bool true, m') := by
    rintro vs ⟨r, m', h1, rfl⟩; exact ⟨m', h1⟩
  rw [Try.params3] at h
  obtain ⟨a, vs', rfl, h1, rfl⟩ := h
  rcases h1.sliceV Try.underlying22 with rfl | ⟨i, len, cap, rfl, hi, hlc, hcm, hl⟩
  · exact out (F18.tells_nil m)
  · by_cases hlen : 60 < len
    · exact out (F18.tells_long m hlen)
    · have : ∃ (l : List AV) (g : Nat → F18.Gl), (0 < len → m[i]? = some (.cells 5 true l)) ∧ F18.Rd l len g := by
        by_cases h0 : 0 < len
        · obtain ⟨l, h2, h3, h4⟩ := hl h0
          have hc : Try.prog.cellsOf 29 = 5 := by kernel_rfl
          rw [hc] at h2 h3 h4
          have : ∀ k, ∃ g : F18.Gl, k < len → l[k * 5 + 1]? = some (.int .i64 g.stat) ∧ l[k * 5 + 2]? = some (.int .u64 g.tick) ∧ l[k * 5 + 3]? = some (.int .u64 g.sys) ∧ l[k * 5 + 4]? = some (.int .i64 g.now) := by
            intro k
            by_cases hk : k < len
            · obtain ⟨z1, k1, _⟩ := (h4 k hk).intAt Try.underlying29 1 rfl Try.underlying3 (by kernel_rfl)
              obtain ⟨z2, k2, _⟩ := (h4 k hk).intAt Try.underlying29 2 rfl Try.underlying24 (by kernel_rfl)
              obtain ⟨z3, k3, _⟩ := (h4 k hk).intAt Try.underlying29 3 rfl Try.underlying24 (by kernel_rfl)
              obtain ⟨z4, k4, _⟩ := (h4 k hk).intAt Try.underlying29 4 rfl Try.underlying2 (by kernel_rfl)
              rw [row_at (by decide)] at k1 k2 k3 k4
              exact ⟨⟨z1, z2, z3, z4⟩, fun _ => ⟨k1, k2, k3, k4⟩⟩
            · exact ⟨⟨0, 0, 0, 0⟩, fun h => absurd h hk⟩
          exact ⟨l, fun k => (this k).choose, fun _ => h2, fun k hk => (this k).choose_spec hk⟩
        · exact ⟨[], fun _ => ⟨0, 0, 0, 0⟩, fun h => absurd h h0, fun k hk => by omega⟩
      obtain ⟨l, g, h2, h3⟩ := this
      exact out (F18.tells_run hi h2 h3 (by omega))

set_option maxRecDepth 100000 in
theorem sliceTells_lifted (os : Os) (started : os.Started) (H : Type) (enc : TypeId × Value → H) :
    ReturnsInHanded {} Try.checked os 3 .any (Rows.sliceTellsSpec.pre6 enc Try.prog Try.f3 Rows.sliceTellsRow.domain false) (Rows.sliceTellsSpec.post enc Try.prog Try.f3 false true false false) := by
  refine returnsInHanded_of_change (C := Try.checked) Try.own started (by kernel_rfl) Try.func3
    (ChangeSpec.witness6 (enc := enc) (C := Try.checked) false ⟨#[], #[.slice none 0 0], []⟩ 8 (by kernel_rfl) (by kernel_rfl) (by kernel_rfl) (by kernel_rfl)) ?_
  intro W base args ds gs before hval hW _ _
  exact law_body (tb := 4) 4 s_law rfl (fun ds hl => by
    rw [Try.params3] at hl
    match ds, hl with
    | [_], _ => rfl) rfl (by kernel_rfl) Try.laidOut (by rw [Try.params3]; kernel_rfl) law_run W base args ds gs before hval hW

theorem sliceTells_holds : Rows.SliceTellsSaid :=
  OpenClaim.holds_of_wide 3 Try.f3 rfl rfl rfl rfl rfl rfl rfl ⟨rfl, rfl, rfl, rfl, rfl⟩ rfl rfl rfl rfl rfl (by kernel_rfl) Try.func3 (by kernel_rfl)
    (of_decide_eq_true (by kernel_rfl)) (by unfold Func.isWrapper; first | (rw [if_pos (by decide +kernel)]; kernel_rfl) | (rw [if_neg (by decide +kernel)]; exact ⟨rfl, rfl⟩))
    (fun os started H enc _ => sliceTells_lifted os started H enc)
#print axioms sliceTells_holds
end Go.Proofs.Ytfiogjimbhgacaa
