/- distafflaw18.SliceKnown: the examples of the chapter, and looks by numbers: true (a closed statement). -/
import Derived.Test.YtfiogjimbhgacaaRows
import Derived.Test.YtfiogjimbhgacaaXS18
import Derived.Test.YtfiogjimbhgacaaXY18
import Derived.Test.YtfiogjimbhgacaaXAmRead
import Derived.Lib.SmallJoins
set_option linter.unusedSimpArgs false
set_option linter.unusedVariables false
namespace Go.Proofs.Ytfiogjimbhgacaa
open Go.Am Go.Joins Go.ChangeShapes Go.WideShapes Go.RowKit Go.Deep Go.ChangeAt

theorem Try.own : ownKnob Try.prog.godebug = none := by kernel_rfl
theorem Try.laidOut : laidOutB Try.prog = true := by kernel_rfl

abbrev A0 : AbsSem Unit := AbsSem.no Unit
abbrev S (k : Nat) (f : AFun Unit) : Prop := Sound A0 num Try.prog k f

theorem s_next : S 16 (pureF F18.nextG) := lift_sound (F18.next_lift []) (func_sound known_nil Try.func16 chk_slice_count_next)
theorem s_old : S 17 F18.oldF := lift_sound (F18.old_lift []) (func_sound known_nil Try.func17 chk_slice_Look_1)
theorem k_look : Known A0 num Try.prog [(13, pureF F18.nextG), (14, F18.oldF)] :=
  known_cons ok_slice_count_next s_next (F18.next_lift []).mono (known_cons ok_slice_Look_1 s_old (F18.old_lift []).mono known_nil)
theorem l_look : Lift (amFunc [(13, pureF F18.nextG), (14, F18.oldF)] F18.slice_Look) (pureF (X := Unit) F18.lookG) := F18.look_lift _ rfl rfl
theorem s_look : S 7 (pureF F18.lookG) := lift_sound l_look (func_sound k_look Try.func7 chk_slice_Look)
theorem s_poll : S 15 (pureF F18.pollG) := lift_sound (F18.poll_lift []) (func_sound known_nil Try.func15 chk_slice_Poll)
theorem k_works : Known A0 num Try.prog F18.Gworks :=
  known_cons ok_slice_Look s_look l_look.mono (known_cons ok_slice_Poll s_poll (F18.poll_lift []).mono known_nil)
theorem s_works : S 6 (pureF F18.worksG) := lift_sound F18.works_lift (func_sound k_works Try.func6 chk_law18_works)
theorem s_same : S 8 (amFunc [] F18.law18_same) := func_sound known_nil Try.func8 chk_law18_same
theorem k_tells : Known A0 num Try.prog (F18.Gtells (X := Unit)) :=
  known_cons ok_law18_works s_works F18.works_lift.mono (known_cons ok_slice_Look s_look l_look.mono (known_am ok_law18_same known_nil s_same known_nil))
theorem s_tells : S 3 (amFunc F18.Gtells F18.law18_SliceTells) := func_sound k_tells Try.func3 chk_law18_SliceTells
theorem s_there0 : S 18 (pureF F18.nilThereG) := lift_sound (F18.nilThere_lift []) (func_sound known_nil Try.func18 chk_slice_Watch_there)
theorem s_seen0 : S 10 (pureF F18.nilSeenG) :=
  lift_sound (F18.nilSeen_lift [(15, pureF F18.nilThereG)] rfl) (func_sound (known_cons ok_slice_Watch_there s_there0 (F18.nilThere_lift []).mono known_nil) Try.func10 chk_slice_Watch_Seen)
theorem s_len0 : S 11 (pureF F18.nilLenG) := lift_sound (F18.nilLen_lift []) (func_sound known_nil Try.func11 chk_slice_Watch_Len)
theorem s_copy0 : S 12 (pureF F18.nilCopyG) := lift_sound (F18.nilCopy_lift []) (func_sound known_nil Try.func12 chk_slice_Watch_Copy)
theorem s_wlook0 : S 9 (pureF F18.nilLookG) := lift_sound (F18.nilLook_lift []) (func_sound known_nil Try.func9 chk_slice_Watch_Look)
theorem k_none : Known A0 num Try.prog F18.Gnone :=
  known_cons ok_law18_works s_works F18.works_lift.mono (known_cons ok_slice_Watch_Look s_wlook0 (F18.nilLook_lift []).mono (known_cons ok_slice_Watch_Seen s_seen0 (F18.nilSeen_lift [(15, pureF F18.nilThereG)] rfl).mono
    (known_cons ok_slice_Watch_Len s_len0 (F18.nilLen_lift []).mono (known_cons ok_slice_Watch_Copy s_copy0 (F18.nilCopy_lift []).mono known_nil))))
theorem s_none : S 4 (pureF F18.sliceNoneG) := lift_sound F18.sliceNone_lift (func_sound k_none Try.func4 chk_law18_SliceNone)


theorem s_refold : S 23 (pureF F18.oldG) := lift_sound (F18.refold_lift []) (func_sound known_nil Try.func23 chk_ref18_old)
theorem l_reflook : Lift (amFunc [(20, pureF F18.oldG)] F18.ref18_Look) (pureF (X := Unit) F18.lookG) := F18.reflook_lift _ rfl
theorem s_reflook : S 19 (pureF F18.lookG) := lift_sound l_reflook (func_sound (known_cons ok_ref18_old s_refold (F18.refold_lift []).mono known_nil) Try.func19 chk_ref18_Look)
theorem s_refpoll : S 21 (pureF F18.pollG) := lift_sound (F18.refpoll_lift []) (func_sound known_nil Try.func21 chk_ref18_Poll)
theorem s_seenv : S 20 (pureF F18.seenG) := lift_sound (F18.seen_lift []) (func_sound known_nil Try.func20 chk_law18_seen)
theorem k_looks : Known A0 num Try.prog (F18.Glooks (X := Unit)) :=
  known_cons ok_law18_works s_works F18.works_lift.mono (known_cons ok_slice_Look s_look l_look.mono (known_cons ok_law18_seen s_seenv (F18.seen_lift []).mono (known_cons ok_slice_Poll s_poll (F18.poll_lift []).mono
    (known_cons ok_ref18_Look s_reflook l_reflook.mono (known_cons ok_ref18_Poll s_refpoll (F18.refpoll_lift []).mono known_nil)))))
theorem s_looks : S 13 (pureF F18.looksG) := lift_sound F18.looks_lift (func_sound k_looks Try.func13 chk_law18_SliceLooks)
theorem s_there : S 18 (amFunc [] F18.slice_Watch_there) := func_sound known_nil Try.func18 chk_slice_Watch_there
theorem k_there : Known A0 num Try.prog [(15, amFunc [] F18.slice_Watch_there)] := known_am ok_slice_Watch_there known_nil s_there known_nil
theorem k_gw : Known A0 num Try.prog (F18.Gw (X := Unit)) := known_am ok_slice_Watch_there known_nil s_there (known_cons ok_slice_Look s_look l_look.mono known_nil)
theorem s_new : S 22 (amFunc [] F18.slice_New) := func_sound known_nil Try.func22 chk_slice_New
theorem s_len : S 11 (amFunc [] F18.slice_Watch_Len) := func_sound known_nil Try.func11 chk_slice_Watch_Len
theorem s_copy : S 12 (amFunc [] F18.slice_Watch_Copy) := func_sound known_nil Try.func12 chk_slice_Watch_Copy
theorem s_wlook : S 9 (amFunc F18.Gw F18.slice_Watch_Look) := func_sound k_gw Try.func9 chk_slice_Watch_Look
theorem s_wseen : S 10 (amFunc [(15, amFunc [] F18.slice_Watch_there)] F18.slice_Watch_Seen) := func_sound k_there Try.func10 chk_slice_Watch_Seen
theorem k_wat : Known A0 num Try.prog (F18.Gwat (X := Unit)) :=
  known_cons ok_law18_works s_works F18.works_lift.mono (known_am ok_slice_New known_nil s_new (known_am ok_slice_Watch_Len known_nil s_len (known_am ok_slice_Watch_Copy known_nil s_copy (known_am ok_slice_Watch_Look k_gw s_wlook
    (known_am ok_slice_Watch_Seen k_there s_wseen (known_cons ok_ref18_Look s_reflook l_reflook.mono (known_cons ok_law18_seen s_seenv (F18.seen_lift []).mono known_nil)))))))
theorem s_watches : S 14 (amFunc F18.Gwat F18.law18_SliceWatches) := func_sound k_wat Try.func14 chk_law18_SliceWatches
theorem k_known : Known A0 num Try.prog (F18.Gknown (X := Unit)) :=
  known_cons ok_law18_SliceLooks s_looks F18.looks_lift.mono (known_am ok_law18_SliceWatches k_wat s_watches (known_am ok_law18_SliceTells k_tells s_tells (known_cons ok_law18_SliceNone s_none F18.sliceNone_lift.mono
    (known_cons ok_law18_works s_works F18.works_lift.mono known_nil))))
theorem s_law : S 5 (pureF F18.worksG) := lift_sound F18.known_lift (func_sound k_known Try.func5 chk_law18_SliceKnown)
theorem law_run (m : Mem Unit) (vs : List AV) (h : IsVs Try.prog m 2 Try.f5.params.toList vs) : ∃ m', pureF F18.worksG vs m = some (.bool true, m') := by
  rw [Try.params5] at h
  have h : vs = [] := h
  subst h
  exact ⟨_, rfl⟩

set_option maxRecDepth 100000 in
theorem sliceKnown_lifted (os : Os) (started : os.Started) (H : Type) (enc : TypeId × Value → H) :
    ReturnsInHanded {} Try.checked os 5 .any (Rows.sliceKnownSpec.pre6 enc Try.prog Try.f5 Rows.sliceKnownRow.domain false) (Rows.sliceKnownSpec.post enc Try.prog Try.f5 false true false false) := by
  refine returnsInHanded_of_change (C := Try.checked) Try.own started (by kernel_rfl) Try.func5
    (ChangeSpec.witness6 (enc := enc) (C := Try.checked) false ⟨#[], #[], []⟩ 8 (by kernel_rfl) (by kernel_rfl) (by kernel_rfl) (by kernel_rfl)) ?_
  intro W base args ds gs before hval hW _ _
  exact law_body (tb := 4) 2 s_law rfl (fun ds hl => by
    rw [Try.params5] at hl
    match ds, hl with
    | [], _ => rfl) rfl (by kernel_rfl) Try.laidOut (by rw [Try.params5]; kernel_rfl) law_run W base args ds gs before hval hW

theorem sliceKnown_holds : Rows.SliceKnownSaid :=
  OpenClaim.holds_of_wide 5 Try.f5 rfl rfl rfl rfl rfl rfl rfl ⟨rfl, rfl, rfl, rfl, rfl⟩ rfl rfl rfl rfl rfl (by kernel_rfl) Try.func5 (by kernel_rfl)
    (of_decide_eq_true (by kernel_rfl)) (by unfold Func.isWrapper; first | (rw [if_pos (by decide +kernel)]; kernel_rfl) | (rw [if_neg (by decide +kernel)]; exact ⟨rfl, rfl⟩))
    (fun os started H enc _ => sliceKnown_lifted os started H enc)
#print axioms sliceKnown_holds
end Go.Proofs.Ytfiogjimbhgacaa
