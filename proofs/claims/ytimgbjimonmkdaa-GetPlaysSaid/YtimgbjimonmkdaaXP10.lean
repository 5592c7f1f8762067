import Derived.Test.YtimgbjimonmkdaaXAmKit
import Derived.Test.YtimgbjimonmkdaaXAmLift
import Derived.Test.YtimgbjimonmkdaaXC10
set_option linter.unusedSimpArgs false
set_option linter.unusedVariables false
namespace Go.Am.F10
variable {X : Type}
def worksG : List AV → Option AV
  | [] => some (.bool true)
  | _ => none
theorem works_run : ((c_law10_works (X := X)) [] []).map (·.1) = some (.bool true) := by kernel_rfl
theorem works_lift : Lift (c_law10_works (X := X)) (pureF worksG) := lift_pure (by
  intro args r h
  unfold worksG at h; split at h
  · injection h with h; subst h
    have := works_run (X := X)
    cases h1 : c_law10_works (X := X) [] [] with
    | none => rw [h1] at this; cases this
    | some x =>
      rw [h1] at this
      simp only [Option.map_some, Option.some.injEq] at this
      exact ⟨rfl, rfl, x.2, by rw [← this]⟩
  · cases h)
end Go.Am.F10
