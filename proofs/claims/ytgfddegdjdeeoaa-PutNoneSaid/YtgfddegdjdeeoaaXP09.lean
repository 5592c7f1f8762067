/- The chapter's examples, by computing. -/
import Derived.Test.YtgfddegdjdeeoaaXAmKit
import Derived.Test.YtgfddegdjdeeoaaXAmLift
import Derived.Test.YtgfddegdjdeeoaaXC09
set_option linter.unusedSimpArgs false
set_option linter.unusedVariables false
namespace Go.Am.F09
variable {X : Type}

def worksG : List AV → Option AV
  | [] => some (.bool true)
  | _ => none
theorem works_run : ((c_law09_works (X := X)) [] []).map (·.1) = some (.bool true) := by kernel_rfl
theorem works_lift : Lift (c_law09_works (X := X)) (pureF worksG) := lift_pure (by
  intro args r h
  unfold worksG at h; split at h
  · injection h with h; subst h
    have := works_run (X := X)
    cases h1 : c_law09_works (X := X) [] [] with
    | none => rw [h1] at this; cases this
    | some x =>
      rw [h1] at this
      simp only [Option.map_some, Option.some.injEq] at this
      exact ⟨rfl, rfl, x.2, by rw [← this]⟩
  · cases h)
end Go.Am.F09
