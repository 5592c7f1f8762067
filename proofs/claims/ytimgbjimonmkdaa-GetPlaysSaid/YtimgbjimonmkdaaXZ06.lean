import Derived.Test.YtimgbjimonmkdaaXY06
set_option linter.unusedSimpArgs false
set_option linter.unusedVariables false
namespace Go.Am.F06
theorem set_same {m : MM} {i : Nat} {c : Chunk Ob} (h : m[i]? = some c) : m.set i c = m := by
  apply List.ext_getElem?
  intro j
  by_cases hj : i = j
  · subst hj; rw [List.getElem?_set_self (List.getElem?_eq_some_iff.1 h).1, h]
  · rw [List.getElem?_set_ne hj]
end Go.Am.F06
