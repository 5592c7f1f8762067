import Derived.Test.YtimgbjimonmkdaaXH06
set_option linter.unusedSimpArgs false
set_option linter.unusedVariables false
namespace Go.Am.F06
section
variable {X : Type}
def bN (n : Int) : Nat := (max 0 (min n 65536)).toNat
theorem bN_le (n : Int) : bN n ≤ 65536 := by unfold bN; omega
end
end Go.Am.F06
