import Derived.Test.YtimgbjimonmkdaaXO06
set_option linter.unusedSimpArgs false
set_option linter.unusedVariables false
namespace Go.Am.F06
end Go.Am.F06
