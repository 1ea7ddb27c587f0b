/- Plain laws about what the program computes. -/
import Derived.Test.YtcmjfplpdjflnaaGreatPQ
import Derived.Test.YtcmjfplpdjflnaaGreatPS
set_option linter.unusedVariables false
set_option linter.unusedSimpArgs false
set_option linter.unusedSectionVars false
namespace Lv.P
open Lv Go
end Lv.P
