/- Contracts: days of months, seconds of dates, valid dates. -/
import Derived.Test.YtpbgpeojlfdpoaaDoorExactSplitMailCc0datesZ
namespace Go.Proofs.YtpbgpeojlfdpoaaDoor.Q
open Go Go.AM
set_option linter.unusedSimpArgs false
set_option linter.unusedVariables false
set_option linter.unusedSectionVars false
structure Dt where
 y:Int
 mo:Int
 d:Int
 h:Int
 mi:Int
 s:Int
 z:Int
end Go.Proofs.YtpbgpeojlfdpoaaDoor.Q
