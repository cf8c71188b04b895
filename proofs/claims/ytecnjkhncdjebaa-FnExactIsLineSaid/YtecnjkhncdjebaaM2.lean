/- Plain arithmetic of the calendar: the lengths of months, the day numbers of years and months, bounds. No program in sight. -/
import Derived.Test.YtecnjkhncdjebaaM1
namespace Go.Proofs.Ytecnjkhncdjebaa
set_option linter.unusedVariables false
set_option linter.unusedSimpArgs false
open Go.RowKit (wrap64)
end Go.Proofs.Ytecnjkhncdjebaa
