/- Plain law of SeedCharts: the chart, case by case (under way). -/
import Derived.Test.YtdghdcclhnoigaaGreatDoorXTryzN
set_option maxRecDepth 100000
set_option linter.unusedVariables false
namespace Go.Proofs.Tryz
open Go Go.Sx
def upI (A N:Int):Int := w64 (Int.tdiv (w64 (w64 (A + N) - 1)) N)
end Go.Proofs.Tryz
