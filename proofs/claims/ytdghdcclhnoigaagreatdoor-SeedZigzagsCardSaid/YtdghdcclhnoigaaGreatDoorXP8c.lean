/- Plain law of SeedCharts: the chart, case by case (under way). -/
import Derived.Test.YtdghdcclhnoigaaGreatDoorXTryzN
set_option maxRecDepth 100000
set_option linter.unusedVariables false
namespace Go.Proofs.Tryz
open Go Go.Sx
end Go.Proofs.Tryz
