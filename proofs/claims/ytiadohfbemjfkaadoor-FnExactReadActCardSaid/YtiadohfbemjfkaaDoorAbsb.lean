/- The abstract layer: functions that are handed pointers. -/
import Derived.Test.YtiadohfbemjfkaaDoorAbsB
set_option linter.unusedVariables false
set_option linter.unusedSimpArgs false
noncomputable section
namespace Go.Abs
open Go
section
variable{P:Program}{T:TT}{E:Env}{o:Oper}{st:St}{a:Act}{w:World}{X:Cells}{loc:Locs}{ob:Nat→Cells}{r:Res}
end
end Go.Abs
