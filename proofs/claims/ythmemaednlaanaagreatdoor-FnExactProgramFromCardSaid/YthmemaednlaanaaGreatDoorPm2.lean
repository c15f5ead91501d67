/- Functions of the library as functions of Lean. -/
import Derived.Test.YthmemaednlaanaaGreatDoorLkA
import Derived.Test.YthmemaednlaanaaGreatDoorPm1
set_option linter.unusedVariables false
namespace Go.Tv
open Go Go.RowKit Go.Vs
end Go.Tv