/- Functions of the library as functions of Lean. -/
import Derived.Test.YthmemaednlaanabGreatDoorLkA
import Derived.Test.YthmemaednlaanabGreatDoorPm1
set_option linter.unusedVariables false
namespace Go.Tv
open Go Go.RowKit Go.Vs
end Go.Tv