/- Functions of the library as functions of Lean. -/
import Derived.Test.YtbgodlimjjgogaaDoorLkA
import Derived.Test.YtbgodlimjjgogaaDoorPm1
set_option linter.unusedVariables false
namespace Go.Tv
open Go Go.RowKit Go.Vs
end Go.Tv