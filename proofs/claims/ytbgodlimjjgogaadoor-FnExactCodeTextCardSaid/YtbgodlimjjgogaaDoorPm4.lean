/- Functions of the library as functions of Lean: numerals, prefixes, texts that are joined. -/
import Derived.Test.YtbgodlimjjgogaaDoorLkA
import Derived.Test.YtbgodlimjjgogaaDoorPm3
set_option linter.unusedVariables false
namespace Go.Tv
open Go Go.RowKit Go.Vs
theorem itoa_pf {n : Int} {r : List UInt8} (h : (if -9223372036854775808 ≤ n ∧ n ≤ 9223372036854775807 then some (Lib.itoa n) else none) = some r) : Qya ([TV.int .i64 n].map toAV) = some (toAV (.str r)) := by
 split at h
 ·rename_i hb
  injection h with h
  subst h
  show (if -9223372036854775808 ≤ n ∧ n ≤ 9223372036854775807 then some (AV.str (Lib.itoa n)) else none) = _
  rw [if_pos hb]; rfl
 ·cases h
end Go.Tv