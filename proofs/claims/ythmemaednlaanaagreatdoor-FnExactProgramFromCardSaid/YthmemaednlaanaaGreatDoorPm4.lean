/- Functions of the library as functions of Lean: numerals, prefixes, texts that are joined. -/
import Derived.Test.YthmemaednlaanaaGreatDoorLkA
import Derived.Test.YthmemaednlaanaaGreatDoorPm3
set_option linter.unusedVariables false
namespace Go.Tv
open Go Go.RowKit Go.Vs
theorem itoa_pf {n : Int} {r : List UInt8} (h : (if -9223372036854775808 ≤ n ∧ n ≤ 9223372036854775807 then some (Lib.itoa n) else none) = some r) : Qxt ([TV.int .i64 n].map toAV) = some (toAV (.str r)) := by
 split at h
 ·rename_i hb
  injection h with h
  subst h
  show (if -9223372036854775808 ≤ n ∧ n ≤ 9223372036854775807 then some (AV.str (Lib.itoa n)) else none) = _
  rw [if_pos hb]; rfl
 ·cases h
theorem atoi_pf {s : List UInt8} {n : Int} (h : (if s.length ≤ 18 then Lib.atoi s else none) = some n) : Qxa ([TV.str s].map toAV) = some (toAV (.tup [.int .i64 n, .undef])) := by
 split at h
 ·rename_i hb
  show (if s.length ≤ 18 then bnd (Lib.atoi s) fun n => some (AV.tup [.int .i64 n, .undef]) else none) = _
  rw [if_pos hb, h]; rfl
 ·cases h
theorem prefix_pf {s p : List UInt8} {r : Bool} (h : some (Lib.hasPrefix s p) = some r) : Qoj ([TV.str s, .str p].map toAV) = some (toAV (.bool r)) := by
 injection h with h
 subst h; rfl
theorem index_pf {s : List UInt8} {c r : Int} (h : some (Lib.indexByte s c.toNat.toUInt8) = some r) : Qsj ([TV.str s, .int .u8 c].map toAV) = some (toAV (.int .i64 r)) := by
 injection h with h
 subst h; rfl
theorem Qlf : ∀ l : List (List UInt8), Qfd (l.map fun s => [AV.str s]) = some l
 | [] => rfl
 | n :: r => by rw [List.map_cons, Qfd, Qlf r]; rfl
theorem join_pf {l : List (List UInt8)} {s r : List UInt8} (h : (if l.length ≤ LIM ∧ (Lib.join l s).length ≤ LIM then some (Lib.join l s) else none) = some r) : Qxu ([TV.sl .share .str l, .str s].map toAV) = some (toAV (.str r)) := by
 split at h
 ·rename_i hb
  injection h with h
  subst h
  have e1 : toAV (.sl .share .str l) = .sl .share 1 (l.map fun s => [AV.str s]) := by simp only [toAV]; rfl
  rw [List.map_cons, List.map_cons, List.map_nil, e1]
  show (bnd (Qfd (l.map fun s => [AV.str s])) fun l => if l.length ≤ LIM ∧ (Lib.join l s).length ≤ LIM then some (AV.str (Lib.join l s)) else none) = _
  rw [Qlf, Qb, if_pos hb]; rfl
 ·cases h
end Go.Tv