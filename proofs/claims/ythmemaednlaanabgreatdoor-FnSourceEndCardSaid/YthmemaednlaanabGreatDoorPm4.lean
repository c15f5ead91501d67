/- Functions of the library as functions of Lean: numerals, prefixes, texts that are joined. -/
import Derived.Test.YthmemaednlaanabGreatDoorLkA
import Derived.Test.YthmemaednlaanabGreatDoorPm3
set_option linter.unusedVariables false
namespace Go.Tv
open Go Go.RowKit Go.Vs
theorem atoi_pf {s : List UInt8} {n : Int} (h : (if s.length ≤ 18 then Lib.atoi s else none) = some n) : Qww ([TV.str s].map toAV) = some (toAV (.tup [.int .i64 n, .undef])) := by
 split at h
 ·rename_i hb
  show (if s.length ≤ 18 then bnd (Lib.atoi s) fun n => some (AV.tup [.int .i64 n, .undef]) else none) = _
  rw [if_pos hb, h]; rfl
 ·cases h
theorem prefix_pf {s p : List UInt8} {r : Bool} (h : some (Lib.hasPrefix s p) = some r) : Qob ([TV.str s, .str p].map toAV) = some (toAV (.bool r)) := by
 injection h with h
 subst h; rfl
theorem index_pf {s : List UInt8} {c r : Int} (h : some (Lib.indexByte s c.toNat.toUInt8) = some r) : Qsb ([TV.str s, .int .u8 c].map toAV) = some (toAV (.int .i64 r)) := by
 injection h with h
 subst h; rfl
theorem Va : ∀ l : List (List UInt8), Qwd (l.map fun s => [AV.str s]) = some l
 | [] => rfl
 | n :: r => by rw [List.map_cons, Qwd, Va r]; rfl
theorem join_pf {l : List (List UInt8)} {s r : List UInt8} (h : (if l.length ≤ LIM ∧ (Lib.join l s).length ≤ LIM then some (Lib.join l s) else none) = some r) : joinF ([TV.sl .share .str l, .str s].map toAV) = some (toAV (.str r)) := by
 split at h
 ·rename_i hb
  injection h with h
  subst h
  have e1 : toAV (.sl .share .str l) = .sl .share 1 (l.map fun s => [AV.str s]) := by simp only [toAV]; rfl
  rw [List.map_cons, List.map_cons, List.map_nil, e1]
  show (bnd (Qwd (l.map fun s => [AV.str s])) fun l => if l.length ≤ LIM ∧ (Lib.join l s).length ≤ LIM then some (AV.str (Lib.join l s)) else none) = _
  rw [Va, Qb, if_pos hb]; rfl
 ·cases h
end Go.Tv