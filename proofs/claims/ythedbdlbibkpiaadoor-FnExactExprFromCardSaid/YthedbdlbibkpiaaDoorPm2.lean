/- Functions of the library as functions of Lean. -/
import Derived.Test.YthedbdlbibkpiaaDoorLkA
import Derived.Test.YthedbdlbibkpiaaDoorPm1
set_option linter.unusedVariables false
namespace Go.Tv
open Go Go.RowKit Go.Vs

theorem rowInts_map : ∀ l : List Int, rowInts (l.map fun n => [AV.int .i64 n]) = some l
  | [] => rfl
  | n :: r => by
    rw [List.map_cons, rowInts, rowInts_map r]; rfl
theorem clone_pf {l : List Int} (h : l.length ≤ 4294967296) : cloneF ([TV.sl .share .int l].map toAV) = some (toAV (.sl (.own true) .int l)) := by
  have e1 : ∀ m : Md, toAV (.sl m .int l) = .sl m.sm 1 (l.map fun n => [AV.int .i64 n]) := fun m => by simp only [toAV]; rfl
  rw [List.map_cons, List.map_nil, e1, e1]
  show (bnd (rowInts (l.map fun n => [AV.int .i64 n])) fun l' => if l'.length ≤ 4294967296 then some (AV.sl .tip 1 (l.map fun n => [AV.int .i64 n])) else none) = _
  rw [rowInts_map, bnd_some, if_pos h]
  rfl
theorem clone_pa {l : List Int} {es : List Ent} (h : l.length ≤ 4294967296) : cloneA ([TV.sl .share .int l].map toAV) es = some (toAV (.tr .int (some es.length) l.length), arPush es .int l) := by
  have e1 : ∀ m : Md, toAV (.sl m .int l) = .sl m.sm 1 (l.map fun n => [AV.int .i64 n]) := fun m => by simp only [toAV]; rfl
  rw [List.map_cons, List.map_nil, e1]
  show (bnd (rowInts (l.map fun n => [AV.int .i64 n])) fun l' => if l'.length ≤ 4294967296 then some (AV.tr (some es.length) 1 l'.length, es ++ [some (1, l.map fun n => [AV.int .i64 n])]) else none) = _
  rw [rowInts_map, bnd_some, if_pos h]
  simp only [toAV]
  rfl
end Go.Tv
