/- The builder of this program's own, and the walk of its text. -/
import Derived.Test.YtbgodlimjjgogaaDoorChecked
import Derived.Lib.Strings
import Derived.Lib.Slices
import Derived.Lib.Walk
import Derived.Lib.Builder
import Derived.Lib.AppendStr
import Derived.WalkKit
import Derived.Laws.Externs
import Derived.Laws.IdiomCopy
import Derived.Test.YtbgodlimjjgogaaDoorShelf
import Derived.BigCall
import Derived.Lib.UnsafeStr
import Derived.Deep.RegionHeld3
import Derived.Test.YtbgodlimjjgogaaDoorPm5
set_option linter.unusedVariables false
namespace Go.Proofs
open Go.RowKit

set_option maxHeartbeats 1000000 in
set_option maxRecDepth 100000 in
theorem Tryd.cc_used (b : Nat) (w : World) (h0 : w.cell? ⟨b, 0, none⟩ = some (.pointer (some ⟨b, 0, none⟩))) :
    Calls Tryd.prog 42 #[.pointer (some ⟨b, 0, none⟩)] w fun e w' => e = .returned (.tuple #[]) ∧ w' = w := by
  have hi : (Tryd.prog.info? 49).map (·.size) = some 2 := by kernel_rfl
  obtain ⟨j, hj, _⟩ := Option.map_eq_some_iff.1 hi
  go_enter Tryd.func42, Tryd.ntmps42
  go_wp2
  rw [Lib.run_neq_ptr_same w _ Tryd.underlying47 hj]
  go_wp2
  go_end0
  exact ⟨rfl, rfl⟩

set_option maxHeartbeats 1000000 in
set_option maxRecDepth 100000 in
theorem Tryd.cc_fresh (b : Nat) (w : World) (h0 : w.cell? ⟨b, 0, none⟩ = some (.pointer none)) (hsh : w.shape? b = some (49, 2)) (hfz : w.frozen? ⟨b, 0, none⟩ = false) :
    Calls Tryd.prog 42 #[.pointer (some ⟨b, 0, none⟩)] w fun e w' => e = .returned (.tuple #[]) ∧ w' = w.setCell ⟨b, 0, none⟩ (.pointer (some ⟨b, 0, none⟩)) := by
  have hi : (Tryd.prog.info? 49).map (·.size) = some 2 := by kernel_rfl
  obtain ⟨j, hj, hjs⟩ := Option.map_eq_some_iff.1 hi
  have hli : liesAt Tryd.prog Tryd.prog.depth 49 (2 / Tryd.prog.cellsOf 49) 0 49 1 = true := by kernel_rfl
  go_enter Tryd.func42, Tryd.ntmps42
  go_wp2
  rw [Lib.run_to_unsafe w ⟨b, 0, none⟩ Tryd.underlying47 Tryd.underlying69 hj (by rw [hjs]; decide) hsh (Nat.zero_lt_succ 1)]
  simp only [Result.andThen]
  rw [Oper.upon_value]
  go_wp2
  rw [run_callFunc_extern Tryd.func48 (by kernel_rfl) (by kernel_rfl) (by kernel_rfl) (e := Extern.AbiNoEscape.same) (by kernel_rfl)]
  rw [Lib.run_noEscape]
  simp only [Result.andThen]
  rw [Oper.upon_value]
  go_wp2
  rw [Lib.run_from_unsafe w ⟨b, 0, none⟩ Tryd.underlying69 Tryd.underlying47 hj hsh hli]
  simp only [Result.andThen]
  rw [Oper.upon_value]
  go_wp2
  go_end0
  exact ⟨rfl, rfl⟩

theorem Tryd.cc (B b : Nat) (bs : List Value) (w : World) (h : Lib.IsBuilder 49 5 B b bs w) :
    Calls Tryd.prog 42 #[.pointer (some ⟨b, 0, none⟩)] w fun e w' => e = .returned (.tuple #[]) ∧ (Lib.BuilderAt 49 5 B b (.pointer (some ⟨b, 0, none⟩)) bs w' ∧ Below B w w') ∧ ∀ j, j ≠ b → w'.heap[j]? = w.heap[j]? := by
  rcases h with h | h
  · refine (Tryd.cc_fresh b w h.cell0 h.shape h.frozen0).mono ?_
    rintro e w' ⟨rfl, rfl⟩
    exact ⟨rfl, ⟨h.used _, (Below.refl B w).setCell (p := ⟨b, 0, none⟩) h.1 _⟩, fun j hj => Below.heap_setCell _ _ _ _ hj⟩
  · refine (Tryd.cc_used b w h.cell0).mono ?_
    rintro e w' ⟨rfl, rfl⟩
    exact ⟨rfl, ⟨h, Below.refl B _⟩, fun _ _ => rfl⟩

set_option maxHeartbeats 2000000 in
set_option maxRecDepth 100000 in
theorem Tryd.writeStr (B b : Nat) (bs : List Value) (s : ByteArray) (w : World) (h : Lib.IsBuilder 49 5 B b bs w) (hlen : bs.length + s.size ≤ 140737488355328) (hBw : B ≤ w.heap.size) :
    Calls Tryd.prog 32 #[.pointer (some ⟨b, 0, none⟩), .string s] w fun e w' => e = .returned (.tuple #[.int .i64 s.size, .nilIface]) ∧ (Lib.BuilderAt 49 5 B b (.pointer (some ⟨b, 0, none⟩)) (bs ++ Lib.strCells s) w' ∧ Below B w w') ∧ ∀ (j : Nat) (cs : Array Value) (t : TypeId) (m : Nat × Nat), w.heap[j]? = some (.cells cs t m) → j ≠ b → t ≠ 5 → w'.heap[j]? = w.heap[j]? := by
  have hib : (Tryd.prog.info? 5).map (fun i => (i.zero, i.size, i.bytes)) = some (some (.int .u8 0), 1, 1) := by kernel_rfl
  obtain ⟨i0, hi, hz0, hz1, hz2⟩ := info_parts hib
  go_enter Tryd.func32, Tryd.ntmps32
  go_wp2_with (go_at_call 42; refine (Tryd.cc B b bs _ h).mono ?_)
  rintro e w1 ⟨rfl, ⟨h1, hb1⟩, hoth⟩
  obtain ⟨hB, v, hbk, hown, hne⟩ := h1
  have c0 : w1.cell? ⟨b, 0, none⟩ = some (.pointer (some ⟨b, 0, none⟩)) := by rw [Lib.cell_of_heap hbk]; rfl
  have c1 : w1.cell? ⟨b, 1, none⟩ = some v := by rw [Lib.cell_of_heap hbk]; rfl
  go_wp2_with (at_builtin; refine Lib.wpList_append_own_string _ rfl _ _ 28 9 rfl B 5 i0 Tryd.underlying28 Tryd.underlying9 hi hz0 hz1 hz2 _ _ _ rfl hown s rfl ?c3 ?c4 ?c5 ?_)
  case c3 => unfold maxLen; omega
  case c4 => omega
  case c5 => have := hb1.size; omega
  intro v' w2 hown' hgrow _
  have hlt : b < w1.heap.size := by
    rcases Nat.lt_or_ge b w1.heap.size with h' | h'
    · exact h'
    · simp [Array.getElem?_eq_none h'] at hbk
  have hb2 : w2.heap[b]? = some (.cells #[.pointer (some ⟨b, 0, none⟩), v] 49 (0, 0)) := by
    rw [hgrow.block b hlt (fun e => hne e.symm)]
    exact hbk
  have d0 : w2.cell? ⟨b, 0, none⟩ = some (.pointer (some ⟨b, 0, none⟩)) := by rw [Lib.cell_of_heap hb2]; rfl
  have d1 : w2.cell? ⟨b, 1, none⟩ = some v := by rw [Lib.cell_of_heap hb2]; rfl
  have f1 : w2.frozen? ⟨b, 1, none⟩ = false := Lib.frozen_of_heap hb2 1
  obtain ⟨ao, n', cap, rfl⟩ : ∃ ao n' cap, v' = .slice ao n' cap := by
    rcases hown'.2 with ⟨hv, _⟩ | ⟨g, cap, cur, hv, _⟩
    · exact ⟨_, _, _, hv⟩
    · exact ⟨_, _, _, hv⟩
  go_wp2
  go_ret2
  refine ⟨rfl, ⟨?_, ?_⟩, ?_⟩
  rotate_left 2
  · intro j cs t m hj hjb ht
    have hj1 : w1.heap[j]? = some (.cells cs t m) := (hoth j hjb).trans hj
    have hjlt : j < w1.heap.size := (Array.getElem?_eq_some_iff.1 hj1).1
    have hjne : v.ownBlock ≠ some j := fun hh => (Lib.ownBlock_ne hown hj1 ht) hh
    rw [Below.heap_setCell _ _ _ _ hjb, hgrow.block j hjlt (fun e => hjne e.symm), hoth j hjb]
  · exact Lib.BuilderAt.put (T := 49) (e := 5) hB hb2 (bs' := bs ++ Lib.strCells s) (by simpa [Lib.strCells_length] using hown') (by decide)
  · exact (hb1.grown hgrow (by have := hb1.size; omega) (fun k hk => (hown.lt k hk).1)).setCell (p := ⟨b, 1, none⟩) hB _
end Go.Proofs

set_option linter.unusedVariables false
namespace Go.Proofs
open Go.RowKit Go.Tv Go.Tx

theorem isB_below {T e : TypeId} {B b : Nat} {bs : List Value} {w w' : World} (h : Lib.IsBuilder T e B b bs w) (hb : Below w.heap.size w w') : Lib.IsBuilder T e B b bs w' := by
  have k : ∀ p, Lib.BuilderAt T e B b p bs w → Lib.BuilderAt T e B b p bs w' := by
    intro p h
    have hlt := h.lt
    obtain ⟨hB, v, h1, h2, h3⟩ := h
    refine ⟨hB, v, (hb.block b hlt).trans h1, h2.kept (row := none) ⟨hb.os, hb.tape, hb.output, hb.size, fun k hk _ => hb.block k hk⟩ ?_, h3⟩
    cases hv : v.ownBlock with
    | none => exact .inl rfl
    | some g => right; simp
  exact h.imp (k _) (k _)
theorem below_drew {w w' : World} (h : Below w.drew.heap.size w.drew w') : Below w.heap.size w w' :=
  ((Below.refl w.heap.size w).drew).trans (h.mono ((Below.refl w.heap.size w).drew.size))
def ba (l : List UInt8) : ByteArray := ⟨l.toArray⟩
theorem ctFrom_snoc (it : Int → List UInt8) (qt : Quad → List UInt8) (q : Quad) : ∀ (l : List Quad) (i : Nat), Qvf it qt i (l ++ [q]) = Qvf it qt i l ++ (it ((i + l.length : Nat) : Int) ++ [58, 32] ++ qt q ++ [10])
  | [], i => by simp [Qvf]
  | x :: l, i => by
    have := ctFrom_snoc it qt q l (i + 1)
    simp only [List.cons_append, Qvf, this, List.length_cons, List.append_assoc]
    rw [show i + 1 + l.length = i + (l.length + 1) by omega]
theorem ctFrom_len {it : Int → List UInt8} {qt : Quad → List UInt8} (hit : ∀ n : Nat, n < 600 → (it n).length ≤ 1000) (hqt : ∀ q, (qt q).length ≤ 1000) : ∀ (l : List Quad) (i : Nat), i + l.length ≤ 600 → (Qvf it qt i l).length ≤ 2003 * l.length
  | [], i, _ => by simp [Qvf]
  | x :: l, i, hl => by
    simp only [List.length_cons] at hl
    have h1 := ctFrom_len hit hqt l (i + 1) (by omega)
    have h2 := hit i (by omega)
    have h3 := hqt x
    simp only [Qvf, List.length_append, List.length_cons, List.length_nil]
    omega
theorem take_snoc_ {α : Type} {l : List α} {k : Nat} (h : k < l.length) : l.take (k + 1) = l.take k ++ [l[k]] := by
  rw [List.take_succ_eq_append_getElem h]

set_option maxHeartbeats 2000000 in
set_option maxRecDepth 100000 in
theorem Tryd.ct_walk (it : Int → List UInt8) (qt : Quad → List UInt8) (l : List Quad) (w : World) (B0 o cap : Nat) (hn : l.length ≤ 600) (hB0 : B0 < w.heap.size)
    (hcell : ∀ (i : Nat) (q : Quad), l[i]? = some q → w.cell? ⟨B0, o + i * 5, none⟩ = some (.int .i64 q.op) ∧ w.cell? ⟨B0, o + i * 5 + 1, none⟩ = some (.int .i64 q.dst) ∧ w.cell? ⟨B0, o + i * 5 + 2, none⟩ = some (.int .i64 q.a) ∧ w.cell? ⟨B0, o + i * 5 + 3, none⟩ = some (.int .i64 q.b) ∧ w.cell? ⟨B0, o + i * 5 + 4, none⟩ = some (.int .i64 q.n))
    (hit : ∀ n : Nat, n < 600 → (it n).length ≤ 1000) (hqt : ∀ q, (qt q).length ≤ 1000)
    (HV : ∀ w1, Below w.heap.size w w1 → Calls Tryd.prog 31 #[.slice (some ⟨B0, o, none⟩) l.length cap] w1 fun e w' => e = .returned (.bool true) ∧ Below w1.heap.size w1 w')
    (HI : ∀ (n : Nat) w1, n < 600 → Below w.heap.size w w1 → Calls Tryd.prog 23 #[.int .i64 n] w1 fun e w' => e = .returned (.string (ba (it n))) ∧ Below w1.heap.size w1 w')
    (HQ : ∀ q w1, q ∈ l → Below w.heap.size w w1 → Calls Tryd.prog 9 #[qagg q] w1 fun e w' => e = .returned (.string (ba (qt q))) ∧ Below w1.heap.size w1 w') :
    Calls Tryd.prog 16 #[.slice (some ⟨B0, o, none⟩) l.length cap] w fun e w' => e = .returned (.string (ba (Qvf it qt 0 l))) ∧ Below w.heap.size w w' := by
  go_enter Tryd.func16, Tryd.ntmps16
  go_wp2_with (go_at_call 31; refine (HV _ (Below.refl _ _)).mono ?_)
  rintro e w1 ⟨rfl, b1⟩
  go_wp2
  go_loopw [11] (fun i wr => ∃ k : Nat, k ≤ l.length ∧ i = .int .i64 k ∧ Below w1.heap.size w1 wr ∧ Lib.IsBuilder 49 5 w1.heap.size w1.heap.size (Lib.byteCells (Qvf it qt 0 (l.take k))) wr) (fun i wr => l.length - (intOf i).toNat)
  case atStart =>
    exact ⟨0, by omega, rfl, (Below.refl _ _).alloc (Nat.le_refl _) _, Lib.fresh_isBuilder 49 5 w1⟩
  case round =>
    obtain ⟨k, hk, rfl, hb, hI⟩ := hrel
    have hsz1 := b1.size
    have hszr := hb.size
    by_cases hkl : k < l.length
    · have hcc : ∀ j, wr.cell? ⟨B0, j, none⟩ = w.cell? ⟨B0, j, none⟩ := fun j => (hb.cell (p := ⟨B0, j, none⟩) (by show B0 < _; omega)).trans (b1.cell (p := ⟨B0, j, none⟩) hB0)
      obtain ⟨c0, c1, c2, c3, c4⟩ := hcell k l[k] (List.getElem?_eq_getElem hkl)
      rw [← hcc] at c0 c1 c2 c3 c4
      go_wp2
      have hIq := isB_below hI ((Below.refl _ _).alloc (Nat.le_refl _) (.cells #[.int .i64 l[k].op, .int .i64 l[k].dst, .int .i64 l[k].a, .int .i64 l[k].b, .int .i64 l[k].n] 25))
      have hbq := hb.alloc hszr (.cells #[.int .i64 l[k].op, .int .i64 l[k].dst, .int .i64 l[k].a, .int .i64 l[k].b, .int .i64 l[k].n] 25)
      have hbk := heap_alloc_new wr (.cells #[.int .i64 l[k].op, .int .i64 l[k].dst, .int .i64 l[k].a, .int .i64 l[k].b, .int .i64 l[k].n] 25)
      have hlt : wr.heap.size < (wr.alloc (.cells #[.int .i64 l[k].op, .int .i64 l[k].dst, .int .i64 l[k].a, .int .i64 l[k].b, .int .i64 l[k].n] 25)).heap.size := by show _ < (wr.heap.push _).size; rw [Array.size_push]; omega
      generalize (wr.alloc (.cells #[.int .i64 l[k].op, .int .i64 l[k].dst, .int .i64 l[k].a, .int .i64 l[k].b, .int .i64 l[k].n] 25)) = wq at hIq hbq hbk hlt ⊢
      have q0 : wq.cell? ⟨wr.heap.size, 0, none⟩ = some (.int .i64 l[k].op) := by rw [Lib.cell_of_heap hbk]; rfl
      have q1 : wq.cell? ⟨wr.heap.size, 1, none⟩ = some (.int .i64 l[k].dst) := by rw [Lib.cell_of_heap hbk]; rfl
      have q2 : wq.cell? ⟨wr.heap.size, 2, none⟩ = some (.int .i64 l[k].a) := by rw [Lib.cell_of_heap hbk]; rfl
      have q3 : wq.cell? ⟨wr.heap.size, 3, none⟩ = some (.int .i64 l[k].b) := by rw [Lib.cell_of_heap hbk]; rfl
      have q4 : wq.cell? ⟨wr.heap.size, 4, none⟩ = some (.int .i64 l[k].n) := by rw [Lib.cell_of_heap hbk]; rfl
      clear c0 c1 c2 c3 c4 hcc
      have hbnew : w1.heap.size < wr.heap.size := hI.elim (fun h => h.lt) (fun h => h.lt)
      have hsq : w.heap.size ≤ wq.heap.size := by omega
      have hln : (Lib.byteCells (Qvf it qt 0 (l.take k))).length + ((ba (it k) ++ (⟨#[58, 32]⟩ : ByteArray)) ++ ba (qt l[k]) ++ (⟨#[10]⟩ : ByteArray)).size ≤ 140737488355328 := by
        have h4 : (l.take k).length ≤ 600 := by rw [List.length_take]; omega
        have h1 := ctFrom_len hit hqt (l.take k) 0 (by omega)
        have h2 : (ba (it k)).size ≤ 1000 := hit k (by omega)
        have h3 : (ba (qt l[k])).size ≤ 1000 := hqt l[k]
        simp only [Lib.byteCells_length, ByteArray.size_append]
        have e1 : (⟨#[58, 32]⟩ : ByteArray).size = 2 := rfl
        have e2 : (⟨#[10]⟩ : ByteArray).size = 1 := rfl
        omega
      have hW : Below w.heap.size w wq := b1.trans (hbq.mono hsz1)
      have z1 : (ba (it k)).size ≤ 1000 := hit k (by omega)
      have z2 : (ba (qt l[k])).size ≤ 1000 := hqt l[k]
      have hs1 : ¬ 9223372036854775807 < (ba (it k)).size + 2 := by omega
      have hs2 : ¬ 9223372036854775807 < (ba (it k)).size + 2 + (ba (qt l[k])).size := by omega
      have hs3 : ¬ 9223372036854775807 < (ba (it k)).size + 2 + (ba (qt l[k])).size + 1 := by omega
      go_region_held3 (fun w' => w'.cell? ⟨wr.heap.size, 0, none⟩ = some (.int .i64 l[k].op) ∧ w'.cell? ⟨wr.heap.size, 1, none⟩ = some (.int .i64 l[k].dst) ∧ w'.cell? ⟨wr.heap.size, 2, none⟩ = some (.int .i64 l[k].a) ∧ w'.cell? ⟨wr.heap.size, 3, none⟩ = some (.int .i64 l[k].b) ∧ w'.cell? ⟨wr.heap.size, 4, none⟩ = some (.int .i64 l[k].n))
        (first | assumption | exact ⟨q0, q1, q2, q3, q4⟩ | exact ⟨p0, p1, p2, p3, p4⟩ | exact ⟨r0, r1, r2, r3, r4⟩ | exact ⟨s0, s1, s2, s3, s4⟩)
        (first
          | (go_at_call 23; refine (HI k _ (by omega) hW.drew).mono ?_
             rintro e v1 ⟨rfl, hv1⟩
             replace hv1 := below_drew hv1
             have p0 : v1.cell? ⟨wr.heap.size, 0, none⟩ = some (.int .i64 l[k].op) := by rw [hv1.cell hlt]; exact q0
             have p1 : v1.cell? ⟨wr.heap.size, 1, none⟩ = some (.int .i64 l[k].dst) := by rw [hv1.cell hlt]; exact q1
             have p2 : v1.cell? ⟨wr.heap.size, 2, none⟩ = some (.int .i64 l[k].a) := by rw [hv1.cell hlt]; exact q2
             have p3 : v1.cell? ⟨wr.heap.size, 3, none⟩ = some (.int .i64 l[k].b) := by rw [hv1.cell hlt]; exact q3
             have p4 : v1.cell? ⟨wr.heap.size, 4, none⟩ = some (.int .i64 l[k].n) := by rw [hv1.cell hlt]; exact q4)
          | (go_at_call 9; refine (HQ l[k] v1 (List.getElem_mem hkl) (hW.trans (hv1.mono hsq))).mono ?_
             rintro e v2 ⟨rfl, hv2'⟩
             have hv2 : Below wq.heap.size wq v2 := hv1.trans (hv2'.mono hv1.size)
             have r0 : v2.cell? ⟨wr.heap.size, 0, none⟩ = some (.int .i64 l[k].op) := by rw [hv2.cell hlt]; exact q0
             have r1 : v2.cell? ⟨wr.heap.size, 1, none⟩ = some (.int .i64 l[k].dst) := by rw [hv2.cell hlt]; exact q1
             have r2 : v2.cell? ⟨wr.heap.size, 2, none⟩ = some (.int .i64 l[k].a) := by rw [hv2.cell hlt]; exact q2
             have r3 : v2.cell? ⟨wr.heap.size, 3, none⟩ = some (.int .i64 l[k].b) := by rw [hv2.cell hlt]; exact q3
             have r4 : v2.cell? ⟨wr.heap.size, 4, none⟩ = some (.int .i64 l[k].n) := by rw [hv2.cell hlt]; exact q4)
          | (go_at_call 32; refine (Tryd.writeStr w1.heap.size w1.heap.size _ _ _ (isB_below hIq hv2) hln (Nat.le_trans (Nat.le_trans hszr (Nat.le_of_lt hlt)) hv2.size)).mono ?_
             rintro e v3 ⟨rfl, ⟨h3, hb3⟩, ho3⟩
             have hk2 : v2.heap[wr.heap.size]? = some (.cells #[.int .i64 l[k].op, .int .i64 l[k].dst, .int .i64 l[k].a, .int .i64 l[k].b, .int .i64 l[k].n] 25 (0, 0)) := (hv2.block _ hlt).trans hbk
             have hk3 := (ho3 _ _ _ _ hk2 (by omega) (by decide)).trans hk2
             have s0 : v3.cell? ⟨wr.heap.size, 0, none⟩ = some (.int .i64 l[k].op) := by rw [Lib.cell_of_heap hk3]; rfl
             have s1 : v3.cell? ⟨wr.heap.size, 1, none⟩ = some (.int .i64 l[k].dst) := by rw [Lib.cell_of_heap hk3]; rfl
             have s2 : v3.cell? ⟨wr.heap.size, 2, none⟩ = some (.int .i64 l[k].a) := by rw [Lib.cell_of_heap hk3]; rfl
             have s3 : v3.cell? ⟨wr.heap.size, 3, none⟩ = some (.int .i64 l[k].b) := by rw [Lib.cell_of_heap hk3]; rfl
             have s4 : v3.cell? ⟨wr.heap.size, 4, none⟩ = some (.int .i64 l[k].n) := by rw [Lib.cell_of_heap hk3]; rfl
             clear hk2 hk3 ho3))
      go_wp2
      go_roundw
      case rel =>
        refine ⟨k + 1, by omega, by go_num, ?_, ?_⟩
        · exact (hbq.trans (hv2.mono (by omega))).trans hb3
        · have e : Lib.strCells ((ba (it k) ++ (⟨#[58, 32]⟩ : ByteArray)) ++ ba (qt l[k]) ++ (⟨#[10]⟩ : ByteArray)) = Lib.byteCells (it k ++ [58, 32] ++ qt l[k] ++ [10]) := by
            rw [Lib.strCells_eq]
            congr 1
          rw [e] at h3
          rw [take_snoc_ hkl, ctFrom_snoc, Lib.byteCells_append]
          have e2 : ((0 + (l.take k).length : Nat) : Int) = (k : Int) := by rw [List.length_take]; omega
          rw [e2]
          exact .inr h3
      case measure =>
        simp [intOf]; omega
    · go_wp2_with (go_at_call 33; refine (Tryd.Builder_String_any _ _ _ _ hI (by omega)).mono ?_)
      rintro e w2 ⟨rfl, b2⟩
      go_wp2
      go_ret
      rw [List.take_of_length_le (by omega)]
      exact ⟨rfl, (b1.trans (hb.mono hsz1)).trans (b2.mono hsz1)⟩

set_option maxHeartbeats 2000000 in
set_option maxRecDepth 100000 in
theorem Tryd.ct_none (v : Value) (w : World)
    (HV : Calls Tryd.prog 31 #[v] w fun e w' => e = .returned (.bool false) ∧ Below w.heap.size w w') :
    Calls Tryd.prog 16 #[v] w fun e w' => e = .returned (.string (ba [])) ∧ Below w.heap.size w w' := by
  go_enter Tryd.func16, Tryd.ntmps16
  go_wp2_with (go_at_call 31; refine HV.mono ?_)
  rintro e w1 ⟨rfl, b1⟩
  go_wp2
  go_ret
  exact ⟨rfl, b1⟩
end Go.Proofs
