/- Words for what functions answer. -/
import Derived.Test.YthedbdlbibkpiaaGreatDoorTv6
set_option linter.unusedVariables false
namespace Go.Tv
open Go Go.RowKit Go.Vs

/-- Numbers are of their kind. -/
abbrev wfI (n : Int) : Prop := -9223372036854775808 ≤ n ∧ n ≤ 9223372036854775807
def wfQ (q : Quad) : Prop := wfI q.op ∧ wfI q.dst ∧ wfI q.a ∧ wfI q.b ∧ wfI q.n
def wfE (q : Evt) : Prop := wfI q.task ∧ wfI q.kind ∧ wfI q.box ∧ wfI q.value
/-- What is handed to a law: bytes; a list. -/
def wfBs (l : List Int) : Prop := ∀ n ∈ l, 0 ≤ n ∧ n ≤ 255
/-- There is an answer, and P holds for it. -/
def Ok {α : Type} (x : Option α) (P : α → Prop) : Prop := ∃ a, x = some a ∧ P a
theorem Ok.of {α : Type} {a : α} {P : α → Prop} (h : P a) : Ok (some a) P := ⟨a, rfl, h⟩
theorem Ok.bnd {α β : Type} {x : Option α} {f : α → Option β} {P : α → Prop} {Q : β → Prop} (h : Ok x P) (hf : ∀ a, P a → Ok (f a) Q) : Ok (Vs.bnd x f) Q := by
  obtain ⟨a, rfl, h⟩ := h; exact hf a h
theorem Ok.mono {α : Type} {x : Option α} {P Q : α → Prop} (h : Ok x P) (hp : ∀ a, P a → Q a) : Ok x Q := by
  obtain ⟨a, rfl, h⟩ := h; exact ⟨a, rfl, hp a h⟩
theorem Ok.le {α : Type} {x y : Option α} {P : α → Prop} (hl : Tv.Le x y) (h : Ok x P) : Ok y P := by
  obtain ⟨a, h1, h2⟩ := h; exact ⟨a, hl a h1, h2⟩
theorem Ok.bif {α : Type} {b : Bool} {x y : Option α} {P : α → Prop} (hx : b = true → Ok x P) (hy : b = false → Ok y P) : Ok (cond b x y) P := by
  cases b
  · exact hy rfl
  · exact hx rfl
theorem Ok.eq {α : Type} {x : Option α} {a : α} (h : x = some a) : Ok x (fun b => b = a) := ⟨a, h, rfl⟩
theorem Ok.some {α : Type} {x : Option α} {a : α} (h : Ok x (fun b => b = a)) : x = some a := by
  obtain ⟨b, h, rfl⟩ := h; exact h
theorem Ok.and {α : Type} {x : Option α} {P Q : α → Prop} (h : Ok x P) (h' : Ok x Q) : Ok x (fun a => P a ∧ Q a) := by
  obtain ⟨a, rfl, h⟩ := h
  obtain ⟨b, h1, h2⟩ := h'
  injection h1 with h1
  subst h1
  exact ⟨a, rfl, h, h2⟩
theorem Ok.geti {α : Type} {l : List α} {n : Int} (h0 : 0 ≤ n) (h1 : n < l.length) : Ok (geti l n) fun x => x ∈ l ∧ l[n.toNat]? = Option.some x := by
  have hl : n.toNat < l.length := by omega
  refine ⟨l[n.toNat], ?_, List.getElem_mem hl, List.getElem?_eq_getElem hl⟩
  simp [Tv.geti, h0, List.getElem?_eq_getElem hl]
theorem geti_nat' {α : Type} (l : List α) (n : Nat) : geti l (n : Int) = l[n]? := by simp [geti]
theorem wrap_id {n : Int} (h0 : -9223372036854775808 ≤ n) (h1 : n < 9223372036854775808) : wrap64 n = n := by unfold wrap64; omega
theorem remI_pos {x y : Int} (h : y ≠ 0) : remI x y = some (x.tmod y) := by simp [remI, h]
theorem quoI_pos {x y : Int} (h : y ≠ 0) : quoI .i64 x y = some (wrap64 (x.tdiv y)) := by simp [quoI, h, wrT_eq, wr]
theorem tmod_range {x y : Int} (hx : 0 ≤ x) (hy : 0 < y) : 0 ≤ x.tmod y ∧ x.tmod y < y := by
  rw [Int.tmod_eq_emod_of_nonneg hx]
  exact ⟨Int.emod_nonneg _ (by omega), Int.emod_lt_of_pos _ hy⟩
theorem xor_nonneg {x y : Int} (hx : 0 ≤ x) (hx' : x < 4611686018427387904) (hy : 0 ≤ y) (hy' : y < 4611686018427387904) : 0 ≤ bits .xor .i64 x y ∧ bits .xor .i64 x y < 4611686018427387904 := by
  obtain ⟨a, rfl⟩ := Int.eq_ofNat_of_zero_le hx
  obtain ⟨b, rfl⟩ := Int.eq_ofNat_of_zero_le hy
  have h : ((BitVec.ofInt 64 (a : Int)) ^^^ (BitVec.ofInt 64 (b : Int))).toNat < 4611686018427387904 := by
    rw [BitVec.toNat_xor]
    apply Nat.xor_lt_two_pow (n := 62)
    · rw [BitVec.toNat_ofInt]; omega
    · rw [BitVec.toNat_ofInt]; omega
  have e : bits .xor .i64 (a : Int) (b : Int) = IntKind.i64.wrap ((((BitVec.ofInt 64 (a : Int)) ^^^ (BitVec.ofInt 64 (b : Int))).toNat : Nat) : Int) := rfl
  rw [e]
  generalize ((BitVec.ofInt 64 (a : Int)) ^^^ (BitVec.ofInt 64 (b : Int))).toNat = n at h
  have e2 : IntKind.i64.wrap (n : Int) = n := by
    simp [IntKind.wrap, IntKind.signed, IntKind.bits]; omega
  rw [e2]; omega
theorem not_dec {p : Prop} [Decidable p] : (!decide p) = decide (¬ p) := by simp
theorem cond_some {α : Type} (c : Bool) (x y : α) : (bif c then some x else some y) = some (bif c then x else y) := by cases c <;> rfl
theorem some_dec {b : Bool} {P : Prop} [Decidable P] (h : b = true ↔ P) : some b = some (decide P) := by
  have : b = decide P := by rw [Bool.eq_iff_iff, h, decide_eq_true_eq]
  rw [this]
theorem cond_iff (c x y : Bool) : (bif c then x else y) = true ↔ if c = true then x = true else y = true := by cases c <;> simp
end Go.Tv
