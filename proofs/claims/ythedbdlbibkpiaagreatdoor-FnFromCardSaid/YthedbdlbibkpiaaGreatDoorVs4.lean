/- The machine's operations under the plain ones: constants, operands, copies, new variables, stores. -/
import Derived.Test.YthedbdlbibkpiaaGreatDoorVs3
set_option linter.unusedVariables false
namespace Go.Vs
open Go Go.RowKit

structure Ctx where
  P : Program
  fid : Nat → Nat
  gm : Nat → Nat
  G : Nat → List AV
  /-- what stands in blocks that nobody changes -/
  fx : List (Nat × (Obj → Prop)) := []

/-- Blocks that nobody changes stand as they did. -/
def FixOk (C : Ctx) (e : Env) : Prop := ∀ x ∈ C.fx, x.1 < e.w0.heap.size ∧ ¬ e.lent x.1 ∧ ∃ o, e.w0.heap[x.1]? = some o ∧ x.2 o

def GOk (C : Ctx) (σ : Mem) : Prop := ∀ i, RepL C.fid σ (C.G i) (fun j => σ (C.gm i) j)
theorem GOk.mono {C : Ctx} {σ τ : Mem} (h : GOk C σ) (hl : σ.le τ) : GOk C τ := fun i => RepL_mono hl _ _ _ (fun _ _ hv => hl _ _ _ hv) (h i)

mutual
def okC : AV → Value → Bool
  | .int k n, .int k' m => decide (k = k') && decide (n = m)
  | .bool a, .bool b => a == b
  | .str l, .string s => l == s.data.toList
  | .con .nilp, .pointer none => true
  | .con .nilf, .nilFunc => true
  | .con .nili, .nilIface => true
  | .sl .zero _ [], .slice none 0 0 => true
  | .sl .share _ [], .slice none 0 0 => true
  | .agg cs, .agg vs => okCs cs vs.toList
  | _, _ => false
def okCs : List AV → List Value → Bool
  | [], [] => true
  | c :: cs, v :: vs => okC c v && okCs cs vs
  | _, _ => false
end

theorem okCs_len : ∀ {cs : List AV} {vs : List Value}, okCs cs vs = true → cs.length = vs.length
  | [], [], _ => rfl
  | [], _ :: _, h => by simp [okCs] at h
  | _ :: _, [], h => by simp [okCs] at h
  | c :: cs, v :: vs, h => by simp [okCs] at h; simp [okCs_len h.2]

mutual
theorem okC_rep {fid : Nat → Nat} {σ : Mem} : ∀ {c : AV} {v : Value}, okC c v = true → RepP fid σ c v
  | .int k n, v, h => by cases v <;> simp_all [okC, RepP]
  | .bool b, v, h => by cases v <;> simp_all [okC, RepP]
  | .str l, v, h => by
    cases v <;> simp_all [okC, RepP]
  | .con .nilp, v, h => by
    cases v with
    | pointer a => cases a <;> simp_all [okC, RepP, Con.val]
    | _ => simp [okC] at h
  | .con .nilf, v, h => by cases v <;> simp_all [okC, RepP, Con.val]
  | .con .nili, v, h => by cases v <;> simp_all [okC, RepP, Con.val]
  | .sl m sz xs, v, h => by
    cases m <;> first | (cases v <;> simp [okC] at h; done) | skip
    all_goals
      cases xs with
      | cons x xs => cases v <;> simp [okC] at h
      | nil =>
        cases v with
        | slice a n cap =>
          cases a with
          | some a => simp [okC] at h
          | none =>
            cases n with
            | succ n => simp [okC] at h
            | zero =>
              cases cap with
              | succ n => simp [okC] at h
              | zero => exact ⟨none, 0, 0, rfl, rfl, Nat.le_refl _, (by first | exact ⟨fun _ => rfl, fun _ => rfl⟩ | simp), .inl rfl⟩
        | _ => simp [okC] at h
  | .agg cs, v, h => by
    cases v with
    | agg vs =>
      simp only [okC] at h
      refine ⟨vs, rfl, ?_, ?_⟩
      · simpa using (okCs_len h).symm
      · have := okCs_rep (fid := fid) (σ := σ) h
        simpa using this
    | _ => simp [okC] at h
  | .undef, v, h => by simp [RepP]
  | .rp _ _, v, h => by cases v <;> simp [okC] at h
  | .fn _ _, v, h => by cases v <;> simp [okC] at h
  | .tup _, v, h => by cases v <;> simp [okC] at h
  | .bp _ _, v, h => by cases v <;> simp [okC] at h
  | .bs _, v, h => by cases v <;> simp [okC] at h
  | .be _ _ _, v, h => by cases v <;> simp [okC] at h
  | .np _, v, h => by cases v <;> simp [okC] at h
theorem okCs_rep {fid : Nat → Nat} {σ : Mem} : ∀ {cs : List AV} {vs : List Value}, okCs cs vs = true → RepL fid σ cs (fun i => vs[i]?)
  | [], [], _ => by simp [RepL]
  | [], _ :: _, h => by simp [okCs] at h
  | _ :: _, [], h => by simp [okCs] at h
  | c :: cs, v :: vs, h => by
    simp only [okCs, Bool.and_eq_true] at h
    simp only [RepL]
    exact ⟨⟨v, by simp, okC_rep h.1⟩, by simpa using okCs_rep h.2⟩
end
end Go.Vs
