/- The program's NextTurn and the reference's give the same three answers for all whole numbers of 64 bits. No condition. -/
import Derived.Test.YtbofepgnakbohaaPFnExactNextTurnx1
import Derived.DataShut
namespace Go.Proofs.Ytbofepgnakbohaa.Pure
open Go.RowKit Go.Proofs.Ytbofepgnakbohaa.PFnExactNextTurn Go.Proofs.YtbofepgnakbohaaW.PrintWords Go.Proofs.YtbofepgnakbohaaW.PrintLast

theorem wf64 {n : Int} (h : (Lit.int .i64 n).wf = true) : -9223372036854775808 ≤ n ∧ n ≤ 9223372036854775807 := (Lit.wf_int_iff .i64 n).mp h

/-- The reference's answer and the program's are one, and there is one. -/
theorem next_same (k : Nat) (a0 a1 a2 a3 : Int) (h0 : -9223372036854775808 ≤ a0) (h1 : a0 ≤ 9223372036854775807) :
    spec_NextTurn.f (k + 1) a0 a1 a2 a3 = impl_NextTurn.f (k + 1) a0 a1 a2 a3 ∧ ∃ r, impl_NextTurn.f (k + 1) a0 a1 a2 a3 = some r := by
  by_cases hm : 1 ≤ a0 ∧ a0 ≤ 3
  · obtain ⟨hl, hh⟩ := hm
    have hw : wrap64 (a0 - 1) = a0 - 1 := by unfold wrap64; omega
    have hne : ¬ a0 = 0 := by omega
    simp only [spec_NextTurn.f, impl_NextTurn.f, spec_l6In.f, spec_NextTurn.j0, impl_NextTurn.j0, hw]
    rw [if_pos (show a0 ≥ 1 from hl), if_neg (show ¬ a0 < 1 by omega), if_neg (show ¬ a0 > 3 by omega)]
    simp only [Option.bind_some, decide_eq_true_eq, if_pos hh, hne, if_false]
    by_cases t0 : a1 < 0
    · simp [t0, show ¬ (0 ≤ a1) by omega]
    · by_cases t1 : a1 ≥ a0
      · simp [t0, t1, show (0 ≤ a1) by omega, show ¬ a1 ≤ a0 - 1 by omega]
      · by_cases t2 : a2 < 0
        · simp [t0, t1, t2, show (0 ≤ a1) by omega, show a1 ≤ a0 - 1 by omega, show ¬ (0 ≤ a2) by omega]
        · by_cases t3 : a2 ≥ a0
          · simp [t0, t1, t2, t3, show (0 ≤ a1) by omega, show a1 ≤ a0 - 1 by omega, show (0 ≤ a2) by omega, show ¬ a2 ≤ a0 - 1 by omega]
          · simp [t0, t1, t2, t3, show (0 ≤ a1) by omega, show a1 ≤ a0 - 1 by omega, show (0 ≤ a2) by omega, show a2 ≤ a0 - 1 by omega]
            by_cases s1 : a3 = 1 <;> by_cases s2 : a3 = 2 <;> by_cases s3 : a3 = 3 <;> by_cases s4 : a3 = 4 <;> simp [s1, s2, s3, s4]
  · simp only [spec_NextTurn.f, impl_NextTurn.f, spec_l6In.f, spec_NextTurn.j0, impl_NextTurn.j0]
    by_cases hl : a0 ≥ 1
    · have hh : a0 > 3 := by omega
      simp [hl, hh, show ¬ a0 ≤ 3 by omega, show ¬ a0 < 1 by omega]
    · simp [hl, show a0 < 1 by omega]

theorem FnExactNextTurn : laws_FnExactNextTurn.Pure := by
  intro a0 a1 a2 a3 w0 w1 w2 w3
  obtain ⟨h0, h1⟩ := wf64 w0
  obtain ⟨he, r, hr⟩ := next_same 0 a0 a1 a2 a3 h0 h1
  refine ⟨1, ?_⟩
  unfold laws_FnExactNextTurn.f
  rw [he, hr]
  simp

end Go.Proofs.Ytbofepgnakbohaa.Pure
