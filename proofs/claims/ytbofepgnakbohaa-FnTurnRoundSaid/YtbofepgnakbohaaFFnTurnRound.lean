/- The plain law: what the functions answer. -/
import Derived.Test.YtbofepgnakbohaaDFnTurnRoundE0
import Derived.Test.YtbofepgnakbohaaLk
set_option linter.unusedVariables false
set_option linter.unusedSimpArgs false
namespace Go.TFnTurnRound
open Go Go.RowKit Go.Vs Go.Tv
theorem spec_l6In_eq (a b c : Int) : spec_l6In a b c = some (decide (b ≤ a ∧ a ≤ c)) := by
  apply spec_l6In_le
  by_cases h : b ≤ a <;> simp [h]

/-- A reader of bytes: how far it may have come. -/
def Rd (b : List Int) (p m : Int) : Prop := (∀ x ∈ b, 0 ≤ x ∧ x ≤ 255) ∧ (b.length : Int) ≤ 2000 ∧ 0 ≤ p ∧ p ≤ m

theorem open_ok {a : List Int} (h : wfBs a) : Ok (spec_l6Open a) fun r => Rd r.1 r.2 0 := by
  apply Ok.le (spec_l6Open_le a)
  refine Ok.bif (fun hb => ?_) (fun hb => ?_)
  · simp only [decide_eq_true_eq] at hb
    have : cutL a 0 2000 = some (a.take 2000) := by
      unfold cutL
      rw [if_pos (by omega)]
      simp
    rw [this]
    refine Ok.of ⟨fun x hx => h x (List.mem_of_mem_take hx), ?_, by omega, by omega⟩
    simp only [List.length_take]; omega
  · simp only [decide_eq_false_iff_not] at hb
    exact Ok.of ⟨h, (by show (a.length : Int) ≤ 2000; omega), by omega, by omega⟩

theorem u8_get {b : List Int} (h : ∀ x ∈ b, 0 ≤ x ∧ x ≤ 255) {n : Int} (h0 : 0 ≤ n) (h1 : n < b.length) : Ok (geti b n) fun x => 0 ≤ x ∧ x ≤ 255 :=
  (Ok.geti h0 h1).mono fun x hx => h x hx.1

theorem pick_ok {b : List Int} {p m n : Int} (h : Rd b p m) (hm : m ≤ 1000000000) (hn : wfI n) :
    Ok (spec_l6Rd_pick n b p) fun r => Rd r.2.1 r.2.2 (m + 1) ∧ 0 ≤ r.1 ∧ (1 ≤ n → r.1 < n) ∧ (n < 1 → r.1 = 0) := by
  obtain ⟨h1, h2, h3, h4⟩ := h
  obtain ⟨n1, n2⟩ := hn
  apply Ok.le (spec_l6Rd_pick_le n b p)
  have e1 : wrap64 (p + 1) = p + 1 := wrap_id (by omega) (by omega)
  have e2 : wrap64 (p + 1 - 1) = p := by rw [show p + 1 - 1 = p by omega]; exact wrap_id (by omega) (by omega)
  rw [e1, e2]
  have hR : Rd b (p + 1) (m + 1) := ⟨h1, h2, by omega, by omega⟩
  refine Ok.bif (fun hb => ?_) (fun hb => ?_)
  · simp only [decide_eq_true_eq] at hb
    exact Ok.of ⟨hR, by omega, by omega, by omega⟩
  simp only [decide_eq_false_iff_not] at hb
  refine Ok.bif (fun hc => ?_) (fun hc => ?_)
  · exact Ok.of ⟨hR, by omega, by omega, by omega⟩
  simp only [decide_eq_false_iff_not] at hc
  refine Ok.bif (fun hd => ?_) (fun hd => ?_)
  · simp only [decide_eq_true_eq] at hd
    refine Ok.bnd (u8_get h1 h3 hd) fun x hx => ?_
    rw [wrap_id (by omega) (by omega), remI_pos (by omega)]
    have := tmod_range (y := n) hx.1 (by omega)
    exact Ok.of ⟨hR, this.1, fun _ => this.2, by omega⟩
  · simp only [decide_eq_false_iff_not] at hd
    have hl : 0 < (b.length : Int) := by omega
    rw [remI_pos (by omega), bnd_some]
    have t1 := tmod_range (x := p) h3 hl
    refine Ok.bnd (u8_get h1 t1.1 t1.2) fun x hx => ?_
    have e3 : wrap64 (p * 7) = p * 7 := wrap_id (by omega) (by omega)
    have e4 : wrap64 (p * 7 + 3) = p * 7 + 3 := wrap_id (by omega) (by omega)
    rw [e3, e4, remI_pos (by omega), bnd_some]
    have t2 := tmod_range (x := p * 7 + 3) (by omega) hl
    refine Ok.bnd (u8_get h1 t2.1 t2.2) fun y hy => ?_
    rw [quoI_pos (by omega), bnd_some]
    have q0 : 0 ≤ p.tdiv b.length ∧ p.tdiv b.length ≤ p := by
      rw [Int.tdiv_eq_ediv_of_nonneg h3]
      exact ⟨Int.ediv_nonneg h3 (by omega), Int.ediv_le_self _ h3⟩
    generalize hq : p.tdiv b.length = q at q0
    have hx2 : wrap64 x = x := wrap_id (by omega) (by omega)
    have hy2 : wrap64 y = y := wrap_id (by omega) (by omega)
    have hq2 : wrap64 q = q := wrap_id (by omega) (by omega)
    rw [hx2, hy2, hq2]
    have f1 : wrap64 (x * 131) = x * 131 := wrap_id (by omega) (by omega)
    have f2 : wrap64 (y * 1117) = y * 1117 := wrap_id (by omega) (by omega)
    have f3 : wrap64 (p * 29) = p * 29 := wrap_id (by omega) (by omega)
    have f4 : wrap64 (q * 53) = q * 53 := wrap_id (by omega) (by omega)
    rw [f1, f2, f3, f4]
    have f5 : wrap64 (x * 131 + y * 1117) = x * 131 + y * 1117 := wrap_id (by omega) (by omega)
    rw [f5]
    have f6 : wrap64 (x * 131 + y * 1117 + p * 29) = x * 131 + y * 1117 + p * 29 := wrap_id (by omega) (by omega)
    rw [f6]
    have f7 : wrap64 (x * 131 + y * 1117 + p * 29 + q * 53) = x * 131 + y * 1117 + p * 29 + q * 53 := wrap_id (by omega) (by omega)
    rw [f7]
    generalize hz : x * 131 + y * 1117 + p * 29 + q * 53 = z
    have hz0 : 0 ≤ z ∧ z < 1000000000000 := by omega
    have hd2 : 0 ≤ z.tdiv 64 ∧ z.tdiv 64 ≤ z := by
      rw [Int.tdiv_eq_ediv_of_nonneg hz0.1]
      omega
    rw [wrap_id (n := z.tdiv 64) (by omega) (by omega), remI_pos (by omega), bnd_some]
    have hxor := xor_nonneg (x := z) (y := z.tdiv 64) hz0.1 (by omega) hd2.1 (by omega)
    have t3 := tmod_range (y := n) hxor.1 (by omega)
    exact Ok.of ⟨hR, t3.1, fun _ => t3.2, by omega⟩

/-- A turn's end. -/
def nextT (many turn idle code : Int) : Int × Int × Bool :=
  if 1 ≤ many ∧ many ≤ 3 ∧ 0 ≤ turn ∧ turn < many ∧ 0 ≤ idle ∧ idle < many then
    (if code = 1 then (turn, 0, true) else if code = 2 then ((turn + 1) % many, 0, true) else if code = 3 ∨ code = 4 then ((turn + 1) % many, idle + 1, true) else (0, 0, false))
  else (0, 0, false)

theorem rem_turn {many turn : Int} (h1 : 1 ≤ many) (h2 : many ≤ 3) (h3 : 0 ≤ turn) (h4 : turn < many) : remI (wrap64 (turn + 1)) many = some ((turn + 1) % many) := by
  rw [wrap_id (by omega) (by omega), remI_pos (by omega), Int.tmod_eq_emod_of_nonneg (by omega)]

theorem spec_NextTurn_eq (many turn idle code : Int) : spec_NextTurn many turn idle code = some (nextT many turn idle code) := by
  apply spec_NextTurn_le
  unfold nextT
  simp only [spec_l6In_eq, bnd_some]
  by_cases h1 : 1 ≤ many ∧ many ≤ 3
  · have e : wrap64 (many - 1) = many - 1 := wrap_id (by omega) (by omega)
    simp only [e]
    by_cases h2 : 0 ≤ turn ∧ turn ≤ many - 1
    · by_cases h3 : 0 ≤ idle ∧ idle ≤ many - 1
      · rw [if_pos (by omega), rem_turn h1.1 h1.2 h2.1 (by omega)]
        have e2 : wrap64 (idle + 1) = idle + 1 := wrap_id (by omega) (by omega)
        simp only [h1, h2, h3, e2, and_self, decide_true, Bool.not_true, cond_false, bnd_some, Bool.cond_decide]
        split
        · rfl
        split
        · rfl
        by_cases h5 : code = 3
        · simp [h5]
        · by_cases h6 : code = 4 <;> simp [h5, h6]
      · rw [if_neg (by omega)]; simp [h1, h2, h3]
    · rw [if_neg (by omega)]; simp [h1, h2]
  · rw [if_neg (by omega)]; simp [h1]

theorem impl_NextTurn_eq (many turn idle code : Int) : impl_NextTurn many turn idle code = some (nextT many turn idle code) := by
  apply impl_NextTurn_le
  unfold nextT
  simp only [Bool.cond_decide]
  by_cases h : 1 ≤ many ∧ many ≤ 3 ∧ 0 ≤ turn ∧ turn < many ∧ 0 ≤ idle ∧ idle < many
  · rw [if_pos h, rem_turn h.1 h.2.1 h.2.2.1 h.2.2.2.1]
    have e2 : wrap64 (idle + 1) = idle + 1 := wrap_id (by omega) (by omega)
    rw [if_neg (by omega), if_neg (by omega), if_neg (by omega), if_neg (by omega), if_neg (by omega), if_neg (by omega), e2]
    simp only [bnd_some]
    split
    · rfl
    split
    · rfl
    by_cases h5 : code = 3
    · simp [h5]
    · by_cases h6 : code = 4 <;> simp [h5, h6]
  · rw [if_neg h]
    split
    · rfl
    split
    · rfl
    split
    · rfl
    split
    · rfl
    split
    · rfl
    split
    · rfl
    omega

theorem DrawNextTurn_ok {a : List Int} (h : wfBs a) : Ok (spec_DrawNextTurn a) fun r => True := by
  apply Ok.le (spec_DrawNextTurn_le a)
  refine Ok.bnd (open_ok h) fun r1 h1 => ?_
  refine Ok.bnd (pick_ok h1 (by omega) (by decide)) fun r2 h2 => ?_
  have e : wrap64 (1 + r2.1) = 1 + r2.1 := wrap_id (by omega) (by omega)
  have w : wfI (wrap64 (1 + r2.1)) := by rw [e]; unfold wfI; omega
  refine Ok.bnd (pick_ok h2.1 (by omega) w) fun r3 h3 => ?_
  refine Ok.bnd (pick_ok h3.1 (by omega) w) fun r4 h4 => ?_
  refine Ok.bnd (pick_ok h4.1 (by omega) (by decide)) fun r5 h5 => ?_
  refine Ok.bnd (pick_ok h5.1 (by omega) (by decide)) fun r6 h6 => ?_
  refine Ok.bif (fun _ => ?_) (fun _ => ?_)
  · refine Ok.bnd (pick_ok h6.1 (by omega) (by decide)) fun r7 h7 => ?_
    refine Ok.bnd (Ok.geti h7.2.1 (by have := h7.2.2.1 (by omega); simp; omega)) fun e8 h8 => ?_
    exact Ok.of trivial
  refine Ok.bif (fun _ => Ok.of trivial) (fun _ => ?_)
  refine Ok.bif (fun _ => Ok.of trivial) (fun _ => ?_)
  refine Ok.bif (fun _ => ?_) (fun _ => Ok.of trivial)
  refine Ok.bnd (pick_ok h6.1 (by omega) (by decide)) fun r7 h7 => ?_
  refine Ok.bnd (Ok.geti h7.2.1 (by have := h7.2.2.1 (by omega); simp; omega)) fun e8 h8 => ?_
  exact Ok.of trivial

/-- Waiting, round and round. -/
theorem round_l {many turn : Int} (h1 : 1 ≤ many) (h2 : many ≤ 3) (h3 : 0 ≤ turn) (h4 : turn < many) : ∀ (d : Nat) (i k n : Int), 0 ≤ i → i + d = many → n = i → k = (turn + i) % many →
    laws_FnTurnRound_l1 many turn k n i = some (.inl (many, turn, turn, many))
  | 0, i, k, n, h0, hd, hn, hk => by
    apply laws_FnTurnRound_l1_le
    have : i = many := by omega
    subst this
    have e : k = turn := by
      rw [hk, Int.add_emod_right]; exact Int.emod_eq_of_lt h3 h4
    simp [hn, e]
  | d + 1, i, k, n, h0, hd, hn, hk => by
    apply laws_FnTurnRound_l1_le
    have hi : i < many := by omega
    have hk0 : 0 ≤ k ∧ k < many := by rw [hk]; exact ⟨Int.emod_nonneg _ (by omega), Int.emod_lt_of_pos _ (by omega)⟩
    have e : nextT many k n 3 = ((k + 1) % many, n + 1, true) := by
      unfold nextT
      rw [if_pos (by omega)]
      simp
    have e2 : wrap64 (i + 1) = i + 1 := wrap_id (by omega) (by omega)
    simp only [hi, decide_true, cond_true, impl_NextTurn_eq, e, bnd_some, Bool.not_true, cond_false, e2]
    refine round_l h1 h2 h3 h4 d (i + 1) _ _ (by omega) (by omega) (by omega) ?_
    rw [hk, Int.emod_add_emod, Int.add_assoc]

theorem laws_FnTurnRound_eq (a : List Int) (h : wfBs a) : laws_FnTurnRound a = some true := by
  apply laws_FnTurnRound_le
  apply Ok.some
  refine Ok.bif (fun _ => Ok.of rfl) (fun _ => ?_)
  refine Ok.bnd (DrawNextTurn_ok h) fun r _ => ?_
  obtain ⟨many, turn, idle, code⟩ := r
  dsimp only
  simp only [spec_NextTurn_eq, impl_NextTurn_eq, bnd_some]
  by_cases hk : (nextT many turn idle code).2.2 = true
  · have hk2 := hk
    unfold nextT at hk2
    split at hk2
    · rename_i hc
      rw [round_l hc.1 hc.2.1 hc.2.2.1 hc.2.2.2.1 many.toNat 0 turn 0 (by omega) (by omega) rfl (by rw [Int.add_zero, Int.emod_eq_of_lt hc.2.2.1 hc.2.2.2.1])]
      have e : nextT many turn many 3 = (0, 0, false) := by unfold nextT; rw [if_neg (by omega)]
      simp [hk, selm, e]
      exact Ok.of rfl
    · cases hk2
  · simp [hk]; exact Ok.of rfl
end Go.TFnTurnRound
