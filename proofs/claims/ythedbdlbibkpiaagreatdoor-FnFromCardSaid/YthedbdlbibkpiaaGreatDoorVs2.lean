/- What a plain value says of a value of the machine, whatever memory is sealed. -/
import Derived.Test.YthedbdlbibkpiaaGreatDoorVs1
set_option linter.unusedVariables false
namespace Go.Vs
open Go Go.RowKit

abbrev Mem := Nat → Nat → Option Value
def Mem.le (σ τ : Mem) : Prop := ∀ B i v, σ B i = some v → τ B i = some v
theorem Mem.le_refl (σ : Mem) : σ.le σ := fun _ _ _ h => h
theorem Mem.le_trans {σ τ υ : Mem} (h : σ.le τ) (k : τ.le υ) : σ.le υ := fun B i v hv => k B i v (h B i v hv)

mutual
def RepP (fid : Nat → Nat) (σ : Mem) : AV → Value → Prop
  | .undef, _ => True
  | .int k n, v => v = .int k n
  | .bool b, v => v = .bool b
  | .str l, v => v = .string ⟨l.toArray⟩
  | .con c, v => v = c.val
  | .sl m sz xs, v => ∃ a n cap, v = .slice a n cap ∧ n = xs.length ∧ n ≤ cap ∧ ((m = .zero → cap = 0) ∧ (m = .full → cap = n)) ∧ (n = 0 ∨ ∃ B o, a = some ⟨B, o, none⟩ ∧ RepR fid σ sz xs (fun i => σ B (o + i)))
  | .agg cs, v => ∃ vs, v = .agg vs ∧ vs.size = cs.length ∧ RepL fid σ cs (fun i => vs[i]?)
  | .rp cs off, v => ∃ B o, v = .pointer (some ⟨B, o + off, none⟩) ∧ RepL fid σ cs (fun i => σ B (o + i))
  | .fn g cap, v => ∃ vs, v = .func (.func (fid g)) #[] vs ∧ vs.size = cap.length ∧ RepL fid σ cap (fun i => vs[i]?)
  | .tup vs, v => ∃ ws, v = .tuple ws ∧ ws.size = vs.length ∧ RepL fid σ vs (fun i => ws[i]?)
  | .bp _ _, _ => False
  | .bs _, _ => False
  | .be _ _ _, _ => False
  | .np _, _ => False
def RepL (fid : Nat → Nat) (σ : Mem) : List AV → (Nat → Option Value) → Prop
  | [], _ => True
  | c :: cs, f => (∃ v, f 0 = some v ∧ RepP fid σ c v) ∧ RepL fid σ cs (fun i => f (i + 1))
def RepR (fid : Nat → Nat) (σ : Mem) (sz : Nat) : List (List AV) → (Nat → Option Value) → Prop
  | [], _ => True
  | r :: rs, f => r.length = sz ∧ RepL fid σ r f ∧ RepR fid σ sz rs (fun i => f (sz + i))
end

section
variable {fid : Nat → Nat} {σ τ : Mem}

theorem RepL_iff {cs : List AV} : ∀ {f : Nat → Option Value}, RepL fid σ cs f ↔ ∀ i c, cs[i]? = some c → ∃ v, f i = some v ∧ RepP fid σ c v := by
  induction cs with
  | nil => intro f; simp [RepL]
  | cons c cs ih =>
    intro f
    simp only [RepL, ih]
    constructor
    · rintro ⟨h0, h⟩ i d hd
      cases i with
      | zero => simp at hd; subst hd; exact h0
      | succ i => exact h i d (by simpa using hd)
    · intro h
      exact ⟨h 0 c (by simp), fun i d hd => h (i + 1) d (by simpa using hd)⟩

theorem RepR_iff {sz : Nat} {xs : List (List AV)} : ∀ {f : Nat → Option Value}, RepR fid σ sz xs f ↔ ∀ i r, xs[i]? = some r → r.length = sz ∧ RepL fid σ r (fun j => f (i * sz + j)) := by
  induction xs with
  | nil => intro f; simp [RepR]
  | cons r rs ih =>
    intro f
    simp only [RepR, ih]
    constructor
    · rintro ⟨h0, h1, h⟩ i d hd
      cases i with
      | zero => simp at hd; subst hd; exact ⟨h0, by simpa using h1⟩
      | succ i =>
        have := h i d (by simpa using hd)
        refine ⟨this.1, ?_⟩
        have e : (fun j => f ((i + 1) * sz + j)) = (fun j => f (sz + (i * sz + j))) := by
          funext j; congr 1; rw [Nat.add_mul]; omega
        rw [e]; exact this.2
    · intro h
      refine ⟨(h 0 r (by simp)).1, by simpa using (h 0 r (by simp)).2, fun i d hd => ?_⟩
      have := h (i + 1) d (by simpa using hd)
      refine ⟨this.1, ?_⟩
      have e : (fun j => f ((i + 1) * sz + j)) = (fun j => f (sz + (i * sz + j))) := by
        funext j; congr 1; rw [Nat.add_mul]; omega
      rw [e] at this; exact this.2

mutual
theorem RepP_mono (h : σ.le τ) : ∀ (c : AV) (v : Value), RepP fid σ c v → RepP fid τ c v
  | .undef, v, _ => by simp [RepP]
  | .int k n, v, hv => by simpa [RepP] using hv
  | .bool b, v, hv => by simpa [RepP] using hv
  | .str l, v, hv => by simpa [RepP] using hv
  | .con c, v, hv => by simpa [RepP] using hv
  | .sl m sz xs, v, hv => by
    simp only [RepP] at hv ⊢
    obtain ⟨a, n, cap, rfl, h1, h2, h3, h4⟩ := hv
    refine ⟨a, n, cap, rfl, h1, h2, h3, ?_⟩
    rcases h4 with h4 | ⟨B, o, h5, h6⟩
    · exact .inl h4
    · exact .inr ⟨B, o, h5, RepR_mono h xs _ _ (fun i v hv => h _ _ _ hv) h6⟩
  | .agg cs, v, hv => by
    simp only [RepP] at hv ⊢
    obtain ⟨vs, h1, h2, h3⟩ := hv
    exact ⟨vs, h1, h2, RepL_mono h cs _ _ (fun _ _ h => h) h3⟩
  | .rp cs off, v, hv => by
    simp only [RepP] at hv ⊢
    obtain ⟨B, o, h1, h3⟩ := hv
    exact ⟨B, o, h1, RepL_mono h cs _ _ (fun _ _ hv => h _ _ _ hv) h3⟩
  | .fn g cs, v, hv => by
    simp only [RepP] at hv ⊢
    obtain ⟨vs, h1, h2, h3⟩ := hv
    exact ⟨vs, h1, h2, RepL_mono h cs _ _ (fun _ _ h => h) h3⟩
  | .tup cs, v, hv => by
    simp only [RepP] at hv ⊢
    obtain ⟨vs, h1, h2, h3⟩ := hv
    exact ⟨vs, h1, h2, RepL_mono h cs _ _ (fun _ _ h => h) h3⟩
  | .bp _ _, v, hv => by simp [RepP] at hv
  | .bs _, v, hv => by simp [RepP] at hv
  | .be _ _ _, v, hv => by simp [RepP] at hv
  | .np _, v, hv => by simp [RepP] at hv
theorem RepL_mono (h : σ.le τ) : ∀ (cs : List AV) (f g : Nat → Option Value), (∀ i v, f i = some v → g i = some v) → RepL fid σ cs f → RepL fid τ cs g
  | [], _, _, _, _ => by simp [RepL]
  | c :: cs, f, g, hfg, hv => by
    simp only [RepL] at hv ⊢
    obtain ⟨⟨v, h1, h2⟩, h3⟩ := hv
    exact ⟨⟨v, hfg _ _ h1, RepP_mono h c v h2⟩, RepL_mono h cs _ _ (fun i v hv => hfg _ _ hv) h3⟩
theorem RepR_mono (h : σ.le τ) {sz : Nat} : ∀ (xs : List (List AV)) (f g : Nat → Option Value), (∀ i v, f i = some v → g i = some v) → RepR fid σ sz xs f → RepR fid τ sz xs g
  | [], _, _, _, _ => by simp [RepR]
  | r :: rs, f, g, hfg, hv => by
    simp only [RepR] at hv ⊢
    exact ⟨hv.1, RepL_mono h r _ _ hfg hv.2.1, RepR_mono h rs _ _ (fun i v hv => hfg _ _ hv) hv.2.2⟩
end

theorem RepP.mono {c : AV} {v : Value} (hv : RepP fid σ c v) (h : σ.le τ) : RepP fid τ c v := RepP_mono h c v hv

theorem RepP_dem {c : AV} {v : Value} (h : RepP fid σ c v) : RepP fid σ c.dem v := by
  cases c with
  | sl m sz xs => cases m <;> first | exact h | (simp only [AV.dem, RepP] at h ⊢; obtain ⟨a, n, cap, h1, h2, h3, _, h5⟩ := h; exact ⟨a, n, cap, h1, h2, h3, by simp, h5⟩)
  | _ => exact h
theorem RepP_share {c : AV} {v : Value} (h : RepP fid σ c v) : RepP fid σ c.share v := by
  cases c with
  | sl m sz xs => simp only [AV.share, RepP] at h ⊢; obtain ⟨a, n, cap, h1, h2, h3, _, h5⟩ := h; exact ⟨a, n, cap, h1, h2, h3, by simp, h5⟩
  | _ => exact h
theorem RepP_toTip {c : AV} {v : Value} (h : RepP fid σ c v) : RepP fid σ c.toTip v := by
  cases c with
  | sl m sz xs => cases m <;> first | exact h | (simp only [AV.toTip, RepP] at h ⊢; obtain ⟨a, n, cap, h1, h2, h3, _, h5⟩ := h; exact ⟨a, n, cap, h1, h2, h3, by simp, h5⟩)
  | _ => exact h
theorem RepL_map {cs : List AV} {f : Nat → Option Value} {m : AV → AV} (hm : ∀ c v, RepP fid σ c v → RepP fid σ (m c) v) (h : RepL fid σ cs f) : RepL fid σ (cs.map m) f := by
  rw [RepL_iff] at h ⊢
  intro i c hc
  rw [List.getElem?_map] at hc
  cases hd : cs[i]? with
  | none => rw [hd] at hc; simp at hc
  | some d =>
    rw [hd] at hc
    simp at hc
    subst hc
    obtain ⟨v, h1, h2⟩ := h i d hd
    exact ⟨v, h1, hm _ _ h2⟩
theorem RepL_append {xs ys : List AV} {f : Nat → Option Value} : RepL fid σ (xs ++ ys) f ↔ RepL fid σ xs f ∧ RepL fid σ ys (fun i => f (xs.length + i)) := by
  simp only [RepL_iff]
  constructor
  · intro h
    refine ⟨fun i c hc => h i c ?_, fun i c hc => h (xs.length + i) c ?_⟩
    · rw [List.getElem?_append_left (List.getElem?_eq_some_iff.1 hc).1]; exact hc
    · rw [List.getElem?_append_right (by omega)]; simpa using hc
  · rintro ⟨h1, h2⟩ i c hc
    by_cases hi : i < xs.length
    · rw [List.getElem?_append_left hi] at hc; exact h1 i c hc
    · rw [List.getElem?_append_right (by omega)] at hc
      have := h2 (i - xs.length) c hc
      rwa [show xs.length + (i - xs.length) = i by omega] at this
theorem RepR_append {sz : Nat} {xs ys : List (List AV)} {f : Nat → Option Value} : RepR fid σ sz (xs ++ ys) f ↔ RepR fid σ sz xs f ∧ RepR fid σ sz ys (fun i => f (xs.length * sz + i)) := by
  simp only [RepR_iff]
  constructor
  · intro h
    refine ⟨fun i c hc => h i c ?_, fun i c hc => ?_⟩
    · rw [List.getElem?_append_left (List.getElem?_eq_some_iff.1 hc).1]; exact hc
    · have := h (xs.length + i) c (by rw [List.getElem?_append_right (by omega)]; simpa using hc)
      refine ⟨this.1, ?_⟩
      have e : (fun j => f ((xs.length + i) * sz + j)) = (fun j => f (xs.length * sz + (i * sz + j))) := by
        funext j; congr 1; rw [Nat.add_mul]; omega
      rw [e] at this; exact this.2
  · rintro ⟨h1, h2⟩ i c hc
    by_cases hi : i < xs.length
    · rw [List.getElem?_append_left hi] at hc; exact h1 i c hc
    · rw [List.getElem?_append_right (by omega)] at hc
      have := h2 (i - xs.length) c hc
      refine ⟨this.1, ?_⟩
      have e : (fun j => f (i * sz + j)) = (fun j => f (xs.length * sz + ((i - xs.length) * sz + j))) := by
        funext j; congr 1
        rw [← Nat.add_assoc, ← Nat.add_mul, show xs.length + (i - xs.length) = i by omega]
      rw [e]; exact this.2
end
end Go.Vs
