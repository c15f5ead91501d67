/- Regions: in the given order, and in every order that the edges leave open. -/
import Derived.Test.YthedbdlbibkpiaaGreatDoorVs20
set_option linter.unusedVariables false
namespace Go.Vs
open Go Go.RowKit

section
variable {C : Ctx} {e : Env} {s s1 s2 sf : S} {a : Act} {w w' : World} {call : Call} {ops : Array Oper} {ps : List AOp} {n : Nat} {Q : Exit → Act → World → Prop}

def okOpsL (C : Ctx) (n : Nat) (ops : Array Oper) : List AOp → List Oper → Bool
  | [], [] => true
  | p :: ps, o :: os => okOp C n ops p o && okOpsL C n ops ps os
  | _, _ => false
theorem okOpsL_get : ∀ {ps : List AOp} {os : List Oper}, okOpsL C n ops ps os = true → ps.length = os.length ∧ ∀ (i : Nat) (p : AOp), ps[i]? = some p → ∃ o, os[i]? = some o ∧ okOp C n ops p o = true
  | [], [], _ => ⟨rfl, by simp⟩
  | [], _ :: _, h => by simp [okOpsL] at h
  | _ :: _, [], h => by simp [okOpsL] at h
  | p :: ps, o :: os, h => by
    simp only [okOpsL, Bool.and_eq_true] at h
    obtain ⟨h1, h2⟩ := okOpsL_get h.2
    refine ⟨by simp [h1], fun i q hq => ?_⟩
    cases i with
    | zero => simp at hq; subst hq; exact ⟨o, rfl, h.1⟩
    | succ i => simpa using h2 i q (by simpa using hq)

theorem region_order (hc : CallOk C call) (hG : GE C e) : ∀ {qs : List AOp} {k : Nat} {s : S} {a : Act} {w : World}, (∀ (j : Nat) (p : AOp), qs[j]? = some p → ∃ o, ops[k + j]? = some o ∧ okOp C e.n ops p o = true) →
    opsA call C.G qs s = some sf → Rel C.fid e s a w → (∀ a w, Rel C.fid e sf a w → Q .normal a w) → wpOps C.P ops Q (List.range' k qs.length) a w
  | [], k, s, a, w, _, hev, hr, hQ => by
    simp only [opsA, Option.some.injEq] at hev
    subst hev
    simpa [wpOps] using hQ a w hr
  | p :: qs, k, s, a, w, hok, hev, hr, hQ => by
    simp only [opsA] at hev
    obtain ⟨s1, h1, h2⟩ := bnd_is.1 hev
    obtain ⟨o, ho, hop⟩ := hok 0 p rfl
    rw [List.length_cons, List.range'_succ, wpOps_cons]
    refine step_sound hc hG ho hop hr h1 fun a' w' hr' => ?_
    exact region_order hc hG (fun j q hq => by
      obtain ⟨o', h3, h4⟩ := hok (j + 1) q (by simpa using hq)
      exact ⟨o', by rw [← h3]; congr 1; omega, h4⟩) h2 hr' hQ

/-! ### Every order -/
inductive Reach (ops : Array Oper) : Nat → Nat → Prop
  | one {j : Nat} {o : Oper} {ed : Edge} (h1 : ops[j]? = some o) (h2 : ed ∈ o.after) (h3 : Region.binds .any ed = true) : Reach ops j ed.on
  | step {j i : Nat} {o : Oper} {ed : Edge} (h1 : ops[j]? = some o) (h2 : ed ∈ o.after) (h3 : Region.binds .any ed = true) (h4 : Reach ops ed.on i) : Reach ops j i

def Listed (ops : Array Oper) (listed : Array Bool) : Prop := ∀ (k : Nat) (o : Oper), ops[k]? = some o → listed.getD k true = true → ∀ ed ∈ o.after, Region.binds .any ed = true → listed.getD ed.on false = true

theorem reach_listed {listed : Array Bool} (hl : Listed ops listed) {j i : Nat} (h : Reach ops j i) : (∀ (o : Oper), ops[j]? = some o → ∀ ed ∈ o.after, Region.binds .any ed = true → listed.getD ed.on false = true) → listed.getD i false = true := by
  induction h with
  | one h1 h2 h3 => intro hj; exact hj _ h1 _ h2 h3
  | step h1 h2 h3 h4 ih =>
    intro hj
    refine ih fun o' ho' => ?_
    have := hj _ h1 _ h2 h3
    refine hl _ o' ho' ?_
    rename_i j i o ed
    rw [Array.getD_eq_getD_getElem?] at this ⊢
    cases hh : listed[ed.on]? with
    | none => rfl
    | some b => rw [hh] at this; simpa using this

def bindOn (o : Oper) : List Nat := (o.after.toList.filter (Region.binds .any)).map (·.on)
def join (xs ys : List Nat) : List Nat := ys.foldl (fun l y => if l.contains y then l else y :: l) xs
theorem mem_join {x : Nat} : ∀ {ys xs : List Nat}, x ∈ join xs ys → x ∈ xs ∨ x ∈ ys
  | [], xs, h => .inl h
  | y :: ys, xs, h => by
    rcases mem_join (ys := ys) (xs := if xs.contains y then xs else y :: xs) h with h1 | h1
    · split at h1
      · exact .inl h1
      · rcases List.mem_cons.1 h1 with rfl | h1
        · exact .inr (by simp)
        · exact .inl h1
    · exact .inr (by simp [h1])
def ancOf (acc : List (List Nat)) : List Nat → List Nat
  | [] => []
  | i :: is => join (ancOf acc is) (i :: acc.getD i [])
def ancs : List Oper → List (List Nat) → List (List Nat)
  | [], acc => acc
  | o :: os, acc => ancs os (acc ++ [ancOf acc (bindOn o)])

theorem ancOf_mem {acc : List (List Nat)} {x : Nat} : ∀ {is : List Nat}, x ∈ ancOf acc is → ∃ i ∈ is, x = i ∨ x ∈ acc.getD i []
  | [], h => by simp [ancOf] at h
  | i :: is, h => by
    rcases mem_join h with h1 | h1
    · obtain ⟨j, hj, h2⟩ := ancOf_mem h1
      exact ⟨j, List.mem_cons_of_mem _ hj, h2⟩
    · exact ⟨i, by simp, List.mem_cons.1 h1⟩
theorem ancs_ok : ∀ {os : List Oper} {pre : List Oper} {acc : List (List Nat)}, ops.toList = pre ++ os → acc.length = pre.length → (∀ (j : Nat) (l : List Nat), acc[j]? = some l → ∀ i ∈ l, Reach ops j i) →
    ∀ (j : Nat) (l : List Nat), (ancs os acc)[j]? = some l → ∀ i ∈ l, Reach ops j i
  | [], pre, acc, _, _, h => h
  | o :: os, pre, acc, he, hl, h => by
    refine ancs_ok (os := os) (pre := pre ++ [o]) (acc := acc ++ [ancOf acc (bindOn o)]) (by simp [he]) (by simp [hl]) fun j l hj i hi => ?_
    by_cases hlt : j < acc.length
    · rw [List.getElem?_append_left hlt] at hj
      exact h j l hj i hi
    · rw [List.getElem?_append_right (by omega)] at hj
      have hj0 : j = acc.length := by
        have := (List.getElem?_eq_some_iff.1 hj).1
        simp at this; omega
      subst hj0
      simp at hj
      subst hj
      have ho : ops[acc.length]? = some o := by
        rw [← Array.getElem?_toList, he, hl]; simp
      obtain ⟨k, hk, hx⟩ := ancOf_mem hi
      simp only [bindOn, List.mem_map, List.mem_filter] at hk
      obtain ⟨ed, ⟨h1, h2⟩, rfl⟩ := hk
      rcases hx with rfl | hx
      · exact .one ho (by simpa using h1) h2
      · refine .step ho (by simpa using h1) h2 ?_
        rw [List.getD_eq_getElem?_getD] at hx
        cases hg : acc[ed.on]? with
        | none => rw [hg] at hx; simp at hx
        | some l => rw [hg] at hx; exact h _ _ hg _ (by simpa using hx)

def allLt (f : Nat → Bool) : Nat → Bool
  | 0 => true
  | k + 1 => f k && allLt f k
theorem allLt_spec {f : Nat → Bool} : ∀ {k : Nat}, allLt f k = true → ∀ i, i < k → f i = true
  | 0, _, i, h => by omega
  | k + 1, h, i, hi => by
    simp only [allLt, Bool.and_eq_true] at h
    by_cases he : i = k
    · rw [he]; exact h.1
    · exact allLt_spec h.2 i (by omega)

/-- Whichever two the edges leave free may change places. -/
def okPairs (tab : List (List Nat)) : List AOp → List AOp → Nat → Bool
  | _, [], _ => true
  | before, y :: ys, j => pairsOk tab before y j 0 && okPairs tab (before ++ [y]) ys (j + 1)
where
  pairsOk (tab : List (List Nat)) : List AOp → AOp → Nat → Nat → Bool
    | [], _, _, _ => true
    | x :: xs, y, j, i => (comm x y || (tab.getD j []).contains i) && pairsOk tab xs y j (i + 1)
theorem pairsOk_spec {tab : List (List Nat)} {y : AOp} {j : Nat} : ∀ {xs : List AOp} {i0 : Nat}, okPairs.pairsOk tab xs y j i0 = true → ∀ (i : Nat) (x : AOp), xs[i]? = some x → comm x y = true ∨ i0 + i ∈ tab.getD j []
  | [], i0, _, i, x, h => by simp at h
  | x0 :: xs, i0, h, i, x, hx => by
    simp only [okPairs.pairsOk, Bool.and_eq_true, Bool.or_eq_true] at h
    cases i with
    | zero =>
      simp at hx
      subst hx
      rcases h.1 with h1 | h1
      · exact .inl h1
      · exact .inr (by simpa using h1)
    | succ i =>
      have := pairsOk_spec h.2 i x (by simpa using hx)
      rw [show i0 + (i + 1) = i0 + 1 + i by omega]; exact this
theorem okPairs_spec {tab : List (List Nat)} : ∀ {ys before : List AOp} {j0 : Nat}, before.length = j0 → okPairs tab before ys j0 = true → ∀ (i j : Nat) (x y : AOp), (before ++ ys)[i]? = some x → (before ++ ys)[j]? = some y → i < j → j0 ≤ j → comm x y = true ∨ i ∈ tab.getD j []
  | [], before, j0, hl, _, i, j, x, y, _, hy, _, hj => by
    have := (List.getElem?_eq_some_iff.1 hy).1
    simp at this; omega
  | y0 :: ys, before, j0, hl, h, i, j, x, y, hx, hy, hij, hj => by
    simp only [okPairs, Bool.and_eq_true] at h
    by_cases he : j = j0
    · subst he
      rw [List.getElem?_append_right (by omega), hl] at hy
      simp at hy
      subst hy
      rw [List.getElem?_append_left (by omega)] at hx
      simpa using pairsOk_spec h.1 i x hx
    · exact okPairs_spec (before := before ++ [y0]) (by simp [hl]) h.2 i j x y (by simpa using hx) (by simpa using hy) hij (by omega)

def edgesBack : List Oper → Nat → Bool
  | [], _ => true
  | o :: os, j => (bindOn o).all (fun i => decide (i < j)) && edgesBack os (j + 1)
theorem edgesBack_spec : ∀ {os : List Oper} {j0 : Nat}, edgesBack os j0 = true → ∀ (j : Nat) (o : Oper), os[j]? = some o → ∀ ed ∈ o.after, Region.binds .any ed = true → ed.on < j0 + j
  | [], j0, _, j, o, h => by simp at h
  | o0 :: os, j0, h, j, o, ho => by
    simp only [edgesBack, Bool.and_eq_true, List.all_eq_true, decide_eq_true_eq] at h
    cases j with
    | zero =>
      simp at ho
      subst ho
      intro ed h1 h2
      exact h.1 _ (List.mem_map.2 ⟨ed, List.mem_filter.2 ⟨by simpa using h1, h2⟩, rfl⟩)
    | succ j =>
      intro ed h1 h2
      have := edgesBack_spec h.2 j o (by simpa using ho) ed h1 h2
      omega

def rem (ops : Array Oper) (listed : Array Bool) : List Nat := (List.range ops.size).filter fun i => !listed.getD i true

theorem filter_ne {i : Nat} : ∀ {l1 l2 : List Nat}, (l1 ++ i :: l2).Nodup → (l1 ++ i :: l2).filter (fun j => j != i) = l1 ++ l2 := by
  intro l1 l2 h
  have h1 : i ∉ l1 := by
    intro hm
    rw [List.nodup_append] at h
    exact h.2.2 i hm i (by simp) rfl
  have h2 : i ∉ l2 := by
    rw [List.nodup_append] at h
    exact (List.nodup_cons.1 h.2.1).1
  have e1 : l1.filter (fun j => j != i) = l1 := List.filter_eq_self.2 fun a ha => by simpa using fun e => h1 (by rw [← e]; exact ha)
  have e2 : l2.filter (fun j => j != i) = l2 := List.filter_eq_self.2 fun a ha => by simpa using fun e => h2 (by rw [← e]; exact ha)
  rw [List.filter_append, List.filter_cons]
  simp [e1, e2]

theorem rem_set {listed : Array Bool} {i : Nat} : rem ops (listed.setIfInBounds i true) = (rem ops listed).filter fun j => j != i := by
  simp only [rem, List.filter_filter]
  congr 1
  funext j
  by_cases h : j = i
  · subst h
    have : (listed.setIfInBounds j true).getD j true = true := by
      rw [Array.getD_eq_getD_getElem?, Array.getElem?_setIfInBounds]
      simp
      split <;> rfl
    simp [this]
  · rw [getD_set_ne _ (Ne.symm h)]
    have : (j != i) = true := by simpa using h
    rw [this, Bool.true_and]

structure DrawOk (C : Ctx) (n : Nat) (ops : Array Oper) (ps : List AOp) : Prop where
  len : ps.length = ops.size
  each : ∀ (i : Nat) (p : AOp), ps[i]? = some p → ∃ o, ops[i]? = some o ∧ okOp C n ops p o = true
  back : ∀ (j : Nat) (o : Oper), ops[j]? = some o → ∀ ed ∈ o.after, Region.binds .any ed = true → ed.on < j
  pairs : ∀ (i j : Nat) (x y : AOp), ps[i]? = some x → ps[j]? = some y → i < j → comm x y = true ∨ Reach ops j i

theorem region_any (hc : CallOk C call) (hG : GE C e) (hd : DrawOk C e.n ops ps) (hQ : ∀ a w, Rel C.fid e sf a w → Q .normal a w) : ∀ (fuel : Nat) {listed : Array Bool} {s : S} {a : Act} {w : World}, (rem ops listed).length = fuel → listed.size = ops.size → Listed ops listed →
    opsD call C.G ((rem ops listed).filterMap (ps[·]?)) s = some sf → Rel C.fid e s a w → wpAny C.P .any ops Q fuel listed a w := by
  have hready : ∀ {listed : Array Bool} {i : Nat}, i ∈ Region.ready .any ops listed → i ∈ rem ops listed := by
    intro listed i hi
    obtain ⟨h1, o, h2, _⟩ := mem_ready.1 hi
    simp only [rem, List.mem_filter, List.mem_range, Bool.not_eq_true']
    exact ⟨(Array.getElem?_eq_some_iff.1 h2).1, h1⟩
  intro fuel
  induction fuel with
  | zero =>
    intro listed s a w hl hsz hls hev hr
    have h0 : rem ops listed = [] := List.eq_nil_of_length_eq_zero hl
    rw [h0] at hev
    simp only [List.filterMap_nil, opsD, Option.some.injEq] at hev
    subst hev
    refine ⟨?_, hQ a w hr⟩
    cases hrd : Region.ready .any ops listed with
    | nil => rfl
    | cons i is =>
      have := hready (listed := listed) (i := i) (by rw [hrd]; simp)
      rw [h0] at this; simp at this
  | succ fuel ih =>
    intro listed s a w hl hsz hls hev hr
    refine ⟨fun hrd => ?_, fun i hi => ?_⟩
    · -- the least that is left is ready
      exfalso
      cases hrem : rem ops listed with
      | nil => rw [hrem] at hl; simp at hl
      | cons j js =>
        have hj : j ∈ rem ops listed := by rw [hrem]; simp
        have hj' := hj
        simp only [rem, List.mem_filter, List.mem_range, Bool.not_eq_true'] at hj'
        obtain ⟨j1, j2⟩ := hj'
        have hmin : ∀ k, k ∈ rem ops listed → j ≤ k := by
          have hs : (rem ops listed).Pairwise (· < ·) := List.Pairwise.filter _ List.pairwise_lt_range
          rw [hrem] at hs ⊢
          intro k hk
          rcases List.mem_cons.1 hk with rfl | hk
          · exact Nat.le_refl _
          · exact Nat.le_of_lt ((List.pairwise_cons.1 hs).1 k hk)
        have : j ∈ Region.ready .any ops listed := by
          refine mem_ready.2 ⟨j2, ops[j], Array.getElem?_eq_getElem j1, fun ed h1 h2 => ?_⟩
          have hlt := hd.back j ops[j] (Array.getElem?_eq_getElem j1) ed h1 h2
          rw [Array.getD_eq_getD_getElem?]
          have hin : ed.on < listed.size := by omega
          rw [Array.getElem?_eq_getElem hin]
          cases hb : listed[ed.on] with
          | true => rfl
          | false =>
            have : ed.on ∈ rem ops listed := by
              simp only [rem, List.mem_filter, List.mem_range, Bool.not_eq_true']
              refine ⟨by omega, ?_⟩
              rw [Array.getD_eq_getD_getElem?, Array.getElem?_eq_getElem hin, hb]; rfl
            have := hmin _ this
            omega
        rw [hrd] at this; simp at this
    · have him := hready hi
      obtain ⟨i1, o, i2, i3⟩ := mem_ready.1 hi
      obtain ⟨l1, l2, hsplit⟩ := List.append_of_mem him
      have hilt : i < ps.length := by rw [hd.len]; exact (Array.getElem?_eq_some_iff.1 i2).1
      have hp : ps[i]? = some ps[i] := List.getElem?_eq_getElem hilt
      have hs : (rem ops listed).Pairwise (· < ·) := List.Pairwise.filter _ List.pairwise_lt_range
      have hnd : (rem ops listed).Nodup := hs.imp fun h => Nat.ne_of_lt h
      rw [hsplit, List.filterMap_append, List.filterMap_cons, hp] at hev
      obtain ⟨s1, h1, h2⟩ := opsD_pull (fun x hx => by
        obtain ⟨k, hk1, hk2⟩ := List.mem_filterMap.1 hx
        have hlt : k < i := by
          rw [hsplit, List.pairwise_append] at hs
          exact hs.2.2 k hk1 i (by simp)
        rcases hd.pairs k i x ps[i] hk2 hp hlt with h3 | h3
        · exact h3
        · exfalso
          have hkl := reach_listed hls h3 (fun o' ho' => by
            rw [i2] at ho'
            injection ho' with ho'
            subst ho'
            exact i3)
          have hkr : k ∈ rem ops listed := by rw [hsplit]; simp [hk1]
          simp only [rem, List.mem_filter, Bool.not_eq_true'] at hkr
          have hkr := hkr.2
          rw [Array.getD_eq_getD_getElem?] at hkl hkr
          cases hh : listed[k]? with
          | none => rw [hh] at hkr; cases hkr
          | some b => rw [hh] at hkl hkr; simp at hkl hkr; rw [hkl] at hkr; cases hkr) hev
      obtain ⟨o', ho', hop⟩ := hd.each i ps[i] hp
      refine step_sound hc hG ho' hop hr (stepD_stepA h1) fun a' w' hr' => ?_
      have hrem : rem ops (listed.setIfInBounds i true) = l1 ++ l2 := by
        rw [rem_set, hsplit]
        exact filter_ne (hsplit ▸ hnd)
      refine ih ?_ (by simp [hsz]) ?_ (by rw [hrem, List.filterMap_append]; exact h2) hr'
      · rw [hrem]
        rw [hsplit] at hl
        simp at hl ⊢; omega
      · intro k ok hok hkl ed h3 h4
        by_cases hki : k = i
        · subst hki
          rw [hok] at i2
          injection i2 with i2
          subst i2
          exact getD_set_true (i3 ed h3 h4)
        · rw [getD_set_ne _ (Ne.symm hki)] at hkl
          exact getD_set_true (hls k ok hok hkl ed h3 h4)

theorem filterMap_self {α : Type} : ∀ {ps pre : List α}, (List.range' pre.length ps.length).filterMap ((pre ++ ps)[·]?) = ps
  | [], pre => by simp
  | p :: ps, pre => by
    rw [List.length_cons, List.range'_succ, List.filterMap_cons]
    have h0 : (pre ++ p :: ps)[pre.length]? = some p := by simp
    have := filterMap_self (ps := ps) (pre := pre ++ [p])
    simp only [List.length_append, List.length_cons, List.length_nil, List.append_assoc, List.singleton_append] at this
    simp only [h0, this]
theorem Rel.drawn (h : Rel C.fid e s a w) (n : Nat) : Rel C.fid e s a { w with drawn := n } := by
  obtain ⟨σ, bm, h⟩ := h
  exact ⟨σ, bm, h.drawn n⟩

def okRegion (C : Ctx) (n : Nat) (draw : Bool) (ps : List AOp) (ops : Array Oper) : Bool :=
  okOpsL C n ops ps ops.toList && (!draw || (edgesBack ops.toList 0 && okPairs (ancs ops.toList []) [] ps 0))

theorem region_sound (hm : C.P.follows .mixedOrders = true) (hc : CallOk C call) (hG : GE C e) {id : Nat} {draw : Bool} (hok : okRegion C e.n draw ps ops = true)
    (hev : (if draw then opsD call C.G ps s else opsA call C.G ps s) = some sf) (hr : Rel C.fid e s a w) (hQ : ∀ a w, Rel C.fid e sf a w → Q .normal a w) : (Code.region id ops draw).wp C.P Q a w := by
  simp only [okRegion, Bool.and_eq_true, Bool.or_eq_true, Bool.not_eq_true'] at hok
  obtain ⟨hl, hd⟩ := hok
  obtain ⟨l1, l2⟩ := okOpsL_get hl
  have l1' : ps.length = ops.size := by simpa using l1
  have l2' : ∀ (i : Nat) (p : AOp), ps[i]? = some p → ∃ o, ops[i]? = some o ∧ okOp C e.n ops p o = true := fun i p hp => by
    obtain ⟨o, h1, h2⟩ := l2 i p hp
    exact ⟨o, by simpa using h1, h2⟩
  cases draw with
  | false =>
    simp only [Bool.false_eq_true, if_false] at hev
    refine wp_region ?_
    rw [List.range_eq_range', ← l1']
    exact region_order hc hG (fun j p hp => by
      obtain ⟨o, h1, h2⟩ := l2' j p hp
      exact ⟨o, by simpa using h1, h2⟩) hev hr hQ
  | true =>
    simp only [if_true] at hev
    rcases hd with hd | ⟨hd1, hd2⟩
    · cases hd
    · refine wp_region_any hm ?_
      have hrem : rem ops (Array.replicate ops.size false) = List.range ops.size := by
        refine List.filter_eq_self.2 fun i hi => ?_
        simp only [List.mem_range] at hi
        rw [Array.getD_eq_getD_getElem?]
        simp [hi]
      have hmap : (List.range ops.size).filterMap (ps[·]?) = ps := by
        rw [← l1', List.range_eq_range']
        exact filterMap_self (pre := []) (ps := ps)
      refine region_any hc hG (ps := ps) (sf := sf) ⟨l1', l2', fun j o ho ed h1 h2 => ?_, fun i j x y hx hy hij => ?_⟩ hQ ops.size (by rw [hrem]; simp) (by simp) (fun k o ho hk => ?_) (by rw [hrem, hmap]; exact hev) (Rel.drawn hr _)
      · have := edgesBack_spec hd1 j o (by simpa using ho) ed h1 h2
        omega
      · rcases okPairs_spec (before := []) (j0 := 0) rfl hd2 i j x y (by simpa using hx) (by simpa using hy) hij (by omega) with h3 | h3
        · exact .inl h3
        · right
          rw [List.getD_eq_getElem?_getD] at h3
          cases hg : (ancs ops.toList [])[j]? with
          | none => rw [hg] at h3; simp at h3
          | some l => rw [hg] at h3; exact ancs_ok (os := ops.toList) (pre := []) (acc := []) (by simp) rfl (by simp) j l hg i (by simpa using h3)
      · exfalso
        have hlt := (Array.getElem?_eq_some_iff.1 ho).1
        rw [Array.getD_eq_getD_getElem?] at hk
        simp [hlt] at hk
end
end Go.Vs
