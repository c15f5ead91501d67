/- The typed evaluator on own slices. -/
import Derived.Test.YthedbdlbibkpiaaDoorTv3
set_option linter.unusedVariables false
set_option linter.unusedSimpArgs false
namespace Go.Tv
open Go Go.RowKit Go.Vs

variable {ρ : Type}

/-! ### What a reader sees -/
theorem viewV_noTr {es : List Ent} : ∀ (k : Nat), (∀ v : AV, v.noTr = true → viewV es k v = some (v, [])) ∧ ∀ l : List AV, noTrL l = true → viewL (viewV es k) l = some (l, []) := by
  have lst : ∀ {f : AV → Option (AV × List Nat)}, (∀ v : AV, v.noTr = true → f v = some (v, [])) → ∀ l : List AV, noTrL l = true → viewL f l = some (l, []) := by
    intro f hf l
    induction l with
    | nil => intro _; rfl
    | cons v l ih =>
      intro h
      simp only [noTrL, Bool.and_eq_true] at h
      simp only [viewL, hf v h.1, ih h.2, bnd_some, List.append_nil]
  intro k
  induction k with
  | zero =>
    have h0 : ∀ v : AV, v.noTr = true → viewV es 0 v = some (v, []) := fun v h => by simp only [viewV, h, if_true]
    exact ⟨h0, lst h0⟩
  | succ k ih =>
    have h0 : ∀ v : AV, v.noTr = true → viewV es (k + 1) v = some (v, []) := by
      intro v h
      cases v with
      | tr id sz n => cases h
      | trp id sz i off => cases h
      | agg cs => simp only [viewV, ih.2 cs (by simpa only [AV.noTr] using h), bnd_some]
      | tup cs => simp only [viewV, ih.2 cs (by simpa only [AV.noTr] using h), bnd_some]
      | undef | int | bool | str | con | sl | rp | fn | bp | bs | be | np => simp only [viewV, h, if_true]
    exact ⟨h0, lst h0⟩
theorem viewL_mono {f g : AV → Option (AV × List Nat)} (hfg : ∀ v r, f v = some r → g v = some r) : ∀ {l : List AV} {r : List AV × List Nat}, viewL f l = some r → viewL g l = some r
  | [], r, h => h
  | v :: l, r, h => by
    simp only [viewL] at h ⊢
    obtain ⟨a, h1, h⟩ := bnd_is.1 h
    obtain ⟨b, h2, h⟩ := bnd_is.1 h
    rw [hfg _ _ h1, bnd_some, viewL_mono hfg h2, bnd_some]; exact h
theorem viewR_mono {f g : AV → Option (AV × List Nat)} (hfg : ∀ v r, f v = some r → g v = some r) : ∀ {l : List (List AV)} {r : List (List AV) × List Nat}, viewR f l = some r → viewR g l = some r
  | [], r, h => h
  | v :: l, r, h => by
    simp only [viewR] at h ⊢
    obtain ⟨a, h1, h⟩ := bnd_is.1 h
    obtain ⟨b, h2, h⟩ := bnd_is.1 h
    rw [viewL_mono hfg h1, bnd_some, viewR_mono hfg h2, bnd_some]; exact h
theorem viewV_succ {es : List Ent} : ∀ {k : Nat} {v : AV} {r : AV × List Nat}, viewV es k v = some r → viewV es (k + 1) v = some r := by
  intro k
  induction k with
  | zero =>
    intro v r h
    simp only [viewV] at h
    split at h
    · rename_i hn
      rw [(viewV_noTr 1).1 v hn]; exact h
    · cases h
  | succ k ih =>
    intro v r h
    cases v with
    | tr id sz n =>
      cases id with
      | none => simpa only [viewV] using h
      | some id =>
        simp only [viewV] at h ⊢
        split at h
        · split at h
          · rename_i hs
            rw [if_pos hs]
            obtain ⟨a, h1, h⟩ := bnd_is.1 h
            rw [viewR_mono (fun v r h => ih h) h1]; exact h
          · cases h
        · cases h
    | agg cs =>
      simp only [viewV] at h ⊢
      obtain ⟨a, h1, h⟩ := bnd_is.1 h
      rw [viewL_mono (fun v r h => ih h) h1]; exact h
    | tup cs =>
      simp only [viewV] at h ⊢
      obtain ⟨a, h1, h⟩ := bnd_is.1 h
      rw [viewL_mono (fun v r h => ih h) h1]; exact h
    | undef | int | bool | str | con | sl | rp | fn | trp | bp | bs | be | np => simpa only [viewV] using h
theorem viewV_add {es : List Ent} {k : Nat} {v : AV} {r : AV × List Nat} (h : viewV es k v = some r) : ∀ j, viewV es (k + j) v = some r
  | 0 => h
  | j + 1 => viewV_succ (viewV_add h j)

theorem tr_cell {es : List Ent} {k : Nat} {c : TC} {f : (c : TC) → Option Nat → Option (List (Den c.seen))} (ih : ∀ (c : TC) h l n, f c h = some l → ∃ ids, viewV es k (.tr h c.sz n) = some (.sl .share c.sz (l.map (rowAV c.seen)), ids)) :
    ∀ (c : TC) (x : Den c) (y : Den c.seen), viewRowF f c x = some y → ∃ ids, viewL (viewV es k) (rowAV c x) = some (rowAV c.seen y, ids) := by
  have old : ∀ (c : TC) (x : Den c), c.plain = true → ∃ ids, viewL (viewV es k) (rowAV c x) = some (rowAV c x, ids) := fun c x hp => ⟨[], (viewV_noTr k).2 _ (rowAV_noTr c x hp)⟩
  have hint : ∀ n : Int, viewV es k (.int .i64 n) = some (.int .i64 n, []) := fun n => (viewV_noTr k).1 _ rfl
  intro c x y h
  cases c <;> simp only [viewRowF] at h <;> first | (injection h with h; subst h; exact old _ _ rfl) | skip
  case intsH =>
    obtain ⟨i, hi⟩ := ih .int x.id y x.n h
    have hi : viewV es k (.tr x.id 1 x.n) = _ := hi
    exact ⟨i ++ [], by simp only [rowAV, viewL, hi, bnd_some]; rfl⟩
  case stmsH =>
    obtain ⟨i, hi⟩ := ih .stm x.id y x.n h
    have hi : viewV es k (.tr x.id 8 x.n) = _ := hi
    refine ⟨i ++ [], ?_⟩
    simp only [rowAV, viewL, hi, bnd_some, stmsAV_eq]; rfl
  case stmsHH =>
    obtain ⟨i, hi⟩ := ih .stmH x.id y x.n h
    have hi : viewV es k (.tr x.id 8 x.n) = _ := hi
    refine ⟨i ++ [], ?_⟩
    simp only [rowAV, viewL, hi, bnd_some, stmsAV_eq]; rfl
  case expH =>
    obtain ⟨as, h1, h⟩ := bnd_is.1 h
    injection h with h
    subst h
    obtain ⟨i, hi⟩ := ih .expH x.args.id as x.args.n h1
    have hi : viewV es k (.tr x.args.id 3 x.args.n) = _ := hi
    refine ⟨[] ++ ([] ++ (i ++ [])), ?_⟩
    simp only [rowAV, viewL, hint, hi, bnd_some, expAV, expsAV_eq]; rfl
  case stmH =>
    obtain ⟨as, h1, h⟩ := bnd_is.1 h
    obtain ⟨bd, h2, h⟩ := bnd_is.1 h
    obtain ⟨el, h3, h⟩ := bnd_is.1 h
    injection h with h
    subst h
    obtain ⟨i, hi⟩ := ih .expH x.args.id as x.args.n h1
    obtain ⟨j, hj⟩ := ih .stmH x.body.id bd x.body.n h2
    obtain ⟨m, hm⟩ := ih .stmH x.els.id el x.els.n h3
    have hi : viewV es k (.tr x.args.id 3 x.args.n) = _ := hi
    have hj : viewV es k (.tr x.body.id 8 x.body.n) = _ := hj
    have hm : viewV es k (.tr x.els.id 8 x.els.n) = _ := hm
    refine ⟨[] ++ ([] ++ ([] ++ ([] ++ ([] ++ (i ++ (j ++ (m ++ []))))))), ?_⟩
    simp only [rowAV, viewL, hint, hi, hj, hm, bnd_some, stmAV, expsAV_eq, stmsAV_eq]; rfl
  case bxH =>
    obtain ⟨l, h1, h⟩ := bnd_is.1 h
    injection h with h
    subst h
    obtain ⟨i, hi⟩ := ih .int x.items.id l x.items.n h1
    have hi : viewV es k (.tr x.items.id 1 x.items.n) = _ := hi
    refine ⟨[] ++ (i ++ []), ?_⟩
    simp only [rowAV, viewL, hint, hi, bnd_some, bxAV, intsAV]; rfl
  case tkH =>
    obtain ⟨l, h1, h⟩ := bnd_is.1 h
    obtain ⟨q, h2, h⟩ := bnd_is.1 h
    injection h with h
    subst h
    obtain ⟨i, hi⟩ := ih .int x.vars.id l x.vars.n h1
    obtain ⟨j, hj⟩ := ih .stmH x.rest.id q x.rest.n h2
    have hi : viewV es k (.tr x.vars.id 1 x.vars.n) = _ := hi
    have hj : viewV es k (.tr x.rest.id 8 x.rest.n) = _ := hj
    refine ⟨i ++ (j ++ []), ?_⟩
    simp only [rowAV, viewL, hi, hj, bnd_some, tkAV, intsAV, stmsAV_eq]; rfl
  case rgH =>
    obtain ⟨l, h1, h⟩ := bnd_is.1 h
    injection h with h
    subst h
    obtain ⟨i, hi⟩ := ih .int x.slots.id l x.slots.n h1
    have hi : viewV es k (.tr x.slots.id 1 x.slots.n) = _ := hi
    refine ⟨[] ++ ([] ++ ([] ++ (i ++ []))), ?_⟩
    simp only [rowAV, viewL, hint, hi, bnd_some, intsAV]; rfl
  case prgH =>
    obtain ⟨l, h1, h⟩ := bnd_is.1 h
    obtain ⟨q, h2, h⟩ := bnd_is.1 h
    injection h with h
    subst h
    obtain ⟨i, hi⟩ := ih .int x.rooms.id l x.rooms.n h1
    obtain ⟨j, hj⟩ := ih .stmsHH x.tasks.id q x.tasks.n h2
    have hi : viewV es k (.tr x.rooms.id 1 x.rooms.n) = _ := hi
    have hj : viewV es k (.tr x.tasks.id 1 x.tasks.n) = _ := hj
    refine ⟨i ++ (j ++ []), ?_⟩
    simp only [rowAV, viewL, hi, hj, bnd_some, intsAV]; rfl
  case wldH =>
    obtain ⟨l, h1, h⟩ := bnd_is.1 h
    obtain ⟨q, h2, h⟩ := bnd_is.1 h
    obtain ⟨o, h3, h⟩ := bnd_is.1 h
    injection h with h
    subst h
    obtain ⟨i, hi⟩ := ih .tkH x.tasks.id l x.tasks.n h1
    obtain ⟨j, hj⟩ := ih .bxH x.boxes.id q x.boxes.n h2
    obtain ⟨m, hm⟩ := ih .int x.out.id o x.out.n h3
    have hi : viewV es k (.tr x.tasks.id 2 x.tasks.n) = _ := hi
    have hj : viewV es k (.tr x.boxes.id 2 x.boxes.n) = _ := hj
    have hm : viewV es k (.tr x.out.id 1 x.out.n) = _ := hm
    refine ⟨i ++ (j ++ ([] ++ ([] ++ (m ++ [])))), ?_⟩
    simp only [rowAV, viewL, hint, hi, hj, hm, bnd_some, intsAV]; rfl
  case otcH =>
    obtain ⟨l, h1, h⟩ := bnd_is.1 h
    obtain ⟨q, h2, h⟩ := bnd_is.1 h
    obtain ⟨o, h3, h⟩ := bnd_is.1 h
    injection h with h
    subst h
    obtain ⟨i, hi⟩ := ih .int x.out.id l x.out.n h1
    obtain ⟨j, hj⟩ := ih .intsH x.items.id q x.items.n h2
    obtain ⟨m, hm⟩ := ih .bool x.ended.id o x.ended.n h3
    have hi : viewV es k (.tr x.out.id 1 x.out.n) = _ := hi
    have hj : viewV es k (.tr x.items.id 1 x.items.n) = _ := hj
    have hm : viewV es k (.tr x.ended.id 1 x.ended.n) = _ := hm
    have hb : viewV es k (.bool x.rest) = some (.bool x.rest, []) := (viewV_noTr k).1 _ rfl
    refine ⟨i ++ (j ++ (m ++ ([] ++ []))), ?_⟩
    simp only [rowAV, viewL, hb, hi, hj, hm, bnd_some, intsAV]; rfl
  case wldO =>
    obtain ⟨o, h3, h⟩ := bnd_is.1 h
    injection h with h
    subst h
    obtain ⟨m, hm⟩ := ih .int x.out.id o x.out.n h3
    have hm : viewV es k (.tr x.out.id 1 x.out.n) = _ := hm
    have ht : viewV es k (.sl .share 2 (x.tasks.map tkAV)) = some (.sl .share 2 (x.tasks.map tkAV), []) := (viewV_noTr k).1 _ (av_noTr (.sl .share .tk x.tasks) rfl)
    have hb : viewV es k (.sl .share 2 (x.boxes.map bxAV)) = some (.sl .share 2 (x.boxes.map bxAV), []) := (viewV_noTr k).1 _ (av_noTr (.sl .share .bx x.boxes) rfl)
    refine ⟨[] ++ ([] ++ ([] ++ ([] ++ (m ++ [])))), ?_⟩
    simp only [rowAV, viewL, hint, ht, hb, hm, bnd_some, intsAV]; rfl
theorem viewD_is {es : List Ent} : ∀ (k : Nat) (c : TC) (h : Option Nat) (l : List (Den c.seen)) (n : Nat), viewD es k c h = some l → ∃ ids, viewV es k (.tr h c.sz n) = some (.sl .share c.sz (l.map (rowAV c.seen)), ids) := by
  intro k
  induction k with
  | zero => intro c h l n hv; simp [viewD] at hv
  | succ k ih =>
    intro c h l n hv
    simp only [viewD] at hv
    obtain ⟨xs, h1, h2⟩ := bnd_is.1 hv
    have hr := arGet_is h1
    cases h with
    | none =>
      simp only [rowsOf, Option.some.injEq] at hr
      have : xs = [] := by cases xs with | nil => rfl | cons x xs => simp at hr
      subst this
      simp only [mapB, Option.some.injEq] at h2
      subst h2
      exact ⟨[], by simp only [viewV, List.map_nil]⟩
    | some id =>
      simp only [rowsOf] at hr
      split at hr
      rotate_left
      · cases hr
      rename_i sz' ys hy
      split at hr
      rotate_left
      · cases hr
      rename_i hs
      injection hr with hr
      subst hr
      have key : ∀ (xs : List (Den c)) (l : List (Den c.seen)), mapB (viewRowF (viewD es k) c) xs = some l → ∃ ids, viewR (viewV es k) (xs.map (rowAV c)) = some (l.map (rowAV c.seen), ids) := by
        intro xs
        induction xs with
        | nil => intro l h; simp only [mapB, Option.some.injEq] at h; subst h; exact ⟨[], rfl⟩
        | cons x xs ihx =>
          intro l h
          simp only [mapB] at h
          obtain ⟨y, q1, h⟩ := bnd_is.1 h
          obtain ⟨l', q2, h⟩ := bnd_is.1 h
          injection h with h
          subst h
          obtain ⟨i, q3⟩ := tr_cell (es := es) (k := k) (c := c) ih c x y q1
          obtain ⟨j, q4⟩ := ihx l' q2
          exact ⟨i ++ j, by simp only [List.map_cons, viewR, q3, q4, bnd_some]⟩
      obtain ⟨ids, q⟩ := key xs l h2
      refine ⟨id :: ids, ?_⟩
      simp only [viewV, hy, hs, if_true, q, bnd_some]
theorem arView_is {es : List Ent} {c : TC} {h : Option Nat} {l : List (Den c.seen)} (n : Nat) (hv : arView es c h = some l) (j : Nat) : ∃ ids, viewV es (es.length + 1 + j) (.tr h c.sz n) = some (.sl .share c.sz (l.map (rowAV c.seen)), ids) := by
  obtain ⟨ids, h1⟩ := viewD_is _ c h l n hv
  exact ⟨ids, viewV_add h1 j⟩
theorem viewC_is {es : List Ent} {v : TV} {k : TV → Option ρ} {r : ρ} (h : viewC es v k = some r) : ∃ v', k v' = some r ∧ ∀ j, ∃ ids, viewV es (es.length + 1 + j) (toAV v) = some (toAV v', ids) := by
  unfold viewC at h
  split at h
  · rename_i c hh n
    obtain ⟨l, h1, h2⟩ := bnd_is.1 h
    refine ⟨_, h2, fun j => ?_⟩
    obtain ⟨ids, h3⟩ := arView_is n h1 j
    refine ⟨ids, ?_⟩
    simp only [toAV, h3, Md.sm, seen_sz]
  · split at h
    · rename_i hn
      exact ⟨_, h, fun j => ⟨[], (viewV_noTr _).1 _ (av_noTr _ hn)⟩⟩
    · cases h
theorem viewLs_is {es : List Ent} {f : TV → (TV → Option ρ) → Option ρ} {m : Nat} (hf : ∀ v k r, f v k = some r → ∃ v', k v' = some r ∧ ∃ ids, viewV es m (toAV v) = some (toAV v', ids)) : ∀ {l : List TV} {k : List TV → Option ρ} {r : ρ}, viewLs f l k = some r →
    ∃ l', k l' = some r ∧ ∃ ids, viewL (viewV es m) (l.map toAV) = some (l'.map toAV, ids)
  | [], k, r, h => ⟨[], h, [], rfl⟩
  | v :: l, k, r, h => by
    simp only [viewLs] at h
    obtain ⟨v', h1, i, h2⟩ := hf _ _ _ h
    obtain ⟨l', h3, j, h4⟩ := viewLs_is hf h1
    exact ⟨v' :: l', h3, i ++ j, by simp only [List.map_cons, viewL, h2, h4, bnd_some]⟩
theorem viewM_is {es : List Ent} {v : TV} {k : TV → Option ρ} {r : ρ} (h : viewM es v k = some r) (j : Nat) : ∃ v', k v' = some r ∧ ∃ ids, viewV es (es.length + 2 + j) (toAV v) = some (toAV v', ids) := by
  unfold viewM at h
  split at h
  · rename_i cs
    obtain ⟨l', h1, ids, h2⟩ := viewLs_is (es := es) (m := es.length + 1 + j) (fun v k r h => (let ⟨v', q1, q2⟩ := viewC_is h; ⟨v', q1, q2 j⟩)) h
    refine ⟨_, h1, ids, ?_⟩
    rw [show es.length + 2 + j = (es.length + 1 + j) + 1 by omega]
    simp only [toAV, toAVs_eq, viewV, h2, bnd_some]
  · obtain ⟨v', h1, h2⟩ := viewC_is h
    obtain ⟨ids, h3⟩ := h2 (j + 1)
    exact ⟨v', h1, ids, by rw [← h3]; congr 1; omega⟩
theorem viewT_is {es : List Ent} {v : TV} {k : TV → Option ρ} {r : ρ} (h : viewT es v k = some r) : ∃ v', k v' = some r ∧ ∃ ids, viewK es (toAV v) = some (toAV v', ids) := by
  unfold viewT at h
  split at h
  · rename_i cs
    obtain ⟨l', h1, ids, h2⟩ := viewLs_is (es := es) (m := es.length + 1 + 1) (fun v k r h => (let ⟨v', q1, q2⟩ := viewC_is h; ⟨v', q1, q2 1⟩)) h
    refine ⟨_, h1, ids, ?_⟩
    unfold viewK
    simp only [toAV, toAVs_eq, viewV, h2, bnd_some]
  · rename_i cs
    obtain ⟨l', h1, ids, h2⟩ := viewLs_is (es := es) (m := es.length + 2 + 0) (fun v k r h => viewM_is h 0) h
    refine ⟨_, h1, ids, ?_⟩
    unfold viewK
    simp only [toAV, toAVs_eq, viewV, h2, bnd_some]
  · obtain ⟨v', h1, h2⟩ := viewC_is h
    obtain ⟨ids, h3⟩ := h2 2
    exact ⟨v', h1, ids, h3⟩
theorem viewTs_is {es : List Ent} {l : List TV} {k : List TV → Option ρ} {r : ρ} (h : viewTs es l k = some r) : ∃ l', k l' = some r ∧ ∃ ids, viewL (viewK es) (l.map toAV) = some (l'.map toAV, ids) :=
  viewLs_is (es := es) (m := es.length + 3) (fun v k r h => (let ⟨v', q1, ids, q2⟩ := viewM_is h 1; ⟨v', q1, ids, q2⟩)) h

/-! ### Who has it from then on -/
theorem viewR_noTr {es : List Ent} {k : Nat} : ∀ {l : List (List AV)}, noTrR l = true → viewR (viewV es k) l = some (l, [])
  | [], _ => rfl
  | v :: l, h => by
    simp only [noTrR, Bool.and_eq_true] at h
    simp only [viewR, (viewV_noTr k).2 v h.1, viewR_noTr h.2, bnd_some, List.append_nil]
theorem sealC_is {es : List Ent} {v : TV} {k : TV → List Nat → Option ρ} {r : ρ} (h : sealC es v k = some r) : ∃ v' ids, k v' ids = some r ∧ ∀ j, viewV es (es.length + 1 + j) (toAV v) = some (toAV v', ids) := by
  unfold sealC at h
  split at h
  · rename_i c hh n
    split at h
    rotate_left
    · cases h
    rename_i hp
    obtain ⟨l, h1, h2⟩ := bnd_is.1 h
    refine ⟨_, _, h2, fun j => ?_⟩
    obtain ⟨ids, h3⟩ := arView_is n h1 j
    simp only [toAV, Md.sm, seen_sz]
    have e : ∀ ids', viewV es (es.length + 1 + j) (.tr hh c.sz n) = some (.sl .share c.sz (l.map (rowAV c.seen)), ids') → ids' = hh.toList := by
      intro ids' h4
      rw [show es.length + 1 + j = (es.length + j) + 1 by omega] at h4
      cases hh with
      | none => simp only [viewV, Option.some.injEq, Prod.mk.injEq] at h4; exact h4.2.symm
      | some id =>
        have hg : ∃ xs, arGet es c (some id) = some xs := by
          unfold arView at h1
          simp only [viewD] at h1
          obtain ⟨xs, h5, _⟩ := bnd_is.1 h1
          exact ⟨xs, h5⟩
        obtain ⟨xs, hg⟩ := hg
        have hr := arGet_is hg
        simp only [rowsOf] at hr
        simp only [viewV] at h4
        split at hr
        rotate_left
        · cases hr
        rename_i sz' ys hy
        rw [hy] at h4
        split at hr
        rotate_left
        · cases hr
        rename_i hs
        injection hr with hr
        subst hr
        simp only [hs, if_true, viewR_noTr (rowsAV_noTr hp xs), bnd_some, Option.some.injEq, Prod.mk.injEq] at h4
        exact h4.2.symm
    rw [h3, e ids h3]
  · split at h
    · rename_i hn
      exact ⟨_, _, h, fun j => (viewV_noTr _).1 _ (av_noTr _ hn)⟩
    · cases h
theorem sealLs_is {es : List Ent} {f : TV → (TV → List Nat → Option ρ) → Option ρ} {m : Nat} (hf : ∀ v k r, f v k = some r → ∃ v' ids, k v' ids = some r ∧ viewV es m (toAV v) = some (toAV v', ids)) : ∀ {l : List TV} {k : List TV → List Nat → Option ρ} {r : ρ}, sealLs f l k = some r →
    ∃ l' ids, k l' ids = some r ∧ viewL (viewV es m) (l.map toAV) = some (l'.map toAV, ids)
  | [], k, r, h => ⟨[], [], h, rfl⟩
  | v :: l, k, r, h => by
    simp only [sealLs] at h
    obtain ⟨v', i, h1, h2⟩ := hf _ _ _ h
    obtain ⟨l', j, h3, h4⟩ := sealLs_is hf h1
    exact ⟨v' :: l', i ++ j, h3, by simp only [List.map_cons, viewL, h2, h4, bnd_some]⟩
theorem sealT_is {es : List Ent} {v : TV} {k : TV → List Nat → Option ρ} {r : ρ} (h : sealT es v k = some r) : ∃ v' ids, k v' ids = some r ∧ viewK es (toAV v) = some (toAV v', ids) := by
  unfold sealT at h
  split at h
  · rename_i cs
    obtain ⟨l', ids, h1, h2⟩ := sealLs_is (es := es) (m := es.length + 1 + 1) (fun v k r h => (let ⟨v', ids, q1, q2⟩ := sealC_is h; ⟨v', ids, q1, q2 1⟩)) h
    refine ⟨_, _, h1, ?_⟩
    unfold viewK
    simp only [toAV, toAVs_eq, viewV, h2, bnd_some]
  · obtain ⟨v', ids, h1, h2⟩ := sealC_is h
    exact ⟨v', ids, h1, h2 2⟩
theorem sealTs_is {es : List Ent} {l : List TV} {k : List TV → List Nat → Option ρ} {r : ρ} (h : sealTs es l k = some r) : ∃ l' ids, k l' ids = some r ∧ viewL (viewK es) (l.map toAV) = some (l'.map toAV, ids) :=
  sealLs_is (es := es) (m := es.length + 3) (fun v k r h => sealT_is h) h
theorem sealMT_is {es : List Ent} : ∀ {bs : List Bool} {l : List TV} {k : List TV → List Nat → Option ρ} {r : ρ}, sealMT es bs l k = some r → ∃ l' ids, k l' ids = some r ∧ sealM es bs (l.map toAV) = some (l'.map toAV, ids)
  | [], l, k, r, h => ⟨l, [], h, by simp only [sealM]⟩
  | true :: bs, [], k, r, h => ⟨[], [], h, by simp only [List.map_nil, sealM]⟩
  | false :: bs, [], k, r, h => ⟨[], [], h, by simp only [List.map_nil, sealM]⟩
  | true :: bs, v :: l, k, r, h => by
    simp only [sealMT] at h
    obtain ⟨v', i, h1, h2⟩ := sealC_is h
    obtain ⟨l', j, h3, h4⟩ := sealMT_is h1
    have h2 : viewK es (toAV v) = some (toAV v', i) := h2 2
    exact ⟨v' :: l', i ++ j, h3, by simp only [List.map_cons, sealM, h2, h4, bnd_some]⟩
  | false :: bs, v :: l, k, r, h => by
    simp only [sealMT] at h
    obtain ⟨l', j, h3, h4⟩ := sealMT_is h
    exact ⟨v :: l', j, h3, by simp only [List.map_cons, sealM, h4, bnd_some]⟩

/-! ### Calls -/
theorem splitT_is : ∀ {bv : List BT} {z : List BT × List Ent}, splitT bv = some z → splitB (bv.map toBC) = some (z.1.map toBC, z.2)
  | [], z, h => by simp [splitT] at h
  | [.ar es], z, h => by simp only [splitT, Option.some.injEq] at h; subst h; rfl
  | [.var cs], z, h => by simp [splitT, bnd] at h
  | [.rows c l], z, h => by simp [splitT, bnd] at h
  | c :: d :: r, z, h => by
    have h : (bnd (splitT (d :: r)) fun q => some (c :: q.1, q.2)) = some z := by
      cases c <;> simpa only [splitT] using h
    obtain ⟨q, h1, h2⟩ := bnd_is.1 h
    injection h2 with h2
    subst h2
    have ih := splitT_is h1
    have e : splitB ((c :: d :: r).map toBC) = bnd (splitB ((d :: r).map toBC)) fun q => some (toBC c :: q.1, q.2) := by
      cases c <;> rfl
    rw [e, ih]; rfl
theorem callAT_is {Φ : CT ρ} {call : Vs.Call} (hΦ : PhiOk Φ call) {s : TS} {g : Nat} {as : List TV} {es : List Ent} {k : TV → TS → Option ρ} {r : ρ} (h : callAT Φ s g as es k = some r) :
    ∃ v s', callA call (toS s) g (as.map toAV) es = some (toAV v, toS s') ∧ k v s' = some r := by
  unfold callAT at h
  obtain ⟨q, h1, h⟩ := bnd_is.1 h
  obtain ⟨o, outs, bv', h2, h3⟩ := hΦ _ _ _ _ _ h
  obtain ⟨z, h4, h3⟩ := bnd_is.1 h3
  obtain ⟨s', h5, h3⟩ := bnd_is.1 h3
  rcases outs with _ | ⟨v, _ | ⟨u, l⟩⟩
  · cases h3
  rotate_left
  · cases h3
  dsimp only at h3
  split at h3
  · cases h3
  rename_i hp
  refine ⟨v, s'.setA z.2, ?_, h3⟩
  rw [List.map_append] at h2
  have h2 : call g (q.1.map toAV) (q.2.1.map toBC ++ [BC.ar es]) = _ := h2
  simp only [callA, lendT_is h1, bnd_some, h2, splitT_is h4, giveT_is h5, List.map_cons, List.map_nil, av_isP, hp, Bool.false_eq_true, if_false, toS_setA]
theorem all_calm {l : List TV} (h : l.all TV.calm = true) : ((l.map toAV).all AV.calm) = true := by
  rw [List.all_map, List.all_eq_true] at *
  intro v hv
  exact av_calm v (h v hv)
theorem evalTCT_is {Φ : CT ρ} {call : Vs.Call} (hΦ : PhiOk Φ call) {s : TS} {m : CM} {g : Nat} {as : List TV} {es : List Ent} {k : TV → TS → Option ρ} {r : ρ} (h : evalTCT Φ s es m g as k = some r) :
    ∃ v s', evalTC call (toS s) es m g (as.map toAV) = some (toAV v, toS s') ∧ k v s' = some r := by
  cases m with
  | pass => exact callAT_is hΦ h
  | view =>
    simp only [evalTCT] at h
    obtain ⟨as', h1, ids, h2⟩ := viewTs_is h
    split at h1
    rotate_left
    · cases h1
    rename_i hc
    obtain ⟨o, outs, bv', h3, h4⟩ := hΦ _ _ _ _ _ h1
    split at h4
    rotate_left
    · cases h4
    rename_i v
    split at h4
    rotate_left
    · cases h4
    rename_i hf
    refine ⟨v, s, ?_, h4⟩
    have h3 : call g (as'.map toAV) [] = some (o, [toAV v], []) := h3
    simp only [evalTC, h2, bnd_some, all_calm hc, if_true, h3, av_flat v hf]
  | pview =>
    simp only [evalTCT] at h
    obtain ⟨as', h1, ids, h2⟩ := viewTs_is h
    split at h1
    rotate_left
    · cases h1
    rename_i hc
    obtain ⟨o, outs, bv', h3, h4⟩ := hΦ _ _ _ _ _ h1
    split at h4
    rotate_left
    · cases h4
    rename_i v es'
    split at h4
    rotate_left
    · cases h4
    rename_i hf
    obtain ⟨es'', h5, h6⟩ := bnd_is.1 h4
    refine ⟨v, s.setA es'', ?_, h6⟩
    have h3 : call g (as'.map toAV) [BC.ar (Vs.blank es)] = some (o, [toAV v], [BC.ar es']) := h3
    unfold arJoin at h5
    split at h5
    rotate_left
    · cases h5
    rename_i hj
    injection h5 with h5
    subst h5
    simp only [evalTC, h2, bnd_some, all_calm hc, if_true, h3, av_flatT v hf, true_and, hj, and_self, toS_setA]
  | pseal =>
    simp only [evalTCT] at h
    obtain ⟨as', ids, h1, h2⟩ := sealTs_is h
    obtain ⟨v, s', h3, h4⟩ := callAT_is hΦ h1
    exact ⟨v, s', by simp only [evalTC, h2, bnd_some]; exact h3, h4⟩

theorem made_is {n : Int} {a : Nat} (h : made n = some a) : 0 ≤ n ∧ n ≤ 4294967296 ∧ a = n.toNat := by
  unfold made at h
  split at h
  · rename_i hc; injection h with h; exact ⟨hc.1, hc.2, h.symm⟩
  · cases h
theorem mapM_len {α β : Type} {f : α → Option β} : ∀ {l : List α} {r : List β}, l.mapM f = some r → r.length = l.length
  | [], r, h => by simp at h; subst h; rfl
  | x :: l, r, h => by
    rw [List.mapM_cons] at h
    simp only [Option.bind_eq_bind, Option.bind_eq_some_iff, Option.pure_def, Option.some.injEq] at h
    obtain ⟨y, _, l', h2, rfl⟩ := h
    simp [mapM_len h2]
end Go.Tv

/- The typed evaluator on own slices: the operations. -/
set_option linter.unusedVariables false
set_option linter.unusedSimpArgs false
namespace Go.Tv
open Go Go.RowKit Go.Vs

variable {ρ : Type} {Φ : CT ρ} {call : Vs.Call} {G : Nat → List TV}

theorem arGet_rows {es : List Ent} {c : TC} {h : Option Nat} {l : List (Den c)} (hg : arGet es c h = some l) : (rowsOf es c.sz h).getD [] = l.map (rowAV c) := by rw [arGet_is hg]; rfl
theorem same_is {s : TS} {x y : OpT} {kx ky : IntKind} {n m : Int} (e : sameT x y = true) (hn : s.get G x = .int kx n) (hm : s.get G y = .int ky m) : n = m := by
  unfold sameT at e
  split at e
  · have := Nat.eq_of_beq_eq_true e
    subst this
    rw [hn] at hm
    injection hm
  · have := of_decide_eq_true e
    simp only [TS.get, TV.int.injEq] at hn hm
    omega
  · cases e
theorem evalTT_is (hΦ : PhiOk Φ call) {s : TS} {op : TKT} {k : TV → TS → Option ρ} {r : ρ} (h : evalTT Φ G s op k = some r) :
    ∃ v s', evalTK call (GA G) (toS s) op.er = some (toAV v, toS s') ∧ k v s' = some r := by
  cases op with
  | mk c x y =>
    simp only [evalTT] at h
    split at h
    rotate_left
    · cases h
    rename_i es hes
    split at h
    rotate_left
    · cases h
    rename_i kx n ky m hx hy
    obtain ⟨a, h1, h⟩ := bnd_is.1 h
    split at h
    rotate_left
    · cases h
    rename_i hsame
    obtain ⟨h0, hle, rfl⟩ := made_is h1
    refine ⟨_, _, ?_, h⟩
    have hnm : n = m := same_is hsame hx hy
    subst hnm
    simp only [TKT.er, evalTK, toS_arr hes, bnd_some, toS_get, hx, hy, toAV]
    rw [if_pos ⟨h0, trivial, hle, rowAV_len c _⟩]
    simp only [toS_setA, rowAV_share, arPush, List.map_replicate]
  | nil c =>
    simp only [evalTT] at h
    exact ⟨_, _, rfl, h⟩
  | lit c ps =>
    simp only [evalTT] at h
    split at h
    rotate_left
    · cases h
    rename_i es hes
    obtain ⟨l, h1, h⟩ := bnd_is.1 h
    obtain ⟨h2, h3⟩ := mapDec_is h1
    refine ⟨_, _, ?_, h⟩
    have e1 : ((ps.map OpT.er).all fun p => ((toS s).get (GA G) p).cells.length == c.sz && ((toS s).get (GA G) p).cells.all AV.one) = true := by
      rw [List.all_map, List.all_eq_true]
      intro p hp
      simp only [Function.comp_def, toS_get, (h3 p hp).1, (h3 p hp).2, beq_self_eq_true, Bool.and_self]
    have e2 : ((ps.map OpT.er).map fun p => ((toS s).get (GA G) p).cells.map AV.share) = l.map (rowAV c) := by
      rw [← h2, List.map_map]
      exact List.map_congr_left fun p _ => by simp only [Function.comp_def, toS_get]
    simp only [TKT.er, evalTK, toS_arr hes, bnd_some, e1, e2, if_true, List.length_map, toS_setA, toAV, arPush]
  | app sz x y =>
    simp only [evalTT] at h
    split at h
    rotate_left
    · cases h
    rename_i es hes
    split at h
    rotate_right
    · cases h
    · rename_i c hh n m c' l' hx hy
      split at h
      rotate_left
      · cases h
      rename_i hsz
      obtain ⟨l2, h1, h⟩ := bnd_is.1 h
      obtain ⟨A, h2, h⟩ := bnd_is.1 h
      obtain ⟨rfl, h1⟩ := castD_is h1
      simp only at h1
      subst h1
      unfold arApp at h2
      split at h2
      rotate_left
      · cases h2
      rename_i hle
      obtain ⟨l, h3, h4⟩ := bnd_is.1 h2
      injection h4 with h4
      subst h4
      refine ⟨_, _, ?_, h⟩
      subst hsz
      simp only [TKT.er, evalTK, toS_arr hes, bnd_some, toS_get, hx, hy, toAV, srcR, List.length_map, hle, and_self, if_true, arGet_is h3, toS_setA, arPush, List.map_append]
    · rename_i c hh n c' hh' n' hx hy
      split at h
      rotate_left
      · cases h
      rename_i hsz
      obtain ⟨hsz, rfl⟩ := hsz
      obtain ⟨l2, h1, h⟩ := bnd_is.1 h
      obtain ⟨A, h2, h⟩ := bnd_is.1 h
      unfold arApp at h2
      split at h2
      rotate_left
      · cases h2
      rename_i hle
      obtain ⟨l, h3, h4⟩ := bnd_is.1 h2
      injection h4 with h4
      subst h4
      refine ⟨_, _, ?_, h⟩
      subst hsz
      simp only [TKT.er, evalTK, toS_arr hes, bnd_some, toS_get, hx, hy, toAV, srcR, arGet_is h1, List.length_map, hle, and_self, if_true, arGet_is h3, toS_setA, arPush, List.map_append]
  | cut sz x y =>
    simp only [evalTT] at h
    split at h
    rotate_left
    · cases h
    rename_i es hes
    split at h
    rotate_left
    · cases h
    rename_i c hh n ki i hx hy
    split at h
    rotate_left
    · cases h
    rename_i hsz
    obtain ⟨q, h2, h⟩ := bnd_is.1 h
    unfold arCut at h2
    split at h2
    rotate_left
    · cases h2
    rename_i hle
    obtain ⟨l, h3, h4⟩ := bnd_is.1 h2
    injection h4 with h4
    subst h4
    refine ⟨_, _, ?_, h⟩
    subst hsz
    have hn : natOf (.int ki i) = some i.toNat := by simp [natOf, hle.1]
    have hle2 : i.toNat ≤ n := by omega
    simp only [TKT.er, evalTK, toS_arr hes, bnd_some, toS_get, hx, hy, toAV, hn, hle2, if_true, arGet_is h3, toS_setA, arPush, List.map_take]
  | len x =>
    simp only [evalTT] at h
    split at h
    rotate_left
    · cases h
    rename_i c hh n hx
    exact ⟨_, _, by simp only [TKT.er, evalTK, toS_get, hx, toAV], h⟩
  | iadr sz x i =>
    simp only [evalTT] at h
    split at h
    rotate_left
    · cases h
    rename_i c hh n ki i' hx hi
    split at h
    rotate_left
    · cases h
    rename_i hsz
    obtain ⟨j, h1, h⟩ := bnd_is.1 h
    unfold idxN at h1
    split at h1
    rotate_left
    · cases h1
    rename_i hle
    injection h1 with h1
    subst h1
    refine ⟨_, _, ?_, h⟩
    subst hsz
    have hn : natOf (.int ki i') = some i'.toNat := by simp [natOf, hle.1]
    have hle2 : i'.toNat < n := by omega
    simp only [TKT.er, evalTK, toS_get, hx, hi, toAV, hn, bnd_some, hle2, if_true]
  | fadr off x =>
    simp only [evalTT] at h
    split at h
    rotate_left
    · cases h
    rename_i c hh i o hx
    exact ⟨_, _, by simp only [TKT.er, evalTK, toS_get, hx, toAV], h⟩
  | nilck x =>
    simp only [evalTT] at h
    split at h
    rotate_left
    · cases h
    rename_i c hh i o hx
    exact ⟨_, _, by simp only [TKT.er, evalTK, toS_get, hx, toAV], h⟩
  | load n agg x =>
    simp only [evalTT] at h
    split at h
    rotate_left
    · cases h
    rename_i c hh i off hx
    split at h
    rotate_left
    · cases h
    rename_i es hes
    obtain ⟨row, h1, h⟩ := bnd_is.1 h
    obtain ⟨v, h2, h⟩ := bnd_is.1 h
    unfold arRow at h1
    obtain ⟨l, h3, h4⟩ := bnd_is.1 h1
    refine ⟨v, s, ?_, h⟩
    have e1 : (l.map (rowAV c))[i]? = some (rowAV c row) := by rw [List.getElem?_map, h4]; rfl
    have e2 := partT_is h2
    rw [rowT_av] at e2
    simp only [TKT.er, evalTK, toS_get, hx, toAV, toS_arr hes, bnd_some, arGet_is h3, e1, e2]
  | store n x v =>
    simp only [evalTT] at h
    split at h
    rotate_left
    · cases h
    rename_i hc
    split at h
    rotate_left
    · cases h
    rename_i c hh i off hx
    split at h
    rotate_left
    · cases h
    rename_i es hes
    obtain ⟨row, h1, h⟩ := bnd_is.1 h
    obtain ⟨cs', h2, h⟩ := bnd_is.1 h
    obtain ⟨y, h5, h⟩ := bnd_is.1 h
    unfold arRow at h1
    obtain ⟨l, h3, h4⟩ := bnd_is.1 h1
    refine ⟨_, _, ?_, h⟩
    have e1 : (l.map (rowAV c))[i]? = some (rowAV c row) := by rw [List.getElem?_map, h4]; rfl
    have e2 := overT_is h2
    rw [rowT_av, ← map_shr, ← av_cells] at e2
    have e3 : cs'.map toAV = rowAV c y := by rw [decRow_is h5, rowT_av]
    have hc2 : (toAV (s.get G v)).cells.length = n ∧ ((toAV (s.get G v)).cells.all AV.one) = true := by rw [av_cells, List.length_map, map_one]; exact hc
    simp only [TKT.er, evalTK, toS_get, hx, toAV, toS_arr hes, bnd_some, arGet_is h3, e1, e2, e3]
    rw [if_pos hc2]
    simp only [toS_setA, toS_drop, toAVs, arSet, arGet_rows h3]
  | call m g args =>
    simp only [evalTT] at h
    split at h
    rotate_left
    · cases h
    rename_i hc
    split at h
    rotate_left
    · cases h
    rename_i es hes
    obtain ⟨v, s', h1, h2⟩ := evalTCT_is hΦ h
    refine ⟨v, s', ?_, h2⟩
    simp only [TKT.er, evalTK, takesOkT_is, hc, and_self, if_true, toS_arr hes, bnd_some, toS_args]
    rw [← toS_drops]; exact h1
end Go.Tv

/- Operations, steps and code. -/
set_option linter.unusedVariables false
set_option linter.unusedSimpArgs false
namespace Go.Tv
open Go Go.RowKit Go.Vs

variable {ρ : Type} {Φ : CT ρ} {call : Vs.Call} {G : Nat → List TV}

theorem bndT_is {s : TS} {x : Option OpT} {d n : Int} (h : bndT G s x d = some n) : (∃ k, x.map (s.get G) = some (.int k n)) ∨ x = none ∧ n = d := by
  cases x with
  | none => simp [bndT] at h; exact .inr ⟨rfl, h.symm⟩
  | some x =>
    left
    simp only [bndT] at h
    split at h
    · rename_i k m hg
      injection h with h
      subst h
      exact ⟨k, by simp [hg]⟩
    · cases h
theorem natO_is {s : TS} {x : Option OpT} {d n : Int} (h : bndT G s x d = some n) (h0 : 0 ≤ n) : ∃ o, natO (GA G) (toS s) (erO x) = some o ∧ o.getD d.toNat = n.toNat := by
  cases x with
  | none => simp [bndT] at h; subst h; exact ⟨none, rfl, rfl⟩
  | some x =>
    rcases bndT_is h with ⟨k, hk⟩ | ⟨hx, _⟩
    · simp only [Option.map_some, Option.some.injEq] at hk
      exact ⟨some n.toNat, by simp [erO, natO, toS_get, hk, toAV, natOf, h0], rfl⟩
    · cases hx
theorem cut_is {α : Type} {l r : List α} {a b : Int} (h : cutL l a b = some r) : 0 ≤ a ∧ a ≤ b ∧ b ≤ l.length ∧ r = (l.take b.toNat).drop a.toNat := by
  unfold cutL at h
  split at h
  · rename_i hc; injection h with h; exact ⟨hc.1, hc.2.1, hc.2.2, h.symm⟩
  · cases h
theorem app_is {α : Type} {x y r : List α} (h : appL x y = some r) : x.length + y.length ≤ 4294967296 ∧ r = x ++ y := by
  unfold appL at h
  split at h
  · rename_i hc; injection h with h; exact ⟨hc, h.symm⟩
  · cases h

theorem appM_is {α : Type} {m : Md} {x y r : List α} (h : appM m x y = some r) : m.sm ≠ .share ∧ (m.sm = .full → y ≠ []) ∧ x.length + y.length ≤ 4294967296 ∧ r = x ++ y := by
  unfold appM at h
  split at h
  · cases h
  · rename_i b
    obtain ⟨h1, h2⟩ := app_is h
    cases b <;> exact ⟨by simp [Md.sm], by simp [Md.sm], h1, h2⟩
  · split at h
    · cases h
    · obtain ⟨h1, h2⟩ := app_is h
      exact ⟨by simp [Md.sm], by simp, h1, h2⟩
theorem evalKT_is (hΦ : PhiOk Φ call) {s : TS} {op : KT} {k : TV → TS → Option ρ} {r : ρ} (h : evalKT Φ G s op k = some r) :
    ∃ v s', evalK call (GA G) (toS s) op.er = some (toAV v, toS s') ∧ k v s' = some r := by
  cases op with
  | tr op => exact evalTT_is hΦ h
  | mv x => exact ⟨_, _, by simp only [KT.er, evalK, toS_get, toS_drop], h⟩
  | pick c x y =>
    simp only [evalKT] at h
    split at h
    · rename_i b hc
      cases b
      · exact ⟨_, _, by simp [KT.er, evalK, toS_get, hc, toAV, toS_drop], h⟩
      · exact ⟨_, _, by simp [KT.er, evalK, toS_get, hc, toAV, toS_drop], h⟩
    · cases h
  | alloc b z =>
    simp only [evalKT, forceL_eq, bnd_is] at h
    obtain ⟨s', h1, h2⟩ := h
    refine ⟨_, _, ?_, h2⟩
    have := newB_is h1
    simp only [toBC] at this
    simp only [KT.er, evalK, this, bnd_some, toAV]
  | box b x =>
    simp only [evalKT] at h
    split at h
    · rename_i hc
      rw [forceL_eq, bnd_is] at h
      obtain ⟨s', h1, h2⟩ := h
      refine ⟨_, _, ?_, h2⟩
      have := newB_is h1
      simp only [toBC, toAVs_eq] at this
      simp only [KT.er, evalK, toS_get, av_cells, map_one, hc, if_true, map_dem, this, bnd_some, toAV]
    · cases h
  | build z ps =>
    simp only [evalKT, bnd_is] at h
    obtain ⟨cs, h1, h2⟩ := h
    refine ⟨_, _, ?_, h2⟩
    have e : ((ps.map fun p => (p.1, p.2.1, p.2.2.er)).map fun p => (p.1, p.2.1, (toS s).get (GA G) p.2.2)) = (ps.map fun p => (p.1, p.2.1, s.get G p.2.2)).map fun p => (p.1, p.2.1, toAV p.2.2) := by
      simp [List.map_map, Function.comp_def, toS_get]
    simp only [KT.er, evalK, e, toAVs_eq, av_fill, h1, Option.map_some, bnd_some, toAV]
  | buildS m c ps =>
    simp only [evalKT, bnd_is] at h
    obtain ⟨l, h1, h2⟩ := h
    have hz : (m.sm = .zero → ps.map OpT.er = []) ∧ k (.sl m c l) s = some r := by
      split at h2
      · cases h2
      · rename_i m' ps' hn
        refine ⟨fun hm => ?_, h2⟩
        cases m with
        | share => cases hm
        | full => cases hm
        | own b =>
          cases b
          · cases ps with
            | nil => rfl
            | cons p q => exact (hn p q rfl rfl).elim
          · cases hm
    obtain ⟨hz, h2⟩ := hz
    refine ⟨_, _, ?_, h2⟩
    obtain ⟨h3, h4⟩ := mapDec_is h1
    have hc : ((ps.map OpT.er).all fun p => ((toS s).get (GA G) p).cells.length == c.sz && ((toS s).get (GA G) p).cells.all AV.one) = true := by
      rw [List.all_map, List.all_eq_true]
      intro p hp
      simp only [Function.comp, toS_get, (h4 p hp).1, (h4 p hp).2, beq_self_eq_true, Bool.and_self]
    have e : ((ps.map OpT.er).map fun p => ((toS s).get (GA G) p).cells.map AV.share) = l.map (rowAV c) := by
      rw [← h3, List.map_map]
      simp only [Function.comp_def, toS_get]
    have hz' : (m.sm = .zero → ps.map OpT.er = []) = True := eq_true hz
    simp only [KT.er, evalK, hc, hz', and_self, if_true, e, toAV]
  | load n a t x =>
    simp only [evalKT] at h
    obtain ⟨v, s', h1, h2⟩ := loadT_is h
    exact ⟨v, s', by simp only [KT.er, evalK, toS_get, h1], h2⟩
  | store n x v =>
    simp only [evalKT] at h
    obtain ⟨s', h1, h2⟩ := storeT_is h
    refine ⟨_, _, ?_, h2⟩
    simp only [KT.er, evalK, toS_get, ← toS_drop, h1, bnd_some, toAV, toAVs]
  | nilck x =>
    simp only [evalKT] at h
    split at h
    · rename_i b o hx
      split at h
      · rename_i hb
        refine ⟨_, _, ?_, h⟩
        simp only [KT.er, evalK, toS_get, hx, toAV, some_toS hb, if_true]
      · cases h
    · rename_i b i o hx
      split at h
      · rename_i hb
        refine ⟨_, _, ?_, h⟩
        simp only [KT.er, evalK, toS_get, hx, toAV, some_toS hb, if_true]
      · cases h
    · rename_i cs o hx
      exact ⟨_, _, by simp only [KT.er, evalK, toS_get, hx, toAV], h⟩
    · rename_i cs o hx
      exact ⟨_, _, by simp only [KT.er, evalK, toS_get, hx, toAV], h⟩
    · rename_i cs o hx
      exact ⟨_, _, by simp only [KT.er, evalK, toS_get, hx, toAV], h⟩
    · cases h
  | bin op x y =>
    simp only [evalKT] at h
    obtain ⟨v, h1, h2⟩ := binT_is h
    exact ⟨v, s, by simp only [KT.er, evalK, toS_get, h1, bnd_some], h2⟩
  | eqb q x y =>
    simp only [evalKT] at h
    split at h
    · rename_i a b hx hy
      refine ⟨_, _, ?_, h⟩
      simp only [KT.er, evalK, toS_get, hx, hy, toAV]
      cases q <;> simp
    · cases h
  | eqs q n x y =>
    simp only [evalKT] at h
    split at h
    · rename_i a b hx hy
      split at h
      · rename_i hn
        rw [bnd_is] at h
        obtain ⟨z, h1, h2⟩ := h
        refine ⟨_, _, ?_, h2⟩
        simp only [KT.er, evalK, toS_get, hx, hy, toAV, toAVs_eq, List.length_map, hn, and_self, if_true, av_eqInts, h1, bnd_some]
        cases q <;> simp
      · cases h
    · cases h
  | un op x =>
    simp only [evalKT, unT] at h
    split at h
    · rename_i kx n hx
      exact ⟨_, _, by simp only [KT.er, evalK, toS_get, hx, toAV, Vs.un, bnd_some, wrT_eq], h⟩
    · rename_i b hx
      exact ⟨_, _, by simp only [KT.er, evalK, toS_get, hx, toAV, Vs.un, bnd_some], h⟩
    · cases h
  | conv c x =>
    simp only [evalKT] at h
    obtain ⟨v, s', h1, h2⟩ := convT_is h
    exact ⟨v, s', by simp only [KT.er, evalK, toS_get, h1], h2⟩
  | mkfn g ps =>
    simp only [evalKT, bnd_is] at h
    obtain ⟨q, h1, h2⟩ := h
    refine ⟨_, _, ?_, h2⟩
    have := captT_is h1
    simp only [KT.er, evalK, toS_gets, this, bnd_some, toAV, toAVs_eq]
  | mksl b c n m =>
    simp only [evalKT] at h
    split at h
    · rename_i k1 n' k2 m' hn hm
      rw [bnd_is] at h
      obtain ⟨a, h1, h⟩ := h
      split at h
      · rename_i e
        have e : n' = m' := by
          unfold sameT at e
          split at e
          · have := Nat.eq_of_beq_eq_true e
            subst this
            rw [hn] at hm
            injection hm
          · have := of_decide_eq_true e
            simp only [TS.get, TV.int.injEq] at hn hm
            omega
          · cases e
        subst e
        rw [bnd_is] at h
        obtain ⟨s', h2, h3⟩ := h
        refine ⟨_, _, ?_, h3⟩
        unfold made at h1
        split at h1
        · rename_i hc
          injection h1 with h1
          subst h1
          have := newB_is h2
          simp only [toBC, List.map_replicate] at this
          simp only [KT.er, evalK, toS_get, hn, hm, toAV, hc.1, hc.2, rowAV_len, and_self, if_true, this, bnd_some]
        · cases h1
      · cases h
    · cases h
  | mkz c n m =>
    simp only [evalKT] at h
    split at h
    · rename_i k1 n' k2 m' hn hm
      rw [bnd_is] at h
      obtain ⟨a, h1, h⟩ := h
      split at h
      · rename_i e
        have e : n' = m' := by
          unfold sameT at e
          split at e
          · have := Nat.eq_of_beq_eq_true e
            subst this
            rw [hn] at hm
            injection hm
          · have := of_decide_eq_true e
            simp only [TS.get, TV.int.injEq] at hn hm
            omega
          · cases e
        subst e
        refine ⟨_, _, ?_, h⟩
        unfold made at h1
        split at h1
        · rename_i hc
          injection h1 with h1
          subst h1
          simp only [KT.er, evalK, toS_get, hn, hm, toAV, hc.1, hc.2, rowAV_len, and_self, if_true, rowAV_share, List.map_replicate, Md.sm]
        · cases h1
      · cases h
    · cases h
  | slc sz x lo hi mx =>
    simp only [evalKT] at h
    split at h
    · cases h
    split at h
    · rename_i m c l hx
      split at h
      · rename_i hs
        simp only [bnd_is] at h
        obtain ⟨a, h1, b, h2, l', h3, h4⟩ := h
        obtain ⟨c1, c2, c3, rfl⟩ := cut_is h3
        refine ⟨_, _, ?_, h4⟩
        obtain ⟨o1, e1, e2⟩ := natO_is h1 c1
        obtain ⟨o2, e3, e4⟩ := natO_is h2 (by omega)
        simp only [Int.toNat_zero, Int.toNat_natCast] at e2 e4
        have c4 : a.toNat ≤ b.toNat ∧ b.toNat ≤ l.length := by omega
        have e5 : (erO none : Option Opnd) = none := rfl
        have e6 : natO (GA G) (toS s) none = some none := rfl
        simp only [KT.er, e5, evalK, Option.isSome_none, Bool.false_and, Bool.false_eq_true, if_false, e1, e3, e6, bnd_some, toS_get, hx, toAV, sliceOf, hs, List.length_map, e2, e4, c4.1, c4.2, and_self, if_true, Md.sm, List.map_take, List.map_drop]
      · cases h
    · cases h
  | slcS x lo hi =>
    simp only [evalKT] at h
    split at h
    · rename_i l hx
      simp only [bnd_is] at h
      obtain ⟨a, h1, b, h2, l', h3, h4⟩ := h
      obtain ⟨c1, c2, c3, rfl⟩ := cut_is h3
      refine ⟨_, _, ?_, h4⟩
      obtain ⟨o1, e1, e2⟩ := natO_is h1 c1
      obtain ⟨o2, e3, e4⟩ := natO_is h2 (by omega)
      simp only [Int.toNat_zero, Int.toNat_natCast] at e2 e4
      have c4 : a.toNat ≤ b.toNat ∧ b.toNat ≤ l.length := by omega
      simp only [KT.er, evalK, e1, e3, bnd_some, toS_get, hx, toAV, sliceStr, e2, e4, c4.1, c4.2, and_self, if_true]
    · cases h
  | fadr off x =>
    simp only [evalKT] at h
    split at h
    · rename_i b o hx
      split at h
      · rename_i hb
        refine ⟨_, _, ?_, h⟩
        simp only [KT.er, evalK, toS_get, hx, toAV, some_toS hb, if_true]
      · cases h
    · rename_i b i o hx
      split at h
      · rename_i hb
        refine ⟨_, _, ?_, h⟩
        simp only [KT.er, evalK, toS_get, hx, toAV, some_toS hb, if_true]
      · cases h
    · rename_i cs o hx
      exact ⟨_, _, by simp only [KT.er, evalK, toS_get, hx, toAV], h⟩
    · cases h
  | fld off n agg x =>
    simp only [evalKT] at h
    split at h
    · rename_i cs hx
      rw [bnd_is] at h
      obtain ⟨v, h1, h2⟩ := h
      refine ⟨_, _, ?_, h2⟩
      simp only [KT.er, evalK, toS_get, hx, toAV, toAVs_eq, partT_is h1, bnd_some]
    · cases h
  | iadr sz x i =>
    simp only [evalKT] at h
    split at h
    · rename_i m c l hx
      split at h
      · rename_i hs
        split at h
        · rename_i k' n hi
          obtain ⟨y, h1, h2⟩ := pickR_is h
          refine ⟨_, _, ?_, h2⟩
          simp only [KT.er, evalK, toS_get, hx, hi, toAV, hs, if_true, geti_nat h1, bnd_some, List.getElem?_map, (geti_is h1).2, Option.map_some, toAVs_eq, rowT_av]
        · cases h
      · cases h
    · rename_i b hx
      split at h
      · rename_i c l hb
        split at h
        · rename_i hs
          split at h
          · rename_i k' n hi
            rw [bnd_is] at h
            obtain ⟨y, h1, h2⟩ := h
            refine ⟨_, _, ?_, h2⟩
            have hl : n.toNat < l.length := by
              have := (geti_is h1).2
              exact (List.getElem?_eq_some_iff.1 this).1
            simp only [KT.er, evalK, toS_get, hx, hi, toAV, toS_b, hb, Option.map_some, toBC, hs, if_true, geti_nat h1, bnd_some, List.length_map, hl]
          · cases h
        · cases h
      · cases h
    · cases h
  | iadrA sz len x i =>
    simp only [evalKT] at h
    split at h
    · rename_i cs hx
      split at h
      · rename_i hs
        obtain ⟨rfl, hs⟩ := hs
        rw [bnd_is] at h
        obtain ⟨l, h0, h⟩ := h
        split at h
        · rename_i k' n hi
          rw [bnd_is] at h
          obtain ⟨y, h1, h2⟩ := h
          refine ⟨_, _, ?_, h2⟩
          have hl : n.toNat < l.length := by
            have := (geti_is h1).2
            exact (List.getElem?_eq_some_iff.1 this).1
          have e := strsOf_is h0
          have hl' : n.toNat < len := by rw [← hs, e, List.length_map]; exact hl
          have e2 : toAVs cs = l.map AV.str := by rw [toAVs_eq, e, List.map_map]; congr 1; try (funext s; simp [toAV])
          simp only [KT.er, evalK, toS_get, hx, hi, toAV, geti_nat h1, bnd_some, hl', if_true, e2, Nat.mul_one, Nat.zero_add]
        · cases h
      · cases h
    · cases h
  | idxS x i =>
    simp only [evalKT] at h
    split at h
    · rename_i l k' n hx hi
      rw [bnd_is] at h
      obtain ⟨y, h1, h2⟩ := h
      refine ⟨_, _, ?_, h2⟩
      simp only [KT.er, evalK, toS_get, hx, hi, toAV, geti_nat h1, bnd_some, (geti_is h1).2]
    · cases h
  | idxA sz len n agg x i =>
    simp only [evalKT] at h
    split at h
    · rename_i cs hx
      split at h
      · rename_i hs
        obtain ⟨rfl, rfl, rfl, hs⟩ := hs
        rw [bnd_is] at h
        obtain ⟨l, h0, h⟩ := h
        split at h
        · rename_i k' n hi
          rw [bnd_is] at h
          obtain ⟨y, h1, h2⟩ := h
          refine ⟨_, _, ?_, h2⟩
          have hl : n.toNat < l.length := by
            have := (geti_is h1).2
            exact (List.getElem?_eq_some_iff.1 this).1
          have e := strsOf_is h0
          have hl' : n.toNat < len := by rw [← hs, e, List.length_map]; exact hl
          have e2 : toAVs cs = l.map AV.str := by rw [toAVs_eq, e, List.map_map]; congr 1; try (funext s; simp [toAV])
          simp [KT.er, evalK, toS_get, hx, hi, toAV, geti_nat h1, hl', e2, Vs.part, (geti_is h1).2, AV.dem]
        · cases h
      · cases h
    · cases h
  | len x =>
    simp only [evalKT] at h
    split at h
    · rename_i m c l hx
      exact ⟨_, _, by simp only [KT.er, evalK, toS_get, hx, toAV, List.length_map], h⟩
    · rename_i b hx
      split at h
      · rename_i c l hb
        exact ⟨_, _, by simp only [KT.er, evalK, toS_get, hx, toAV, toS_b, hb, Option.map_some, toBC, List.length_map], h⟩
      · cases h
    · cases h
  | lenS x =>
    simp only [evalKT] at h
    split at h
    · rename_i l hx
      exact ⟨_, _, by simp only [KT.er, evalK, toS_get, hx, toAV], h⟩
    · cases h
  | app sz x y =>
    simp only [evalKT] at h
    split at h
    · rename_i b c l m c' l' hx hy
      split at h
      · rename_i hs
        simp only [bnd_is] at h
        obtain ⟨l2, h1, z, h2, h3⟩ := h
        obtain ⟨e, h1⟩ := castD_is h1
        subst e
        simp only at h1
        subst h1
        obtain ⟨hm, hfull, h4, rfl⟩ := appM_is h2
        refine ⟨_, _, ?_, h3⟩
        have hfull : (b.sm = SM.full → l'.map (rowAV c') ≠ []) = True := eq_true fun hh hn => hfull hh (by simpa using hn)
        have hm2 : (Md.own true).sm = SM.tip := rfl
        simp only [KT.er, evalK, toS_get, hx, hy, toAV, hs, hm, hfull, h4, toS_drop, hm2, List.length_map, List.map_append, ne_eq, not_false_eq_true, and_self, if_true]
      · cases h
    · cases h
  | ext i x =>
    simp only [evalKT] at h
    split at h
    · rename_i vs hx
      rw [bnd_is] at h
      obtain ⟨v, h1, h2⟩ := h
      split at h2
      · cases h2
      · rename_i hp
        refine ⟨_, _, ?_, h2⟩
        simp only [KT.er, evalK, toS_get, hx, toAV, toAVs_eq, List.getElem?_map, h1, Option.map_some, bnd_some, av_isP, hp, Bool.false_eq_true, if_false, av_shr]
    · cases h
  | call g site args =>
    simp only [evalKT] at h
    split at h
    · rename_i ht
      obtain ⟨v, s', h1, h2⟩ := callT_is hΦ h
      refine ⟨v, s', ?_, h2⟩
      rw [toS_drops, ← toS_args] at h1
      simp only [KT.er, evalK, takesOkT_is, ht, if_true, h1]
    · cases h
  | callv f args =>
    simp only [evalKT] at h
    split at h
    · rename_i g cap hf
      split at h
      · rename_i ht
        obtain ⟨v, s', h1, h2⟩ := callT_is hΦ h
        refine ⟨v, s', ?_, h2⟩
        rw [toS_drops, List.map_append, ← toS_args, ← map_shr] at h1
        simp only [KT.er, evalK, toS_get, hf, toAV, toAVs_eq, takesOkT_is, ht, and_self, if_true, h1]
      · cases h
    · cases h
  | mx args =>
    simp only [evalKT, bnd_is] at h
    obtain ⟨l, h1, h2⟩ := h
    split at h2
    · cases h2
    · rename_i x r
      refine ⟨_, _, ?_, h2⟩
      simp only [KT.er, evalK, toS_gets, av_asInts, h1, bnd_some, toAV]
  | mn args =>
    simp only [evalKT, bnd_is] at h
    obtain ⟨l, h1, h2⟩ := h
    split at h2
    · cases h2
    · rename_i x r
      refine ⟨_, _, ?_, h2⟩
      simp only [KT.er, evalK, toS_gets, av_asInts, h1, bnd_some, toAV]

theorem upd_known {s : TS} {t : Nat} {b : Bool} (h : s.t t = .bool b) : s.setT t (.bool b) = s := by
  cases s
  simp only [TS.setT, TS.mk.injEq, and_true]
  funext j; unfold upd; split
  · subst_vars; exact h.symm
  · rfl
theorem stepT_is (hΦ : PhiOk Φ call) {draw : Bool} {s : TS} {o : AOpT} {k : TS → Option ρ} {r : ρ} (h : stepT Φ G draw s o k = some r) :
    ∃ s', (if draw then stepD call (GA G) (toS s) o.er else stepA call (GA G) (toS s) o.er) = some (toS s') ∧ k s' = some r := by
  unfold stepT at h
  have yes : ∀ s : TS, wantedA (toS s) o.g = some true → (match (generalizing := false) draw with
    | false => evalKT Φ G s o.k fun v s' => forceV v fun v => k (s'.put o.d v)
    | true => evalKT Φ G (s.mask o.er.reads o.fp) o.k fun v s' => forceV v fun v => k ((s.merge o.er.takes o.er.k.mods o.fp s').put o.d v)) = some r →
    ∃ s', (if draw then stepD call (GA G) (toS s) o.er else stepA call (GA G) (toS s) o.er) = some (toS s') ∧ k s' = some r := by
    intro s hw h
    cases draw
    · simp only [] at h
      obtain ⟨v, s', h1, h2⟩ := evalKT_is hΦ h
      rw [forceV_eq] at h2
      refine ⟨_, ?_, h2⟩
      have hw' : wantedA (toS s) o.er.g = some true := hw
      have h1' : evalK call (GA G) (toS s) o.er.k = _ := h1
      simp only [Bool.false_eq_true, if_false, stepA, hw', bnd_some, if_true, h1', toS_put]
      rfl
    · simp only [] at h
      obtain ⟨v, s', h1, h2⟩ := evalKT_is hΦ h
      rw [forceV_eq] at h2
      refine ⟨_, ?_, h2⟩
      have hw' : wantedA (toS s) o.er.g = some true := hw
      rw [toS_mask] at h1
      have h1' : evalK call (GA G) ((toS s).mask o.er.reads o.er.fp) o.er.k = _ := h1
      have e := toS_merge s o.er s'
      simp only [if_true, stepD, hw', bnd_some, h1', toS_put]
      rw [← e]
      rfl
  have no : ∀ s : TS, wantedA (toS s) o.g = some false → k (s.put o.d (.tup [])) = some r →
    ∃ s', (if draw then stepD call (GA G) (toS s) o.er else stepA call (GA G) (toS s) o.er) = some (toS s') ∧ k s' = some r := by
    intro s hw h
    have hw' : wantedA (toS s) o.er.g = some false := hw
    refine ⟨_, ?_, h⟩
    have e : (toS s).put o.er.d (.tup []) = toS (s.put o.d (.tup [])) := by
      rw [toS_put]; simp only [toAV, toAVs]; rfl
    cases draw
    · simp only [Bool.false_eq_true, if_false, stepA, hw', bnd_some, e]
    · simp only [if_true, stepD, hw', bnd_some, Bool.false_eq_true, if_false, e]
  unfold guardT at h
  split at h
  · rename_i hg
    exact yes s (by simp [hg, wantedA]) h
  · rename_i t want hg
    split at h
    · rename_i b hb
      have hb' : (toS s).t t = .bool b := by simp [toS, hb, toAV]
      split at h
      · cases b
        · rw [upd_known hb] at h
          exact no s (by simp [hg, wantedA, hb']) h
        · simp only [] at h
          rw [upd_known hb] at h
          exact yes s (by simp [hg, wantedA, hb']) h
      · cases b
        · simp only [] at h
          rw [upd_known hb] at h
          exact yes s (by simp [hg, wantedA, hb']) h
        · rw [upd_known hb] at h
          exact no s (by simp [hg, wantedA, hb']) h
    · rename_i l hb
      have hb' : (toS s).t t = .tup (toAVs l) := by simp [toS, hb, toAV]
      exact no s (by simp [hg, wantedA, hb']) h
    · cases h
theorem opsT_is (hΦ : PhiOk Φ call) {draw : Bool} : ∀ {os : List AOpT} {s : TS} {k : TS → Option ρ} {r : ρ}, opsT Φ G draw os s k = some r →
    ∃ s', (if draw then opsD call (GA G) (os.map AOpT.er) (toS s) else opsA call (GA G) (os.map AOpT.er) (toS s)) = some (toS s') ∧ k s' = some r
  | [], s, k, r, h => ⟨s, by cases draw <;> rfl, h⟩
  | o :: os, s, k, r, h => by
    simp only [opsT] at h
    obtain ⟨s1, h1, h2⟩ := stepT_is hΦ h
    obtain ⟨s2, h3, h4⟩ := opsT_is hΦ h2
    refine ⟨s2, ?_, h4⟩
    cases draw
    · simp only [Bool.false_eq_true, if_false] at h1 h3 ⊢
      simp only [List.map_cons, opsA, h1, bnd_some, h3]
    · simp only [if_true] at h1 h3 ⊢
      simp only [List.map_cons, opsD, h1, bnd_some, h3]

variable {F : Nat → Option ProcT}
def FA (F : Nat → Option ProcT) : Nat → Option Proc := fun g => (F g).map ProcT.er
theorem map_okIn (bins : List Nat) (l : List TV) : (l.map toAV).all (AV.okIn bins) = l.all (TV.okIn bins) := by simp [List.all_map, Function.comp_def, av_okIn]
theorem toS_ts (s : TS) (l : List Nat) : l.map (toS s).t = (l.map s.t).map toAV := by simp [toS]
theorem know_is {s : TS} {c : OpT} {b : Bool} (h : s.get G c = .bool b) : toS (knowT s c b) = toS s := by
  cases c with
  | tmp t =>
    have : s.t t = .bool b := by
      simp only [TS.get] at h
      cases hv : s.t t <;> rw [hv] at h <;> simp [TV.dem] at h ⊢
      exact h
    simp only [knowT, upd_known this]
  | _ => rfl
theorem runC_is (hΦ : PhiOk Φ call) : ∀ (ac : ACT) {s : TS} {k : Oc → TS → Option ρ} {r : ρ}, runC Φ F G ac s k = some r →
    ∃ oc s', evalC call (FA F) (GA G) ac.er (toS s) = some (oc, toS s') ∧ k oc s' = some r
  | .skip, s, k, r, h => ⟨_, _, rfl, h⟩
  | .exit _, s, k, r, h => ⟨_, _, rfl, h⟩
  | .ret, s, k, r, h => ⟨_, _, rfl, h⟩
  | .flip o ps qs, s, k, r, h => by
    simp only [runC] at h
    obtain ⟨s', h1, h2⟩ := opsT_is hΦ h
    simp only [Bool.false_eq_true, if_false, List.map_cons] at h1
    exact ⟨_, s', by simp only [ACT.er, evalC, h1, bnd_some], h2⟩
  | .region draw ops, s, k, r, h => by
    simp only [runC] at h
    obtain ⟨s', h1, h2⟩ := opsT_is hΦ h
    exact ⟨_, s', by simp only [ACT.er, evalC, h1, bnd_some], h2⟩
  | .seq a b, s, k, r, h => by
    simp only [runC] at h
    obtain ⟨oc, s1, h1, h2⟩ := runC_is hΦ a h
    cases oc with
    | norm =>
      obtain ⟨oc2, s2, h3, h4⟩ := runC_is hΦ b h2
      exact ⟨oc2, s2, by simp only [ACT.er, evalC, h1, bnd_some, h3], h4⟩
    | exit i => exact ⟨_, _, by simp only [ACT.er, evalC, h1, bnd_some], h2⟩
    | ret => exact ⟨_, _, by simp only [ACT.er, evalC, h1, bnd_some], h2⟩
  | .cond c x y, s, k, r, h => by
    simp only [runC] at h
    split at h
    · rename_i b hb
      have hb' := toS_get G s c
      rw [hb] at hb'
      cases b
      · simp only [] at h
        obtain ⟨oc, s1, h1, h2⟩ := runC_is hΦ y h
        rw [know_is hb] at h1
        exact ⟨oc, s1, by simp [ACT.er, evalC, hb', toAV, h1], h2⟩
      · simp only [] at h
        obtain ⟨oc, s1, h1, h2⟩ := runC_is hΦ x h
        rw [know_is hb] at h1
        exact ⟨oc, s1, by simp [ACT.er, evalC, hb', toAV, h1], h2⟩
    · cases h
  | .block id a, s, k, r, h => by
    simp only [runC] at h
    obtain ⟨oc, s1, h1, h2⟩ := runC_is hΦ a h
    refine ⟨_, s1, ?_, h2⟩
    simp only [ACT.er, evalC, h1, bnd_some]
    cases oc <;> simp only [unblock]
  | .label g, s, k, r, h => by
    simp only [runC] at h
    split at h
    · rename_i p hp
      split at h
      · rename_i hc
        rw [bnd_is] at h
        obtain ⟨bv, h1, h2⟩ := h
        obtain ⟨o, outs, bv', h3, h4⟩ := hΦ _ _ _ _ _ h2
        refine ⟨o, _, ?_, h4⟩
        have hp' : FA F g = some p.er := by simp [FA, hp]
        have hc' : (p.er.kind = .join ∨ p.er.kind = .loop) ∧ ((p.er.ins.map (toS s).t).all (AV.okIn p.er.bins)) = true := by
          refine ⟨hc.1, ?_⟩
          rw [toS_ts, map_okIn]; exact hc.2
        have h1' : boxesOf (toS s) p.er.bins = some (bv.map toBC) := boxesT_is h1
        have h3' : call g (p.er.ins.map (toS s).t) (bv.map toBC) = some (o, outs.map toAV, bv'.map toBC) := by rw [toS_ts]; exact h3
        simp only [ACT.er, evalC, hp', hc', and_self, if_true, h1', bnd_some, h3', toS_mk]
        rfl
      · cases h
    · cases h

theorem resPT_is {v w : TV} (h : resPT v = some w) : resP (toAV v) = some (toAV w) := by
  unfold resPT at h
  split at h <;> first
    | (cases h; done)
    | skip
  · injection h with h; subst h
    rename_i m c l
    cases m with
    | own b => cases b <;> simp [toAV, resP, Md.sm, Md.res]
    | _ => simp [toAV, resP, Md.sm, Md.res]
  · injection h with h; subst h
    simp only [toAV, resP, toAVs_eq, map_shr]
  · injection h with h; subst h
    rename_i a1 a2 a3 a4 a5 a6
    cases v with
    | sl m c l => exact (a1 m c l rfl).elim
    | _ => simp_all [toAV, resP]
theorem loadOf_is {n : Nat} {agg : Bool} {s : TS} {p v : TV} (h : (loadT n agg false s p fun v _ => resPT v) = some v) : (bnd (loadP n agg false (toS s) (toAV p)) fun r => resP r.1) = some (toAV v) := by
  obtain ⟨w, s', h1, h2⟩ := loadT_is h
  rw [h1, bnd_some]
  exact resPT_is h2
theorem resOf1T_is {s : TS} {x : RS} {v : TV} (h : resOf1T s x = some v) : resOf1 (toS s) x = some (toAV v) := by
  cases x with
  | keep t n => simp [resOf1T] at h
  | tmp t => exact resPT_is h
  | cell t n agg => exact loadOf_is h
theorem resVT_is {s : TS} {v w : TV} (h : resVT s v = some w) : resV (toS s) (toAV v) = some (toAV w) := by
  unfold resVT at h
  split at h
  · split at h
    · rename_i b hb
      split at h
      · rename_i c l hs
        injection h with h; subst h
        simp [toAV, resV, hb, toS_b, hs, toBC, Md.sm]
      · cases h
    · cases h
  · split at h
    · rename_i b off hb
      split at h
      · rename_i cs hs
        injection h with h; subst h
        simp [toAV, resV, hb, toS_b, hs, toBC, toAVs_eq, av_shr]
      · cases h
    · cases h
  · have := resPT_is h
    cases v <;> simp_all [toAV, resV]
theorem resOfT_is {s : TS} {x : RS} {v : TV} (h : resOfT s x = some v) : resOf (toS s) x = some (toAV v) := by
  cases x with
  | keep t n =>
    simp only [resOfT] at h
    obtain ⟨w, s', h1, h2⟩ := loadT_is h
    split at h2
    · rename_i cs
      injection h2 with h2
      subst h2
      show (bnd (loadP n true false (toS s) (toAV (s.t t))) fun r => resK r.1) = _
      rw [h1, bnd_some]
      simp only [toAV, resK, toAVs_eq, map_dem]
    · cases h2
  | tmp t => exact resVT_is h
  | cell t n agg => exact loadOf_is h
theorem resAllT_is {s : TS} : ∀ {rs : List RS} {l : List TV}, resAllT s rs = some l → resAll (toS s) rs = some (l.map toAV)
  | [], l, h => by simp [resAllT] at h; subst h; rfl
  | x :: rs, l, h => by
    simp only [resAllT, bnd_is] at h
    obtain ⟨v, h1, l', h2, h3⟩ := h
    injection h3 with h3
    subst h3
    simp only [resAll, resOf1T_is h1, resAllT_is h2, bnd_some, List.map_cons, av_shr]
theorem resultT_is {s : TS} {rs : List RS} {v : TV} (h : resultT s rs = some v) : resultOf (toS s) rs = some (toAV v) := by
  unfold resultT at h
  split at h
  · exact resOfT_is h
  · rename_i hn
    rw [bnd_is] at h
    obtain ⟨l, h1, h2⟩ := h
    injection h2 with h2
    subst h2
    have := resAllT_is h1
    unfold resultOf
    split
    · exact absurd rfl (hn _)
    · rw [this]; simp [toAV, toAVs_eq]
end Go.Tv
