/- The typed evaluator on own slices. -/
import Derived.Test.YtbgodlimjjgogaaDoorTv3
set_option linter.unusedVariables false
set_option linter.unusedSimpArgs false
namespace Go.Tv
open Go Go.RowKit Go.Vs
variable {ρ : Type}
theorem Qbj {es : List Ent} : ∀ (k : Nat), (∀ v : AV, v.noTr = true → Qk es k v = some (v, [])) ∧ ∀ l : List AV, Qas l = true → Qan (Qk es k) l = some (l, []) := by
 have lst : ∀ {f : AV → Option (AV × List Nat)}, (∀ v : AV, v.noTr = true → f v = some (v, [])) → ∀ l : List AV, Qas l = true → Qan f l = some (l, []) := by
  intro f hf l
  induction l with
  | nil => intro _; rfl
  | cons v l ih =>
   intro h
   simp only [Qas, Zw] at h
   simp only [Qan, hf v h.1, ih h.2, Qb, List.append_nil]
 intro k
 induction k with
 | zero =>
  have h0 : ∀ v : AV, v.noTr = true → Qk es 0 v = some (v, []) := fun v h => by simp only [Qk, h, if_true]
  exact ⟨h0, lst h0⟩
 | succ k ih =>
  have h0 : ∀ v : AV, v.noTr = true → Qk es (k + 1) v = some (v, []) := by
   intro v h
   cases v with
   | tr id sz n => cases h
   | trp id sz i off => cases h
   | agg cs => simp only [Qk, ih.2 cs (by simpa only [AV.noTr] using h), Qb]
   | tup cs => simp only [Qk, ih.2 cs (by simpa only [AV.noTr] using h), Qb]
   | undef | int | bool | str | con | sl | rp | fn | bp | bs | be | np => simp only [Qk, h, if_true]
  exact ⟨h0, lst h0⟩
theorem Qfx {f g : AV → Option (AV × List Nat)} (hfg : ∀ v r, f v = some r → g v = some r) : ∀ {l : List AV} {r : List AV × List Nat}, Qan f l = some r → Qan g l = some r
 | [], r, h => h
 | v :: l, r, h => by
  simp only [Qan] at h ⊢
  obtain ⟨a, h1, h⟩ := Qa.1 h
  obtain ⟨b, h2, h⟩ := Qa.1 h
  rw [hfg _ _ h1, Qb, Qfx hfg h2, Qb]; exact h
theorem Qna {f g : AV → Option (AV × List Nat)} (hfg : ∀ v r, f v = some r → g v = some r) : ∀ {l : List (List AV)} {r : List (List AV) × List Nat}, Qgq f l = some r → Qgq g l = some r
 | [], r, h => h
 | v :: l, r, h => by
  simp only [Qgq] at h ⊢
  obtain ⟨a, h1, h⟩ := Qa.1 h
  obtain ⟨b, h2, h⟩ := Qa.1 h
  rw [Qfx hfg h1, Qb, Qna hfg h2, Qb]; exact h
theorem Quk {es : List Ent} : ∀ {k : Nat} {v : AV} {r : AV × List Nat}, Qk es k v = some r → Qk es (k + 1) v = some r := by
 intro k
 induction k with
 | zero =>
  intro v r h
  simp only [Qk] at h
  split at h
  ·rename_i hn
   rw [(Qbj 1).1 v hn]; exact h
  ·cases h
 | succ k ih =>
  intro v r h
  cases v with
  | tr id sz n =>
   cases id with
   | none => simpa only [Qk] using h
   | some id =>
    simp only [Qk] at h ⊢
    split at h
    ·split at h
     ·rename_i hs
      rw [if_pos hs]
      obtain ⟨a, h1, h⟩ := Qa.1 h
      rw [Qna (fun v r h => ih h) h1]; exact h
     ·cases h
    ·cases h
  | agg cs =>
   simp only [Qk] at h ⊢
   obtain ⟨a, h1, h⟩ := Qa.1 h
   rw [Qfx (fun v r h => ih h) h1]; exact h
  | tup cs =>
   simp only [Qk] at h ⊢
   obtain ⟨a, h1, h⟩ := Qa.1 h
   rw [Qfx (fun v r h => ih h) h1]; exact h
  | undef | int | bool | str | con | sl | rp | fn | trp | bp | bs | be | np => simpa only [Qk] using h
theorem Qqj {es : List Ent} {k : Nat} {v : AV} {r : AV × List Nat} (h : Qk es k v = some r) : ∀ j, Qk es (k + j) v = some r
 | 0 => h
 | j + 1 => Quk (Qqj h j)
theorem tr_cell {es : List Ent} {k : Nat} {c : TC} {f : (c : TC) → Option Nat → Option (List (Den c.seen))} (ih : ∀ (c : TC) h l n, f c h = some l → ∃ ids, Qk es k (.tr h c.sz n) = some (.sl .share c.sz (l.map (Qe c.seen)), ids)) :
  ∀ (c : TC) (x : Den c) (y : Den c.seen), Qcn f c x = some y → ∃ ids, Qan (Qk es k) (Qe c x) = some (Qe c.seen y, ids) := by
 have old : ∀ (c : TC) (x : Den c), c.plain = true → ∃ ids, Qan (Qk es k) (Qe c x) = some (Qe c x, ids) := fun c x hp => ⟨[], (Qbj k).2 _ (Qmt c x hp)⟩
 have hint : ∀ n : Int, Qk es k (.int .i64 n) = some (.int .i64 n, []) := fun n => (Qbj k).1 _ rfl
 intro c x y h
 cases c <;> simp only [Qcn] at h <;> first | (injection h with h; subst h; exact old _ _ rfl) | skip
 case intsH =>
  obtain ⟨i, hi⟩ := ih .int x.id y x.n h
  have hi : Qk es k (.tr x.id 1 x.n) = _ := hi
  exact ⟨i ++ [], by simp only [Qe, Qan, hi, Qb]; rfl⟩
 case stmsH =>
  obtain ⟨i, hi⟩ := ih .stm x.id y x.n h
  have hi : Qk es k (.tr x.id 8 x.n) = _ := hi
  refine ⟨i ++ [], ?_⟩
  simp only [Qe, Qan, hi, Qb, Qdg]; rfl
 case stmsHH =>
  obtain ⟨i, hi⟩ := ih .stmH x.id y x.n h
  have hi : Qk es k (.tr x.id 8 x.n) = _ := hi
  refine ⟨i ++ [], ?_⟩
  simp only [Qe, Qan, hi, Qb, Qdg]; rfl
 case expH =>
  obtain ⟨as, h1, h⟩ := Qa.1 h
  injection h with h
  subst h
  obtain ⟨i, hi⟩ := ih .expH x.args.id as x.args.n h1
  have hi : Qk es k (.tr x.args.id 3 x.args.n) = _ := hi
  refine ⟨[] ++ ([] ++ (i ++ [])), ?_⟩
  simp only [Qe, Qan, hint, hi, Qb, Qkj, Qha]; rfl
 case stmH =>
  obtain ⟨as, h1, h⟩ := Qa.1 h
  obtain ⟨bd, h2, h⟩ := Qa.1 h
  obtain ⟨el, h3, h⟩ := Qa.1 h
  injection h with h
  subst h
  obtain ⟨i, hi⟩ := ih .expH x.args.id as x.args.n h1
  obtain ⟨j, hj⟩ := ih .stmH x.body.id bd x.body.n h2
  obtain ⟨m, hm⟩ := ih .stmH x.els.id el x.els.n h3
  have hi : Qk es k (.tr x.args.id 3 x.args.n) = _ := hi
  have hj : Qk es k (.tr x.body.id 8 x.body.n) = _ := hj
  have hm : Qk es k (.tr x.els.id 8 x.els.n) = _ := hm
  refine ⟨[] ++ ([] ++ ([] ++ ([] ++ ([] ++ (i ++ (j ++ (m ++ []))))))), ?_⟩
  simp only [Qe, Qan, hint, hi, hj, hm, Qb, Qlh, Qha, Qdg]; rfl
 case bxH =>
  obtain ⟨l, h1, h⟩ := Qa.1 h
  injection h with h
  subst h
  obtain ⟨i, hi⟩ := ih .int x.items.id l x.items.n h1
  have hi : Qk es k (.tr x.items.id 1 x.items.n) = _ := hi
  refine ⟨[] ++ (i ++ []), ?_⟩
  simp only [Qe, Qan, hint, hi, Qb, bxAV, Qao]; rfl
 case tkH =>
  obtain ⟨l, h1, h⟩ := Qa.1 h
  obtain ⟨q, h2, h⟩ := Qa.1 h
  injection h with h
  subst h
  obtain ⟨i, hi⟩ := ih .int x.vars.id l x.vars.n h1
  obtain ⟨j, hj⟩ := ih .stmH x.rest.id q x.rest.n h2
  have hi : Qk es k (.tr x.vars.id 1 x.vars.n) = _ := hi
  have hj : Qk es k (.tr x.rest.id 8 x.rest.n) = _ := hj
  refine ⟨i ++ (j ++ []), ?_⟩
  simp only [Qe, Qan, hi, hj, Qb, tkAV, Qao, Qdg]; rfl
 case rgH =>
  obtain ⟨l, h1, h⟩ := Qa.1 h
  injection h with h
  subst h
  obtain ⟨i, hi⟩ := ih .int x.slots.id l x.slots.n h1
  have hi : Qk es k (.tr x.slots.id 1 x.slots.n) = _ := hi
  refine ⟨[] ++ ([] ++ ([] ++ (i ++ []))), ?_⟩
  simp only [Qe, Qan, hint, hi, Qb, Qao]; rfl
 case prgH =>
  obtain ⟨l, h1, h⟩ := Qa.1 h
  obtain ⟨q, h2, h⟩ := Qa.1 h
  injection h with h
  subst h
  obtain ⟨i, hi⟩ := ih .int x.rooms.id l x.rooms.n h1
  obtain ⟨j, hj⟩ := ih .stmsHH x.tasks.id q x.tasks.n h2
  have hi : Qk es k (.tr x.rooms.id 1 x.rooms.n) = _ := hi
  have hj : Qk es k (.tr x.tasks.id 1 x.tasks.n) = _ := hj
  refine ⟨i ++ (j ++ []), ?_⟩
  simp only [Qe, Qan, hi, hj, Qb, Qao]; rfl
 case wldH =>
  obtain ⟨l, h1, h⟩ := Qa.1 h
  obtain ⟨q, h2, h⟩ := Qa.1 h
  obtain ⟨o, h3, h⟩ := Qa.1 h
  injection h with h
  subst h
  obtain ⟨i, hi⟩ := ih .tkH x.tasks.id l x.tasks.n h1
  obtain ⟨j, hj⟩ := ih .bxH x.boxes.id q x.boxes.n h2
  obtain ⟨m, hm⟩ := ih .int x.out.id o x.out.n h3
  have hi : Qk es k (.tr x.tasks.id 2 x.tasks.n) = _ := hi
  have hj : Qk es k (.tr x.boxes.id 2 x.boxes.n) = _ := hj
  have hm : Qk es k (.tr x.out.id 1 x.out.n) = _ := hm
  refine ⟨i ++ (j ++ ([] ++ ([] ++ (m ++ [])))), ?_⟩
  simp only [Qe, Qan, hint, hi, hj, hm, Qb, Qao]; rfl
 case otcH =>
  obtain ⟨l, h1, h⟩ := Qa.1 h
  obtain ⟨q, h2, h⟩ := Qa.1 h
  obtain ⟨o, h3, h⟩ := Qa.1 h
  injection h with h
  subst h
  obtain ⟨i, hi⟩ := ih .int x.out.id l x.out.n h1
  obtain ⟨j, hj⟩ := ih .intsH x.items.id q x.items.n h2
  obtain ⟨m, hm⟩ := ih .bool x.ended.id o x.ended.n h3
  have hi : Qk es k (.tr x.out.id 1 x.out.n) = _ := hi
  have hj : Qk es k (.tr x.items.id 1 x.items.n) = _ := hj
  have hm : Qk es k (.tr x.ended.id 1 x.ended.n) = _ := hm
  have hb : Qk es k (.bool x.rest) = some (.bool x.rest, []) := (Qbj k).1 _ rfl
  refine ⟨i ++ (j ++ (m ++ ([] ++ []))), ?_⟩
  simp only [Qe, Qan, hb, hi, hj, hm, Qb, Qao]; rfl
 case wldO =>
  obtain ⟨o, h3, h⟩ := Qa.1 h
  injection h with h
  subst h
  obtain ⟨m, hm⟩ := ih .int x.out.id o x.out.n h3
  have hm : Qk es k (.tr x.out.id 1 x.out.n) = _ := hm
  have ht : Qk es k (.sl .share 2 (x.tasks.map tkAV)) = some (.sl .share 2 (x.tasks.map tkAV), []) := (Qbj k).1 _ (Qhw (.sl .share .tk x.tasks) rfl)
  have hb : Qk es k (.sl .share 2 (x.boxes.map bxAV)) = some (.sl .share 2 (x.boxes.map bxAV), []) := (Qbj k).1 _ (Qhw (.sl .share .bx x.boxes) rfl)
  refine ⟨[] ++ ([] ++ ([] ++ ([] ++ (m ++ [])))), ?_⟩
  simp only [Qe, Qan, hint, ht, hb, hm, Qb, Qao]; rfl
theorem Qzk {es : List Ent} : ∀ (k : Nat) (c : TC) (h : Option Nat) (l : List (Den c.seen)) (n : Nat), Qol es k c h = some l → ∃ ids, Qk es k (.tr h c.sz n) = some (.sl .share c.sz (l.map (Qe c.seen)), ids) := by
 intro k
 induction k with
 | zero => intro c h l n hv; simp [Qol] at hv
 | succ k ih =>
  intro c h l n hv
  simp only [Qol] at hv
  obtain ⟨xs, h1, h2⟩ := Qa.1 hv
  have hr := Qbg h1
  cases h with
  | none =>
   simp only [Qbm, Zi] at hr
   have : xs = [] := by cases xs with | nil => rfl | cons x xs => simp at hr
   subst this
   simp only [mapB, Zi] at h2
   subst h2
   exact ⟨[], by simp only [Qk, List.map_nil]⟩
  | some id =>
   simp only [Qbm] at hr
   split at hr
   rotate_left
   ·cases hr
   rename_i sz' ys hy
   split at hr
   rotate_left
   ·cases hr
   rename_i hs
   injection hr with hr
   subst hr
   have key : ∀ (xs : List (Den c)) (l : List (Den c.seen)), mapB (Qcn (Qol es k) c) xs = some l → ∃ ids, Qgq (Qk es k) (xs.map (Qe c)) = some (l.map (Qe c.seen), ids) := by
    intro xs
    induction xs with
    | nil => intro l h; simp only [mapB, Zi] at h; subst h; exact ⟨[], rfl⟩
    | cons x xs ihx =>
     intro l h
     simp only [mapB] at h
     obtain ⟨y, q1, h⟩ := Qa.1 h
     obtain ⟨l', q2, h⟩ := Qa.1 h
     injection h with h
     subst h
     obtain ⟨i, q3⟩ := tr_cell (es := es) (k := k) (c := c) ih c x y q1
     obtain ⟨j, q4⟩ := ihx l' q2
     exact ⟨i ++ j, by simp only [List.map_cons, Qgq, q3, q4, Qb]⟩
   obtain ⟨ids, q⟩ := key xs l h2
   refine ⟨id :: ids, ?_⟩
   simp only [Qk, hy, hs, if_true, q, Qb]
theorem Qou {es : List Ent} {c : TC} {h : Option Nat} {l : List (Den c.seen)} (n : Nat) (hv : Qlx es c h = some l) (j : Nat) : ∃ ids, Qk es (es.length + 1 + j) (.tr h c.sz n) = some (.sl .share c.sz (l.map (Qe c.seen)), ids) := by
 obtain ⟨ids, h1⟩ := Qzk _ c h l n hv
 exact ⟨ids, Qqj h1 j⟩
theorem Qjo {es : List Ent} {v : TV} {k : TV → Option ρ} {r : ρ} (h : Quj es v k = some r) : ∃ v', k v' = some r ∧ ∀ j, ∃ ids, Qk es (es.length + 1 + j) (toAV v) = some (toAV v', ids) := by
 unfold Quj at h
 split at h
 ·rename_i c hh n
  obtain ⟨l, h1, h2⟩ := Qa.1 h
  refine ⟨_, h2, fun j => ?_⟩
  obtain ⟨ids, h3⟩ := Qou n h1 j
  refine ⟨ids, ?_⟩
  simp only [toAV, h3, Md.sm, Qwp]
 ·split at h
  ·rename_i hn
   exact ⟨_, h, fun j => ⟨[], (Qbj _).1 _ (Qhw _ hn)⟩⟩
  ·cases h
theorem Qfl {es : List Ent} {f : TV → (TV → Option ρ) → Option ρ} {m : Nat} (hf : ∀ v k r, f v k = some r → ∃ v', k v' = some r ∧ ∃ ids, Qk es m (toAV v) = some (toAV v', ids)) : ∀ {l : List TV} {k : List TV → Option ρ} {r : ρ}, Qll f l k = some r →
  ∃ l', k l' = some r ∧ ∃ ids, Qan (Qk es m) (l.map toAV) = some (l'.map toAV, ids)
 | [], k, r, h => ⟨[], h, [], rfl⟩
 | v :: l, k, r, h => by
  simp only [Qll] at h
  obtain ⟨v', h1, i, h2⟩ := hf _ _ _ h
  obtain ⟨l', h3, j, h4⟩ := Qfl hf h1
  exact ⟨v' :: l', h3, i ++ j, by simp only [List.map_cons, Qan, h2, h4, Qb]⟩
theorem Qsu {es : List Ent} {v : TV} {k : TV → Option ρ} {r : ρ} (h : Qzl es v k = some r) (j : Nat) : ∃ v', k v' = some r ∧ ∃ ids, Qk es (es.length + 2 + j) (toAV v) = some (toAV v', ids) := by
 unfold Qzl at h
 split at h
 ·rename_i cs
  obtain ⟨l', h1, ids, h2⟩ := Qfl (es := es) (m := es.length + 1 + j) (fun v k r h => (let ⟨v', q1, q2⟩ := Qjo h; ⟨v', q1, q2 j⟩)) h
  refine ⟨_, h1, ids, ?_⟩
  rw [show es.length + 2 + j = (es.length + 1 + j) + 1 by omega]
  simp only [toAV, Qj, Qk, h2, Qb]
 ·obtain ⟨v', h1, h2⟩ := Qjo h
  obtain ⟨ids, h3⟩ := h2 (j + 1)
  exact ⟨v', h1, ids, by rw [← h3]; congr 1; omega⟩
theorem Qzm {es : List Ent} {v : TV} {k : TV → Option ρ} {r : ρ} (h : viewT es v k = some r) : ∃ v', k v' = some r ∧ ∃ ids, Qgb es (toAV v) = some (toAV v', ids) := by
 unfold viewT at h
 split at h
 ·rename_i cs
  obtain ⟨l', h1, ids, h2⟩ := Qfl (es := es) (m := es.length + 1 + 1) (fun v k r h => (let ⟨v', q1, q2⟩ := Qjo h; ⟨v', q1, q2 1⟩)) h
  refine ⟨_, h1, ids, ?_⟩
  unfold Qgb
  simp only [toAV, Qj, Qk, h2, Qb]
 ·rename_i cs
  obtain ⟨l', h1, ids, h2⟩ := Qfl (es := es) (m := es.length + 2 + 0) (fun v k r h => Qsu h 0) h
  refine ⟨_, h1, ids, ?_⟩
  unfold Qgb
  simp only [toAV, Qj, Qk, h2, Qb]
 ·obtain ⟨v', h1, h2⟩ := Qjo h
  obtain ⟨ids, h3⟩ := h2 2
  exact ⟨v', h1, ids, h3⟩
theorem Qqi {es : List Ent} {l : List TV} {k : List TV → Option ρ} {r : ρ} (h : Qxa es l k = some r) : ∃ l', k l' = some r ∧ ∃ ids, Qan (Qgb es) (l.map toAV) = some (l'.map toAV, ids) :=
 Qfl (es := es) (m := es.length + 3) (fun v k r h => (let ⟨v', q1, ids, q2⟩ := Qsu h 1; ⟨v', q1, ids, q2⟩)) h
theorem Qnb {es : List Ent} {k : Nat} : ∀ {l : List (List AV)}, Qfy l = true → Qgq (Qk es k) l = some (l, [])
 | [], _ => rfl
 | v :: l, h => by
  simp only [Qfy, Zw] at h
  simp only [Qgq, (Qbj k).2 v h.1, Qnb h.2, Qb, List.append_nil]
theorem Qoh {es : List Ent} {v : TV} {k : TV → List Nat → Option ρ} {r : ρ} (h : Qwn es v k = some r) : ∃ v' ids, k v' ids = some r ∧ ∀ j, Qk es (es.length + 1 + j) (toAV v) = some (toAV v', ids) := by
 unfold Qwn at h
 split at h
 ·rename_i c hh n
  split at h
  rotate_left
  ·cases h
  rename_i hp
  obtain ⟨l, h1, h2⟩ := Qa.1 h
  refine ⟨_, _, h2, fun j => ?_⟩
  obtain ⟨ids, h3⟩ := Qou n h1 j
  simp only [toAV, Md.sm, Qwp]
  have e : ∀ ids', Qk es (es.length + 1 + j) (.tr hh c.sz n) = some (.sl .share c.sz (l.map (Qe c.seen)), ids') → ids' = hh.toList := by
   intro ids' h4
   rw [show es.length + 1 + j = (es.length + j) + 1 by omega] at h4
   cases hh with
   | none => simp only [Qk, Zi, Zm] at h4; exact h4.2.symm
   | some id =>
    have hg : ∃ xs, Qai es c (some id) = some xs := by
     unfold Qlx at h1
     simp only [Qol] at h1
     obtain ⟨xs, h5, _⟩ := Qa.1 h1
     exact ⟨xs, h5⟩
    obtain ⟨xs, hg⟩ := hg
    have hr := Qbg hg
    simp only [Qbm] at hr
    simp only [Qk] at h4
    split at hr
    rotate_left
    ·cases hr
    rename_i sz' ys hy
    rw [hy] at h4
    split at hr
    rotate_left
    ·cases hr
    rename_i hs
    injection hr with hr
    subst hr
    simp only [hs, if_true, Qnb (Qej hp xs), Qb, Zi, Zm] at h4
    exact h4.2.symm
  rw [h3, e ids h3]
 ·split at h
  ·rename_i hn
   exact ⟨_, _, h, fun j => (Qbj _).1 _ (Qhw _ hn)⟩
  ·cases h
theorem Qlc {es : List Ent} {f : TV → (TV → List Nat → Option ρ) → Option ρ} {m : Nat} (hf : ∀ v k r, f v k = some r → ∃ v' ids, k v' ids = some r ∧ Qk es m (toAV v) = some (toAV v', ids)) : ∀ {l : List TV} {k : List TV → List Nat → Option ρ} {r : ρ}, Qqa f l k = some r →
  ∃ l' ids, k l' ids = some r ∧ Qan (Qk es m) (l.map toAV) = some (l'.map toAV, ids)
 | [], k, r, h => ⟨[], [], h, rfl⟩
 | v :: l, k, r, h => by
  simp only [Qqa] at h
  obtain ⟨v', i, h1, h2⟩ := hf _ _ _ h
  obtain ⟨l', j, h3, h4⟩ := Qlc hf h1
  exact ⟨v' :: l', i ++ j, h3, by simp only [List.map_cons, Qan, h2, h4, Qb]⟩
theorem Qzb {es : List Ent} {v : TV} {k : TV → List Nat → Option ρ} {r : ρ} (h : sealT es v k = some r) : ∃ v' ids, k v' ids = some r ∧ Qgb es (toAV v) = some (toAV v', ids) := by
 unfold sealT at h
 split at h
 ·rename_i cs
  obtain ⟨l', ids, h1, h2⟩ := Qlc (es := es) (m := es.length + 1 + 1) (fun v k r h => (let ⟨v', ids, q1, q2⟩ := Qoh h; ⟨v', ids, q1, q2 1⟩)) h
  refine ⟨_, _, h1, ?_⟩
  unfold Qgb
  simp only [toAV, Qj, Qk, h2, Qb]
 ·obtain ⟨v', ids, h1, h2⟩ := Qoh h
  exact ⟨v', ids, h1, h2 2⟩
theorem Qwo {es : List Ent} {l : List TV} {k : List TV → List Nat → Option ρ} {r : ρ} (h : Qzy es l k = some r) : ∃ l' ids, k l' ids = some r ∧ Qan (Qgb es) (l.map toAV) = some (l'.map toAV, ids) :=
 Qlc (es := es) (m := es.length + 3) (fun v k r h => Qzb h) h
theorem Qhk {es : List Ent} : ∀ {bs : List Bool} {l : List TV} {k : List TV → List Nat → Option ρ} {r : ρ}, Qld es bs l k = some r → ∃ l' ids, k l' ids = some r ∧ Qga es bs (l.map toAV) = some (l'.map toAV, ids)
 | [], l, k, r, h => ⟨l, [], h, by simp only [Qga]⟩
 | true :: bs, [], k, r, h => ⟨[], [], h, by simp only [List.map_nil, Qga]⟩
 | false :: bs, [], k, r, h => ⟨[], [], h, by simp only [List.map_nil, Qga]⟩
 | true :: bs, v :: l, k, r, h => by
  simp only [Qld] at h
  obtain ⟨v', i, h1, h2⟩ := Qoh h
  obtain ⟨l', j, h3, h4⟩ := Qhk h1
  have h2 : Qgb es (toAV v) = some (toAV v', i) := h2 2
  exact ⟨v' :: l', i ++ j, h3, by simp only [List.map_cons, Qga, h2, h4, Qb]⟩
 | false :: bs, v :: l, k, r, h => by
  simp only [Qld] at h
  obtain ⟨l', j, h3, h4⟩ := Qhk h
  exact ⟨v :: l', j, h3, by simp only [List.map_cons, Qga, h4, Qb]⟩
theorem Qqb : ∀ {bv : List BT} {z : List BT × List Ent}, Qho bv = some z → Qhn (bv.map toBC) = some (z.1.map toBC, z.2)
 | [], z, h => by simp [Qho] at h
 | [.ar es], z, h => by simp only [Qho, Zi] at h; subst h; rfl
 | [.var cs], z, h => by simp [Qho, bnd] at h
 | [.rows c l], z, h => by simp [Qho, bnd] at h
 | c :: d :: r, z, h => by
  have h : (bnd (Qho (d :: r)) fun q => some (c :: q.1, q.2)) = some z := by
   cases c <;> simpa only [Qho] using h
  obtain ⟨q, h1, h2⟩ := Qa.1 h
  injection h2 with h2
  subst h2
  have ih := Qqb h1
  have e : Qhn ((c :: d :: r).map toBC) = bnd (Qhn ((d :: r).map toBC)) fun q => some (toBC c :: q.1, q.2) := by
   cases c <;> rfl
  rw [e, ih]; rfl
theorem Qpb {Φ : CT ρ} {call : Vs.Call} (hΦ : Qnc Φ call) {s : TS} {g : Nat} {as : List TV} {es : List Ent} {k : TV → TS → Option ρ} {r : ρ} (h : Qsd Φ s g as es k = some r) :
  ∃ v s', callA call (toS s) g (as.map toAV) es = some (toAV v, toS s') ∧ k v s' = some r := by
 unfold Qsd at h
 obtain ⟨q, h1, h⟩ := Qa.1 h
 obtain ⟨o, outs, bv', h2, h3⟩ := hΦ _ _ _ _ _ h
 obtain ⟨z, h4, h3⟩ := Qa.1 h3
 obtain ⟨s', h5, h3⟩ := Qa.1 h3
 rcases outs with _ | ⟨v, _ | ⟨u, l⟩⟩
 ·cases h3
 rotate_left
 ·cases h3
 dsimp only at h3
 split at h3
 ·cases h3
 rename_i hp
 refine ⟨v, s'.setA z.2, ?_, h3⟩
 rw [List.map_append] at h2
 have h2 : call g (q.1.map toAV) (q.2.1.map toBC ++ [BC.ar es]) = _ := h2
 simp only [callA, Qjh h1, Qb, h2, Qqb h4, Qns h5, List.map_cons, List.map_nil, Qjx, hp, Bool.false_eq_true, if_false, Qcb]
theorem Qru {l : List TV} (h : l.all TV.calm = true) : ((l.map toAV).all AV.calm) = true := by
 rw [List.all_map, List.all_eq_true] at *
 intro v hv
 exact av_calm v (h v hv)
theorem Qtk {Φ : CT ρ} {call : Vs.Call} (hΦ : Qnc Φ call) {s : TS} {m : CM} {g : Nat} {as : List TV} {es : List Ent} {k : TV → TS → Option ρ} {r : ρ} (h : Qki Φ s es m g as k = some r) :
  ∃ v s', evalTC call (toS s) es m g (as.map toAV) = some (toAV v, toS s') ∧ k v s' = some r := by
 cases m with
 | pass => exact Qpb hΦ h
 | view =>
  simp only [Qki] at h
  obtain ⟨as', h1, ids, h2⟩ := Qqi h
  split at h1
  rotate_left
  ·cases h1
  rename_i hc
  obtain ⟨o, outs, bv', h3, h4⟩ := hΦ _ _ _ _ _ h1
  split at h4
  rotate_left
  ·cases h4
  rename_i v
  split at h4
  rotate_left
  ·cases h4
  rename_i hf
  refine ⟨v, s, ?_, h4⟩
  have h3 : call g (as'.map toAV) [] = some (o, [toAV v], []) := h3
  simp only [evalTC, h2, Qb, Qru hc, if_true, h3, Quw v hf]
 | pview =>
  simp only [Qki] at h
  obtain ⟨as', h1, ids, h2⟩ := Qqi h
  split at h1
  rotate_left
  ·cases h1
  rename_i hc
  obtain ⟨o, outs, bv', h3, h4⟩ := hΦ _ _ _ _ _ h1
  split at h4
  rotate_left
  ·cases h4
  rename_i v es'
  split at h4
  rotate_left
  ·cases h4
  rename_i hf
  obtain ⟨es'', h5, h6⟩ := Qa.1 h4
  refine ⟨v, s.setA es'', ?_, h6⟩
  have h3 : call g (as'.map toAV) [BC.ar (Vs.Qec es)] = some (o, [toAV v], [BC.ar es']) := h3
  unfold Qot at h5
  split at h5
  rotate_left
  ·cases h5
  rename_i hj
  injection h5 with h5
  subst h5
  simp only [evalTC, h2, Qb, Qru hc, if_true, h3, Qsa v hf, true_and, hj, and_self, Qcb]
 | pseal =>
  simp only [Qki] at h
  obtain ⟨as', ids, h1, h2⟩ := Qwo h
  obtain ⟨v, s', h3, h4⟩ := Qpb hΦ h1
  exact ⟨v, s', by simp only [evalTC, h2, Qb]; exact h3, h4⟩
theorem made_is {n : Int} {a : Nat} (h : made n = some a) : 0 ≤ n ∧ n ≤ 4294967296 ∧ a = n.toNat := by
 unfold made at h
 split at h
 ·rename_i hc; injection h with h; exact ⟨hc.1, hc.2, h.symm⟩
 ·cases h
end Go.Tv
namespace Go.Tv
open Go Go.RowKit Go.Vs
variable {ρ : Type} {Φ : CT ρ} {call : Vs.Call} {G : Nat → List TV}
theorem Qsx {es : List Ent} {c : TC} {h : Option Nat} {l : List (Den c)} (hg : Qai es c h = some l) : (Qbm es c.sz h).getD [] = l.map (Qe c) := by rw [Qbg hg]; rfl
theorem same_is {s : TS} {x y : OpT} {kx ky : IntKind} {n m : Int} (e : Qrm x y = true) (hn : s.get G x = .int kx n) (hm : s.get G y = .int ky m) : n = m := by
 unfold Qrm at e
 split at e
 ·have := Nat.eq_of_beq_eq_true e
  subst this
  rw [hn] at hm
  injection hm
 ·have := of_decide_eq_true e
  simp only [TS.get, TV.int.injEq] at hn hm
  omega
 ·cases e
theorem Qvm (hΦ : Qnc Φ call) {s : TS} {op : TKT} {k : TV → TS → Option ρ} {r : ρ} (h : Qdb Φ G s op k = some r) :
  ∃ v s', evalTK call (GA G) (toS s) op.er = some (toAV v, toS s') ∧ k v s' = some r := by
 cases op with
 | mk c x y =>
  simp only [Qdb] at h
  split at h
  rotate_left
  ·cases h
  rename_i es hes
  split at h
  rotate_left
  ·cases h
  rename_i kx n ky m hx hy
  obtain ⟨a, h1, h⟩ := Qa.1 h
  split at h
  rotate_left
  ·cases h
  rename_i hsame
  obtain ⟨h0, hle, rfl⟩ := made_is h1
  refine ⟨_, _, ?_, h⟩
  have hnm : n = m := same_is hsame hx hy
  subst hnm
  simp only [TKT.er, evalTK, Qcs hes, Qb, Qh, hx, hy, toAV]
  rw [if_pos ⟨h0, trivial, hle, Qdy c _⟩]
  simp only [Qcb, Qkz, Qaj, List.map_replicate]
 | nil c =>
  simp only [Qdb] at h
  exact ⟨_, _, rfl, h⟩
 | lit c ps =>
  simp only [Qdb] at h
  split at h
  rotate_left
  ·cases h
  rename_i es hes
  obtain ⟨l, h1, h⟩ := Qa.1 h
  obtain ⟨h2, h3⟩ := Qks h1
  refine ⟨_, _, ?_, h⟩
  have e1 : ((ps.map OpT.er).all fun p => ((toS s).get (GA G) p).cells.length == c.sz && ((toS s).get (GA G) p).cells.all AV.one) = true := by
   rw [List.all_map, List.all_eq_true]
   intro p hp
   simp only [Function.comp_def, Qh, (h3 p hp).1, (h3 p hp).2, beq_self_eq_true, Bool.and_self]
  have e2 : ((ps.map OpT.er).map fun p => ((toS s).get (GA G) p).cells.map AV.share) = l.map (Qe c) := by
   rw [← h2, List.map_map]
   exact List.map_congr_left fun p _ => by simp only [Function.comp_def, Qh]
  simp only [TKT.er, evalTK, Qcs hes, Qb, e1, e2, if_true, List.length_map, Qcb, toAV, Qaj]
 | app sz x y =>
  simp only [Qdb] at h
  split at h
  rotate_left
  ·cases h
  rename_i es hes
  split at h
  rotate_right
  ·cases h
  ·rename_i c hh n m c' l' hx hy
   split at h
   rotate_left
   ·cases h
   rename_i hsz
   obtain ⟨l2, h1, h⟩ := Qa.1 h
   obtain ⟨A, h2, h⟩ := Qa.1 h
   obtain ⟨rfl, h1⟩ := Qaq h1
   simp only at h1
   subst h1
   unfold Qnf at h2
   split at h2
   rotate_left
   ·cases h2
   rename_i hle
   obtain ⟨l, h3, h4⟩ := Qa.1 h2
   injection h4 with h4
   subst h4
   refine ⟨_, _, ?_, h⟩
   subst hsz
   simp only [TKT.er, evalTK, Qcs hes, Qb, Qh, hx, hy, toAV, srcR, List.length_map, hle, and_self, if_true, Qbg h3, Qcb, Qaj, List.map_append]
  ·rename_i c hh n c' hh' n' hx hy
   split at h
   rotate_left
   ·cases h
   rename_i hsz
   obtain ⟨hsz, rfl⟩ := hsz
   obtain ⟨l2, h1, h⟩ := Qa.1 h
   obtain ⟨A, h2, h⟩ := Qa.1 h
   unfold Qnf at h2
   split at h2
   rotate_left
   ·cases h2
   rename_i hle
   obtain ⟨l, h3, h4⟩ := Qa.1 h2
   injection h4 with h4
   subst h4
   refine ⟨_, _, ?_, h⟩
   subst hsz
   simp only [TKT.er, evalTK, Qcs hes, Qb, Qh, hx, hy, toAV, srcR, Qbg h1, List.length_map, hle, and_self, if_true, Qbg h3, Qcb, Qaj, List.map_append]
 | cut sz x y =>
  simp only [Qdb] at h
  split at h
  rotate_left
  ·cases h
  rename_i es hes
  split at h
  rotate_left
  ·cases h
  rename_i c hh n ki i hx hy
  split at h
  rotate_left
  ·cases h
  rename_i hsz
  obtain ⟨q, h2, h⟩ := Qa.1 h
  unfold Qur at h2
  split at h2
  rotate_left
  ·cases h2
  rename_i hle
  obtain ⟨l, h3, h4⟩ := Qa.1 h2
  injection h4 with h4
  subst h4
  refine ⟨_, _, ?_, h⟩
  subst hsz
  have hn : Qcq (.int ki i) = some i.toNat := by simp [Qcq, hle.1]
  have hle2 : i.toNat ≤ n := by omega
  simp only [TKT.er, evalTK, Qcs hes, Qb, Qh, hx, hy, toAV, hn, hle2, if_true, Qbg h3, Qcb, Qaj, List.map_take]
 | len x =>
  simp only [Qdb] at h
  split at h
  rotate_left
  ·cases h
  rename_i c hh n hx
  exact ⟨_, _, by simp only [TKT.er, evalTK, Qh, hx, toAV], h⟩
 | iadr sz x i =>
  simp only [Qdb] at h
  split at h
  rotate_left
  ·cases h
  rename_i c hh n ki i' hx hi
  split at h
  rotate_left
  ·cases h
  rename_i hsz
  obtain ⟨j, h1, h⟩ := Qa.1 h
  unfold idxN at h1
  split at h1
  rotate_left
  ·cases h1
  rename_i hle
  injection h1 with h1
  subst h1
  refine ⟨_, _, ?_, h⟩
  subst hsz
  have hn : Qcq (.int ki i') = some i'.toNat := by simp [Qcq, hle.1]
  have hle2 : i'.toNat < n := by omega
  simp only [TKT.er, evalTK, Qh, hx, hi, toAV, hn, Qb, hle2, if_true]
 | fadr off x =>
  simp only [Qdb] at h
  split at h
  rotate_left
  ·cases h
  rename_i c hh i o hx
  exact ⟨_, _, by simp only [TKT.er, evalTK, Qh, hx, toAV], h⟩
 | nilck x =>
  simp only [Qdb] at h
  split at h
  rotate_left
  ·cases h
  rename_i c hh i o hx
  exact ⟨_, _, by simp only [TKT.er, evalTK, Qh, hx, toAV], h⟩
 | load n agg x =>
  simp only [Qdb] at h
  split at h
  rotate_left
  ·cases h
  rename_i c hh i off hx
  split at h
  rotate_left
  ·cases h
  rename_i es hes
  obtain ⟨row, h1, h⟩ := Qa.1 h
  obtain ⟨v, h2, h⟩ := Qa.1 h
  unfold Qlo at h1
  obtain ⟨l, h3, h4⟩ := Qa.1 h1
  refine ⟨v, s, ?_, h⟩
  have e1 : (l.map (Qe c))[i]? = some (Qe c row) := by rw [List.getElem?_map, h4]; rfl
  have e2 := Qhi h2
  rw [Qcj] at e2
  simp only [TKT.er, evalTK, Qh, hx, toAV, Qcs hes, Qb, Qbg h3, e1, e2]
 | store n x v =>
  simp only [Qdb] at h
  split at h
  rotate_left
  ·cases h
  rename_i hc
  split at h
  rotate_left
  ·cases h
  rename_i c hh i off hx
  split at h
  rotate_left
  ·cases h
  rename_i es hes
  obtain ⟨row, h1, h⟩ := Qa.1 h
  obtain ⟨cs', h2, h⟩ := Qa.1 h
  obtain ⟨y, h5, h⟩ := Qa.1 h
  unfold Qlo at h1
  obtain ⟨l, h3, h4⟩ := Qa.1 h1
  refine ⟨_, _, ?_, h⟩
  have e1 : (l.map (Qe c))[i]? = some (Qe c row) := by rw [List.getElem?_map, h4]; rfl
  have e2 := Qod h2
  rw [Qcj, ← Qfd, ← Qdl] at e2
  have e3 : cs'.map toAV = Qe c y := by rw [Qgw h5, Qcj]
  have hc2 : (toAV (s.get G v)).cells.length = n ∧ ((toAV (s.get G v)).cells.all AV.one) = true := by rw [Qdl, List.length_map, Qif]; exact hc
  simp only [TKT.er, evalTK, Qh, hx, toAV, Qcs hes, Qb, Qbg h3, e1, e2, e3]
  rw [if_pos hc2]
  simp only [Qcb, Qeo, Qbp, Qhv, Qsx h3]
 | call m g args =>
  simp only [Qdb] at h
  split at h
  rotate_left
  ·cases h
  rename_i hc
  split at h
  rotate_left
  ·cases h
  rename_i es hes
  obtain ⟨v, s', h1, h2⟩ := Qtk hΦ h
  refine ⟨v, s', ?_, h2⟩
  simp only [TKT.er, evalTK, Qen, hc, and_self, if_true, Qcs hes, Qb, Qoj]
  rw [← Qlj]; exact h1
 | bld b z ps =>
  simp only [Qdb] at h
  split at h
  rotate_left
  ·cases h
  rename_i es hes
  split at h
  rotate_left
  ·cases h
  rename_i c l hb
  split at h
  rotate_left
  ·cases h
  rename_i hbig
  obtain ⟨cs, h1, h2⟩ := Qa.1 h
  refine ⟨_, _, ?_, h2⟩
  have hb2 : (toS s).b b = some (.rows c.sz (l.map (Qe c))) := by simp only [toS, hb, Option.map_some, toBC]
  have ho : ∀ v : TV, ownV b es.length c.sz l.length (toAV v) = toAV (ownT b c es.length l.length v) := by
   intro v
   cases v <;> simp only [toAV, ownV, ownT]
   split <;> simp only [toAV]
  have e : ((ps.map fun p => (p.1, p.2.1, p.2.2.er)).map fun p => (p.1, p.2.1, ownV b es.length c.sz (l.map (Qe c)).length ((toS s).get (GA G) p.2.2))) = (ps.map fun p => (p.1, p.2.1, ownT b c es.length l.length (s.get G p.2.2))).map fun p => (p.1, p.2.1, toAV p.2.2) := by
   simp only [List.map_map, Function.comp_def, Qh, List.length_map, ho]
  have e3 : ({ toS s with b := upd (toS s).b b none } : S) = toS { s with b := upd s.b b none } := by
   simp only [toS, S.mk.injEq, true_and, and_true]
   funext b'
   simp only [Qae]
   split <;> rfl
  simp only [TKT.er, evalTK, Qcs hes, Qb, hb2, hbig, if_true, e, Qj, Qqp, h1, Option.map_some, toAV, e3, Qcb, Qaj]
end Go.Tv
namespace Go.Tv
open Go Go.RowKit Go.Vs
variable {ρ : Type} {Φ : CT ρ} {call : Vs.Call} {G : Nat → List TV}
theorem bndT_is {s : TS} {x : Option OpT} {d n : Int} (h : bndT G s x d = some n) : (∃ k, x.map (s.get G) = some (.int k n)) ∨ x = none ∧ n = d := by
 cases x with
 | none => simp [bndT] at h; exact .inr ⟨rfl, h.symm⟩
 | some x =>
  left
  simp only [bndT] at h
  split at h
  ·rename_i k m hg
   injection h with h
   subst h
   exact ⟨k, by simp [hg]⟩
  ·cases h
theorem Qoa {s : TS} {x : Option OpT} {d n : Int} (h : bndT G s x d = some n) (h0 : 0 ≤ n) : ∃ o, natO (GA G) (toS s) (erO x) = some o ∧ o.getD d.toNat = n.toNat := by
 cases x with
 | none => simp [bndT] at h; subst h; exact ⟨none, rfl, rfl⟩
 | some x =>
  rcases bndT_is h with ⟨k, hk⟩ | ⟨hx, _⟩
  ·simp only [Option.map_some, Zi] at hk
   exact ⟨some n.toNat, by simp [erO, natO, Qh, hk, toAV, Qcq, h0], rfl⟩
  ·cases hx
theorem Qzs {α : Type} {l r : List α} {a b : Int} (h : cutL l a b = some r) : 0 ≤ a ∧ a ≤ b ∧ b ≤ l.length ∧ r = (l.take b.toNat).drop a.toNat := by
 unfold cutL at h
 split at h
 ·rename_i hc; injection h with h; exact ⟨hc.1, hc.2.1, hc.2.2, h.symm⟩
 ·cases h
theorem Qzp {α : Type} {x y r : List α} (h : appL x y = some r) : x.length + y.length ≤ 4294967296 ∧ r = x ++ y := by
 unfold appL at h
 split at h
 ·rename_i hc; injection h with h; exact ⟨hc, h.symm⟩
 ·cases h
theorem appM_is {α : Type} {m : Md} {x y r : List α} (h : appM m x y = some r) : m.sm ≠ .share ∧ (m.sm = .full → y ≠ []) ∧ x.length + y.length ≤ 4294967296 ∧ r = x ++ y := by
 unfold appM at h
 split at h
 ·cases h
 ·rename_i b
  obtain ⟨h1, h2⟩ := Qzp h
  cases b <;> exact ⟨by simp [Md.sm], by simp [Md.sm], h1, h2⟩
 ·split at h
  ·cases h
  ·obtain ⟨h1, h2⟩ := Qzp h
   exact ⟨by simp [Md.sm], by simp, h1, h2⟩
theorem Qpg (hΦ : Qnc Φ call) {s : TS} {op : KT} {k : TV → TS → Option ρ} {r : ρ} (h : Qx Φ G s op k = some r) :
  ∃ v s', evalK call (GA G) (toS s) op.er = some (toAV v, toS s') ∧ k v s' = some r := by
 cases op with
 | tr op => exact Qvm hΦ h
 | mv x => exact ⟨_, _, by simp only [KT.er, evalK, Qh, Qeo], h⟩
 | pick c x y =>
  simp only [Qx] at h
  split at h
  ·rename_i b hc
   cases b
   ·exact ⟨_, _, by simp [KT.er, evalK, Qh, hc, toAV, Qeo], h⟩
   ·exact ⟨_, _, by simp [KT.er, evalK, Qh, hc, toAV, Qeo], h⟩
  ·cases h
 | alloc b z =>
  simp only [Qx, Qfa, Qa] at h
  obtain ⟨s', h1, h2⟩ := h
  refine ⟨_, _, ?_, h2⟩
  have := Qkt h1
  simp only [toBC] at this
  simp only [KT.er, evalK, this, Qb, toAV]
 | box b x =>
  simp only [Qx] at h
  split at h
  ·rename_i hc
   rw [Qfa, Qa] at h
   obtain ⟨s', h1, h2⟩ := h
   refine ⟨_, _, ?_, h2⟩
   have := Qkt h1
   simp only [toBC, Qj] at this
   simp only [KT.er, evalK, Qh, Qdl, Qif, hc, if_true, Qrc, this, Qb, toAV]
  ·cases h
 | build z ps =>
  simp only [Qx, Qa] at h
  obtain ⟨cs, h1, h2⟩ := h
  refine ⟨_, _, ?_, h2⟩
  have e : ((ps.map fun p => (p.1, p.2.1, p.2.2.er)).map fun p => (p.1, p.2.1, (toS s).get (GA G) p.2.2)) = (ps.map fun p => (p.1, p.2.1, s.get G p.2.2)).map fun p => (p.1, p.2.1, toAV p.2.2) := by
   simp [List.map_map, Function.comp_def, Qh]
  simp only [KT.er, evalK, e, Qj, Qqp, h1, Option.map_some, Qb, toAV]
 | buildS m c ps =>
  simp only [Qx, Qa] at h
  obtain ⟨l, h1, h2⟩ := h
  have hz : (m.sm = .zero → ps.map OpT.er = []) ∧ k (.sl m c l) s = some r := by
   split at h2
   ·cases h2
   ·rename_i m' ps' hn
    refine ⟨fun hm => ?_, h2⟩
    cases m with
    | share => cases hm
    | full => cases hm
    | own b =>
     cases b
     ·cases ps with
      | nil => rfl
      | cons p q => exact (hn p q rfl rfl).elim
     ·cases hm
  obtain ⟨hz, h2⟩ := hz
  refine ⟨_, _, ?_, h2⟩
  obtain ⟨h3, h4⟩ := Qks h1
  have hc : ((ps.map OpT.er).all fun p => ((toS s).get (GA G) p).cells.length == c.sz && ((toS s).get (GA G) p).cells.all AV.one) = true := by
   rw [List.all_map, List.all_eq_true]
   intro p hp
   simp only [Function.comp, Qh, (h4 p hp).1, (h4 p hp).2, beq_self_eq_true, Bool.and_self]
  have e : ((ps.map OpT.er).map fun p => ((toS s).get (GA G) p).cells.map AV.share) = l.map (Qe c) := by
   rw [← h3, List.map_map]
   simp only [Function.comp_def, Qh]
  have hz' : (m.sm = .zero → ps.map OpT.er = []) = True := eq_true hz
  simp only [KT.er, evalK, hc, hz', and_self, if_true, e, toAV]
 | load n a t x =>
  simp only [Qx] at h
  obtain ⟨v, s', h1, h2⟩ := Qnx h
  exact ⟨v, s', by simp only [KT.er, evalK, Qh, h1], h2⟩
 | store n x v =>
  simp only [Qx] at h
  obtain ⟨s', h1, h2⟩ := Qwt h
  refine ⟨_, _, ?_, h2⟩
  simp only [KT.er, evalK, Qh, ← Qeo, h1, Qb, toAV, Qbp]
 | nilck x =>
  simp only [Qx] at h
  split at h
  ·rename_i b o hx
   split at h
   ·rename_i hb
    refine ⟨_, _, ?_, h⟩
    simp only [KT.er, evalK, Qh, hx, toAV, Qjn hb, if_true]
   ·cases h
  ·rename_i b i o hx
   split at h
   ·rename_i hb
    refine ⟨_, _, ?_, h⟩
    simp only [KT.er, evalK, Qh, hx, toAV, Qjn hb, if_true]
   ·cases h
  ·rename_i cs o hx
   exact ⟨_, _, by simp only [KT.er, evalK, Qh, hx, toAV], h⟩
  ·rename_i cs o hx
   exact ⟨_, _, by simp only [KT.er, evalK, Qh, hx, toAV], h⟩
  ·rename_i cs o hx
   exact ⟨_, _, by simp only [KT.er, evalK, Qh, hx, toAV], h⟩
  ·cases h
 | bin op x y =>
  simp only [Qx] at h
  obtain ⟨v, h1, h2⟩ := binT_is h
  exact ⟨v, s, by simp only [KT.er, evalK, Qh, h1, Qb], h2⟩
 | eqb q x y =>
  simp only [Qx] at h
  split at h
  ·rename_i a b hx hy
   refine ⟨_, _, ?_, h⟩
   simp only [KT.er, evalK, Qh, hx, hy, toAV]
   cases q <;> simp
  ·cases h
 | eqs q n x y =>
  simp only [Qx] at h
  split at h
  ·rename_i a b hx hy
   split at h
   ·rename_i hn
    rw [Qa] at h
    obtain ⟨z, h1, h2⟩ := h
    refine ⟨_, _, ?_, h2⟩
    simp only [KT.er, evalK, Qh, hx, hy, toAV, Qj, List.length_map, hn, and_self, if_true, Qov, h1, Qb]
    cases q <;> simp
   ·cases h
  ·cases h
 | un op x =>
  simp only [Qx, unT] at h
  split at h
  ·rename_i kx n hx
   exact ⟨_, _, by simp only [KT.er, evalK, Qh, hx, toAV, Vs.un, Qb, Qqk], h⟩
  ·rename_i b hx
   exact ⟨_, _, by simp only [KT.er, evalK, Qh, hx, toAV, Vs.un, Qb], h⟩
  ·cases h
 | conv c x =>
  simp only [Qx] at h
  obtain ⟨v, s', h1, h2⟩ := Qxo h
  exact ⟨v, s', by simp only [KT.er, evalK, Qh, h1], h2⟩
 | mkfn g ps =>
  simp only [Qx, Qa] at h
  obtain ⟨q, h1, h2⟩ := h
  refine ⟨_, _, ?_, h2⟩
  have := Qnl h1
  simp only [KT.er, evalK, Qok, this, Qb, toAV, Qj]
 | mksl b c n m =>
  simp only [Qx] at h
  split at h
  ·rename_i k1 n' k2 m' hn hm
   rw [Qa] at h
   obtain ⟨a, h1, h⟩ := h
   split at h
   ·rename_i e
    have e : n' = m' := by
     unfold Qrm at e
     split at e
     ·have := Nat.eq_of_beq_eq_true e
      subst this
      rw [hn] at hm
      injection hm
     ·have := of_decide_eq_true e
      simp only [TS.get, TV.int.injEq] at hn hm
      omega
     ·cases e
    subst e
    rw [Qa] at h
    obtain ⟨s', h2, h3⟩ := h
    refine ⟨_, _, ?_, h3⟩
    unfold made at h1
    split at h1
    ·rename_i hc
     injection h1 with h1
     subst h1
     have := Qkt h2
     simp only [toBC, List.map_replicate] at this
     simp only [KT.er, evalK, Qh, hn, hm, toAV, hc.1, hc.2, Qdy, and_self, if_true, this, Qb]
    ·cases h1
   ·cases h
  ·cases h
 | mkz c n m =>
  simp only [Qx] at h
  split at h
  ·rename_i k1 n' k2 m' hn hm
   rw [Qa] at h
   obtain ⟨a, h1, h⟩ := h
   split at h
   ·rename_i e
    have e : n' = m' := by
     unfold Qrm at e
     split at e
     ·have := Nat.eq_of_beq_eq_true e
      subst this
      rw [hn] at hm
      injection hm
     ·have := of_decide_eq_true e
      simp only [TS.get, TV.int.injEq] at hn hm
      omega
     ·cases e
    subst e
    refine ⟨_, _, ?_, h⟩
    unfold made at h1
    split at h1
    ·rename_i hc
     injection h1 with h1
     subst h1
     simp only [KT.er, evalK, Qh, hn, hm, toAV, hc.1, hc.2, Qdy, and_self, if_true, Qkz, List.map_replicate, Md.sm]
    ·cases h1
   ·cases h
  ·cases h
 | slc sz x lo hi mx =>
  simp only [Qx] at h
  split at h
  ·cases h
  split at h
  ·rename_i m c l hx
   split at h
   ·rename_i hs
    simp only [Qa] at h
    obtain ⟨a, h1, b, h2, l', h3, h4⟩ := h
    obtain ⟨c1, c2, c3, rfl⟩ := Qzs h3
    refine ⟨_, _, ?_, h4⟩
    obtain ⟨o1, e1, e2⟩ := Qoa h1 c1
    obtain ⟨o2, e3, e4⟩ := Qoa h2 (by omega)
    simp only [Int.toNat_zero, Int.toNat_natCast] at e2 e4
    have c4 : a.toNat ≤ b.toNat ∧ b.toNat ≤ l.length := by omega
    have e5 : (erO none : Option Opnd) = none := rfl
    have e6 : natO (GA G) (toS s) none = some none := rfl
    simp only [KT.er, e5, evalK, Option.isSome_none, Bool.false_and, Bool.false_eq_true, if_false, e1, e3, e6, Qb, Qh, hx, toAV, Qin, hs, List.length_map, e2, e4, c4.1, c4.2, and_self, if_true, Md.sm, List.map_take, List.map_drop]
   ·cases h
  ·cases h
 | slcS x lo hi =>
  simp only [Qx] at h
  split at h
  ·rename_i l hx
   simp only [Qa] at h
   obtain ⟨a, h1, b, h2, l', h3, h4⟩ := h
   obtain ⟨c1, c2, c3, rfl⟩ := Qzs h3
   refine ⟨_, _, ?_, h4⟩
   obtain ⟨o1, e1, e2⟩ := Qoa h1 c1
   obtain ⟨o2, e3, e4⟩ := Qoa h2 (by omega)
   simp only [Int.toNat_zero, Int.toNat_natCast] at e2 e4
   have c4 : a.toNat ≤ b.toNat ∧ b.toNat ≤ l.length := by omega
   simp only [KT.er, evalK, e1, e3, Qb, Qh, hx, toAV, Qfw, e2, e4, c4.1, c4.2, and_self, if_true]
  ·cases h
 | fadr off x =>
  simp only [Qx] at h
  split at h
  ·rename_i b o hx
   split at h
   ·rename_i hb
    refine ⟨_, _, ?_, h⟩
    simp only [KT.er, evalK, Qh, hx, toAV, Qjn hb, if_true]
   ·cases h
  ·rename_i b i o hx
   split at h
   ·rename_i hb
    refine ⟨_, _, ?_, h⟩
    simp only [KT.er, evalK, Qh, hx, toAV, Qjn hb, if_true]
   ·cases h
  ·rename_i cs o hx
   exact ⟨_, _, by simp only [KT.er, evalK, Qh, hx, toAV], h⟩
  ·cases h
 | fld off n agg x =>
  simp only [Qx] at h
  split at h
  ·rename_i cs hx
   rw [Qa] at h
   obtain ⟨v, h1, h2⟩ := h
   refine ⟨_, _, ?_, h2⟩
   simp only [KT.er, evalK, Qh, hx, toAV, Qj, Qhi h1, Qb]
  ·cases h
 | iadr sz x i =>
  simp only [Qx] at h
  split at h
  ·rename_i m c l hx
   split at h
   ·rename_i hs
    split at h
    ·rename_i k' n hi
     obtain ⟨y, h1, h2⟩ := Qys h
     refine ⟨_, _, ?_, h2⟩
     simp only [KT.er, evalK, Qh, hx, hi, toAV, hs, if_true, Qhc h1, Qb, List.getElem?_map, (Qgi h1).2, Option.map_some, Qj, Qcj]
    ·cases h
   ·cases h
  ·rename_i b hx
   split at h
   ·rename_i c l hb
    split at h
    ·rename_i hs
     split at h
     ·rename_i k' n hi
      rw [Qa] at h
      obtain ⟨y, h1, h2⟩ := h
      refine ⟨_, _, ?_, h2⟩
      have hl : n.toNat < l.length := by
       have := (Qgi h1).2
       exact (List.getElem?_eq_some_iff.1 this).1
      simp only [KT.er, evalK, Qh, hx, hi, toAV, Qgp, hb, Option.map_some, toBC, hs, if_true, Qhc h1, Qb, List.length_map, hl]
     ·cases h
    ·cases h
   ·cases h
  ·cases h
 | iadrA sz len x i =>
  simp only [Qx] at h
  split at h
  ·rename_i cs hx
   split at h
   ·rename_i hs
    obtain ⟨rfl, hs⟩ := hs
    rw [Qa] at h
    obtain ⟨l, h0, h⟩ := h
    split at h
    ·rename_i k' n hi
     rw [Qa] at h
     obtain ⟨y, h1, h2⟩ := h
     refine ⟨_, _, ?_, h2⟩
     have hl : n.toNat < l.length := by
      have := (Qgi h1).2
      exact (List.getElem?_eq_some_iff.1 this).1
     have e := Qli h0
     have hl' : n.toNat < len := by rw [← hs, e, List.length_map]; exact hl
     have e2 : Qbp cs = l.map AV.str := by rw [Qj, e, List.map_map]; congr 1; try (funext s; simp [toAV])
     simp only [KT.er, evalK, Qh, hx, hi, toAV, Qhc h1, Qb, hl', if_true, e2, Nat.mul_one, Nat.zero_add]
    ·cases h
   ·cases h
  ·cases h
 | idxS x i =>
  simp only [Qx] at h
  split at h
  ·rename_i l k' n hx hi
   rw [Qa] at h
   obtain ⟨y, h1, h2⟩ := h
   refine ⟨_, _, ?_, h2⟩
   simp only [KT.er, evalK, Qh, hx, hi, toAV, Qhc h1, Qb, (Qgi h1).2]
  ·cases h
 | idxA sz len n agg x i =>
  simp only [Qx] at h
  split at h
  ·rename_i cs hx
   split at h
   ·rename_i hs
    obtain ⟨rfl, rfl, rfl, hs⟩ := hs
    rw [Qa] at h
    obtain ⟨l, h0, h⟩ := h
    split at h
    ·rename_i k' n hi
     rw [Qa] at h
     obtain ⟨y, h1, h2⟩ := h
     refine ⟨_, _, ?_, h2⟩
     have hl : n.toNat < l.length := by
      have := (Qgi h1).2
      exact (List.getElem?_eq_some_iff.1 this).1
     have e := Qli h0
     have hl' : n.toNat < len := by rw [← hs, e, List.length_map]; exact hl
     have e2 : Qbp cs = l.map AV.str := by rw [Qj, e, List.map_map]; congr 1; try (funext s; simp [toAV])
     simp [KT.er, evalK, Qh, hx, hi, toAV, Qhc h1, hl', e2, Vs.part, (Qgi h1).2, AV.dem]
    ·cases h
   ·cases h
  ·cases h
 | len x =>
  simp only [Qx] at h
  split at h
  ·rename_i m c l hx
   exact ⟨_, _, by simp only [KT.er, evalK, Qh, hx, toAV, List.length_map], h⟩
  ·rename_i b hx
   split at h
   ·rename_i c l hb
    exact ⟨_, _, by simp only [KT.er, evalK, Qh, hx, toAV, Qgp, hb, Option.map_some, toBC, List.length_map], h⟩
   ·cases h
  ·cases h
 | lenS x =>
  simp only [Qx] at h
  split at h
  ·rename_i l hx
   exact ⟨_, _, by simp only [KT.er, evalK, Qh, hx, toAV], h⟩
  ·cases h
 | app sz x y =>
  simp only [Qx] at h
  split at h
  ·rename_i b c l m c' l' hx hy
   split at h
   ·rename_i hs
    simp only [Qa] at h
    obtain ⟨l2, h1, z, h2, h3⟩ := h
    obtain ⟨e, h1⟩ := Qaq h1
    subst e
    simp only at h1
    subst h1
    obtain ⟨hm, hfull, h4, rfl⟩ := appM_is h2
    refine ⟨_, _, ?_, h3⟩
    have hfull : (b.sm = SM.full → l'.map (Qe c') ≠ []) = True := eq_true fun hh hn => hfull hh (by simpa using hn)
    have hm2 : (Md.own true).sm = SM.tip := rfl
    simp only [KT.er, evalK, Qh, hx, hy, toAV, hs, hm, hfull, h4, Qeo, hm2, List.length_map, List.map_append, ne_eq, not_false_eq_true, and_self, if_true]
   ·cases h
  ·cases h
 | ext i x =>
  simp only [Qx] at h
  split at h
  ·rename_i vs hx
   rw [Qa] at h
   obtain ⟨v, h1, h2⟩ := h
   split at h2
   ·cases h2
   ·rename_i hp
    refine ⟨_, _, ?_, h2⟩
    simp only [KT.er, evalK, Qh, hx, toAV, Qj, List.getElem?_map, h1, Option.map_some, Qb, Qjx, hp, Bool.false_eq_true, if_false, Qow]
  ·cases h
 | call g site args =>
  simp only [Qx] at h
  split at h
  ·rename_i ht
   obtain ⟨v, s', h1, h2⟩ := Qse hΦ h
   refine ⟨v, s', ?_, h2⟩
   rw [Qlj, ← Qoj] at h1
   simp only [KT.er, evalK, Qen, ht, if_true, h1]
  ·cases h
 | callv f args =>
  simp only [Qx] at h
  split at h
  ·rename_i g cap hf
   split at h
   ·rename_i ht
    obtain ⟨v, s', h1, h2⟩ := Qse hΦ h
    refine ⟨v, s', ?_, h2⟩
    rw [Qlj, List.map_append, ← Qoj, ← Qfd] at h1
    simp only [KT.er, evalK, Qh, hf, toAV, Qj, Qen, ht, and_self, if_true, h1]
   ·cases h
  ·cases h
 | mx args =>
  simp only [Qx, Qa] at h
  obtain ⟨l, h1, h2⟩ := h
  split at h2
  ·cases h2
  ·rename_i x r
   refine ⟨_, _, ?_, h2⟩
   simp only [KT.er, evalK, Qok, Qjv, h1, Qb, toAV]
 | mn args =>
  simp only [Qx, Qa] at h
  obtain ⟨l, h1, h2⟩ := h
  split at h2
  ·cases h2
  ·rename_i x r
   refine ⟨_, _, ?_, h2⟩
   simp only [KT.er, evalK, Qok, Qjv, h1, Qb, toAV]
theorem Qfi {s : TS} {t : Nat} {b : Bool} (h : s.t t = .bool b) : s.setT t (.bool b) = s := by
 cases s
 simp only [TS.setT, TS.mk.injEq, and_true]
 funext j; unfold upd; split
 ·subst_vars; exact h.symm
 ·rfl
theorem Qzc (hΦ : Qnc Φ call) {draw : Bool} {s : TS} {o : AOpT} {k : TS → Option ρ} {r : ρ} (h : stepT Φ G draw s o k = some r) :
  ∃ s', (if draw then Qfh call (GA G) (toS s) o.er else Qio call (GA G) (toS s) o.er) = some (toS s') ∧ k s' = some r := by
 unfold stepT at h
 have yes : ∀ s : TS, Qah (toS s) o.g = some true → (match (generalizing := false) draw with
  | false => Qx Φ G s o.k fun v s' => Qit v fun v => k (s'.put o.d v)
  | true => Qx Φ G (s.mask o.er.reads o.fp) o.k fun v s' => Qit v fun v => k ((s.merge o.er.takes o.er.k.mods o.fp s').put o.d v)) = some r →
  ∃ s', (if draw then Qfh call (GA G) (toS s) o.er else Qio call (GA G) (toS s) o.er) = some (toS s') ∧ k s' = some r := by
  intro s hw h
  cases draw
  ·simp only [] at h
   obtain ⟨v, s', h1, h2⟩ := Qpg hΦ h
   rw [Qkp] at h2
   refine ⟨_, ?_, h2⟩
   have hw' : Qah (toS s) o.er.g = some true := hw
   have h1' : evalK call (GA G) (toS s) o.er.k = _ := h1
   simp only [Bool.false_eq_true, if_false, Qio, hw', Qb, if_true, h1', Qrq]
   rfl
  ·simp only [] at h
   obtain ⟨v, s', h1, h2⟩ := Qpg hΦ h
   rw [Qkp] at h2
   refine ⟨_, ?_, h2⟩
   have hw' : Qah (toS s) o.er.g = some true := hw
   rw [Qzi] at h1
   have h1' : evalK call (GA G) ((toS s).mask o.er.reads o.er.fp) o.er.k = _ := h1
   have e := Qwx s o.er s'
   simp only [if_true, Qfh, hw', Qb, h1', Qrq]
   rw [← e]
   rfl
 have no : ∀ s : TS, Qah (toS s) o.g = some false → k (s.put o.d (.tup [])) = some r →
  ∃ s', (if draw then Qfh call (GA G) (toS s) o.er else Qio call (GA G) (toS s) o.er) = some (toS s') ∧ k s' = some r := by
  intro s hw h
  have hw' : Qah (toS s) o.er.g = some false := hw
  refine ⟨_, ?_, h⟩
  have e : (toS s).put o.er.d (.tup []) = toS (s.put o.d (.tup [])) := by
   rw [Qrq]; simp only [toAV, Qbp]; rfl
  cases draw
  ·simp only [Bool.false_eq_true, if_false, Qio, hw', Qb, e]
  ·simp only [if_true, Qfh, hw', Qb, Bool.false_eq_true, if_false, e]
 unfold Qzu at h
 split at h
 ·rename_i hg
  exact yes s (by simp [hg, Qah]) h
 ·rename_i t want hg
  split at h
  ·rename_i b hb
   have hb' : (toS s).t t = .bool b := by simp [toS, hb, toAV]
   split at h
   ·cases b
    ·rw [Qfi hb] at h
     exact no s (by simp [hg, Qah, hb']) h
    ·simp only [] at h
     rw [Qfi hb] at h
     exact yes s (by simp [hg, Qah, hb']) h
   ·cases b
    ·simp only [] at h
     rw [Qfi hb] at h
     exact yes s (by simp [hg, Qah, hb']) h
    ·rw [Qfi hb] at h
     exact no s (by simp [hg, Qah, hb']) h
  ·rename_i l hb
   have hb' : (toS s).t t = .tup (Qbp l) := by simp [toS, hb, toAV]
   exact no s (by simp [hg, Qah, hb']) h
  ·cases h
theorem Qre (hΦ : Qnc Φ call) {draw : Bool} : ∀ {os : List AOpT} {s : TS} {k : TS → Option ρ} {r : ρ}, opsT Φ G draw os s k = some r →
  ∃ s', (if draw then opsD call (GA G) (os.map AOpT.er) (toS s) else opsA call (GA G) (os.map AOpT.er) (toS s)) = some (toS s') ∧ k s' = some r
 | [], s, k, r, h => ⟨s, by cases draw <;> rfl, h⟩
 | o :: os, s, k, r, h => by
  simp only [opsT] at h
  obtain ⟨s1, h1, h2⟩ := Qzc hΦ h
  obtain ⟨s2, h3, h4⟩ := Qre hΦ h2
  refine ⟨s2, ?_, h4⟩
  cases draw
  ·simp only [Bool.false_eq_true, if_false] at h1 h3 ⊢
   simp only [List.map_cons, opsA, h1, Qb, h3]
  ·simp only [if_true] at h1 h3 ⊢
   simp only [List.map_cons, opsD, h1, Qb, h3]
variable {F : Nat → Option ProcT}
def FA (F : Nat → Option ProcT) : Nat → Option Proc := fun g => (F g).map ProcT.er
theorem Qny (bins : List Nat) (l : List TV) : (l.map toAV).all (AV.okIn bins) = l.all (TV.okIn bins) := by simp [List.all_map, Function.comp_def, av_okIn]
theorem Qmz (s : TS) (l : List Nat) : l.map (toS s).t = (l.map s.t).map toAV := by simp [toS]
theorem Qvz {s : TS} {c : OpT} {b : Bool} (h : s.get G c = .bool b) : toS (Qyb s c b) = toS s := by
 cases c with
 | tmp t =>
  have : s.t t = .bool b := by
   simp only [TS.get] at h
   cases hv : s.t t <;> rw [hv] at h <;> simp [TV.dem] at h ⊢
   exact h
  simp only [Qyb, Qfi this]
 | _ => rfl
theorem Qgm (hΦ : Qnc Φ call) : ∀ (ac : ACT) {s : TS} {k : Oc → TS → Option ρ} {r : ρ}, runC Φ F G ac s k = some r →
  ∃ oc s', Qam call (FA F) (GA G) ac.er (toS s) = some (oc, toS s') ∧ k oc s' = some r
 | .skip, s, k, r, h => ⟨_, _, rfl, h⟩
 | .exit _, s, k, r, h => ⟨_, _, rfl, h⟩
 | .ret, s, k, r, h => ⟨_, _, rfl, h⟩
 | .flip o ps qs, s, k, r, h => by
  simp only [runC] at h
  obtain ⟨s', h1, h2⟩ := Qre hΦ h
  simp only [Bool.false_eq_true, if_false, List.map_cons] at h1
  exact ⟨_, s', by simp only [ACT.er, Qam, h1, Qb], h2⟩
 | .region draw ops, s, k, r, h => by
  simp only [runC] at h
  obtain ⟨s', h1, h2⟩ := Qre hΦ h
  exact ⟨_, s', by simp only [ACT.er, Qam, h1, Qb], h2⟩
 | .seq a b, s, k, r, h => by
  simp only [runC] at h
  obtain ⟨oc, s1, h1, h2⟩ := Qgm hΦ a h
  cases oc with
  | norm =>
   obtain ⟨oc2, s2, h3, h4⟩ := Qgm hΦ b h2
   exact ⟨oc2, s2, by simp only [ACT.er, Qam, h1, Qb, h3], h4⟩
  | exit i => exact ⟨_, _, by simp only [ACT.er, Qam, h1, Qb], h2⟩
  | ret => exact ⟨_, _, by simp only [ACT.er, Qam, h1, Qb], h2⟩
 | .cond c x y, s, k, r, h => by
  simp only [runC] at h
  split at h
  ·rename_i b hb
   have hb' := Qh G s c
   rw [hb] at hb'
   cases b
   ·simp only [] at h
    obtain ⟨oc, s1, h1, h2⟩ := Qgm hΦ y h
    rw [Qvz hb] at h1
    exact ⟨oc, s1, by simp [ACT.er, Qam, hb', toAV, h1], h2⟩
   ·simp only [] at h
    obtain ⟨oc, s1, h1, h2⟩ := Qgm hΦ x h
    rw [Qvz hb] at h1
    exact ⟨oc, s1, by simp [ACT.er, Qam, hb', toAV, h1], h2⟩
  ·cases h
 | .block id a, s, k, r, h => by
  simp only [runC] at h
  obtain ⟨oc, s1, h1, h2⟩ := Qgm hΦ a h
  refine ⟨_, s1, ?_, h2⟩
  simp only [ACT.er, Qam, h1, Qb]
  cases oc <;> simp only [Qwz]
 | .label g, s, k, r, h => by
  simp only [runC] at h
  split at h
  ·rename_i p hp
   split at h
   ·rename_i hc
    rw [Qa] at h
    obtain ⟨bv, h1, h2⟩ := h
    obtain ⟨o, outs, bv', h3, h4⟩ := hΦ _ _ _ _ _ h2
    refine ⟨o, _, ?_, h4⟩
    have hp' : FA F g = some p.er := by simp [FA, hp]
    have hc' : (p.er.kind = .join ∨ p.er.kind = .loop) ∧ ((p.er.ins.map (toS s).t).all (AV.okIn p.er.bins)) = true := by
     refine ⟨hc.1, ?_⟩
     rw [Qmz, Qny]; exact hc.2
    have h1' : Qaf (toS s) p.er.bins = some (bv.map toBC) := Qex h1
    have h3' : call g (p.er.ins.map (toS s).t) (bv.map toBC) = some (o, outs.map toAV, bv'.map toBC) := by rw [Qmz]; exact h3
    simp only [ACT.er, Qam, hp', hc', and_self, if_true, h1', Qb, h3', Qwy]
    rfl
   ·cases h
  ·cases h
theorem Qof {v w : TV} (h : Qri v = some w) : resP (toAV v) = some (toAV w) := by
 unfold Qri at h
 split at h <;> first
  | (cases h; done)
  | skip
 ·injection h with h; subst h
  rename_i m c l
  cases m with
  | own b => cases b <;> simp [toAV, resP, Md.sm, Md.res]
  | _ => simp [toAV, resP, Md.sm, Md.res]
 ·injection h with h; subst h
  simp only [toAV, resP, Qj, Qfd]
 ·injection h with h; subst h
  rename_i a1 a2 a3 a4 a5 a6
  cases v with
  | sl m c l => exact (a1 m c l rfl).elim
  | _ => simp_all [toAV, resP]
theorem Qpn {n : Nat} {agg : Bool} {s : TS} {p v : TV} (h : (Qrb n agg false s p fun v _ => Qri v) = some v) : (bnd (loadP n agg false (toS s) (toAV p)) fun r => resP r.1) = some (toAV v) := by
 obtain ⟨w, s', h1, h2⟩ := Qnx h
 rw [h1, Qb]
 exact Qof h2
theorem Qtw {s : TS} {x : RS} {v : TV} (h : Qrh s x = some v) : Qms (toS s) x = some (toAV v) := by
 cases x with
 | keep t n => simp [Qrh] at h
 | tmp t => exact Qof h
 | cell t n agg => exact Qpn h
theorem Qyy {s : TS} {v w : TV} (h : resVT s v = some w) : resV (toS s) (toAV v) = some (toAV w) := by
 unfold resVT at h
 split at h
 ·split at h
  ·rename_i b hb
   split at h
   ·rename_i c l hs
    injection h with h; subst h
    simp [toAV, resV, hb, Qgp, hs, toBC, Md.sm]
   ·cases h
  ·cases h
 ·split at h
  ·rename_i b off hb
   split at h
   ·rename_i cs hs
    injection h with h; subst h
    simp [toAV, resV, hb, Qgp, hs, toBC, Qj, Qow]
   ·cases h
  ·cases h
 ·have := Qof h
  cases v <;> simp_all [toAV, resV]
theorem Qwj {s : TS} {x : RS} {v : TV} (h : Qwi s x = some v) : Qwh (toS s) x = some (toAV v) := by
 cases x with
 | keep t n =>
  simp only [Qwi] at h
  obtain ⟨w, s', h1, h2⟩ := Qnx h
  split at h2
  ·rename_i cs
   injection h2 with h2
   subst h2
   show (bnd (loadP n true false (toS s) (toAV (s.t t))) fun r => resK r.1) = _
   rw [h1, Qb]
   simp only [toAV, resK, Qj, Qrc]
  ·cases h2
 | tmp t => exact Qyy h
 | cell t n agg => exact Qpn h
theorem Qmq {s : TS} : ∀ {rs : List RS} {l : List TV}, Qky s rs = some l → Qja (toS s) rs = some (l.map toAV)
 | [], l, h => by simp [Qky] at h; subst h; rfl
 | x :: rs, l, h => by
  simp only [Qky, Qa] at h
  obtain ⟨v, h1, l', h2, h3⟩ := h
  injection h3 with h3
  subst h3
  simp only [Qja, Qtw h1, Qmq h2, Qb, List.map_cons, Qow]
theorem Qty {s : TS} {rs : List RS} {v : TV} (h : Qrj s rs = some v) : Qca (toS s) rs = some (toAV v) := by
 unfold Qrj at h
 split at h
 ·exact Qwj h
 ·rename_i hn
  rw [Qa] at h
  obtain ⟨l, h1, h2⟩ := h
  injection h2 with h2
  subst h2
  have := Qmq h1
  unfold Qca
  split
  ·exact absurd rfl (hn _)
  ·rw [this]; simp [toAV, Qj]
end Go.Tv