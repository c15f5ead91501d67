/- Go functions as functions of Lean. -/
import Derived.Test.YthedbdlbibkpiaaGreatDoorTv4
set_option linter.unusedVariables false
set_option linter.unusedSimpArgs false
namespace Go.Tv
open Go Go.RowKit Go.Vs

/-! ### Shapes -/
inductive Sh where
  | int (k : IntKind)
  | bool
  | str
  | sl (c : TC)
  | own (c : TC)
  | ownb (c : TC)
  | slm (c : TC)
  | agg (c : TC)
@[reducible] def Sh.T : Sh → Type
  | .int _ => Int
  | .bool => Bool
  | .str => List UInt8
  | .sl c => List (Den c)
  | .own c => List (Den c)
  | .ownb c => Bool × List (Den c)
  | .slm c => Md × List (Den c)
  | .agg c => Den c
def Sh.enc : (s : Sh) → s.T → TV
  | .int k, n => .int k n
  | .bool, b => .bool b
  | .str, l => .str l
  | .sl c, l => .sl .share c l
  | .own c, l => .sl (.own true) c l
  | .ownb c, x => .sl (.own x.1) c x.2
  | .slm c, x => .sl x.1 c x.2
  | .agg c, x => .agg (rowT c x)
def Sh.dec : (s : Sh) → TV → Option s.T
  | .int k, .int k' n => if k' = k then some n else none
  | .bool, .bool b => some b
  | .str, .str l => some l
  | .sl c, .sl .share c' l => castD c' c l
  | .own c, .sl (.own true) c' l => castD c' c l
  | .ownb c, .sl (.own b) c' l => bnd (castD c' c l) fun l => some (b, l)
  | .slm c, .sl m c' l => bnd (castD c' c l) fun l => some (m, l)
  | .agg c, .agg cs => decRow c cs
  | _, _ => none
theorem Sh.dec_is {s : Sh} {v : TV} {x : s.T} (h : s.dec v = some x) : v = s.enc x := by
  unfold Sh.dec at h
  split at h
  · split at h
    · rename_i e; subst e; injection h with h; subst h; rfl
    · cases h
  · injection h with h; subst h; rfl
  · injection h with h; subst h; rfl
  · obtain ⟨rfl, rfl⟩ := castD_is h; rfl
  · obtain ⟨rfl, rfl⟩ := castD_is h; rfl
  · rw [bnd_is] at h
    obtain ⟨a, h1, h2⟩ := h
    obtain ⟨rfl, rfl⟩ := castD_is h1
    injection h2 with h2
    subst h2; rfl
  · rw [bnd_is] at h
    obtain ⟨a, h1, h2⟩ := h
    obtain ⟨rfl, rfl⟩ := castD_is h1
    injection h2 with h2
    subst h2; rfl
  · rw [decRow_is h]; rfl
  · cases h

/-! ### Different rows are different -/
mutual
theorem expAV_inj : ∀ (a b : Exp), expAV a = expAV b → a = b
  | ⟨o, n, l⟩, ⟨o', n', l'⟩, h => by
    simp only [expAV, List.cons.injEq, AV.int.injEq, AV.sl.injEq, true_and, and_true] at h
    obtain ⟨rfl, rfl, h⟩ := h
    rw [expsAV_inj l l' h]
theorem expsAV_inj : ∀ (a b : List Exp), expsAV a = expsAV b → a = b
  | [], [], _ => rfl
  | [], _ :: _, h => by simp [expsAV] at h
  | _ :: _, [], h => by simp [expsAV] at h
  | a :: as, b :: bs, h => by
    simp only [expsAV, List.cons.injEq] at h
    rw [expAV_inj a b h.1, expsAV_inj as bs h.2]
end
mutual
theorem stmAV_inj : ∀ (a b : Stm), stmAV a = stmAV b → a = b
  | ⟨k, v, b, ⟨o, n, as⟩, bd, el⟩, ⟨k', v', b', ⟨o', n', as'⟩, bd', el'⟩, h => by
    simp only [stmAV, List.cons.injEq, AV.int.injEq, AV.sl.injEq, true_and, and_true] at h
    obtain ⟨rfl, rfl, rfl, rfl, rfl, h1, h2, h3⟩ := h
    rw [expsAV_inj as as' h1, stmsAV_inj bd bd' h2, stmsAV_inj el el' h3]
theorem stmsAV_inj : ∀ (a b : List Stm), stmsAV a = stmsAV b → a = b
  | [], [], _ => rfl
  | [], _ :: _, h => by simp [stmsAV] at h
  | _ :: _, [], h => by simp [stmsAV] at h
  | a :: as, b :: bs, h => by
    simp only [stmsAV, List.cons.injEq] at h
    rw [stmAV_inj a b h.1, stmsAV_inj as bs h.2]
end
theorem map_inj {α β : Type} {f : α → β} (hf : ∀ a b, f a = f b → a = b) : ∀ {a b : List α}, a.map f = b.map f → a = b
  | [], [], _ => rfl
  | [], _ :: _, h => by simp at h
  | _ :: _, [], h => by simp at h
  | a :: as, b :: bs, h => by
    simp only [List.map_cons, List.cons.injEq] at h
    rw [hf a b h.1, map_inj hf h.2]
theorem intsAV_inj {a b : List Int} (h : intsAV a = intsAV b) : a = b := by
  simp only [intsAV, AV.sl.injEq, true_and] at h
  exact map_inj (by intro a b h; simpa using h) h
theorem bxAV_inj (a b : Bx) (h : bxAV a = bxAV b) : a = b := by
  cases a; cases b
  simp only [bxAV, List.cons.injEq, AV.int.injEq, true_and, and_true] at h
  rw [h.1, intsAV_inj h.2]
theorem tkAV_inj (a b : Tk) (h : tkAV a = tkAV b) : a = b := by
  cases a; cases b
  simp only [tkAV, List.cons.injEq, AV.sl.injEq, true_and, and_true] at h
  rw [intsAV_inj h.1, stmsAV_inj _ _ h.2]
theorem rowAV_inj : ∀ (c : TC) (a b : Den c), rowAV c a = rowAV c b → a = b
  | .int, a, b, h | .u8, a, b, h | .bool, a, b, h | .str, a, b, h => by simpa [rowAV] using h
  | .quad, a, b, h | .event, a, b, h => by cases a; cases b; simpa [rowAV] using h
  | .exp, a, b, h => expAV_inj a b h
  | .stm, a, b, h => stmAV_inj a b h
  | .stms, a, b, h => by
    simp only [rowAV, List.cons.injEq, AV.sl.injEq, true_and, and_true] at h
    exact stmsAV_inj _ _ h
  | .bx, a, b, h => bxAV_inj a b h
  | .tk, a, b, h => tkAV_inj a b h
  | .ints, a, b, h => by
    simp only [rowAV, List.cons.injEq, and_true] at h
    exact intsAV_inj h
  | .rg, a, b, h => by
    cases a; cases b
    simp only [rowAV, List.cons.injEq, AV.int.injEq, true_and, and_true] at h
    obtain ⟨rfl, rfl, rfl, h⟩ := h
    rw [intsAV_inj h]
  | .prg, a, b, h => by
    cases a; cases b
    simp only [rowAV, List.cons.injEq, AV.sl.injEq, true_and, and_true] at h
    rw [intsAV_inj h.1, map_inj (by intro a b h; simp only [List.cons.injEq, AV.sl.injEq, true_and, and_true] at h; exact stmsAV_inj _ _ h) h.2]
  | .wld, a, b, h => by
    cases a; cases b
    simp only [rowAV, List.cons.injEq, AV.int.injEq, AV.sl.injEq, true_and, and_true] at h
    obtain ⟨h1, h2, rfl, rfl, h3⟩ := h
    rw [map_inj tkAV_inj h1, map_inj bxAV_inj h2, intsAV_inj h3]
  | .otc, a, b, h => by
    cases a; cases b
    simp only [rowAV, List.cons.injEq, AV.bool.injEq, AV.sl.injEq, true_and, and_true] at h
    obtain ⟨h1, h2, h3, rfl⟩ := h
    rw [intsAV_inj h1, map_inj (by intro a b h; simp only [List.cons.injEq, and_true] at h; exact intsAV_inj h) h2, map_inj (by intro a b h; simpa using h) h3]
  | .fn, a, b, h => by simpa [rowAV] using h
theorem Sh.enc_inj : ∀ {s : Sh} {x y : s.T}, toAV (s.enc x) = toAV (s.enc y) → x = y
  | .int k, x, y, h => by simpa [Sh.enc, toAV] using h
  | .bool, x, y, h => by simpa [Sh.enc, toAV] using h
  | .str, x, y, h => by simpa [Sh.enc, toAV] using h
  | .sl c, x, y, h | .own c, x, y, h => by
    simp only [Sh.enc, toAV, AV.sl.injEq, true_and] at h
    exact map_inj (rowAV_inj c) h
  | .ownb c, x, y, h => by
    simp only [Sh.enc, toAV, AV.sl.injEq, true_and] at h
    obtain ⟨h1, h2⟩ := h
    obtain ⟨a, x⟩ := x
    obtain ⟨b, y⟩ := y
    have : a = b := by cases a <;> cases b <;> simp_all [Md.sm]
    have e2 : x = y := map_inj (rowAV_inj c) h2
    rw [this, e2]
  | .slm c, x, y, h => by
    simp only [Sh.enc, toAV, AV.sl.injEq, true_and] at h
    obtain ⟨h1, h2⟩ := h
    obtain ⟨a, x⟩ := x
    obtain ⟨b, y⟩ := y
    have : a = b := by
      cases a with
      | own c1 => cases b with
        | own c2 => cases c1 <;> cases c2 <;> simp_all [Md.sm]
        | _ => cases c1 <;> simp_all [Md.sm]
      | _ => cases b with
        | own c2 => cases c2 <;> simp_all [Md.sm]
        | _ => simp_all [Md.sm]
    have e2 : x = y := map_inj (rowAV_inj c) h2
    rw [this, e2]
  | .agg c, x, y, h => by
    simp only [Sh.enc, toAV, AV.agg.injEq, toAVs_eq, rowT_av] at h
    exact rowAV_inj c x y h

/-! ### What comes back from a call -/
inductive Cell where
  | h (s : Sh)
  | bp (b off : Nat)
  | bs (b : Nat)
  | undef
  /-- functions, in a list that is known -/
  | fnl (l : List Nat)
@[reducible] def holes : List Cell → List Sh
  | [] => []
  | .h s :: r => s :: holes r
  | .bp _ _ :: r => holes r
  | .bs _ :: r => holes r
  | .undef :: r => holes r
  | .fnl _ :: r => holes r
@[reducible] def Pr : List Sh → Type
  | [] => Unit
  | [a] => a.T
  | a :: b :: r => a.T × Pr (b :: r)
def Pr.mk : (a : Sh) → (r : List Sh) → a.T → Pr r → Pr (a :: r)
  | _, [], x, _ => x
  | _, _ :: _, x, y => (x, y)
def Pr.hd : (a : Sh) → (r : List Sh) → Pr (a :: r) → a.T
  | _, [], x => x
  | _, _ :: _, x => x.1
def Pr.tl : (a : Sh) → (r : List Sh) → Pr (a :: r) → Pr r
  | _, [], x => ()
  | _, _ :: _, x => x.2
theorem Pr.hd_mk (a : Sh) (r : List Sh) (x : a.T) (y : Pr r) : Pr.hd a r (Pr.mk a r x y) = x := by cases r <;> rfl
theorem Pr.tl_mk (a : Sh) (r : List Sh) (x : a.T) (y : Pr r) : Pr.tl a r (Pr.mk a r x y) = y := by cases r <;> rfl
theorem Pr.ext (a : Sh) (r : List Sh) (x y : Pr (a :: r)) (h1 : Pr.hd a r x = Pr.hd a r y) (h2 : Pr.tl a r x = Pr.tl a r y) : x = y := by
  cases r with
  | nil => exact h1
  | cons b t => exact Prod.ext h1 h2
def encC : (cs : List Cell) → Pr (holes cs) → List TV
  | [], _ => []
  | .h s :: r, x => s.enc (Pr.hd s (holes r) x) :: encC r (Pr.tl s (holes r) x)
  | .bp b o :: r, x => .bp b o :: encC r x
  | .bs b :: r, x => .bs b :: encC r x
  | .undef :: r, x => .undef :: encC r x
  | .fnl l :: r, x => .sl .full .fn l :: encC r x
def decC : (cs : List Cell) → List TV → Option (Pr (holes cs))
  | [], [] => some ()
  | .h s :: r, v :: l => bnd (s.dec v) fun a => bnd (decC r l) fun x => some (Pr.mk s (holes r) a x)
  | .bp b o :: r, .bp b' o' :: l => if b = b' ∧ o = o' then decC r l else none
  | .bs b :: r, .bs b' :: l => if b = b' then decC r l else none
  | .undef :: r, .undef :: l => decC r l
  | .fnl fs :: r, .sl .full c gs :: l => bnd (castD c .fn gs) fun gs => if (fs : List Nat) = gs then decC r l else none
  | _, _ => none
theorem decC_is : ∀ {cs : List Cell} {l : List TV} {x : Pr (holes cs)}, decC cs l = some x → l = encC cs x
  | [], [], x, h => rfl
  | [], _ :: _, x, h => by simp [decC] at h
  | .h s :: r, [], x, h => by simp [decC] at h
  | .h s :: r, v :: l, x, h => by
    simp only [decC, bnd_is] at h
    obtain ⟨a, h1, y, h2, h3⟩ := h
    injection h3 with h3
    subst h3
    simp only [encC, Pr.hd_mk, Pr.tl_mk]
    rw [← decC_is h2, ← Sh.dec_is h1]
  | .bp b o :: r, [], x, h => by simp [decC] at h
  | .bs b :: r, [], x, h => by simp [decC] at h
  | .undef :: r, [], x, h => by simp [decC] at h
  | .fnl fs :: r, [], x, h => by simp [decC] at h
  | .bp b o :: r, v :: l, x, h => by
    cases v <;> simp only [decC] at h <;> first | (cases h; done) | skip
    split at h
    · rename_i e; rw [← e.1, ← e.2]; exact congrArg _ (decC_is h)
    · cases h
  | .bs b :: r, v :: l, x, h => by
    cases v <;> simp only [decC] at h <;> first | (cases h; done) | skip
    split at h
    · rename_i e; rw [← e]; exact congrArg _ (decC_is h)
    · cases h
  | .undef :: r, v :: l, x, h => by
    cases v <;> simp only [decC] at h <;> first | (cases h; done) | skip
    exact congrArg _ (decC_is h)
  | .fnl fs :: r, v :: l, x, h => by
    cases v <;> (try simp only [decC] at h) <;> first | (cases h; done) | skip
    rename_i m c gs
    cases m <;> (try simp only [decC] at h) <;> first | (cases h; done) | skip
    obtain ⟨gs', h1, h2⟩ := bnd_is.1 h
    obtain ⟨rfl, h1⟩ := castD_is h1
    simp only at h1
    subst h1
    split at h2
    · rename_i e
      subst e
      show _ = TV.sl .full .fn _ :: encC r x
      rw [← decC_is h2]
    · cases h2
theorem encC_inj : ∀ {cs : List Cell} {x y : Pr (holes cs)}, (encC cs x).map toAV = (encC cs y).map toAV → x = y
  | [], _, _, _ => rfl
  | .h s :: r, x, y, h => by
    simp only [encC, List.map_cons, List.cons.injEq] at h
    exact Pr.ext s (holes r) x y (Sh.enc_inj h.1) (encC_inj h.2)
  | .bp b o :: r, x, y, h => by
    simp only [encC, List.map_cons, List.cons.injEq] at h
    exact encC_inj (cs := r) h.2
  | .bs b :: r, x, y, h => by
    simp only [encC, List.map_cons, List.cons.injEq] at h
    exact encC_inj (cs := r) h.2
  | .undef :: r, x, y, h => by
    simp only [encC, List.map_cons, List.cons.injEq] at h
    exact encC_inj (cs := r) h.2
  | .fnl fs :: r, x, y, h => by
    simp only [encC, List.map_cons, List.cons.injEq] at h
    exact encC_inj (cs := r) h.2

inductive VP where
  | one
  | tup (n : Nat)
  | np (n : Nat)
  | agg (n : Nat)
inductive BP where
  | var (n : Nat)
  | rows
def fO : List VP → List TV → Option (List TV)
  | [], [] => some []
  | .one :: r, v :: l => bnd (fO r l) fun q => some (v :: q)
  | .tup n :: r, .tup ws :: l => if ws.length = n then bnd (fO r l) fun q => some (ws ++ q) else none
  | .np n :: r, .np ws :: l => if ws.length = n then bnd (fO r l) fun q => some (ws ++ q) else none
  | .agg n :: r, .agg ws :: l => if ws.length = n then bnd (fO r l) fun q => some (ws ++ q) else none
  | _, _ => none
def bO : List VP → List TV → List TV × List TV
  | [], l => ([], l)
  | .one :: r, l => let q := bO r (l.drop 1); (l.headD .undef :: q.1, q.2)
  | .tup n :: r, l => let q := bO r (l.drop n); (.tup (l.take n) :: q.1, q.2)
  | .np n :: r, l => let q := bO r (l.drop n); (.np (l.take n) :: q.1, q.2)
  | .agg n :: r, l => let q := bO r (l.drop n); (.agg (l.take n) :: q.1, q.2)
def fB : List BP → List BT → Option (List TV)
  | [], [] => some []
  | .var n :: r, .var cs :: l => if cs.length = n then bnd (fB r l) fun q => some (cs ++ q) else none
  | .rows :: r, .rows c x :: l => bnd (fB r l) fun q => some (.sl .share c x :: q)
  | _, _ => none
def bB : List BP → List TV → List BT
  | [], _ => []
  | .var n :: r, l => .var (l.take n) :: bB r (l.drop n)
  | .rows :: r, l => (match l.headD .undef with | .sl _ c x => .rows c x | _ => .var []) :: bB r (l.drop 1)
theorem fO_is : ∀ {ps : List VP} {vs l r : List TV}, fO ps vs = some l → bO ps (l ++ r) = (vs, r)
  | [], [], l, r, h => by simp [fO] at h; subst h; rfl
  | [], _ :: _, l, r, h => by simp [fO] at h
  | .one :: ps, [], l, r, h => by simp [fO] at h
  | .tup n :: ps, [], l, r, h => by simp [fO] at h
  | .np n :: ps, [], l, r, h => by simp [fO] at h
  | .agg n :: ps, [], l, r, h => by simp [fO] at h
  | .one :: ps, v :: vs, l, r, h => by
    simp only [fO, bnd_is] at h
    obtain ⟨q, h1, h2⟩ := h
    injection h2 with h2
    subst h2
    simp [bO, fO_is (r := r) h1]
  | .tup n :: ps, v :: vs, l, r, h => by
    cases v <;> simp only [fO] at h <;> first | (cases h; done) | skip
    split at h
    · rename_i ws hn
      rw [bnd_is] at h
      obtain ⟨q, h1, h2⟩ := h
      injection h2 with h2
      subst h2 hn
      simp [bO, fO_is (r := r) h1, List.append_assoc]
    · cases h
  | .np n :: ps, v :: vs, l, r, h => by
    cases v <;> simp only [fO] at h <;> first | (cases h; done) | skip
    split at h
    · rename_i ws hn
      rw [bnd_is] at h
      obtain ⟨q, h1, h2⟩ := h
      injection h2 with h2
      subst h2 hn
      simp [bO, fO_is (r := r) h1, List.append_assoc]
    · cases h
  | .agg n :: ps, v :: vs, l, r, h => by
    cases v <;> simp only [fO] at h <;> first | (cases h; done) | skip
    split at h
    · rename_i ws hn
      rw [bnd_is] at h
      obtain ⟨q, h1, h2⟩ := h
      injection h2 with h2
      subst h2 hn
      simp [bO, fO_is (r := r) h1, List.append_assoc]
    · cases h
theorem fB_is : ∀ {ps : List BP} {vs : List BT} {l : List TV}, fB ps vs = some l → bB ps l = vs
  | [], [], l, h => rfl
  | [], _ :: _, l, h => by simp [fB] at h
  | .var n :: ps, [], l, h => by simp [fB] at h
  | .rows :: ps, [], l, h => by simp [fB] at h
  | .var n :: ps, v :: vs, l, h => by
    cases v <;> simp only [fB] at h <;> first | (cases h; done) | skip
    split at h
    · rename_i ws hn
      rw [bnd_is] at h
      obtain ⟨q, h1, h2⟩ := h
      injection h2 with h2
      subst h2 hn
      simp [bB, fB_is h1]
    · cases h
  | .rows :: ps, v :: vs, l, h => by
    cases v <;> simp only [fB] at h <;> first | (cases h; done) | skip
    rw [bnd_is] at h
    obtain ⟨q, h1, h2⟩ := h
    injection h2 with h2
    subst h2
    simp [bB, fB_is h1]

structure Alt where
  oc : Oc
  outs : List VP
  bs : List BP
  cells : List Cell
abbrev Alt.T (a : Alt) : Type := Pr (holes a.cells)
def Alt.dec (a : Alt) (outs : List TV) (bts : List BT) : Option a.T := bnd (fO a.outs outs) fun l => bnd (fB a.bs bts) fun l' => decC a.cells (l ++ l')
def Alt.encO (a : Alt) (x : a.T) : List TV := (bO a.outs (encC a.cells x)).1
def Alt.encB (a : Alt) (x : a.T) : List BT := bB a.bs (bO a.outs (encC a.cells x)).2
theorem Alt.dec_is {a : Alt} {outs : List TV} {bts : List BT} {x : a.T} (h : a.dec outs bts = some x) : a.encO x = outs ∧ a.encB x = bts := by
  simp only [Alt.dec, bnd_is] at h
  obtain ⟨l, h1, l', h2, h3⟩ := h
  have e := decC_is h3
  unfold Alt.encO Alt.encB
  rw [← e, fO_is h1]
  exact ⟨rfl, fB_is h2⟩
theorem fO_av : ∀ {ps : List VP} {o1 o2 l1 l2 : List TV}, fO ps o1 = some l1 → fO ps o2 = some l2 → o1.map toAV = o2.map toAV → l1.map toAV = l2.map toAV
  | [], [], [], l1, l2, h1, h2, e => by simp [fO] at h1 h2; subst h1 h2; rfl
  | _, [], _ :: _, l1, l2, h1, h2, e => by simp at e
  | _, _ :: _, [], l1, l2, h1, h2, e => by simp at e
  | [], _ :: _, _, l1, l2, h1, h2, e => by simp [fO] at h1
  | p :: _, [], [], l1, l2, h1, h2, e => by cases p <;> simp [fO] at h1
  | p :: ps, v :: o1, w :: o2, l1, l2, h1, h2, e => by
    simp only [List.map_cons, List.cons.injEq] at e
    cases p with
    | one =>
      simp only [fO, bnd_is] at h1 h2
      obtain ⟨q1, a1, b1⟩ := h1
      obtain ⟨q2, a2, b2⟩ := h2
      injection b1 with b1
      injection b2 with b2
      subst b1 b2
      simp only [List.map_cons, e.1, fO_av a1 a2 e.2]
    | _ =>
      cases v <;> simp only [fO] at h1 <;> first | (cases h1; done) | skip
      cases w <;> simp only [fO] at h2 <;> first | (cases h2; done) | skip
      split at h1
      · split at h2
        · rw [bnd_is] at h1 h2
          obtain ⟨q1, a1, b1⟩ := h1
          obtain ⟨q2, a2, b2⟩ := h2
          injection b1 with b1
          injection b2 with b2
          subst b1 b2
          have e1 := e.1
          simp only [toAV, toAVs_eq, AV.tup.injEq, AV.np.injEq, AV.agg.injEq] at e1
          simp only [List.map_append, e1, fO_av a1 a2 e.2]
        · cases h2
      · cases h1
theorem toBC_rows {c d : TC} {x : List (Den c)} {y : List (Den d)} (h : toBC (.rows c x) = toBC (.rows d y)) : toAV (.sl .share c x) = toAV (.sl .share d y) := by
  simp only [toBC, BC.rows.injEq] at h
  simp only [toAV, h.1, h.2]
theorem fB_av : ∀ {ps : List BP} {o1 o2 : List BT} {l1 l2 : List TV}, fB ps o1 = some l1 → fB ps o2 = some l2 → o1.map toBC = o2.map toBC → l1.map toAV = l2.map toAV
  | [], [], [], l1, l2, h1, h2, e => by simp [fB] at h1 h2; subst h1 h2; rfl
  | _, [], _ :: _, l1, l2, h1, h2, e => by simp at e
  | _, _ :: _, [], l1, l2, h1, h2, e => by simp at e
  | [], _ :: _, _, l1, l2, h1, h2, e => by simp [fB] at h1
  | p :: _, [], [], l1, l2, h1, h2, e => by cases p <;> simp [fB] at h1
  | p :: ps, v :: o1, w :: o2, l1, l2, h1, h2, e => by
    simp only [List.map_cons, List.cons.injEq] at e
    cases p with
    | rows =>
      cases v <;> simp only [fB] at h1 <;> first | (cases h1; done) | skip
      cases w <;> simp only [fB] at h2 <;> first | (cases h2; done) | skip
      rw [bnd_is] at h1 h2
      obtain ⟨q1, a1, b1⟩ := h1
      obtain ⟨q2, a2, b2⟩ := h2
      injection b1 with b1
      injection b2 with b2
      subst b1 b2
      simp only [List.map_cons, fB_av a1 a2 e.2, toBC_rows e.1]
    | var n =>
      cases v <;> simp only [fB] at h1 <;> first | (cases h1; done) | skip
      cases w <;> simp only [fB] at h2 <;> first | (cases h2; done) | skip
      split at h1
      · split at h2
        · rw [bnd_is] at h1 h2
          obtain ⟨q1, a1, b1⟩ := h1
          obtain ⟨q2, a2, b2⟩ := h2
          injection b1 with b1
          injection b2 with b2
          subst b1 b2
          have e1 := e.1
          simp only [toBC, toAVs_eq, BC.var.injEq] at e1
          simp only [List.map_append, e1, fB_av a1 a2 e.2]
        · cases h2
      · cases h1
theorem Alt.dec_inj {a : Alt} {o1 o2 : List TV} {b1 b2 : List BT} {x y : a.T} (h1 : a.dec o1 b1 = some x) (h2 : a.dec o2 b2 = some y) (eo : o1.map toAV = o2.map toAV) (eb : b1.map toBC = b2.map toBC) : x = y := by
  simp only [Alt.dec, bnd_is] at h1 h2
  obtain ⟨l1, c1, m1, d1, e1⟩ := h1
  obtain ⟨l2, c2, m2, d2, e2⟩ := h2
  apply encC_inj
  rw [← decC_is e1, ← decC_is e2, List.map_append, List.map_append, fO_av c1 c2 eo, fB_av d1 d2 eb]

abbrev Sig := List Alt
@[reducible] def SumT : Sig → Type
  | [] => Empty
  | [a] => a.T
  | a :: b :: r => a.T ⊕ SumT (b :: r)
def ocEq : Oc → Oc → Bool
  | .norm, .norm => true
  | .ret, .ret => true
  | .exit i, .exit j => Nat.beq i j
  | _, _ => false
theorem ocEq_is {a b : Oc} (h : ocEq a b = true) : a = b := by
  cases a <;> cases b <;> simp_all [ocEq]
def decS : (sig : Sig) → Oc → List TV → List BT → Option (SumT sig)
  | [], _, _, _ => none
  | [a], oc, outs, bts => match ocEq a.oc oc with | true => a.dec outs bts | false => none
  | a :: b :: r, oc, outs, bts => match ocEq a.oc oc with
    | true => bnd (a.dec outs bts) fun x => some (.inl x)
    | false => bnd (decS (b :: r) oc outs bts) fun x => some (.inr x)
def elimS {ρ : Type} : (sig : Sig) → SumT sig → (Oc → List TV → List BT → Option ρ) → Option ρ
  | [], x, _ => nomatch x
  | [a], x, k => k a.oc (a.encO x) (a.encB x)
  | a :: b :: r, x, k => selm x (fun y => k a.oc (a.encO y) (a.encB y)) fun z => elimS (b :: r) z k
theorem decS_is {ρ : Type} : ∀ {sig : Sig} {oc : Oc} {outs : List TV} {bts : List BT} {x : SumT sig} (k : Oc → List TV → List BT → Option ρ), decS sig oc outs bts = some x → elimS sig x k = k oc outs bts
  | [], oc, outs, bts, x, k, h => by simp [decS] at h
  | [a], oc, outs, bts, x, k, h => by
    simp only [decS] at h
    split at h
    · rename_i e
      obtain ⟨h1, h2⟩ := Alt.dec_is h
      simp only [elimS, h1, h2, ocEq_is e]
    · cases h
  | a :: b :: r, oc, outs, bts, x, k, h => by
    simp only [decS] at h
    split at h
    · rename_i e
      rw [bnd_is] at h
      obtain ⟨y, h3, h4⟩ := h
      injection h4 with h4
      subst h4
      obtain ⟨h1, h2⟩ := Alt.dec_is h3
      simp only [elimS, selm, h1, h2, ocEq_is e]
    · rw [bnd_is] at h
      obtain ⟨y, h3, h4⟩ := h
      injection h4 with h4
      subst h4
      simp only [elimS, selm]
      exact decS_is k h3
theorem decS_inj : ∀ {sig : Sig} {oc : Oc} {o1 o2 : List TV} {b1 b2 : List BT} {x y : SumT sig}, decS sig oc o1 b1 = some x → decS sig oc o2 b2 = some y → o1.map toAV = o2.map toAV → b1.map toBC = b2.map toBC → x = y
  | [], oc, _, _, _, _, x, y, h1, h2, eo, eb => by simp [decS] at h1
  | [a], oc, _, _, _, _, x, y, h1, h2, eo, eb => by
    simp only [decS] at h1 h2
    split at h1
    · rename_i e
      simp only [e] at h2
      exact Alt.dec_inj h1 h2 eo eb
    · cases h1
  | a :: b :: r, oc, _, _, _, _, x, y, h1, h2, eo, eb => by
    simp only [decS] at h1 h2
    split at h1
    · rename_i e
      simp only [e] at h2
      rw [bnd_is] at h1 h2
      obtain ⟨x', h3, h4⟩ := h1
      obtain ⟨y', h5, h6⟩ := h2
      injection h4 with h4
      injection h6 with h6
      subst h4 h6
      rw [Alt.dec_inj h3 h5 eo eb]
    · rename_i e
      simp only [e] at h2
      rw [bnd_is] at h1 h2
      obtain ⟨x', h3, h4⟩ := h1
      obtain ⟨y', h5, h6⟩ := h2
      injection h4 with h4
      injection h6 with h6
      subst h4 h6
      rw [decS_inj h3 h5 eo eb]

/-! ### The functions -/
variable {F : Nat → Option ProcT} {G : Nat → List TV} {sg : Nat → Sig}
def Ans (F : Nat → Option ProcT) (G : Nat → List TV) (sig : Sig) (g : Nat) (tv : List TV) (bv : List BT) (x : SumT sig) : Prop :=
  ∃ oc outs bts, E (FA F) (GA G) g (tv.map toAV) (bv.map toBC) = some (oc, outs.map toAV, bts.map toBC) ∧ decS sig oc outs bts = some x
open Classical in
noncomputable def callTy (F : Nat → Option ProcT) (G : Nat → List TV) (sig : Sig) (g : Nat) (tv : List TV) (bv : List BT) : Option (SumT sig) :=
  if h : ∃ x, Ans F G sig g tv bv x then some h.choose else none
theorem callTy_is {sig : Sig} {g : Nat} {tv : List TV} {bv : List BT} {x : SumT sig} (h : callTy F G sig g tv bv = some x) : Ans F G sig g tv bv x := by
  unfold callTy at h
  split at h
  · rename_i hx; injection h with h; rw [← h]; exact hx.choose_spec
  · cases h
theorem callTy_of {sig : Sig} {g : Nat} {tv : List TV} {bv : List BT} {x : SumT sig} (h : Ans F G sig g tv bv x) : callTy F G sig g tv bv = some x := by
  unfold callTy
  have hx : ∃ x, Ans F G sig g tv bv x := ⟨x, h⟩
  rw [dif_pos hx]
  obtain ⟨oc, o, b, h1, h2⟩ := h
  obtain ⟨oc', o', b', h3, h4⟩ := hx.choose_spec
  rw [h1] at h3
  simp only [Option.some.injEq, Prod.mk.injEq] at h3
  obtain ⟨rfl, e1, e2⟩ := h3
  rw [decS_inj h4 h2 e1.symm e2.symm]
/-- Calls, as the typed evaluator makes them. -/
noncomputable def phi (F : Nat → Option ProcT) (G : Nat → List TV) (sg : Nat → Sig) {ρ : Type} : CT ρ := fun g tv bv k => bnd (callTy F G (sg g) g tv bv) fun x => elimS (sg g) x k
theorem phi_ok {ρ : Type} : PhiOk (phi F G sg (ρ := ρ)) (E (FA F) (GA G)) := by
  intro g tv bv k r h
  simp only [phi, bnd_is] at h
  obtain ⟨x, h1, h2⟩ := h
  obtain ⟨oc, o, b, h3, h4⟩ := callTy_is h1
  rw [decS_is k h4] at h2
  exact ⟨oc, o, b, h3, h2⟩
def finT (p : ProcT) (sig : Sig) (oc : Oc) (s : TS) : Option (SumT sig) :=
  match oc with
  | .exit _ => none
  | _ => bnd (resultT s p.res) fun v => bnd (boxesT s p.bins) fun bv' => decS sig .ret [v] bv'
noncomputable def finL (F : Nat → Option ProcT) (G : Nat → List TV) (g : Nat) (p : ProcT) (sig : Sig) (oc : Oc) (s : TS) : Option (SumT sig) :=
  match oc with
  | .norm => if ((p.ins.map s.t).all (TV.okIn p.bins)) = true then bnd (boxesT s p.bins) fun bv' => callTy F G sig g (p.ins.map s.t) bv' else none
  | o => if ((p.outs.map s.t).all (TV.okIn p.bouts)) = true then bnd (boxesT s p.bouts) fun bv' => decS sig o (p.outs.map s.t) bv' else none

theorem FA_some {g : Nat} {p : ProcT} (hp : F g = some p) : FA F g = some p.er := by simp [FA, hp]
theorem fn_le {g : Nat} {p : ProcT} {tv : List TV} {bv : List BT} {x : SumT (sg g)} (hp : F g = some p) (hk : p.kind = .fn) (h1 : tv.length = p.ins.length) (h2 : bv.length = p.bins.length)
    (h : runC (phi F G sg) F G p.code (mkST p.ins tv p.bins bv) (finT p (sg g)) = some x) : callTy F G (sg g) g tv bv = some x := by
  obtain ⟨oc, s, h3, h4⟩ := runC_is phi_ok _ h
  rw [toS_mk] at h3
  apply callTy_of
  have e := E_eq (F := FA F) (G := GA G) g (tv.map toAV) (bv.map toBC)
  have hk' : p.er.kind = .fn := hk
  have h3' : evalC (E (FA F) (GA G)) (FA F) (GA G) p.er.code (mkS p.er.ins (tv.map toAV) p.er.bins (bv.map toBC)) = some (oc, toS s) := h3
  have hl : (tv.map toAV).length = p.er.ins.length ∧ (bv.map toBC).length = p.er.bins.length := by simp only [List.length_map]; exact ⟨h1, h2⟩
  simp only [FA_some hp, bnd_some, procA, hk', hl, and_self, if_true] at e
  rw [if_neg (by simp), h3'] at e
  simp only [bnd_some] at e
  have fin : ∀ v bv', resultT s p.res = some v → boxesT s p.bins = some bv' → decS (sg g) .ret [v] bv' = some x →
      (bnd (resultOf (toS s) p.er.res) fun v => bnd (boxesOf (toS s) p.er.bins) fun bv' => some ((Oc.ret, [v], bv'))) = some (Oc.ret, [v].map toAV, bv'.map toBC) := by
    intro v bv' a1 a2 a3
    have b1 : resultOf (toS s) p.er.res = some (toAV v) := resultT_is a1
    have b2 : boxesOf (toS s) p.er.bins = some (bv'.map toBC) := boxesT_is a2
    rw [b1, bnd_some, b2, bnd_some]; rfl
  unfold finT at h4
  split at h4
  · cases h4
  · rename_i hne
    simp only [bnd_is] at h4
    obtain ⟨v, a1, bv', a2, a3⟩ := h4
    refine ⟨.ret, [v], bv', ?_, a3⟩
    rw [e, ← fin v bv' a1 a2 a3]
    cases oc with
    | exit i => exact (hne i rfl).elim
    | norm => rfl
    | ret => rfl
theorem loop_le {g : Nat} {p : ProcT} {tv : List TV} {bv : List BT} {x : SumT (sg g)} (hp : F g = some p) (hk : p.kind = .loop) (h1 : tv.length = p.ins.length) (h2 : bv.length = p.bins.length)
    (h : runC (phi F G sg) F G p.code (mkST p.ins tv p.bins bv) (finL F G g p (sg g)) = some x) : callTy F G (sg g) g tv bv = some x := by
  obtain ⟨oc, s, h3, h4⟩ := runC_is phi_ok _ h
  rw [toS_mk] at h3
  apply callTy_of
  have e := E_eq (F := FA F) (G := GA G) g (tv.map toAV) (bv.map toBC)
  have hk' : p.er.kind = .loop := hk
  have h3' : evalC (E (FA F) (GA G)) (FA F) (GA G) p.er.code (mkS p.er.ins (tv.map toAV) p.er.bins (bv.map toBC)) = some (oc, toS s) := h3
  have hl : (tv.map toAV).length = p.er.ins.length ∧ (bv.map toBC).length = p.er.bins.length := by simp only [List.length_map]; exact ⟨h1, h2⟩
  simp only [FA_some hp, bnd_some, procA, hk', hl, and_self, if_true] at e
  rw [if_neg (by simp), h3'] at e
  simp only [bnd_some] at e
  unfold finL at h4
  split at h4
  · split at h4
    · rename_i hok
      rw [bnd_is] at h4
      obtain ⟨bv', a1, a2⟩ := h4
      obtain ⟨oc, o, b, a3, a4⟩ := callTy_is a2
      refine ⟨oc, o, b, ?_, a4⟩
      rw [e]
      have b1 : boxesOf (toS s) p.er.bins = some (bv'.map toBC) := boxesT_is a1
      have b2 : ((p.er.ins.map (toS s).t).all (AV.okIn p.er.bins)) = true := by rw [toS_ts, map_okIn]; exact hok
      simp only [if_pos b2, b1, bnd_some]
      rw [toS_ts]
      exact a3
    · cases h4
  · rename_i hne
    split at h4
    · rename_i hok
      rw [bnd_is] at h4
      obtain ⟨bv', a1, a2⟩ := h4
      refine ⟨oc, _, bv', ?_, a2⟩
      rw [e]
      have b1 : boxesOf (toS s) p.er.bouts = some (bv'.map toBC) := boxesT_is a1
      have b2 : ((p.er.outs.map (toS s).t).all (AV.okIn p.er.bouts)) = true := by rw [toS_ts, map_okIn]; exact hok
      have b3 : (if ((p.er.outs.map (toS s).t).all (AV.okIn p.er.bouts)) = true then bnd (boxesOf (toS s) p.er.bouts) fun bv' => some ((oc, p.er.outs.map (toS s).t, bv')) else none) = some (oc, (p.outs.map s.t).map toAV, bv'.map toBC) := by
        simp only [if_pos b2, b1, bnd_some]
        rw [toS_ts]; rfl
      rw [← b3]
      cases oc with
      | norm => exact (hne rfl).elim
      | exit i => rfl
      | ret => rfl
    · cases h4
theorem prim_le {g : Nat} {p : ProcT} {tv : List TV} {v : TV} {x : SumT (sg g)} (hp : F g = some p) (hk : p.kind = .prim) (h : p.pf (tv.map toAV) = some (toAV v)) (hx : decS (sg g) .ret [v] [] = some x) : callTy F G (sg g) g tv [] = some x := by
  apply callTy_of
  refine ⟨.ret, [v], [], ?_, hx⟩
  have e := E_eq (F := FA F) (G := GA G) g (tv.map toAV) []
  have hk' : p.er.kind = .prim := hk
  have h' : p.er.pf (tv.map toAV) = some (toAV v) := h
  simp only [FA_some hp, bnd_some, procA, hk', if_true, List.isEmpty_nil, h'] at e
  exact e
/-- A law's sign: one bool. -/
def boolSig : Sig := [⟨.ret, [.one], [], [.h .bool]⟩]
theorem law_of {g : Nat} {tv : List TV} {x : Bool} (h : callTy F G boolSig g tv [] = some x) : E (FA F) (GA G) g (tv.map toAV) [] = some (.ret, [.bool x], []) := by
  obtain ⟨oc, o, b, h1, h2⟩ := callTy_is h
  have := decS_is (ρ := Oc × List TV × List BT) (fun a b c => some (a, b, c)) h2
  simp only [boolSig, elimS] at this
  injection this with this
  simp only [Prod.mk.injEq] at this
  obtain ⟨rfl, rfl, rfl⟩ := this
  exact h1
end Go.Tv
