/- Go functions as functions of Lean. -/
import Derived.Test.YtbgodlimjjgogaaDoorTv4
set_option linter.unusedVariables false
set_option linter.unusedSimpArgs false
namespace Go.Tv
open Go Go.RowKit Go.Vs
inductive Sh where
 | int (k : IntKind)
 | bool
 | str
 | sl (c : TC)
 | own (c : TC)
 | ownb (c : TC)
 | slm (c : TC)
 | agg (c : TC)
 | tr (c : TC)
 | ar
@[reducible] def Sh.T : Sh → Type
 | .int _ => Int
 | .bool => Bool
 | .str => List UInt8
 | .sl c => List (Den c)
 | .own c => List (Den c)
 | .ownb c => Bool × List (Den c)
 | .slm c => Md × List (Den c)
 | .agg c => Den c
 | .tr _ => Hd
 | .ar => List Ent
def Sh.enc : (s : Sh) → s.T → TV
 | .int k, n => .int k n
 | .bool, b => .bool b
 | .str, l => .str l
 | .sl c, l => .sl .share c l
 | .own c, l => .sl (.own true) c l
 | .ownb c, x => .sl (.own x.1) c x.2
 | .slm c, x => .sl x.1 c x.2
 | .agg c, x => .agg (rowT c x)
 | .tr c, x => .tr c x.id x.n
 | .ar, x => .arv x
def Sh.dec : (s : Sh) → TV → Option s.T
 | .int k, .int k' n => if k' = k then some n else none
 | .bool, .bool b => some b
 | .str, .str l => some l
 | .sl c, .sl .share c' l => Qbv c' c l
 | .own c, .sl (.own true) c' l => Qbv c' c l
 | .ownb c, .sl (.own b) c' l => bnd (Qbv c' c l) fun l => some (b, l)
 | .slm c, .sl m c' l => bnd (Qbv c' c l) fun l => some (m, l)
 | .agg c, .agg cs => Qir c cs
 | .tr c, .tr c' h n => if c' = c then some ⟨h, n⟩ else none
 | .ar, .arv es => some es
 | _, _ => none
theorem Sh.dec_is {s : Sh} {v : TV} {x : s.T} (h : s.dec v = some x) : v = s.enc x := by
 unfold Sh.dec at h
 split at h
 ·split at h
  ·rename_i e; subst e; injection h with h; subst h; rfl
  ·cases h
 ·injection h with h; subst h; rfl
 ·injection h with h; subst h; rfl
 ·obtain ⟨rfl, rfl⟩ := Qaq h; rfl
 ·obtain ⟨rfl, rfl⟩ := Qaq h; rfl
 ·rw [Qa] at h
  obtain ⟨a, h1, h2⟩ := h
  obtain ⟨rfl, rfl⟩ := Qaq h1
  injection h2 with h2
  subst h2; rfl
 ·rw [Qa] at h
  obtain ⟨a, h1, h2⟩ := h
  obtain ⟨rfl, rfl⟩ := Qaq h1
  injection h2 with h2
  subst h2; rfl
 ·rw [Qgw h]; rfl
 ·split at h
  ·rename_i e; subst e; injection h with h; subst h; rfl
  ·cases h
 ·injection h with h; subst h; rfl
 ·cases h
mutual
theorem Qpi : ∀ (a b : Exp), Qkj a = Qkj b → a = b
 | ⟨o, n, l⟩, ⟨o', n', l'⟩, h => by
  simp only [Qkj, List.cons.injEq, AV.int.injEq, AV.sl.injEq, true_and, and_true] at h
  obtain ⟨rfl, rfl, h⟩ := h
  rw [Qic l l' h]
theorem Qic : ∀ (a b : List Exp), Qer a = Qer b → a = b
 | [], [], _ => rfl
 | [], _ :: _, h => by simp [Qer] at h
 | _ :: _, [], h => by simp [Qer] at h
 | a :: as, b :: bs, h => by
  simp only [Qer, List.cons.injEq] at h
  rw [Qpi a b h.1, Qic as bs h.2]
end
mutual
theorem Qqd : ∀ (a b : Stm), Qlh a = Qlh b → a = b
 | ⟨k, v, b, ⟨o, n, as⟩, bd, el⟩, ⟨k', v', b', ⟨o', n', as'⟩, bd', el'⟩, h => by
  simp only [Qlh, List.cons.injEq, AV.int.injEq, AV.sl.injEq, true_and, and_true] at h
  obtain ⟨rfl, rfl, rfl, rfl, rfl, h1, h2, h3⟩ := h
  rw [Qic as as' h1, Qcz bd bd' h2, Qcz el el' h3]
theorem Qcz : ∀ (a b : List Stm), Qct a = Qct b → a = b
 | [], [], _ => rfl
 | [], _ :: _, h => by simp [Qct] at h
 | _ :: _, [], h => by simp [Qct] at h
 | a :: as, b :: bs, h => by
  simp only [Qct, List.cons.injEq] at h
  rw [Qqd a b h.1, Qcz as bs h.2]
end
theorem Qbw {α β : Type} {f : α → β} (hf : ∀ a b, f a = f b → a = b) : ∀ {a b : List α}, a.map f = b.map f → a = b
 | [], [], _ => rfl
 | [], _ :: _, h => by simp at h
 | _ :: _, [], h => by simp at h
 | a :: as, b :: bs, h => by
  simp only [List.map_cons, List.cons.injEq] at h
  rw [hf a b h.1, Qbw hf h.2]
theorem Qbr {a b : List Int} (h : Qao a = Qao b) : a = b := by
 simp only [Qao, AV.sl.injEq, true_and] at h
 exact Qbw (by intro a b h; simpa using h) h
theorem Qnk (a b : Bx) (h : bxAV a = bxAV b) : a = b := by
 cases a; cases b
 simp only [bxAV, List.cons.injEq, AV.int.injEq, true_and, and_true] at h
 rw [h.1, Qbr h.2]
theorem Qoi (a b : Tk) (h : tkAV a = tkAV b) : a = b := by
 cases a; cases b
 simp only [tkAV, List.cons.injEq, AV.sl.injEq, true_and, and_true] at h
 rw [Qbr h.1, Qcz _ _ h.2]
theorem Qff : ∀ (c : TC) (a b : Den c), Qe c a = Qe c b → a = b
 | .int, a, b, h | .u8, a, b, h | .bool, a, b, h | .str, a, b, h => by simpa [Qe] using h
 | .quad, a, b, h | .event, a, b, h => by cases a; cases b; simpa [Qe] using h
 | .exp, a, b, h => Qpi a b h
 | .stm, a, b, h => Qqd a b h
 | .stms, a, b, h => by
  simp only [Qe, List.cons.injEq, AV.sl.injEq, true_and, and_true] at h
  exact Qcz _ _ h
 | .bx, a, b, h => Qnk a b h
 | .tk, a, b, h => Qoi a b h
 | .ints, a, b, h => by
  simp only [Qe, List.cons.injEq, and_true] at h
  exact Qbr h
 | .rg, a, b, h => by
  cases a; cases b
  simp only [Qe, List.cons.injEq, AV.int.injEq, true_and, and_true] at h
  obtain ⟨rfl, rfl, rfl, h⟩ := h
  rw [Qbr h]
 | .prg, a, b, h => by
  cases a; cases b
  simp only [Qe, List.cons.injEq, AV.sl.injEq, true_and, and_true] at h
  rw [Qbr h.1, Qbw (by intro a b h; simp only [List.cons.injEq, AV.sl.injEq, true_and, and_true] at h; exact Qcz _ _ h) h.2]
 | .wld, a, b, h => by
  cases a; cases b
  simp only [Qe, List.cons.injEq, AV.int.injEq, AV.sl.injEq, true_and, and_true] at h
  obtain ⟨h1, h2, rfl, rfl, h3⟩ := h
  rw [Qbw Qoi h1, Qbw Qnk h2, Qbr h3]
 | .otc, a, b, h => by
  cases a; cases b
  simp only [Qe, List.cons.injEq, AV.bool.injEq, AV.sl.injEq, true_and, and_true] at h
  obtain ⟨h1, h2, h3, rfl⟩ := h
  rw [Qbr h1, Qbw (by intro a b h; simp only [List.cons.injEq, and_true] at h; exact Qbr h) h2, Qbw (by intro a b h; simpa using h) h3]
 | .fn, a, b, h => by simpa [Qe] using h
 | .intsH, a, b, h | .stmsH, a, b, h | .stmsHH, a, b, h => by cases a; cases b; simpa [Qe] using h
 | .rgH, ⟨_, _, _, ⟨_, _⟩⟩, ⟨_, _, _, ⟨_, _⟩⟩, h | .prgH, ⟨⟨_, _⟩, ⟨_, _⟩⟩, ⟨⟨_, _⟩, ⟨_, _⟩⟩, h | .wldH, ⟨⟨_, _⟩, ⟨_, _⟩, _, _, ⟨_, _⟩⟩, ⟨⟨_, _⟩, ⟨_, _⟩, _, _, ⟨_, _⟩⟩, h | .otcH, ⟨⟨_, _⟩, ⟨_, _⟩, ⟨_, _⟩, _⟩, ⟨⟨_, _⟩, ⟨_, _⟩, ⟨_, _⟩, _⟩, h
 | .expH, ⟨_, _, ⟨_, _⟩⟩, ⟨_, _, ⟨_, _⟩⟩, h | .bxH, ⟨_, ⟨_, _⟩⟩, ⟨_, ⟨_, _⟩⟩, h | .tkH, ⟨⟨_, _⟩, ⟨_, _⟩⟩, ⟨⟨_, _⟩, ⟨_, _⟩⟩, h => by simpa [Qe, and_assoc] using h
 | .wldO, ⟨_, _, _, _, ⟨_, _⟩⟩, ⟨_, _, _, _, ⟨_, _⟩⟩, h => by
  simp only [Qe, List.cons.injEq, AV.int.injEq, AV.sl.injEq, AV.tr.injEq, true_and, and_true] at h
  obtain ⟨h1, h2, rfl, rfl, rfl, rfl⟩ := h
  rw [Qbw Qoi h1, Qbw Qnk h2]
 | .stmH, ⟨_, _, _, _, _, ⟨_, _⟩, ⟨_, _⟩, ⟨_, _⟩⟩, ⟨_, _, _, _, _, ⟨_, _⟩, ⟨_, _⟩, ⟨_, _⟩⟩, h => by simpa [Qe, and_assoc] using h
theorem Qvh : ∀ (a b : Ent), Qtf a = Qtf b → a = b
 | none, none, _ => rfl
 | none, some (_, _), h => by simp [Qtf] at h
 | some (_, _), none, h => by simp [Qtf] at h
 | some (sz, xs), some (sz', xs'), h => by simpa [Qtf] using h
theorem Sh.enc_inj : ∀ {s : Sh} {x y : s.T}, toAV (s.enc x) = toAV (s.enc y) → x = y
 | .int k, x, y, h => by simpa [Sh.enc, toAV] using h
 | .bool, x, y, h => by simpa [Sh.enc, toAV] using h
 | .str, x, y, h => by simpa [Sh.enc, toAV] using h
 | .sl c, x, y, h | .own c, x, y, h => by
  simp only [Sh.enc, toAV, AV.sl.injEq, true_and] at h
  exact Qbw (Qff c) h
 | .ownb c, x, y, h => by
  simp only [Sh.enc, toAV, AV.sl.injEq, true_and] at h
  obtain ⟨h1, h2⟩ := h
  obtain ⟨a, x⟩ := x
  obtain ⟨b, y⟩ := y
  have : a = b := by cases a <;> cases b <;> simp_all [Md.sm]
  have e2 : x = y := Qbw (Qff c) h2
  rw [this, e2]
 | .slm c, x, y, h => by
  simp only [Sh.enc, toAV, AV.sl.injEq, true_and] at h
  obtain ⟨h1, h2⟩ := h
  obtain ⟨a, x⟩ := x
  obtain ⟨b, y⟩ := y
  have : a = b := by
   cases a with
   | own c1 => cases b with
    | own c2 => cases c1 <;> cases c2 <;> simp_all [Md.sm]
    | _ => cases c1 <;> simp_all [Md.sm]
   | _ => cases b with
    | own c2 => cases c2 <;> simp_all [Md.sm]
    | _ => simp_all [Md.sm]
  have e2 : x = y := Qbw (Qff c) h2
  rw [this, e2]
 | .agg c, x, y, h => by
  simp only [Sh.enc, toAV, AV.agg.injEq, Qj, Qcj] at h
  exact Qff c x y h
 | .tr c, ⟨_, _⟩, ⟨_, _⟩, h => by simpa [Sh.enc, toAV] using h
 | .ar, x, y, h => by
  simp only [Sh.enc, toAV, AV.tup.injEq] at h
  exact Qbw Qvh h
inductive Cell where
 | h (s : Sh)
 | bp (b off : Nat)
 | bs (b : Nat)
 | undef
 | fnl (l : List Nat)
@[reducible] def Qhd : List Cell → List Sh
 | [] => []
 | .h s :: r => s :: Qhd r
 | .bp _ _ :: r => Qhd r
 | .bs _ :: r => Qhd r
 | .undef :: r => Qhd r
 | .fnl _ :: r => Qhd r
@[reducible] def Pr : List Sh → Type
 | [] => Unit
 | [a] => a.T
 | a :: b :: r => a.T × Pr (b :: r)
def Pr.mk : (a : Sh) → (r : List Sh) → a.T → Pr r → Pr (a :: r)
 | _, [], x, _ => x
 | _, _ :: _, x, y => (x, y)
def Pr.hd : (a : Sh) → (r : List Sh) → Pr (a :: r) → a.T
 | _, [], x => x
 | _, _ :: _, x => x.1
def Pr.tl : (a : Sh) → (r : List Sh) → Pr (a :: r) → Pr r
 | _, [], x => ()
 | _, _ :: _, x => x.2
theorem Pr.hd_mk (a : Sh) (r : List Sh) (x : a.T) (y : Pr r) : Pr.hd a r (Pr.mk a r x y) = x := by cases r <;> rfl
theorem Pr.tl_mk (a : Sh) (r : List Sh) (x : a.T) (y : Pr r) : Pr.tl a r (Pr.mk a r x y) = y := by cases r <;> rfl
theorem Pr.ext (a : Sh) (r : List Sh) (x y : Pr (a :: r)) (h1 : Pr.hd a r x = Pr.hd a r y) (h2 : Pr.tl a r x = Pr.tl a r y) : x = y := by
 cases r with
 | nil => exact h1
 | cons b t => exact Prod.ext h1 h2
def encC : (cs : List Cell) → Pr (Qhd cs) → List TV
 | [], _ => []
 | .h s :: r, x => s.enc (Pr.hd s (Qhd r) x) :: encC r (Pr.tl s (Qhd r) x)
 | .bp b o :: r, x => .bp b o :: encC r x
 | .bs b :: r, x => .bs b :: encC r x
 | .undef :: r, x => .undef :: encC r x
 | .fnl l :: r, x => .sl .full .fn l :: encC r x
def decC : (cs : List Cell) → List TV → Option (Pr (Qhd cs))
 | [], [] => some ()
 | .h s :: r, v :: l => bnd (s.dec v) fun a => bnd (decC r l) fun x => some (Pr.mk s (Qhd r) a x)
 | .bp b o :: r, .bp b' o' :: l => if b = b' ∧ o = o' then decC r l else none
 | .bs b :: r, .bs b' :: l => if b = b' then decC r l else none
 | .undef :: r, .undef :: l => decC r l
 | .fnl fs :: r, .sl .full c gs :: l => bnd (Qbv c .fn gs) fun gs => if (fs : List Nat) = gs then decC r l else none
 | _, _ => none
theorem Qey : ∀ {cs : List Cell} {l : List TV} {x : Pr (Qhd cs)}, decC cs l = some x → l = encC cs x
 | [], [], x, h => rfl
 | [], _ :: _, x, h => by simp [decC] at h
 | .h s :: r, [], x, h => by simp [decC] at h
 | .h s :: r, v :: l, x, h => by
  simp only [decC, Qa] at h
  obtain ⟨a, h1, y, h2, h3⟩ := h
  injection h3 with h3
  subst h3
  simp only [encC, Pr.hd_mk, Pr.tl_mk]
  rw [← Qey h2, ← Sh.dec_is h1]
 | .bp b o :: r, [], x, h => by simp [decC] at h
 | .bs b :: r, [], x, h => by simp [decC] at h
 | .undef :: r, [], x, h => by simp [decC] at h
 | .fnl fs :: r, [], x, h => by simp [decC] at h
 | .bp b o :: r, v :: l, x, h => by
  cases v <;> simp only [decC] at h <;> first | (cases h; done) | skip
  split at h
  ·rename_i e; rw [← e.1, ← e.2]; exact congrArg _ (Qey h)
  ·cases h
 | .bs b :: r, v :: l, x, h => by
  cases v <;> simp only [decC] at h <;> first | (cases h; done) | skip
  split at h
  ·rename_i e; rw [← e]; exact congrArg _ (Qey h)
  ·cases h
 | .undef :: r, v :: l, x, h => by
  cases v <;> simp only [decC] at h <;> first | (cases h; done) | skip
  exact congrArg _ (Qey h)
 | .fnl fs :: r, v :: l, x, h => by
  cases v <;> (try simp only [decC] at h) <;> first | (cases h; done) | skip
  rename_i m c gs
  cases m <;> (try simp only [decC] at h) <;> first | (cases h; done) | skip
  obtain ⟨gs', h1, h2⟩ := Qa.1 h
  obtain ⟨rfl, h1⟩ := Qaq h1
  simp only at h1
  subst h1
  split at h2
  ·rename_i e
   subst e
   show _ = TV.sl .full .fn _ :: encC r x
   rw [← Qey h2]
  ·cases h2
theorem Qfp : ∀ {cs : List Cell} {x y : Pr (Qhd cs)}, (encC cs x).map toAV = (encC cs y).map toAV → x = y
 | [], _, _, _ => rfl
 | .h s :: r, x, y, h => by
  simp only [encC, List.map_cons, List.cons.injEq] at h
  exact Pr.ext s (Qhd r) x y (Sh.enc_inj h.1) (Qfp h.2)
 | .bp b o :: r, x, y, h => by
  simp only [encC, List.map_cons, List.cons.injEq] at h
  exact Qfp (cs := r) h.2
 | .bs b :: r, x, y, h => by
  simp only [encC, List.map_cons, List.cons.injEq] at h
  exact Qfp (cs := r) h.2
 | .undef :: r, x, y, h => by
  simp only [encC, List.map_cons, List.cons.injEq] at h
  exact Qfp (cs := r) h.2
 | .fnl fs :: r, x, y, h => by
  simp only [encC, List.map_cons, List.cons.injEq] at h
  exact Qfp (cs := r) h.2
inductive VP where
 | one
 | tup (n : Nat)
 | np (n : Nat)
 | agg (n : Nat)
inductive BP where
 | var (n : Nat)
 | rows
 | ar
def fO : List VP → List TV → Option (List TV)
 | [], [] => some []
 | .one :: r, v :: l => bnd (fO r l) fun q => some (v :: q)
 | .tup n :: r, .tup ws :: l => if ws.length = n then bnd (fO r l) fun q => some (ws ++ q) else none
 | .np n :: r, .np ws :: l => if ws.length = n then bnd (fO r l) fun q => some (ws ++ q) else none
 | .agg n :: r, .agg ws :: l => if ws.length = n then bnd (fO r l) fun q => some (ws ++ q) else none
 | _, _ => none
def bO : List VP → List TV → List TV × List TV
 | [], l => ([], l)
 | .one :: r, l => let q := bO r (l.drop 1); (l.headD .undef :: q.1, q.2)
 | .tup n :: r, l => let q := bO r (l.drop n); (.tup (l.take n) :: q.1, q.2)
 | .np n :: r, l => let q := bO r (l.drop n); (.np (l.take n) :: q.1, q.2)
 | .agg n :: r, l => let q := bO r (l.drop n); (.agg (l.take n) :: q.1, q.2)
def fB : List BP → List BT → Option (List TV)
 | [], [] => some []
 | .var n :: r, .var cs :: l => if cs.length = n then bnd (fB r l) fun q => some (cs ++ q) else none
 | .rows :: r, .rows c x :: l => bnd (fB r l) fun q => some (.sl .share c x :: q)
 | .ar :: r, .ar es :: l => bnd (fB r l) fun q => some (.arv es :: q)
 | _, _ => none
def bB : List BP → List TV → List BT
 | [], _ => []
 | .var n :: r, l => .var (l.take n) :: bB r (l.drop n)
 | .rows :: r, l => (match l.headD .undef with | .sl _ c x => .rows c x | _ => .var []) :: bB r (l.drop 1)
 | .ar :: r, l => (match l.headD .undef with | .arv es => .ar es | _ => .var []) :: bB r (l.drop 1)
theorem Qvo : ∀ {ps : List VP} {vs l r : List TV}, fO ps vs = some l → bO ps (l ++ r) = (vs, r)
 | [], [], l, r, h => by simp [fO] at h; subst h; rfl
 | [], _ :: _, l, r, h => by simp [fO] at h
 | .one :: ps, [], l, r, h => by simp [fO] at h
 | .tup n :: ps, [], l, r, h => by simp [fO] at h
 | .np n :: ps, [], l, r, h => by simp [fO] at h
 | .agg n :: ps, [], l, r, h => by simp [fO] at h
 | .one :: ps, v :: vs, l, r, h => by
  simp only [fO, Qa] at h
  obtain ⟨q, h1, h2⟩ := h
  injection h2 with h2
  subst h2
  simp [bO, Qvo (r := r) h1]
 | .tup n :: ps, v :: vs, l, r, h => by
  cases v <;> simp only [fO] at h <;> first | (cases h; done) | skip
  split at h
  ·rename_i ws hn
   rw [Qa] at h
   obtain ⟨q, h1, h2⟩ := h
   injection h2 with h2
   subst h2 hn
   simp [bO, Qvo (r := r) h1, List.append_assoc]
  ·cases h
 | .np n :: ps, v :: vs, l, r, h => by
  cases v <;> simp only [fO] at h <;> first | (cases h; done) | skip
  split at h
  ·rename_i ws hn
   rw [Qa] at h
   obtain ⟨q, h1, h2⟩ := h
   injection h2 with h2
   subst h2 hn
   simp [bO, Qvo (r := r) h1, List.append_assoc]
  ·cases h
 | .agg n :: ps, v :: vs, l, r, h => by
  cases v <;> simp only [fO] at h <;> first | (cases h; done) | skip
  split at h
  ·rename_i ws hn
   rw [Qa] at h
   obtain ⟨q, h1, h2⟩ := h
   injection h2 with h2
   subst h2 hn
   simp [bO, Qvo (r := r) h1, List.append_assoc]
  ·cases h
theorem Qxv : ∀ {ps : List BP} {vs : List BT} {l : List TV}, fB ps vs = some l → bB ps l = vs
 | [], [], l, h => rfl
 | [], _ :: _, l, h => by simp [fB] at h
 | .var n :: ps, [], l, h => by simp [fB] at h
 | .rows :: ps, [], l, h => by simp [fB] at h
 | .ar :: ps, [], l, h => by simp [fB] at h
 | .ar :: ps, v :: vs, l, h => by
  cases v <;> simp only [fB] at h <;> first | (cases h; done) | skip
  rw [Qa] at h
  obtain ⟨q, h1, h2⟩ := h
  injection h2 with h2
  subst h2
  simp [bB, Qxv h1]
 | .var n :: ps, v :: vs, l, h => by
  cases v <;> simp only [fB] at h <;> first | (cases h; done) | skip
  split at h
  ·rename_i ws hn
   rw [Qa] at h
   obtain ⟨q, h1, h2⟩ := h
   injection h2 with h2
   subst h2 hn
   simp [bB, Qxv h1]
  ·cases h
 | .rows :: ps, v :: vs, l, h => by
  cases v <;> simp only [fB] at h <;> first | (cases h; done) | skip
  rw [Qa] at h
  obtain ⟨q, h1, h2⟩ := h
  injection h2 with h2
  subst h2
  simp [bB, Qxv h1]
structure Alt where
 oc : Oc
 outs : List VP
 bs : List BP
 cells : List Cell
abbrev Alt.T (a : Alt) : Type := Pr (Qhd a.cells)
def Alt.dec (a : Alt) (outs : List TV) (bts : List BT) : Option a.T := bnd (fO a.outs outs) fun l => bnd (fB a.bs bts) fun l' => decC a.cells (l ++ l')
def Alt.encO (a : Alt) (x : a.T) : List TV := (bO a.outs (encC a.cells x)).1
def Alt.encB (a : Alt) (x : a.T) : List BT := bB a.bs (bO a.outs (encC a.cells x)).2
theorem Alt.dec_is {a : Alt} {outs : List TV} {bts : List BT} {x : a.T} (h : a.dec outs bts = some x) : a.encO x = outs ∧ a.encB x = bts := by
 simp only [Alt.dec, Qa] at h
 obtain ⟨l, h1, l', h2, h3⟩ := h
 have e := Qey h3
 unfold Alt.encO Alt.encB
 rw [← e, Qvo h1]
 exact ⟨rfl, Qxv h2⟩
theorem fO_av : ∀ {ps : List VP} {o1 o2 l1 l2 : List TV}, fO ps o1 = some l1 → fO ps o2 = some l2 → o1.map toAV = o2.map toAV → l1.map toAV = l2.map toAV
 | [], [], [], l1, l2, h1, h2, e => by simp [fO] at h1 h2; subst h1 h2; rfl
 | _, [], _ :: _, l1, l2, h1, h2, e => by simp at e
 | _, _ :: _, [], l1, l2, h1, h2, e => by simp at e
 | [], _ :: _, _, l1, l2, h1, h2, e => by simp [fO] at h1
 | p :: _, [], [], l1, l2, h1, h2, e => by cases p <;> simp [fO] at h1
 | p :: ps, v :: o1, w :: o2, l1, l2, h1, h2, e => by
  simp only [List.map_cons, List.cons.injEq] at e
  cases p with
  | one =>
   simp only [fO, Qa] at h1 h2
   obtain ⟨q1, a1, b1⟩ := h1
   obtain ⟨q2, a2, b2⟩ := h2
   injection b1 with b1
   injection b2 with b2
   subst b1 b2
   simp only [List.map_cons, e.1, fO_av a1 a2 e.2]
  | _ =>
   cases v <;> simp only [fO] at h1 <;> first | (cases h1; done) | skip
   cases w <;> simp only [fO] at h2 <;> first | (cases h2; done) | skip
   split at h1
   ·split at h2
    ·rw [Qa] at h1 h2
     obtain ⟨q1, a1, b1⟩ := h1
     obtain ⟨q2, a2, b2⟩ := h2
     injection b1 with b1
     injection b2 with b2
     subst b1 b2
     have e1 := e.1
     simp only [toAV, Qj, AV.tup.injEq, AV.np.injEq, AV.agg.injEq] at e1
     simp only [List.map_append, e1, fO_av a1 a2 e.2]
    ·cases h2
   ·cases h1
theorem Qww {c d : TC} {x : List (Den c)} {y : List (Den d)} (h : toBC (.rows c x) = toBC (.rows d y)) : toAV (.sl .share c x) = toAV (.sl .share d y) := by
 simp only [toBC, BC.rows.injEq] at h
 simp only [toAV, h.1, h.2]
theorem Qxu : ∀ {ps : List BP} {o1 o2 : List BT} {l1 l2 : List TV}, fB ps o1 = some l1 → fB ps o2 = some l2 → o1.map toBC = o2.map toBC → l1.map toAV = l2.map toAV
 | [], [], [], l1, l2, h1, h2, e => by simp [fB] at h1 h2; subst h1 h2; rfl
 | _, [], _ :: _, l1, l2, h1, h2, e => by simp at e
 | _, _ :: _, [], l1, l2, h1, h2, e => by simp at e
 | [], _ :: _, _, l1, l2, h1, h2, e => by simp [fB] at h1
 | p :: _, [], [], l1, l2, h1, h2, e => by cases p <;> simp [fB] at h1
 | p :: ps, v :: o1, w :: o2, l1, l2, h1, h2, e => by
  simp only [List.map_cons, List.cons.injEq] at e
  cases p with
  | ar =>
   cases v <;> simp only [fB] at h1 <;> first | (cases h1; done) | skip
   cases w <;> simp only [fB] at h2 <;> first | (cases h2; done) | skip
   rw [Qa] at h1 h2
   obtain ⟨q1, a1, b1⟩ := h1
   obtain ⟨q2, a2, b2⟩ := h2
   injection b1 with b1
   injection b2 with b2
   subst b1 b2
   have e1 := e.1
   simp only [toBC, BC.ar.injEq] at e1
   simp only [List.map_cons, Qxu a1 a2 e.2, e1]
  | rows =>
   cases v <;> simp only [fB] at h1 <;> first | (cases h1; done) | skip
   cases w <;> simp only [fB] at h2 <;> first | (cases h2; done) | skip
   rw [Qa] at h1 h2
   obtain ⟨q1, a1, b1⟩ := h1
   obtain ⟨q2, a2, b2⟩ := h2
   injection b1 with b1
   injection b2 with b2
   subst b1 b2
   simp only [List.map_cons, Qxu a1 a2 e.2, Qww e.1]
  | var n =>
   cases v <;> simp only [fB] at h1 <;> first | (cases h1; done) | skip
   cases w <;> simp only [fB] at h2 <;> first | (cases h2; done) | skip
   split at h1
   ·split at h2
    ·rw [Qa] at h1 h2
     obtain ⟨q1, a1, b1⟩ := h1
     obtain ⟨q2, a2, b2⟩ := h2
     injection b1 with b1
     injection b2 with b2
     subst b1 b2
     have e1 := e.1
     simp only [toBC, Qj, BC.var.injEq] at e1
     simp only [List.map_append, e1, Qxu a1 a2 e.2]
    ·cases h2
   ·cases h1
theorem Alt.dec_inj {a : Alt} {o1 o2 : List TV} {b1 b2 : List BT} {x y : a.T} (h1 : a.dec o1 b1 = some x) (h2 : a.dec o2 b2 = some y) (eo : o1.map toAV = o2.map toAV) (eb : b1.map toBC = b2.map toBC) : x = y := by
 simp only [Alt.dec, Qa] at h1 h2
 obtain ⟨l1, c1, m1, d1, e1⟩ := h1
 obtain ⟨l2, c2, m2, d2, e2⟩ := h2
 apply Qfp
 rw [← Qey e1, ← Qey e2, List.map_append, List.map_append, fO_av c1 c2 eo, Qxu d1 d2 eb]
abbrev Sig := List Alt
@[reducible] def SumT : Sig → Type
 | [] => Empty
 | [a] => a.T
 | a :: b :: r => a.T ⊕ SumT (b :: r)
def ocEq : Oc → Oc → Bool
 | .norm, .norm => true
 | .ret, .ret => true
 | .exit i, .exit j => Nat.beq i j
 | _, _ => false
theorem Qwd {a b : Oc} (h : ocEq a b = true) : a = b := by
 cases a <;> cases b <;> simp_all [ocEq]
def decS : (sig : Sig) → Oc → List TV → List BT → Option (SumT sig)
 | [], _, _, _ => none
 | [a], oc, outs, bts => match ocEq a.oc oc with | true => a.dec outs bts | false => none
 | a :: b :: r, oc, outs, bts => match ocEq a.oc oc with
  | true => bnd (a.dec outs bts) fun x => some (.inl x)
  | false => bnd (decS (b :: r) oc outs bts) fun x => some (.inr x)
def Qpe {ρ : Type} : (sig : Sig) → SumT sig → (Oc → List TV → List BT → Option ρ) → Option ρ
 | [], x, _ => nomatch x
 | [a], x, k => k a.oc (a.encO x) (a.encB x)
 | a :: b :: r, x, k => selm x (fun y => k a.oc (a.encO y) (a.encB y)) fun z => Qpe (b :: r) z k
theorem Qnn {ρ : Type} : ∀ {sig : Sig} {oc : Oc} {outs : List TV} {bts : List BT} {x : SumT sig} (k : Oc → List TV → List BT → Option ρ), decS sig oc outs bts = some x → Qpe sig x k = k oc outs bts
 | [], oc, outs, bts, x, k, h => by simp [decS] at h
 | [a], oc, outs, bts, x, k, h => by
  simp only [decS] at h
  split at h
  ·rename_i e
   obtain ⟨h1, h2⟩ := Alt.dec_is h
   simp only [Qpe, h1, h2, Qwd e]
  ·cases h
 | a :: b :: r, oc, outs, bts, x, k, h => by
  simp only [decS] at h
  split at h
  ·rename_i e
   rw [Qa] at h
   obtain ⟨y, h3, h4⟩ := h
   injection h4 with h4
   subst h4
   obtain ⟨h1, h2⟩ := Alt.dec_is h3
   simp only [Qpe, selm, h1, h2, Qwd e]
  ·rw [Qa] at h
   obtain ⟨y, h3, h4⟩ := h
   injection h4 with h4
   subst h4
   simp only [Qpe, selm]
   exact Qnn k h3
theorem Qsh : ∀ {sig : Sig} {oc : Oc} {o1 o2 : List TV} {b1 b2 : List BT} {x y : SumT sig}, decS sig oc o1 b1 = some x → decS sig oc o2 b2 = some y → o1.map toAV = o2.map toAV → b1.map toBC = b2.map toBC → x = y
 | [], oc, _, _, _, _, x, y, h1, h2, eo, eb => by simp [decS] at h1
 | [a], oc, _, _, _, _, x, y, h1, h2, eo, eb => by
  simp only [decS] at h1 h2
  split at h1
  ·rename_i e
   simp only [e] at h2
   exact Alt.dec_inj h1 h2 eo eb
  ·cases h1
 | a :: b :: r, oc, _, _, _, _, x, y, h1, h2, eo, eb => by
  simp only [decS] at h1 h2
  split at h1
  ·rename_i e
   simp only [e] at h2
   rw [Qa] at h1 h2
   obtain ⟨x', h3, h4⟩ := h1
   obtain ⟨y', h5, h6⟩ := h2
   injection h4 with h4
   injection h6 with h6
   subst h4 h6
   rw [Alt.dec_inj h3 h5 eo eb]
  ·rename_i e
   simp only [e] at h2
   rw [Qa] at h1 h2
   obtain ⟨x', h3, h4⟩ := h1
   obtain ⟨y', h5, h6⟩ := h2
   injection h4 with h4
   injection h6 with h6
   subst h4 h6
   rw [Qsh h3 h5 eo eb]
variable {F : Nat → Option ProcT} {G : Nat → List TV} {sg : Nat → Sig}
def Ans (F : Nat → Option ProcT) (G : Nat → List TV) (sig : Sig) (g : Nat) (tv : List TV) (bv : List BT) (x : SumT sig) : Prop :=
 ∃ oc outs bts, E (FA F) (GA G) g (tv.map toAV) (bv.map toBC) = some (oc, outs.map toAV, bts.map toBC) ∧ decS sig oc outs bts = some x
open Classical in
noncomputable def Qbq (F : Nat → Option ProcT) (G : Nat → List TV) (sig : Sig) (g : Nat) (tv : List TV) (bv : List BT) : Option (SumT sig) :=
 if h : ∃ x, Ans F G sig g tv bv x then some h.choose else none
theorem Qgv {sig : Sig} {g : Nat} {tv : List TV} {bv : List BT} {x : SumT sig} (h : Qbq F G sig g tv bv = some x) : Ans F G sig g tv bv x := by
 unfold Qbq at h
 split at h
 ·rename_i hx; injection h with h; rw [← h]; exact hx.choose_spec
 ·cases h
theorem Qkd {sig : Sig} {g : Nat} {tv : List TV} {bv : List BT} {x : SumT sig} (h : Ans F G sig g tv bv x) : Qbq F G sig g tv bv = some x := by
 unfold Qbq
 have hx : ∃ x, Ans F G sig g tv bv x := ⟨x, h⟩
 rw [dif_pos hx]
 obtain ⟨oc, o, b, h1, h2⟩ := h
 obtain ⟨oc', o', b', h3, h4⟩ := hx.choose_spec
 rw [h1] at h3
 simp only [Zi, Zm] at h3
 obtain ⟨rfl, e1, e2⟩ := h3
 rw [Qsh h4 h2 e1.symm e2.symm]
noncomputable def phi (F : Nat → Option ProcT) (G : Nat → List TV) (sg : Nat → Sig) {ρ : Type} : CT ρ := fun g tv bv k => bnd (Qbq F G (sg g) g tv bv) fun x => Qpe (sg g) x k
theorem Qzw {ρ : Type} : Qnc (phi F G sg (ρ := ρ)) (E (FA F) (GA G)) := by
 intro g tv bv k r h
 simp only [phi, Qa] at h
 obtain ⟨x, h1, h2⟩ := h
 obtain ⟨oc, o, b, h3, h4⟩ := Qgv h1
 rw [Qnn k h4] at h2
 exact ⟨oc, o, b, h3, h2⟩
noncomputable def exitT {ρ : Type} (p : ProcT) (s : TS) (v : TV) (k : TV → TS → Option ρ) : Option ρ :=
 match p.loc with
 | true => match s.b 99 with
  | some (.ar es) => viewT es v fun v => match v.noTr with | true => k v s | false => none
  | _ => none
 | false => match p.sl with
  | [] => k v s
  | sl => match s.b 99 with
   | some (.ar es) => match v with
    | .agg cs => Qld es sl cs fun cs ids => k (.agg cs) (s.setA (Qev es ids))
    | .tup cs => Qld es sl cs fun cs ids => k (.tup cs) (s.setA (Qev es ids))
    | _ => none
   | _ => none
def Qxg (bins : List Nat) (bv : List BT) : Bool := bv.map BT.isAr == bins.map (fun b => b == 99)
def Qhp (p : ProcT) (tv : List TV) (bv : List BT) : Bool := Qxg p.bins bv && (!p.loc || (Qge tv && bv.all BT.noTr))
def Qlf (p : ProcT) (s : TS) : TS := match p.loc with | true => { s with b := upd s.b 99 (some (.ar [])), seen := upd s.seen 99 true } | false => s
noncomputable def finT (p : ProcT) (sig : Sig) (oc : Oc) (s : TS) : Option (SumT sig) :=
 match oc with
 | .exit _ => none
 | _ => bnd (Qrj s p.res) fun v => exitT p s v fun v s => bnd (Qiq s p.bins) fun bv' =>
  match (Qxg p.bins bv' && (!p.loc || bv'.all BT.noTr) && (!(p.loc || p.bins.contains 99) || !v.isP)) with
  | true => decS sig .ret [v] bv'
  | false => none
noncomputable def finL (F : Nat → Option ProcT) (G : Nat → List TV) (g : Nat) (p : ProcT) (sig : Sig) (oc : Oc) (s : TS) : Option (SumT sig) :=
 match oc with
 | .norm => if ((p.ins.map s.t).all (TV.okIn p.bins)) = true then bnd (Qiq s p.bins) fun bv' => Qbq F G sig g (p.ins.map s.t) bv' else none
 | o => if ((p.outs.map s.t).all (TV.okIn p.bouts)) = true then bnd (Qiq s p.bouts) fun bv' => decS sig o (p.outs.map s.t) bv' else none
theorem Qqm {g : Nat} {p : ProcT} (hp : F g = some p) : FA F g = some p.er := by simp [FA, hp]
theorem Qrx {bins : List Nat} {bv : List BT} : arOk bins (bv.map toBC) = Qxg bins bv := by
 unfold arOk Qxg
 have : (bv.map toBC).map BC.isAr = bv.map BT.isAr := by simp [List.map_map, Function.comp_def, bt_isAr]
 rw [this]
theorem Qrv {bv : List BT} (h : bv.all BT.noTr = true) : ((bv.map toBC).all BC.noTr) = true := by
 rw [List.all_map, List.all_eq_true] at *
 intro x hx
 exact bt_noTr x (h x hx)
theorem Qrn {p : ProcT} {tv : List TV} {bv : List BT} (h : Qhp p tv bv = true) : Qgo p.er (tv.map toAV) (bv.map toBC) = true := by
 unfold Qhp at h
 unfold Qgo
 split
 ·simp only [Zw, Bool.or_eq_true, Bool.not_eq_true'] at h ⊢
  obtain ⟨h1, h2⟩ := h
  refine ⟨by rw [show p.er.bins = p.bins from rfl, Qrx]; exact h1, h2.imp (fun h => h) ?_⟩
  rintro ⟨h3, h4⟩
  exact ⟨by rw [← Qj]; exact Qdm tv h3, Qrv h4⟩
 ·rfl
theorem Qug {p : ProcT} {s : TS} (hk : p.kind = .fn) : toS (Qlf p s) = Qfg p.er (toS s) := by
 have hk' : p.er.kind = .fn := hk
 unfold Qlf Qfg Qqc
 simp only [hk']
 have hl : p.er.loc = p.loc := rfl
 rw [hl]
 cases p.loc with
 | false => simp
 | true =>
  simp only [if_true]
  have e : (fun j => (upd s.b 99 (some (BT.ar [])) j).map toBC) = upd (fun j => (s.b j).map toBC) 99 (some (BC.ar [])) := Qig (Option.map toBC) s.b 99 (some (BT.ar []))
  simp only [toS, e]
theorem Qxs {ρ : Type} {p : ProcT} {s : TS} {v : TV} {k : TV → TS → Option ρ} {r : ρ} (h : exitT p s v k = some r) : ∃ v' s', finR p.loc p.sl (toS s) (toAV v) = some (toAV v', toS s') ∧ k v' s' = some r := by
 unfold exitT at h
 split at h
 ·rename_i hl
  split at h
  rotate_left
  ·cases h
  rename_i es hes
  obtain ⟨v', h1, ids, h2⟩ := Qzm h
  split at h1
  rotate_left
  ·cases h1
  rename_i hn
  refine ⟨v', s, ?_, h1⟩
  unfold finR
  rw [hl, if_pos rfl, Qcs hes]
  simp only [Qb, h2, Qhw _ hn, if_true]
 ·rename_i hl
  split at h
  ·rename_i hsl
   refine ⟨v, s, ?_, h⟩
   unfold finR
   rw [hl, hsl, if_neg (by simp)]
  ·rename_i hsl
   split at h
   rotate_left
   ·cases h
   rename_i es hes
   split at h
   rotate_right
   ·cases h
   ·rename_i cs
    obtain ⟨l', ids, h1, h2⟩ := Qhk h
    refine ⟨_, _, ?_, h1⟩
    unfold finR
    rw [hl, if_neg (by simp)]
    split
    ·rename_i h0; exact absurd h0 hsl
    ·rw [Qcs hes]
     simp only [Qb, toAV, Qj, h2, Qcb]
   ·rename_i cs
    obtain ⟨l', ids, h1, h2⟩ := Qhk h
    refine ⟨_, _, ?_, h1⟩
    unfold finR
    rw [hl, if_neg (by simp)]
    split
    ·rename_i h0; exact absurd h0 hsl
    ·rw [Qcs hes]
     simp only [Qb, toAV, Qj, h2, Qcb]
theorem Qyu {g : Nat} {p : ProcT} {tv : List TV} {bv : List BT} {x : SumT (sg g)} {code : ACT} (hk : p.kind = .fn) (h1 : tv.length = p.ins.length) (h2 : bv.length = p.bins.length) (hs : Qhp p tv bv = true)
  (h : runC (phi F G sg) F G code (Qlf p (mkST p.ins tv p.bins bv)) (finT p (sg g)) = some x) : ∃ (v' : TV) (bv' : List BT), Qfz (E (FA F) (GA G)) (FA F) (GA G) g p.er code.er (tv.map toAV) (bv.map toBC) = some (.ret, [v'].map toAV, bv'.map toBC) ∧ decS (sg g) .ret [v'] bv' = some x := by
 obtain ⟨oc, s, h3, h4⟩ := Qgm Qzw _ h
 rw [Qug hk, Qwy] at h3
 have hk' : p.er.kind = .fn := hk
 have h3' : Qam (E (FA F) (GA G)) (FA F) (GA G) code.er (Qfg p.er (mkS p.er.ins (tv.map toAV) p.er.bins (bv.map toBC))) = some (oc, toS s) := h3
 have hl : (tv.map toAV).length = p.er.ins.length ∧ (bv.map toBC).length = p.er.bins.length ∧ Qgo p.er (tv.map toAV) (bv.map toBC) = true := by simp only [List.length_map]; exact ⟨h1, h2, Qrn hs⟩
 simp only [Qfz, hk', hl, and_self, if_true]
 rw [if_neg (by simp), h3']
 simp only [Qb]
 unfold finT at h4
 split at h4
 ·cases h4
 ·rename_i hne
  simp only [Qa] at h4
  obtain ⟨v, a1, h4⟩ := h4
  obtain ⟨v', s', a2, h4⟩ := Qxs h4
  obtain ⟨bv', a3, h4⟩ := Qa.1 h4
  split at h4
  rotate_left
  ·cases h4
  rename_i hchk
  refine ⟨v', bv', ?_, h4⟩
  have b1 : Qca (toS s) p.er.res = some (toAV v) := Qty a1
  have b2 : Qaf (toS s') p.er.bins = some (bv'.map toBC) := Qex a3
  have b3 : (arOk p.er.bins (bv'.map toBC) && (!p.er.loc || (bv'.map toBC).all BC.noTr) && (!(p.er.loc || p.er.bins.contains 99) || !(toAV v').isP)) = true := by
   rw [show p.er.bins = p.bins from rfl, show p.er.loc = p.loc from rfl, Qrx, Qjx]
   simp only [Zw, Bool.or_eq_true, Bool.not_eq_true'] at hchk ⊢
   exact ⟨⟨hchk.1.1, hchk.1.2.imp (fun h => h) Qrv⟩, hchk.2⟩
  have fin : (bnd (Qca (toS s) p.er.res) fun v => Qnr p.er (toS s) v) = some (Oc.ret, [v'].map toAV, bv'.map toBC) := by
   rw [b1, Qb]
   unfold Qnr
   rw [show finR p.er.loc p.er.sl (toS s) (toAV v) = _ from a2]
   simp only [Qb, b2, b3, if_true]
   rfl
  rw [← fin]
  cases oc with
  | exit i => exact (hne i rfl).elim
  | norm => rfl
  | ret => rfl
theorem fn_le {g : Nat} {p : ProcT} {tv : List TV} {bv : List BT} {x : SumT (sg g)} (hp : F g = some p) (hk : p.kind = .fn) (h1 : tv.length = p.ins.length) (h2 : bv.length = p.bins.length) (hs : Qhp p tv bv = true) (h2w : p.two = false)
  (h : runC (phi F G sg) F G p.code (Qlf p (mkST p.ins tv p.bins bv)) (finT p (sg g)) = some x) : Qbq F G (sg g) g tv bv = some x := by
 obtain ⟨v', bv', h3, h4⟩ := Qyu hk h1 h2 hs h
 apply Qkd
 have e := E_eq (F := FA F) (G := GA G) g (tv.map toAV) (bv.map toBC)
 simp only [Qqm hp, Qb] at e
 rw [Qdx (.inl h2w)] at e
 exact ⟨.ret, [v'], bv', e.trans h3, h4⟩
theorem loop_le {g : Nat} {p : ProcT} {tv : List TV} {bv : List BT} {x : SumT (sg g)} (hp : F g = some p) (hk : p.kind = .loop) (h1 : tv.length = p.ins.length) (h2 : bv.length = p.bins.length)
  (h : runC (phi F G sg) F G p.code (mkST p.ins tv p.bins bv) (finL F G g p (sg g)) = some x) : Qbq F G (sg g) g tv bv = some x := by
 obtain ⟨oc, s, h3, h4⟩ := Qgm Qzw _ h
 rw [Qwy] at h3
 apply Qkd
 have e := E_eq (F := FA F) (G := GA G) g (tv.map toAV) (bv.map toBC)
 have hk' : p.er.kind = .loop := hk
 have h3' : Qam (E (FA F) (GA G)) (FA F) (GA G) p.er.code (Qfg p.er (mkS p.er.ins (tv.map toAV) p.er.bins (bv.map toBC))) = some (oc, toS s) := by
  have : Qfg p.er (mkS p.er.ins (tv.map toAV) p.er.bins (bv.map toBC)) = mkS p.er.ins (tv.map toAV) p.er.bins (bv.map toBC) := by unfold Qfg; rw [hk']
  rw [this]; exact h3
 have hl : (tv.map toAV).length = p.er.ins.length ∧ (bv.map toBC).length = p.er.bins.length ∧ Qgo p.er (tv.map toAV) (bv.map toBC) = true := by simp only [List.length_map]; exact ⟨h1, h2, by unfold Qgo; rw [hk']⟩
 simp only [Qqm hp, Qb] at e
 rw [Qdx (.inr (by rw [hk']; simp))] at e
 simp only [Qfz, hk', hl, and_self, if_true] at e
 rw [if_neg (by simp), h3'] at e
 simp only [Qb] at e
 unfold finL at h4
 split at h4
 ·split at h4
  ·rename_i hok
   rw [Qa] at h4
   obtain ⟨bv', a1, a2⟩ := h4
   obtain ⟨oc, o, b, a3, a4⟩ := Qgv a2
   refine ⟨oc, o, b, ?_, a4⟩
   rw [e]
   have b1 : Qaf (toS s) p.er.bins = some (bv'.map toBC) := Qex a1
   have b2 : ((p.er.ins.map (toS s).t).all (AV.okIn p.er.bins)) = true := by rw [Qmz, Qny]; exact hok
   simp only [if_pos b2, b1, Qb]
   rw [Qmz]
   exact a3
  ·cases h4
 ·rename_i hne
  split at h4
  ·rename_i hok
   rw [Qa] at h4
   obtain ⟨bv', a1, a2⟩ := h4
   refine ⟨oc, _, bv', ?_, a2⟩
   rw [e]
   have b1 : Qaf (toS s) p.er.bouts = some (bv'.map toBC) := Qex a1
   have b2 : ((p.er.outs.map (toS s).t).all (AV.okIn p.er.bouts)) = true := by rw [Qmz, Qny]; exact hok
   have b3 : (if ((p.er.outs.map (toS s).t).all (AV.okIn p.er.bouts)) = true then bnd (Qaf (toS s) p.er.bouts) fun bv' => some ((oc, p.er.outs.map (toS s).t, bv')) else none) = some (oc, (p.outs.map s.t).map toAV, bv'.map toBC) := by
    simp only [if_pos b2, b1, Qb]
    rw [Qmz]; rfl
   rw [← b3]
   cases oc with
   | norm => exact (hne rfl).elim
   | exit i => rfl
   | ret => rfl
  ·cases h4
theorem prim_le {g : Nat} {p : ProcT} {tv : List TV} {v : TV} {x : SumT (sg g)} (hp : F g = some p) (hk : p.kind = .prim) (h : p.pf (tv.map toAV) = some (toAV v)) (hx : decS (sg g) .ret [v] [] = some x) : Qbq F G (sg g) g tv [] = some x := by
 apply Qkd
 refine ⟨.ret, [v], [], ?_, hx⟩
 have e := E_eq (F := FA F) (G := GA G) g (tv.map toAV) []
 have hk' : p.er.kind = .prim := hk
 have h' : p.er.pf (tv.map toAV) = some (toAV v) := h
 simp only [Qqm hp, Qb] at e
 rw [Qdx (.inr (by rw [hk']; simp))] at e
 simp only [Qfz, hk', if_true, Qrf, h'] at e
 exact e
def Qhy : Sig := [⟨.ret, [.one], [], [.h .bool]⟩]
theorem Qzv {g : Nat} {tv : List TV} {x : Bool} (h : Qbq F G Qhy g tv [] = some x) : E (FA F) (GA G) g (tv.map toAV) [] = some (.ret, [.bool x], []) := by
 obtain ⟨oc, o, b, h1, h2⟩ := Qgv h
 have := Qnn (ρ := Oc × List TV × List BT) (fun a b c => some (a, b, c)) h2
 simp only [Qhy, Qpe] at this
 injection this with this
 simp only [Zm] at this
 obtain ⟨rfl, rfl, rfl⟩ := this
 exact h1
end Go.Tv
namespace Go.Tv
open Go Go.RowKit Go.Vs
def Le {α : Type} (x y : Option α) : Prop := ∀ r, x = some r → y = some r
variable {F : Nat → Option ProcT} {G : Nat → List TV} {sg : Nat → Sig}
theorem fn_le' {g : Nat} {p : ProcT} {sig : Sig} {tv : List TV} {bv : List BT} {x : SumT sig} (hs : sg g = sig) (hp : F g = some p) (hk : p.kind = .fn) (h1 : tv.length = p.ins.length) (h2 : bv.length = p.bins.length) (h3 : Qhp p tv bv = true) (h4 : p.two = false)
  (h : runC (phi F G sg) F G p.code (Qlf p (mkST p.ins tv p.bins bv)) (finT p sig) = some x) : Qbq F G sig g tv bv = some x := by
 subst hs; exact fn_le hp hk h1 h2 h3 h4 h
theorem loop_le' {g : Nat} {p : ProcT} {sig : Sig} {tv : List TV} {bv : List BT} {x : SumT sig} (hs : sg g = sig) (hp : F g = some p) (hk : p.kind = .loop) (h1 : tv.length = p.ins.length) (h2 : bv.length = p.bins.length)
  (h : runC (phi F G sg) F G p.code (mkST p.ins tv p.bins bv) (finL F G g p sig) = some x) : Qbq F G sig g tv bv = some x := by
 subst hs; exact loop_le hp hk h1 h2 h
end Go.Tv
namespace Go.Tv
open Go Go.RowKit Go.Vs
abbrev wfI (n : Int) : Prop := -9223372036854775808 ≤ n ∧ n ≤ 9223372036854775807
def wfQ (q : Quad) : Prop := wfI q.op ∧ wfI q.dst ∧ wfI q.a ∧ wfI q.b ∧ wfI q.n
def wfE (q : Evt) : Prop := wfI q.task ∧ wfI q.kind ∧ wfI q.box ∧ wfI q.value
def wfBs (l : List Int) : Prop := ∀ n ∈ l, 0 ≤ n ∧ n ≤ 255
def Ok {α : Type} (x : Option α) (P : α → Prop) : Prop := ∃ a, x = some a ∧ P a
theorem Ok.of {α : Type} {a : α} {P : α → Prop} (h : P a) : Ok (some a) P := ⟨a, rfl, h⟩
theorem Ok.bnd {α β : Type} {x : Option α} {f : α → Option β} {P : α → Prop} {Q : β → Prop} (h : Ok x P) (hf : ∀ a, P a → Ok (f a) Q) : Ok (Vs.bnd x f) Q := by
 obtain ⟨a, rfl, h⟩ := h; exact hf a h
theorem Ok.mono {α : Type} {x : Option α} {P Q : α → Prop} (h : Ok x P) (hp : ∀ a, P a → Q a) : Ok x Q := by
 obtain ⟨a, rfl, h⟩ := h; exact ⟨a, rfl, hp a h⟩
theorem Ok.le {α : Type} {x y : Option α} {P : α → Prop} (hl : Tv.Le x y) (h : Ok x P) : Ok y P := by
 obtain ⟨a, h1, h2⟩ := h; exact ⟨a, hl a h1, h2⟩
theorem Ok.bif {α : Type} {b : Bool} {x y : Option α} {P : α → Prop} (hx : b = true → Ok x P) (hy : b = false → Ok y P) : Ok (cond b x y) P := by
 cases b
 ·exact hy rfl
 ·exact hx rfl
theorem Ok.some {α : Type} {x : Option α} {a : α} (h : Ok x (fun b => b = a)) : x = some a := by
 obtain ⟨b, h, rfl⟩ := h; exact h
theorem Ok.and {α : Type} {x : Option α} {P Q : α → Prop} (h : Ok x P) (h' : Ok x Q) : Ok x (fun a => P a ∧ Q a) := by
 obtain ⟨a, rfl, h⟩ := h
 obtain ⟨b, h1, h2⟩ := h'
 injection h1 with h1
 subst h1
 exact ⟨a, rfl, h, h2⟩
theorem Ok.geti {α : Type} {l : List α} {n : Int} (h0 : 0 ≤ n) (h1 : n < l.length) : Ok (geti l n) fun x => x ∈ l ∧ l[n.toNat]? = Option.some x := by
 have hl : n.toNat < l.length := by omega
 refine ⟨l[n.toNat], ?_, List.getElem_mem hl, List.getElem?_eq_getElem hl⟩
 simp [Tv.geti, h0, List.getElem?_eq_getElem hl]
theorem geti_nat' {α : Type} (l : List α) (n : Nat) : geti l (n : Int) = l[n]? := by simp [geti]
theorem wrap_id {n : Int} (h0 : -9223372036854775808 ≤ n) (h1 : n < 9223372036854775808) : wrap64 n = n := by unfold wrap64; omega
theorem cond_some {α : Type} (c : Bool) (x y : α) : (bif c then some x else some y) = some (bif c then x else y) := by cases c <;> rfl
theorem some_dec {b : Bool} {P : Prop} [Decidable P] (h : b = true ↔ P) : some b = some (decide P) := by
 have : b = decide P := by rw [Bool.eq_iff_iff, h, Ze]
 rw [this]
theorem cond_iff (c x y : Bool) : (bif c then x else y) = true ↔ if c = true then x = true else y = true := by cases c <;> simp
end Go.Tv
namespace Go.Tv
open Go Go.RowKit Go.Vs
variable {es es' : List Ent} {c c' : TC} {h h' : Option Nat} {l : List (Den c)} {n : Nat}
theorem Qkg (c : TC) (l : List (Den c)) : Qia c (l.map (Qe c)) = some l := by
 unfold Qia
 have hx : ∃ l' : List (Den c), l'.map (Qe c) = l.map (Qe c) := ⟨l, rfl⟩
 rw [dif_pos hx]
 exact congrArg _ (Qbw (Qff c) hx.choose_spec)
theorem Qrw (he : es[n]? = some (some (c.sz, l.map (Qe c)))) : Qai es c (some n) = some l := by
 simp only [Qai, Qbm, he, if_true, Qb, Qkg]
theorem Qax : Qai es c none = some [] := by
 show bnd (some []) (Qia c) = some []
 exact Qkg c []
theorem Qsy {x : List (Den c)} (hg : Qai es c (some n) = some x) : es[n]? = some (some (c.sz, x.map (Qe c))) := by
 have := Qbg hg
 simp only [Qbm] at this
 split at this
 ·rename_i sz xs hx
  split at this
  ·rename_i hs
   injection this with this
   rw [hx, hs, this]
  ·cases this
 ·cases this
theorem Qje {x : List (Den c)} (hg : Qai es c (some n) = some x) : n < es.length := (List.getElem?_eq_some_iff.1 (Qsy hg)).1
theorem Qhu (he : es'[n]? = es[n]?) : Qai es' c (some n) = Qai es c (some n) := by simp only [Qai, Qbm, he]
structure Ext (pp : Nat → Prop) (es es' : List Ent) : Prop where
 len : es.length ≤ es'.length
 same : ∀ n, n < es.length → ¬ pp n → es'[n]? = es[n]?
theorem Ext.refl (pp : Nat → Prop) (es : List Ent) : Ext pp es es := ⟨Nat.le_refl _, fun _ _ _ => rfl⟩
theorem Ext.trans {pp : Nat → Prop} {a b d : List Ent} (h1 : Ext pp a b) (h2 : Ext pp b d) : Ext pp a d :=
 ⟨Nat.le_trans h1.len h2.len, fun n hn hp => by rw [h2.same n (Nat.lt_of_lt_of_le hn h1.len) hp, h1.same n hn hp]⟩
theorem Ext.mono {pp Q : Nat → Prop} {a b : List Ent} (h : Ext pp a b) (hp : ∀ n, n < a.length → pp n → Q n) : Ext Q a b := ⟨h.len, fun n hn hq => h.same n hn fun h' => hq (hp n hn h')⟩
theorem Ext.get {pp : Nat → Prop} {a b : List Ent} (h : Ext pp a b) {x : List (Den c)} (hg : Qai a c (some n) = some x) (hp : ¬ pp n) : Qai b c (some n) = some x := by
 rw [Qhu (h.same n (Qje hg) hp), hg]
theorem Ext.getO {pp : Nat → Prop} {a b : List Ent} (h : Ext pp a b) {x : List (Den c)} (hg : Qai a c h' = some x) (hp : ∀ n, h' = some n → ¬ pp n) : Qai b c h' = some x := by
 cases h' with
 | none => rw [Qax] at hg ⊢; exact hg
 | some n => exact h.get hg (hp n rfl)
abbrev Ext0 (es es' : List Ent) : Prop := Ext (fun _ => False) es es'
theorem Qdc : (Qaj es c l).length = es.length + 1 := by simp [Qaj]
theorem Qak : (killO es h).length = es.length := by cases h <;> simp [killO]
theorem length_set {x : Den c} {i : Nat} : (Qhv es c h i x).length = es.length := by
 unfold Qhv
 cases h <;> simp [setO]
theorem Qiu : (Qaj es c l)[es.length]? = some (some (c.sz, l.map (Qe c))) := by simp [Qaj]
theorem Qfc (hn : n < es.length) : (Qaj es c l)[n]? = es[n]? := by simp [Qaj, List.getElem?_append_left hn]
theorem Qcc : Qai (Qaj es c l) c (some es.length) = some l := Qrw Qiu
theorem Qjl (pp : Nat → Prop) : Ext pp es (Qaj es c l) := ⟨by rw [Qdc]; omega, fun n hn _ => Qfc hn⟩
theorem Qvy {pp : Nat → Prop} (hp : ∀ n, h = some n → pp n) : Ext pp es (killO es h) := by
 refine ⟨by rw [Qak]; exact Nat.le_refl _, fun n hn hq => ?_⟩
 cases h with
 | none => rfl
 | some id =>
  show (es.set id none)[n]? = es[n]?
  rw [List.getElem?_set_ne]
  intro hh
  subst hh
  exact hq (hp _ rfl)
theorem Qng {ys : List (Den c)} (hg : Qai es c h = some l) (hle : n + ys.length ≤ 4294967296) : Qnf es c h n ys = some (Qaj (killO es h) c (l ++ ys)) := by
 unfold Qnf
 rw [if_pos hle, hg]; rfl
theorem Qxf {i : Int} (hg : Qai es c h = some l) (h0 : 0 ≤ i) (hi : i ≤ n) : Qur es c h n i = some (i.toNat, Qaj (killO es h) c (l.take i.toNat)) := by
 unfold Qur
 rw [if_pos ⟨h0, hi⟩, hg]; rfl
structure New (pp : Nat → Prop) (es es' : List Ent) (c : TC) (l : List (Den c)) : Prop where
 get : Qai es' c (some es.length) = some l
 ext : Ext pp es es'
 len : es'.length = es.length + 1
theorem Qry {i : Nat} {x : Den c} (hg : Qai es c h = some l) (hx : l[i]? = some x) : Qlo es c h i = some x := by unfold Qlo; rw [hg]; exact hx
theorem Qjt {i : Nat} {x : Den c} (hg : Qai es c (some n) = some l) : Qai (Qhv es c (some n) i x) c (some n) = some (l.set i x) := by
 have h1 := Qbg hg
 apply Qrw
 have hn := Qje hg
 unfold Qhv setO
 rw [h1]
 simp [List.getElem?_set, hn, List.map_set]
theorem Qus {pp : Nat → Prop} {i : Nat} {x : Den c} (hp : ∀ n, h = some n → pp n) : Ext pp es (Qhv es c h i x) := by
 refine ⟨by rw [length_set]; exact Nat.le_refl _, fun n hn hq => ?_⟩
 cases h with
 | none => rfl
 | some id =>
  show (es.set id _)[n]? = es[n]?
  rw [List.getElem?_set_ne]
  intro hh
  subst hh
  exact hq (hp _ rfl)
structure Grow (A B : List Ent) : Prop where
 ext : Ext0 A B
 flat : ∀ (n : Nat) x, A.length ≤ n → B[n]? = some x → Qkl x = true
theorem Grow.refl (A : List Ent) : Grow A A := ⟨Ext.refl _ _, fun n x hn hx => by
 rw [List.getElem?_eq_none hn] at hx; cases hx⟩
theorem Grow.trans {A B D : List Ent} (h1 : Grow A B) (h2 : Grow B D) : Grow A D := by
 refine ⟨h1.ext.trans h2.ext, fun n x hn hx => ?_⟩
 by_cases hb : B.length ≤ n
 ·exact h2.flat n x hb hx
 ·rw [h2.ext.same n (by omega) (fun h => h)] at hx
  exact h1.flat n x hn hx
def Qpj (c : TC) : Prop := ∀ x : Den c, Qdw (Qe c x) = true
theorem Qvs (hf : Qpj c) : Qkl (some (c.sz, l.map (Qe c))) = true := by
 show (l.map (Qe c)).all Qdw = true
 rw [List.all_map, List.all_eq_true]
 exact fun x _ => hf x
theorem Grow.push {A B : List Ent} (h : Grow A B) (hf : Qpj c) : Grow A (Qaj B c l) := by
 refine ⟨h.ext.trans (Qjl _), fun n x hn hx => ?_⟩
 by_cases hb : n < B.length
 ·rw [Qfc hb] at hx; exact h.flat n x hn hx
 ·have hlt := (List.getElem?_eq_some_iff.1 hx).1
  rw [Qdc] at hlt
  obtain rfl : n = B.length := by omega
  rw [Qiu] at hx
  injection hx with hx
  subst hx
  exact Qvs hf
theorem Grow.set {A B : List Ent} (h : Grow A B) {n : Nat} (hn : A.length ≤ n) {y : Ent} (hy : Qkl y = true) : Grow A (B.set n y) := by
 refine ⟨⟨by simp only [List.length_set]; exact h.ext.len, fun m hm hp => ?_⟩, fun m x hm hx => ?_⟩
 ·rw [List.getElem?_set_ne (by omega)]; exact h.ext.same m hm hp
 ·rw [List.getElem?_set] at hx
  split at hx
  ·split at hx
   ·injection hx with hx; subst hx; exact hy
   ·cases hx
  ·exact h.flat m x hm hx
theorem Grow.killO {A B : List Ent} (h : Grow A B) (hp : ∀ n, h' = some n → A.length ≤ n) : Grow A (killO B h') := by
 cases h' with
 | none => exact h
 | some n => exact h.set (hp n rfl) rfl
structure Made (c : TC) (A : List Ent) (l : List (Den c)) (h : Hd) (B : List Ent) : Prop where
 id : ∀ n, h.id = some n → A.length ≤ n
 get : Qai B c h.id = some l
 cnt : h.n = l.length
 grow : Grow A B
theorem Made.push {A B : List Ent} (hg : Grow A B) (hf : Qpj c) : Made c A l ⟨some B.length, l.length⟩ (Qaj B c l) :=
 ⟨fun n hn => by injection hn with hn; subst hn; exact hg.ext.len, Qcc, rfl, hg.push hf⟩
theorem Made.nil {A B : List Ent} (hg : Grow A B) : Made c A [] ⟨none, 0⟩ B := ⟨fun n hn => (by cases hn), Qax, rfl, hg⟩
theorem Made.app {A B : List Ent} {h : Hd} {ys : List (Den c)} (hm : Made c A l h B) (hf : Qpj c) (hle : h.n + ys.length ≤ 4294967296) : Ok (Qnf B c h.id h.n ys) fun B' => Made c A (l ++ ys) ⟨some B.length, h.n + ys.length⟩ B' ∧ B.length ≤ B'.length := by
 refine ⟨_, Qng hm.get hle, ⟨fun n hn => ?_, ?_, ?_, (hm.grow.killO hm.id).push hf⟩, by rw [Qdc, Qak]; omega⟩
 ·injection hn with hn; subst hn; exact hm.grow.ext.len
 ·have := Qcc (es := killO B h.id) (l := l ++ ys)
  rw [Qak] at this; exact this
 ·rw [Za, ← hm.cnt]
theorem Made.set {A B : List Ent} {h : Hd} {i : Nat} {x : Den c} (hm : Made c A l h B) (hf : Qpj c) : Made c A (l.set i x) h (Qhv B c h.id i x) := by
 obtain ⟨id, n⟩ := h
 cases id with
 | none =>
  have h0 := hm.get
  rw [Qax] at h0
  injection h0 with h0
  subst h0
  exact hm
 | some k =>
  refine ⟨hm.id, Qjt hm.get, by rw [List.length_set]; exact hm.cnt, ?_⟩
  show Grow A (B.set k _)
  refine hm.grow.set (hm.id k rfl) ?_
  have h1 := Qbg hm.get
  rw [h1]
  show ((l.map (Qe c)).set i (Qe c x)).all Qdw = true
  rw [← List.map_set, List.all_map, List.all_eq_true]
  exact fun x _ => hf x
theorem Made.row {A B : List Ent} {h : Hd} {i : Nat} {x : Den c} (hm : Made c A l h B) (hx : l[i]? = some x) : Qlo B c h.id i = some x := Qry hm.get hx
theorem Grow.join {A B : List Ent} (h : Grow (Vs.Qec A) B) : Ok (Qot A B) fun B' => Grow A B' ∧ B'.length = B.length ∧ ∀ n : Nat, A.length ≤ n → B'[n]? = B[n]? := by
 have hl : (Vs.Qec A).length = A.length := by simp [Vs.Qec]
 have hlen := h.ext.len
 rw [hl] at hlen
 have hdrop : ∀ n : Nat, A.length ≤ n → (A ++ B.drop A.length)[n]? = B[n]? := fun n hn => by
  rw [List.getElem?_append_right hn, List.getElem?_drop, show A.length + (n - A.length) = n by omega]
 refine ⟨A ++ B.drop A.length, ?_, ⟨⟨by simp, fun n hn _ => List.getElem?_append_left hn⟩, fun n x hn hx => ?_⟩, by simp; omega, hdrop⟩
 ·unfold Qot
  rw [if_pos]
  refine ⟨?_, hlen⟩
  rw [List.all_eq_true]
  intro x hx
  obtain ⟨j, hj⟩ := List.getElem?_of_mem hx
  rw [List.getElem?_drop] at hj
  exact h.flat _ x (by rw [hl]; omega) hj
 ·rw [hdrop n hn] at hx
  exact h.flat n x (by rw [hl]; exact hn) hx
theorem Qqn {A B B' : List Ent} (hs : ∀ n : Nat, A.length ≤ n → B'[n]? = B[n]?) {h : Option Nat} (hp : ∀ n, h = some n → A.length ≤ n) : Qai B' c h = Qai B c h := by
 cases h with
 | none => simp only [Qai, Qbm]
 | some n => exact Qhu (hs n (hp n rfl))
theorem Made.join {A B : List Ent} {h : Hd} (hm : Made c (Vs.Qec A) l h B) : Ok (Qot A B) fun B' => Made c A l h B' := by
 have hl : (Vs.Qec A).length = A.length := by simp [Vs.Qec]
 have hid : ∀ n, h.id = some n → A.length ≤ n := fun n hn => by have := hm.id n hn; rw [hl] at this; exact this
 refine hm.grow.join.mono fun B' ⟨h1, h2, h3⟩ => ⟨hid, ?_, hm.cnt, h1⟩
 rw [Qqn h3 hid]; exact hm.get
structure Got (c : TC) (A : List Ent) (l : List (Den c)) (h : Hd) (B : List Ent) : Prop where
 id : ∀ n, h.id = some n → A.length ≤ n
 get : Qai B c h.id = some l
 cnt : h.n = l.length
 ext : Ext0 A B
theorem Got.push {A B : List Ent} (hx : Ext0 A B) : Got c A l ⟨some B.length, l.length⟩ (Qaj B c l) :=
 ⟨fun n hn => by injection hn with hn; subst hn; exact hx.len, Qcc, rfl, hx.trans (Qjl _)⟩
theorem Got.nil {A B : List Ent} (hx : Ext0 A B) : Got c A [] ⟨none, 0⟩ B := ⟨fun n hn => (by cases hn), Qax, rfl, hx⟩
theorem Qmh {A B : List Ent} (hx : Ext0 A B) (hp : ∀ n, h' = some n → A.length ≤ n) : Ext0 A (killO B h') := by
 refine ⟨by rw [Qak]; exact hx.len, fun n hn hq => ?_⟩
 have := (Qvy (es := B) (h := h') (pp := fun n => A.length ≤ n) hp).same n (Nat.lt_of_lt_of_le hn hx.len) (by omega)
 rw [this]; exact hx.same n hn hq
theorem Got.app {A B : List Ent} {h : Hd} {ys : List (Den c)} (hm : Got c A l h B) (hle : h.n + ys.length ≤ 4294967296) : Ok (Qnf B c h.id h.n ys) fun B' => Got c A (l ++ ys) ⟨some B.length, h.n + ys.length⟩ B' ∧ B'.length = B.length + 1 := by
 refine ⟨_, Qng hm.get hle, ⟨fun n hn => ?_, ?_, ?_, (Qmh hm.ext hm.id).trans (Qjl _)⟩, by rw [Qdc, Qak]⟩
 ·injection hn with hn; subst hn; exact hm.ext.len
 ·have := Qcc (es := killO B h.id) (l := l ++ ys)
  rw [Qak] at this; exact this
 ·rw [Za, ← hm.cnt]
theorem Got.cut {A B : List Ent} {h : Hd} {i : Int} (hm : Got c A l h B) (h0 : 0 ≤ i) (hi : i ≤ h.n) : Ok (Qur B c h.id h.n i) fun q => Got c A (l.take i.toNat) ⟨some B.length, q.1⟩ q.2 ∧ q.2.length = B.length + 1 := by
 refine ⟨_, Qxf hm.get h0 hi, ⟨fun n hn => ?_, ?_, ?_, (Qmh hm.ext hm.id).trans (Qjl _)⟩, by rw [Qdc, Qak]⟩
 ·injection hn with hn; subst hn; exact hm.ext.len
 ·have := Qcc (es := killO B h.id) (l := l.take i.toNat)
  rw [Qak] at this; exact this
 ·rw [List.length_take, ← hm.cnt]; show i.toNat = min i.toNat h.n; omega
theorem Got.set {A B : List Ent} {h : Hd} {i : Nat} {x : Den c} (hm : Got c A l h B) : Got c A (l.set i x) h (Qhv B c h.id i x) := by
 obtain ⟨id, n⟩ := h
 cases id with
 | none =>
  have h0 := hm.get
  rw [Qax] at h0
  injection h0 with h0
  subst h0
  exact hm
 | some k =>
  refine ⟨hm.id, Qjt hm.get, by rw [List.length_set]; exact hm.cnt, ⟨by rw [length_set]; exact hm.ext.len, fun m hm' hp => ?_⟩⟩
  have := (Qus (es := B) (c := c) (h := some k) (i := i) (x := x) (pp := fun n => A.length ≤ n) (fun n hn => hm.id n hn)).same m (Nat.lt_of_lt_of_le hm' hm.ext.len) (by omega)
  rw [this]; exact hm.ext.same m hm' hp
theorem Got.row {A B : List Ent} {h : Hd} {i : Nat} {x : Den c} (hm : Got c A l h B) (hx : l[i]? = some x) : Qlo B c h.id i = some x := Qry hm.get hx
theorem Got.keep {A B D : List Ent} {h : Hd} (hm : Got c A l h B) (hx : Ext0 B D) : Got c A l h D := ⟨hm.id, hx.getO hm.get (fun _ _ h => h), hm.cnt, hm.ext.trans hx⟩
theorem Got.base {A B D : List Ent} {h : Hd} (hm : Got c B l h D) (hx : Ext0 A B) : Got c A l h D := ⟨fun n hn => Nat.le_trans hx.len (hm.id n hn), hm.get, hm.cnt, hx.trans hm.ext⟩
theorem Got.lt {A B : List Ent} {h : Hd} (hm : Got c A l h B) : ∀ n, h.id = some n → n < B.length := fun n hn => Qje (by have := hm.get; rw [hn] at this; exact this)
theorem Got.stay {pp : Nat → Prop} {A B D : List Ent} {h : Hd} (hm : Got c A l h B) (hx : Ext pp B D) (hA : Ext0 A D) (hp : ∀ n, h.id = some n → ¬ pp n) : Got c A l h D := ⟨hm.id, hx.getO hm.get hp, hm.cnt, hA⟩
def Ok2 {α : Type} (x y : Option α) (P : α → Prop) : Prop := ∃ a, x = some a ∧ y = some a ∧ P a
theorem Ok2.both {α : Type} {x y : Option α} {P : α → Prop} (h : Ok2 x y P) : Ok (Vs.both x y) P := by
 obtain ⟨a, h1, h2, h3⟩ := h
 exact ⟨a, Vs.Qhz.2 ⟨h1, h2⟩, h3⟩
theorem Ok2.same {α : Type} {x : Option α} {P : α → Prop} (h : Ok x P) : Ok2 x x P := by
 obtain ⟨a, h1, h3⟩ := h
 exact ⟨a, h1, h1, h3⟩
theorem Ok2.bnd {α β : Type} {x : Option α} {f g : α → Option β} {P : α → Prop} {Q : β → Prop} (h : Ok x P) (hf : ∀ a, P a → Ok2 (f a) (g a) Q) : Ok2 (Vs.bnd x f) (Vs.bnd x g) Q := by
 obtain ⟨a, rfl, h⟩ := h; exact hf a h
theorem Ok2.bif {α : Type} {b : Bool} {x y x' y' : Option α} {P : α → Prop} (hx : b = true → Ok2 x x' P) (hy : b = false → Ok2 y y' P) : Ok2 (cond b x y) (cond b x' y') P := by
 cases b
 ·exact hy rfl
 ·exact hx rfl
theorem Ok2.of {α : Type} {x y : Option α} {P : α → Prop} (a : α) (h1 : Ok x fun b => b = a) (h2 : Ok y fun b => b = a) (h : P a) : Ok2 x y P := ⟨a, h1.some, h2.some, h⟩
end Go.Tv