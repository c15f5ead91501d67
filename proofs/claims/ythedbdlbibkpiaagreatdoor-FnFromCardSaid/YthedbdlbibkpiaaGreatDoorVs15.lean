/- Which operation of the machine stands for which plain one; and that they agree. -/
import Derived.Test.YthedbdlbibkpiaaGreatDoorVs14
set_option linter.unusedVariables false
namespace Go.Vs
open Go Go.RowKit

def isSl (P : Program) (t : TypeId) : Option TypeId := match P.underlying t with | some (.slice el) => some el | _ => none
theorem isSl_spec {P : Program} {t el : TypeId} (h : isSl P t = some el) : P.underlying t = some (.slice el) := by
  unfold isSl at h
  split at h
  · injection h with h; subst h; assumption
  · cases h
def isArr (P : Program) (t : TypeId) : Option (Nat × TypeId) := match P.underlying t with | some (.array n el) => some (n, el) | _ => none
theorem isArr_spec {P : Program} {t el : TypeId} {n : Nat} (h : isArr P t = some (n, el)) : P.underlying t = some (.array n el) := by
  unfold isArr at h
  split at h
  · injection h with h; injection h with h1 h2; subst h1 h2; assumption
  · cases h
def isStr (P : Program) (t : TypeId) : Bool := match P.underlying t with | some .string => true | _ => false
theorem isStr_spec {P : Program} {t : TypeId} (h : isStr P t = true) : P.underlying t = some .string := by
  unfold isStr at h
  split at h
  · assumption
  · cases h
def isBo (P : Program) (t : TypeId) : Bool := match P.underlying t with | some .bool => true | _ => false
theorem isBo_spec {P : Program} {t : TypeId} (h : isBo P t = true) : P.underlying t = some .bool := by
  unfold isBo at h
  split at h
  · assumption
  · cases h
def isInt (P : Program) (t : TypeId) (k : IntKind) : Bool := match P.underlying t with | some (.int k') => decide (k' = k) | _ => false
theorem isInt_spec {P : Program} {t : TypeId} {k : IntKind} (h : isInt P t k = true) : P.underlying t = some (.int k) := by
  unfold isInt at h
  split at h
  · rename_i k' hk; have := of_decide_eq_true h; rw [hk, this]
  · cases h

def okK (C : Ctx) : K → Op → Bool
  | .mv x, .move y => okO C x y
  | .mv x, .assign y => okO C x y
  | .pick c x y, .pick c' x' y' => okO C c c' && okO C x x' && okO C y y'
  | .alloc _ z, .alloc t => okZero C.P z t
  | .box _ x, .box _ y => okO C x y
  | .build z ps, .build t qs => okZero C.P z t && match placesOf C.P t with | some pl => okParts C pl ps qs.toList | none => false
  | .buildS _ sz ps, .buildSlice t len qs =>
    match isSl C.P t with
    | some el => match C.P.info? el with
      | some i => i.zero.isSome && i.size == sz && decide (0 < sz) && len == ps.length && decide (len * sz ≤ 2 ^ 24) && (qs.toList.map (·.1)) == List.range len && okOs C ps (qs.toList.map (·.2))
      | none => false
    | none => false
  | .load n agg _ x, .load t y => okO C x y && tsz C.P t == some n && rowT C.P t == some agg
  | .store n x v, .store t y z => okO C x y && okO C v z && tsz C.P t == some n && decide (0 < n)
  | .nilck x, .nilCheck y => okO C x y
  | .bin op x y, .binOp op' _ x' y' _ => decide (op = op') && okO C x x' && okO C y y'
  | .eqb neq x y, .binOp op' t x' y' _ => decide (op' = if neq then .neq else .eql) && isBo C.P t && okO C x x' && okO C y y'
  | .eqs neq n x y, .binOp op' t x' y' _ => decide (op' = if neq then .neq else .eql) && okEqs C.P t n && okO C x x' && okO C y y'
  | .un op x, .unOp op' _ y => decide (op = op') && okO C x y
  | .conv (.int k) x, .convert t u y => okO C x y && (C.P.underlying t).isSome && isInt C.P u k
  | .conv .strstr x, .convert t u y => okO C x y && (C.P.underlying t).isSome && isStr C.P u
  | .conv .runeStr x, .convert t u y => okO C x y && (C.P.underlying t).isSome && isStr C.P u
  | .mkfn g ps, .makeFunc (.func f) first qs => first.isEmpty && C.fid g == f && okOs C ps qs.toList
  | .mksl _ sz z n c, .makeSlice t n' c' =>
    match isSl C.P t with
    | some el => match C.P.info? el with
      | some i => i.size == sz && decide (0 < sz) && decide (i.bytes ≤ 32768) && okZero C.P z el && okO C n n' && okO C c c'
      | none => false
    | none => false
  | .slc sz x lo hi mx, .slice t y lo' hi' mx' => okO C x y && okOO C lo lo' && okOO C hi hi' && okOO C mx mx' && (match isSl C.P t with | some el => tsz C.P el == some sz | none => false)
  | .slcS x lo hi, .slice t y lo' hi' none => okO C x y && okOO C lo lo' && okOO C hi hi' && isStr C.P t
  | .fadr off x, .fieldAddr t y f => okO C x y && okField C.P t f off none none
  | .fld off n agg x, .field t y f => okO C x y && okField C.P t f off (some n) (some agg)
  | .iadr sz x i, .indexAddr t y j => okO C x y && okO C i j && (match isSl C.P t with | some el => tsz C.P el == some sz | none => false)
  | .iadrA sz len x i, .indexAddr t y j => okO C x y && okO C i j && (match isArr C.P t with | some (n, el) => n == len && tsz C.P el == some sz | none => false)
  | .idxS x i, .index t y j => okO C x y && okO C i j && isStr C.P t
  | .idxA sz len n agg x i, .index t y j => okO C x y && okO C i j && n == sz && (match isArr C.P t with | some (m, el) => m == len && tsz C.P el == some sz && rowT C.P el == some agg | none => false)
  | .len x, .call cl => (match cl.callee with | .builtin b => decide (b = .len) | _ => false) && (match cl.args, cl.argTypes with | ⟨[y]⟩, ⟨[t]⟩ => okO C x y && (isSl C.P t).isSome | _, _ => false)
  | .lenS x, .call cl => (match cl.callee with | .builtin b => decide (b = .len) | _ => false) && (match cl.args, cl.argTypes with | ⟨[y]⟩, ⟨[t]⟩ => okO C x y && isStr C.P t | _, _ => false)
  | .app sz x y, .call cl => (match cl.callee with | .builtin b => decide (b = .append) | _ => false) && (match cl.args, cl.argTypes with
    | ⟨[x', y']⟩, ⟨[t, u]⟩ => okO C x x' && okO C y y' && (isSl C.P u).isSome && (match isSl C.P t with
      | some el => match C.P.info? el with
        | some i => (match i.zero with | some z => z.cells.size == sz | none => false) && i.size == sz && decide (0 < sz) && decide (i.bytes ≤ 32768)
        | none => false
      | none => false)
    | _, _ => false)
  | .ext i x, .extract y j => i == j && okO C x y
  | .mx [x, y], .call cl => (match cl.callee with | .builtin b => decide (b = .max) | _ => false) && (match cl.args with | ⟨[x', y']⟩ => okO C x x' && okO C y y' | _ => false)
  | .mkz sz z n c, .makeSlice t n' c' =>
    match isSl C.P t with
    | some el => match C.P.info? el with
      | some i => i.size == sz && decide (0 < sz) && decide (i.bytes ≤ 32768) && okZero C.P z el && okO C n n' && okO C c c'
      | none => false
    | none => false
  | .conv .bytesStr x, .convert t u y => okO C x y && isStr C.P u && (match isSl C.P t with | some el => isInt C.P el .u8 | none => false)
  | .conv (.strBytes _) x, .convert t u y => okO C x y && isStr C.P t && (match isSl C.P u with | some el => isInt C.P el .u8 | none => false)
  | _, _ => false

section
variable {C : Ctx} {e : Env} {σ τ : Mem} {bm : Nat → Option Nat} {s s' : S} {a : Act} {w w' : World} {call : Call} {o : Oper} {c : AV}

theorem callee_spec {cl : Go.Call} {b : Builtin} (h : (match cl.callee with | .builtin b' => decide (b' = b) | _ => false) = true) : cl.callee = .builtin b := by
  split at h
  · rename_i b' hb; have := of_decide_eq_true h; rw [hb, this]
  · cases h

theorem op_sound {k : K} {op : Op} (hG : GOk C σ) (h : RelX C.fid e σ bm s a w) (ho : o.op = op) (hk : okK C k op = true) (hev : evalK call C.G s k = some (c, s')) : OpRes C e s' c a ((execOp a.eval o).run C.P w) := by
  unfold okK at hk
  split at hk
  case h_1 => exact op_mv hG h (.inl ho) hk hev
  case h_2 => exact op_mv hG h (.inr ho) hk hev
  case h_3 => simp only [Bool.and_eq_true] at hk; exact op_pick hG h ho hk.1.1 hk.1.2 hk.2 hev
  case h_4 => exact op_alloc h ho hk hev
  case h_5 => exact op_box hG h ho hk hev
  case h_6 =>
    simp only [Bool.and_eq_true] at hk
    obtain ⟨k1, k2⟩ := hk
    split at k2
    · rename_i pl hpl; exact op_build hG h ho k1 hpl k2 hev
    · cases k2
  case h_7 =>
    split at hk
    · rename_i el hel
      split at hk
      · rename_i i hi
        simp only [Bool.and_eq_true, beq_iff_eq, decide_eq_true_eq] at hk
        obtain ⟨⟨⟨⟨⟨⟨k1, k2⟩, k3⟩, k4⟩, k5⟩, k6⟩, k7⟩ := hk
        obtain ⟨z, hz⟩ := Option.isSome_iff_exists.1 k1
        exact op_buildS hG h ho (isSl_spec hel) hi hz k2 k3 k4 k5 k6 k7 hev
      · cases hk
    · cases hk
  case h_8 => simp only [Bool.and_eq_true, beq_iff_eq] at hk; exact op_load hG h ho hk.1.1 hk.1.2 hk.2 hev
  case h_9 => simp only [Bool.and_eq_true, beq_iff_eq, decide_eq_true_eq] at hk; exact op_store hG h ho hk.1.1.1 hk.1.1.2 hk.1.2 hk.2 hev
  case h_10 => exact op_nilck hG h ho hk hev
  case h_11 =>
    simp only [Bool.and_eq_true, decide_eq_true_eq] at hk
    obtain ⟨⟨rfl, k1⟩, k2⟩ := hk
    exact op_bin hG h ho k1 k2 hev
  case h_12 =>
    simp only [Bool.and_eq_true, decide_eq_true_eq] at hk
    obtain ⟨⟨⟨rfl, k1⟩, k2⟩, k3⟩ := hk
    exact op_eqb hG h ho k2 k3 (isBo_spec k1) hev
  case h_13 =>
    simp only [Bool.and_eq_true, decide_eq_true_eq] at hk
    obtain ⟨⟨⟨rfl, k1⟩, k2⟩, k3⟩ := hk
    exact op_eqs hG h ho k2 k3 k1 hev
  case h_14 =>
    simp only [Bool.and_eq_true, decide_eq_true_eq] at hk
    obtain ⟨rfl, k1⟩ := hk
    exact op_un hG h ho k1 hev
  case h_15 =>
    simp only [Bool.and_eq_true] at hk
    obtain ⟨d, hd⟩ := Option.isSome_iff_exists.1 hk.1.2
    exact op_convI hG h ho hk.1.1 hd (isInt_spec hk.2) hev
  case h_16 =>
    simp only [Bool.and_eq_true] at hk
    obtain ⟨d, hd⟩ := Option.isSome_iff_exists.1 hk.1.2
    exact op_convS hG h ho hk.1.1 hd (isStr_spec hk.2) hev
  case h_17 =>
    simp only [Bool.and_eq_true] at hk
    obtain ⟨d, hd⟩ := Option.isSome_iff_exists.1 hk.1.2
    exact op_convR hG h ho hk.1.1 hd (isStr_spec hk.2) hev
  case h_18 =>
    simp only [Bool.and_eq_true, beq_iff_eq] at hk
    obtain ⟨⟨k1, k2⟩, k3⟩ := hk
    rw [Array.isEmpty_iff] at k1
    subst k1
    exact op_mkfn hG h ho k2 k3 hev
  case h_19 =>
    split at hk
    · rename_i el hel
      split at hk
      · rename_i i hi
        simp only [Bool.and_eq_true, beq_iff_eq, decide_eq_true_eq] at hk
        obtain ⟨⟨⟨⟨⟨k1, k2⟩, k3⟩, k4⟩, k5⟩, k6⟩ := hk
        exact op_mksl hG h ho k5 k6 (isSl_spec hel) hi k1 k2 k3 k4 hev
      · cases hk
    · cases hk
  case h_20 =>
    simp only [Bool.and_eq_true] at hk
    obtain ⟨⟨⟨⟨k1, k2⟩, k3⟩, k4⟩, k5⟩ := hk
    split at k5
    · rename_i el hel; exact op_slc hG h ho k1 k2 k3 k4 (isSl_spec hel) (by simpa using k5) hev
    · cases k5
  case h_21 =>
    simp only [Bool.and_eq_true] at hk
    obtain ⟨⟨⟨k1, k2⟩, k3⟩, k4⟩ := hk
    exact op_slcS hG h ho k1 k2 k3 (isStr_spec k4) hev
  case h_22 => simp only [Bool.and_eq_true] at hk; exact op_fadr hG h ho hk.1 hk.2 hev
  case h_23 => simp only [Bool.and_eq_true] at hk; exact op_fld hG h ho hk.1 hk.2 hev
  case h_24 =>
    simp only [Bool.and_eq_true] at hk
    obtain ⟨⟨k1, k2⟩, k3⟩ := hk
    split at k3
    · rename_i el hel; exact op_iadr hG h ho k1 k2 (isSl_spec hel) (by simpa using k3) hev
    · cases k3
  case h_25 =>
    simp only [Bool.and_eq_true] at hk
    obtain ⟨⟨k1, k2⟩, k3⟩ := hk
    split at k3
    · rename_i n el hel
      simp only [Bool.and_eq_true, beq_iff_eq] at k3
      obtain ⟨rfl, k4⟩ := k3
      exact op_iadrA hG h ho k1 k2 (isArr_spec hel) k4 hev
    · cases k3
  case h_26 => simp only [Bool.and_eq_true] at hk; exact op_idxS hG h ho hk.1.1 hk.1.2 (isStr_spec hk.2) hev
  case h_27 =>
    simp only [Bool.and_eq_true, beq_iff_eq] at hk
    obtain ⟨⟨⟨k1, k2⟩, k0⟩, k3⟩ := hk
    split at k3
    · rename_i n el hel
      simp only [Bool.and_eq_true, beq_iff_eq] at k3
      obtain ⟨⟨rfl, k4⟩, k5⟩ := k3
      exact op_idxA hG h ho k1 k2 (isArr_spec hel) k4 k0 k5 hev
    · cases k3
  case h_28 =>
    simp only [Bool.and_eq_true] at hk
    obtain ⟨k1, k2⟩ := hk
    split at k2
    · rename_i y t ha ht
      simp only [Bool.and_eq_true] at k2
      obtain ⟨el, hel⟩ := Option.isSome_iff_exists.1 k2.2
      exact op_len hG h ho (callee_spec k1) ha ht k2.1 (isSl_spec hel) hev
    · cases k2
  case h_29 =>
    simp only [Bool.and_eq_true] at hk
    obtain ⟨k1, k2⟩ := hk
    split at k2
    · rename_i y t ha ht
      simp only [Bool.and_eq_true] at k2
      exact op_lenS hG h ho (callee_spec k1) ha ht k2.1 (isStr_spec k2.2) hev
    · cases k2
  case h_30 =>
    simp only [Bool.and_eq_true] at hk
    obtain ⟨k1, k2⟩ := hk
    split at k2
    · rename_i x' y' t u ha ht
      simp only [Bool.and_eq_true] at k2
      obtain ⟨⟨⟨j1, j2⟩, j3⟩, j4⟩ := k2
      obtain ⟨ul, hul⟩ := Option.isSome_iff_exists.1 j3
      split at j4
      · rename_i el hel
        split at j4
        · rename_i i hi
          simp only [Bool.and_eq_true, beq_iff_eq, decide_eq_true_eq] at j4
          obtain ⟨⟨⟨q1, q2⟩, q3⟩, q4⟩ := j4
          split at q1
          · rename_i z hz
            exact op_app hG h ho (callee_spec k1) ha ht j1 j2 (isSl_spec hel) (isSl_spec hul) hi hz q2 (by simpa using q1) q3 q4 hev
          · cases q1
        · cases j4
      · cases j4
    · cases k2
  case h_31 =>
    simp only [Bool.and_eq_true, beq_iff_eq] at hk
    obtain ⟨rfl, k1⟩ := hk
    exact op_ext hG h ho k1 hev
  case h_32 =>
    simp only [Bool.and_eq_true] at hk
    obtain ⟨k1, k2⟩ := hk
    split at k2
    · rename_i x' y' ha
      simp only [Bool.and_eq_true] at k2
      exact op_mx hG h ho (callee_spec k1) ha k2.1 k2.2 hev
    · cases k2
  case h_33 =>
    split at hk
    · rename_i el hel
      split at hk
      · rename_i i hi
        simp only [Bool.and_eq_true, beq_iff_eq, decide_eq_true_eq] at hk
        obtain ⟨⟨⟨⟨⟨k1, k2⟩, k3⟩, k4⟩, k5⟩, k6⟩ := hk
        exact op_mkz hG h ho k5 k6 (isSl_spec hel) hi k1 k2 k3 k4 hev
      · cases hk
    · cases hk
  case h_34 =>
    simp only [Bool.and_eq_true] at hk
    obtain ⟨⟨k1, k2⟩, k3⟩ := hk
    split at k3
    · rename_i el hel
      exact op_convB hG h ho k1 (isSl_spec hel) (isInt_spec k3) (isStr_spec k2) hev
    · cases k3
  case h_35 =>
    simp only [Bool.and_eq_true] at hk
    obtain ⟨⟨k1, k2⟩, k3⟩ := hk
    split at k3
    · rename_i el hel
      exact op_convT hG h ho k1 (isStr_spec k2) (isSl_spec hel) (isInt_spec k3) hev
    · cases k3
  case h_36 => cases hk
end
end Go.Vs
