/- What a typed value is as a plain one. -/
import Derived.Test.YthedbdlbibkpiaaGreatDoorTv1
set_option linter.unusedVariables false
set_option linter.unusedSimpArgs false
namespace Go.Tv
open Go Go.RowKit Go.Vs

theorem toAVs_eq (cs : List TV) : toAVs cs = cs.map toAV := by
  induction cs with
  | nil => rfl
  | cons c cs ih => simp [toAVs, ih]
theorem expsAV_eq (l : List Exp) : expsAV l = l.map expAV := by
  induction l with
  | nil => rfl
  | cons c cs ih => simp [expsAV, ih]
theorem stmsAV_eq (l : List Stm) : stmsAV l = l.map stmAV := by
  induction l with
  | nil => rfl
  | cons c cs ih => simp [stmsAV, ih]
theorem rowAV_exp : rowAV .exp = expAV := rfl
theorem rowAV_stm : rowAV .stm = stmAV := rfl
theorem toAV_sl (m : Md) (c : TC) (l : List (Den c)) : toAV (.sl m c l) = .sl m.sm c.sz (l.map (rowAV c)) := by simp only [toAV]
theorem toAV_ints (l : List Int) : toAV (.sl .share .int l) = intsAV l := by simp only [toAV, intsAV]; rfl
theorem toAV_exps (l : List Exp) : toAV (.sl .share .exp l) = .sl .share 3 (expsAV l) := by rw [expsAV_eq]; simp only [toAV]; rfl
theorem toAV_stms (l : List Stm) : toAV (.sl .share .stm l) = .sl .share 8 (stmsAV l) := by rw [stmsAV_eq]; simp only [toAV]; rfl
theorem rowAV_int : rowAV .int = fun n => [.int .i64 n] := rfl
theorem rowAV_bool : rowAV .bool = fun n => [.bool n] := rfl
theorem rowAV_bx : rowAV .bx = bxAV := rfl
theorem rowAV_tk : rowAV .tk = tkAV := rfl
theorem rowAV_stms : rowAV .stms = fun l => [.sl .share 8 (stmsAV l)] := rfl
theorem rowAV_ints : rowAV .ints = fun l => [intsAV l] := rfl
theorem rowT_av : ∀ (c : TC) (x : Den c), (rowT c x).map toAV = rowAV c x
  | .int, n | .u8, n | .bool, n | .str, n | .quad, n | .event, n => by simp [rowT, rowAV, toAV]
  | .exp, e => by cases e; simp only [rowT, rowAV, expAV, List.map_cons, List.map_nil, toAV_sl, toAV, expsAV_eq, rowAV_exp]; rfl
  | .stm, e => by cases e; simp only [rowT, rowAV, stmAV, List.map_cons, List.map_nil, toAV_sl, toAV, expsAV_eq, stmsAV_eq, rowAV_exp, rowAV_stm]; rfl
  | .stms, l => by simp only [rowT, rowAV, List.map_cons, List.map_nil, toAV_sl, stmsAV_eq, rowAV_stm]; rfl
  | .bx, b => by simp only [rowT, rowAV, bxAV, intsAV, List.map_cons, List.map_nil, toAV_sl, toAV, rowAV_int]; rfl
  | .tk, b => by simp only [rowT, rowAV, tkAV, intsAV, List.map_cons, List.map_nil, toAV_sl, toAV, rowAV_int, stmsAV_eq, rowAV_stm]; rfl
  | .ints, b => by simp only [rowT, rowAV, intsAV, List.map_cons, List.map_nil, toAV_sl, rowAV_int]; rfl
  | .rg, b => by simp only [rowT, rowAV, intsAV, List.map_cons, List.map_nil, toAV_sl, toAV, rowAV_int]; rfl
  | .prg, b => by simp only [rowT, rowAV, intsAV, List.map_cons, List.map_nil, toAV_sl, toAV, rowAV_int, rowAV_stms]; rfl
  | .wld, b => by simp only [rowT, rowAV, intsAV, List.map_cons, List.map_nil, toAV_sl, toAV, rowAV_int, rowAV_tk, rowAV_bx]; rfl
  | .otc, b => by simp only [rowT, rowAV, intsAV, List.map_cons, List.map_nil, toAV_sl, toAV, rowAV_int, rowAV_ints, rowAV_bool]; rfl
  | .fn, g => by simp [rowT, rowAV, toAV, toAVs]
theorem rowT_len : ∀ (c : TC) (x : Den c), (rowT c x).length = c.sz
  | .int, _ | .u8, _ | .bool, _ | .str, _ | .quad, _ | .event, _ | .exp, _ | .stm, _ | .stms, _ | .bx, _ | .tk, _ | .ints, _ | .rg, _ | .prg, _ | .wld, _ | .otc, _ | .fn, _ => rfl
theorem rowAV_len (c : TC) (x : Den c) : (rowAV c x).length = c.sz := by rw [← rowT_av, List.length_map, rowT_len]
theorem rowT_one : ∀ (c : TC) (x : Den c), (rowT c x).all TV.one = true
  | .int, _ | .u8, _ | .bool, _ | .str, _ | .quad, _ | .event, _ | .exp, _ | .stm, _ | .stms, _ | .bx, _ | .tk, _ | .ints, _ | .rg, _ | .prg, _ | .wld, _ | .otc, _ | .fn, _ => rfl
theorem castD_is {c c' : TC} {l : List (Den c)} {l' : List (Den c')} (h : castD c c' l = some l') : ∃ e : c = c', e ▸ l = l' := by
  unfold castD at h
  split at h
  · rename_i e; injection h with h; exact ⟨e, h⟩
  · cases h
/-- A row that is made out of cells has these cells. -/
theorem decRow_is {c : TC} {cs : List TV} {x : Den c} (h : decRow c cs = some x) : cs = rowT c x := by
  unfold decRow at h
  split at h <;> first
    | (cases h; done)
    | (injection h with h; subst h; rfl)
    | (simp only [bnd_is] at h
       obtain ⟨a, h1, h2⟩ := h
       obtain ⟨rfl, rfl⟩ := castD_is h1
       injection h2 with h2; subst h2; rfl)
    | (obtain ⟨rfl, rfl⟩ := castD_is h; rfl)
    | (simp only [bnd_is] at h
       obtain ⟨a, h1, b, h2, h3⟩ := h
       obtain ⟨rfl, rfl⟩ := castD_is h1
       obtain ⟨rfl, rfl⟩ := castD_is h2
       injection h3 with h3; subst h3; rfl)
    | (simp only [bnd_is] at h
       obtain ⟨a, h1, b, h2, c, h3, h4⟩ := h
       obtain ⟨rfl, rfl⟩ := castD_is h1
       obtain ⟨rfl, rfl⟩ := castD_is h2
       obtain ⟨rfl, rfl⟩ := castD_is h3
       injection h4 with h4; subst h4; rfl)

theorem av_dem (v : TV) : (toAV v).dem = toAV v.dem := by
  cases v with
  | sl m c l =>
    cases m with
    | share => simp [toAV, TV.dem, AV.dem, Md.dem, Md.sm]
    | full => simp [toAV, TV.dem, AV.dem, Md.dem, Md.sm]
    | own b => cases b <;> simp [toAV, TV.dem, AV.dem, Md.dem, Md.sm]
  | _ => simp [toAV, TV.dem, AV.dem]
theorem av_shr (v : TV) : (toAV v).share = toAV v.shr := by cases v <;> simp [toAV, TV.shr, AV.share, Md.sm]
theorem av_tip (v : TV) : (toAV v).toTip = toAV v.toTip := by
  cases v with
  | sl m c l =>
    cases m with
    | share => simp [toAV, TV.toTip, AV.toTip, Md.sm]
    | full => simp [toAV, TV.toTip, AV.toTip, Md.sm]
    | own b => cases b <;> simp [toAV, TV.toTip, AV.toTip, Md.sm]
  | _ => simp [toAV, TV.toTip, AV.toTip]
theorem av_cells (v : TV) : (toAV v).cells = v.cells.map toAV := by cases v <;> simp [toAV, TV.cells, AV.cells, toAVs_eq]
theorem map_dem (cs : List TV) : (cs.map toAV).map AV.dem = (cs.map TV.dem).map toAV := by simp [av_dem]
theorem map_shr (cs : List TV) : (cs.map toAV).map AV.share = (cs.map TV.shr).map toAV := by simp [av_shr]
theorem av_scells (v : TV) : (toAV v).scells = v.scells.map toAV := by cases v <;> simp [toAV, TV.scells, AV.scells, toAVs_eq, av_dem]
theorem av_one (v : TV) : (toAV v).one = v.one := by cases v <;> simp [toAV, TV.one, AV.one]
theorem map_one (cs : List TV) : (cs.map toAV).all AV.one = cs.all TV.one := by simp [List.all_map, Function.comp_def, av_one]
theorem av_isP (v : TV) : (toAV v).isP = v.isP := by cases v <;> simp [toAV, TV.isP, AV.isP]
theorem av_okIn (bins : List Nat) (v : TV) : (toAV v).okIn bins = v.okIn bins := by cases v <;> simp [toAV, TV.okIn, AV.okIn]
theorem av_arg (v : TV) : (match toAV v with | .agg cs => .agg (cs.map AV.share) | v => v.share) = toAV (argV v) := by
  cases v with
  | agg cs => simp only [toAV, argV, toAVs_eq, map_shr]
  | _ => simp only [toAV, argV, AV.share, TV.shr, Md.sm]
theorem av_part (n : Nat) (agg : Bool) (cs : List TV) (off : Nat) : Vs.part n agg (cs.map toAV) off = (partT n agg cs off).map toAV := by
  unfold Vs.part partT
  cases agg
  · simp only [Bool.false_eq_true, if_false]
    split
    · rw [List.getElem?_map]; cases cs[off]? <;> simp [av_dem]
    · rfl
  · simp only [if_true, List.length_map]
    split
    · have : (AV.dem ∘ toAV) = (toAV ∘ TV.dem) := by funext v; exact av_dem v
      simp [toAV, toAVs_eq, List.map_take, List.map_drop, this]
    · rfl
theorem av_over (cs : List TV) (off : Nat) (vs : List TV) : Vs.over (cs.map toAV) off (vs.map toAV) = (overT cs off vs).map (List.map toAV) := by
  unfold Vs.over overT
  simp only [List.length_map]
  split
  · simp [List.map_take, List.map_drop]
  · rfl
theorem av_fill : ∀ (ps : List (Nat × Nat × TV)) (cs : List TV), fillP (cs.map toAV) (ps.map fun p => (p.1, p.2.1, toAV p.2.2)) = (fillT cs ps).map (List.map toAV)
  | [], cs => by simp [fillP, fillT]
  | (off, n, v) :: r, cs => by
    simp only [List.map_cons, fillP, fillT, av_cells, List.length_map, map_one, map_dem, av_over]
    split
    · cases overT cs off (v.cells.map TV.dem) with
      | none => rfl
      | some cs' => simp only [Option.map_some, bnd_some]; exact av_fill r cs'
    · rfl
theorem av_eqInts : ∀ (a b : List TV), eqInts (a.map toAV) (b.map toAV) = eqIntsT a b
  | [], [] => rfl
  | [], b :: bs => by cases b <;> rfl
  | a :: as, [] => by cases a <;> rfl
  | a :: as, b :: bs => by
    cases a <;> cases b <;> simp only [List.map_cons, toAV, eqInts, eqIntsT, av_eqInts as bs]
theorem av_asInts : ∀ (a : List TV), asInts (a.map toAV) = intsOf a
  | [] => rfl
  | a :: as => by
    cases a with
    | int k n => cases k <;> simp [toAV, asInts, intsOf, av_asInts as]
    | _ => simp [toAV, asInts, intsOf]
theorem strsOf_is : ∀ {cs : List TV} {l : List (List UInt8)}, strsOf cs = some l → cs = l.map .str
  | [], l, h => by simp [strsOf] at h; subst h; rfl
  | c :: cs, l, h => by
    cases c <;> simp [strsOf] at h
    rw [bnd_is] at h
    obtain ⟨a, h1, h2⟩ := h
    injection h2 with h2
    subst h2
    rw [strsOf_is h1]; rfl
theorem av_bytes (l : List Int) : bytesOfRows (l.map fun n => [.int .u8 n]) = some (bytes l) := by
  induction l with
  | nil => rfl
  | cons n l ih => simp [bytesOfRows, bytes] at ih ⊢; rw [ih]; rfl

theorem rowT_share : ∀ (c : TC) (x : Den c), (rowT c x).map TV.shr = rowT c x
  | .int, _ | .u8, _ | .bool, _ | .str, _ | .quad, _ | .event, _ | .exp, _ | .stm, _ | .stms, _ | .bx, _ | .tk, _ | .ints, _ | .rg, _ | .prg, _ | .wld, _ | .otc, _ | .fn, _ => rfl
theorem rowAV_share (c : TC) (x : Den c) : (rowAV c x).map AV.share = rowAV c x := by rw [← rowT_av, map_shr, rowT_share]

/-! ### States -/
def toS (s : TS) : S := { t := fun j => toAV (s.t j), b := fun j => (s.b j).map toBC, seen := s.seen }
def GA (G : Nat → List TV) : Nat → List AV := fun i => toAVs (G i)
theorem toS_b (s : TS) (b : Nat) : (toS s).b b = (s.b b).map toBC := rfl
theorem map_upd {α β : Type} (g : α → β) (f : Nat → α) (i : Nat) (v : α) : (fun j => g (upd f i v j)) = upd (fun j => g (f j)) i (g v) := by
  funext j; unfold upd; split <;> rfl
theorem toS_put (s : TS) (d : Option Nat) (v : TV) : toS (s.put d v) = (toS s).put d (toAV v) := by
  cases d with
  | none => rfl
  | some d => simp only [toS, TS.put, S.put, map_upd toAV]
theorem toS_setT (s : TS) (t : Nat) (v : TV) : toS (s.setT t v) = { toS s with t := upd (toS s).t t (toAV v) } := by
  simp only [toS, TS.setT, map_upd toAV]
theorem toS_setB (s : TS) (b : Nat) (c : BT) : toS (s.setB b c) = (toS s).setB b (toBC c) := by
  have e : (fun j => (upd s.b b (some c) j).map toBC) = upd (fun j => (s.b j).map toBC) b (some (toBC c)) := map_upd (Option.map toBC) s.b b (some c)
  simp only [toS, TS.setB, S.setB, e]
theorem toS_newB (s : TS) (b : Nat) (c : BT) : (toS s).newB b (toBC c) = (s.newB b c).map toS := by
  have e : (fun j => (upd s.b b (some c) j).map toBC) = upd (fun j => (s.b j).map toBC) b (some (toBC c)) := map_upd (Option.map toBC) s.b b (some c)
  unfold S.newB TS.newB
  have : (toS s).seen b = s.seen b := rfl
  rw [this]
  split
  · rfl
  · simp only [Option.map_some, toS, e]
theorem toS_drop (s : TS) (x : OpT) : toS (s.drop x) = (toS s).drop x.er := by
  cases x with
  | take t => simp only [TS.drop, OpT.er, S.drop, toS, map_upd toAV, av_dem]
  | _ => rfl
theorem toS_drops (xs : List OpT) : ∀ s : TS, toS (xs.foldl TS.drop s) = dropAll (toS s) (xs.map OpT.er) := by
  induction xs with
  | nil => intro s; rfl
  | cons x xs ih => intro s; simp only [List.foldl_cons, ih, dropAll, List.map_cons, toS_drop]
theorem toS_get (G : Nat → List TV) (s : TS) (x : OpT) : (toS s).get (GA G) x.er = toAV (s.get G x) := by
  cases x with
  | tmp t => simp only [OpT.er, S.get, TS.get]; exact av_dem (s.t t)
  | _ => simp [OpT.er, S.get, TS.get, toS, toAV, GA, toAVs]
theorem toS_getA (G : Nat → List TV) (s : TS) (x : OpT) : (toS s).getA (GA G) x.er = toAV (s.getA G x) := by
  cases x with
  | tmp t => simp only [OpT.er, S.getA, TS.getA]; exact av_arg (s.t t)
  | take t => simp only [OpT.er, S.getA, TS.getA]; exact av_tip (s.t t)
  | const v => simp only [OpT.er, S.getA, TS.getA]; exact av_tip v
  | _ => simp [OpT.er, S.getA, TS.getA, toS, toAV, GA, toAVs]
theorem toS_gets (G : Nat → List TV) (s : TS) (xs : List OpT) : (xs.map OpT.er).map ((toS s).get (GA G)) = (xs.map (s.get G)).map toAV := by
  simp [List.map_map, Function.comp_def, toS_get]
theorem toS_args (G : Nat → List TV) (s : TS) (xs : List OpT) : argsOf (GA G) (toS s) (xs.map OpT.er) = (xs.map (s.getA G)).map toAV := by
  simp [argsOf, List.map_map, Function.comp_def, toS_getA]
theorem toS_mk (ins : List Nat) (tv : List TV) (bins : List Nat) (bv : List BT) : toS (mkST ins tv bins bv) = mkS ins (tv.map toAV) bins (bv.map toBC) := by
  have h1 : ∀ (ins : List Nat) (tv : List TV), (fun j => toAV (asTT ins tv j)) = asT ins (tv.map toAV) := by
    intro ins
    induction ins with
    | nil => intro tv; funext j; cases tv <;> rfl
    | cons i is ih =>
      intro tv; funext j
      cases tv with
      | nil => rfl
      | cons v vs => have := congrFun (ih vs) j; simp only [asTT, List.map_cons, asT]; split <;> first | rfl | exact this
  have h2 : ∀ (ins : List Nat) (tv : List BT), (fun j => (asBT ins tv j).map toBC) = asB ins (tv.map toBC) := by
    intro ins
    induction ins with
    | nil => intro tv; funext j; cases tv <;> rfl
    | cons i is ih =>
      intro tv; funext j
      cases tv with
      | nil => rfl
      | cons v vs => have := congrFun (ih vs) j; simp only [asBT, List.map_cons, asB]; split <;> first | rfl | exact this
  simp only [toS, mkST, mkS, h1, h2]
theorem boxesT_is {s : TS} : ∀ {bs : List Nat} {r : List BT}, boxesT s bs = some r → boxesOf (toS s) bs = some (r.map toBC)
  | [], r, h => by simp [boxesT] at h; subst h; rfl
  | b :: bs, r, h => by
    simp only [boxesT, bnd_is] at h
    obtain ⟨c, h1, l, h2, h3⟩ := h
    injection h3 with h3
    subst h3
    simp only [boxesOf, toS_b, h1, Option.map_some, bnd_some, boxesT_is h2, List.map_cons]
theorem toS_mask (s : TS) (ts bs : List Nat) : toS (s.mask ts bs) = (toS s).mask ts bs := by
  simp only [toS, TS.mask, S.mask, S.mk.injEq]
  refine ⟨?_, ?_, trivial⟩
  · funext j; split <;> simp [toAV]
  · funext j; split <;> simp
theorem toS_merge (s : TS) (o : AOp) (s' : TS) : toS (s.merge o.takes o.k.mods o.fp s') = (toS s).merge o (toS s') := by
  simp only [toS, TS.merge, S.merge, S.mk.injEq]
  refine ⟨?_, ?_, trivial⟩
  · funext j; split <;> rfl
  · funext j; split <;> rfl
end Go.Tv
