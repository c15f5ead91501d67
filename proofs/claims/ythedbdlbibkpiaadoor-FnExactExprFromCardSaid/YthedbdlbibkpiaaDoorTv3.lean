/- What a typed value is as a plain one. -/
import Derived.Test.YthedbdlbibkpiaaDoorTv1
set_option linter.unusedVariables false
set_option linter.unusedSimpArgs false
namespace Go.Tv
open Go Go.RowKit Go.Vs

theorem toAVs_eq (cs : List TV) : toAVs cs = cs.map toAV := by
  induction cs with
  | nil => rfl
  | cons c cs ih => simp [toAVs, ih]
theorem expsAV_eq (l : List Exp) : expsAV l = l.map expAV := by
  induction l with
  | nil => rfl
  | cons c cs ih => simp [expsAV, ih]
theorem stmsAV_eq (l : List Stm) : stmsAV l = l.map stmAV := by
  induction l with
  | nil => rfl
  | cons c cs ih => simp [stmsAV, ih]
theorem rowAV_exp : rowAV .exp = expAV := rfl
theorem rowAV_stm : rowAV .stm = stmAV := rfl
theorem toAV_sl (m : Md) (c : TC) (l : List (Den c)) : toAV (.sl m c l) = .sl m.sm c.sz (l.map (rowAV c)) := by simp only [toAV]
theorem toAV_ints (l : List Int) : toAV (.sl .share .int l) = intsAV l := by simp only [toAV, intsAV]; rfl
theorem toAV_exps (l : List Exp) : toAV (.sl .share .exp l) = .sl .share 3 (expsAV l) := by rw [expsAV_eq]; simp only [toAV]; rfl
theorem toAV_stms (l : List Stm) : toAV (.sl .share .stm l) = .sl .share 8 (stmsAV l) := by rw [stmsAV_eq]; simp only [toAV]; rfl
theorem rowAV_int : rowAV .int = fun n => [.int .i64 n] := rfl
theorem rowAV_bool : rowAV .bool = fun n => [.bool n] := rfl
theorem rowAV_bx : rowAV .bx = bxAV := rfl
theorem rowAV_tk : rowAV .tk = tkAV := rfl
theorem rowAV_stms : rowAV .stms = fun l => [.sl .share 8 (stmsAV l)] := rfl
theorem rowAV_ints : rowAV .ints = fun l => [intsAV l] := rfl
theorem rowT_av : ∀ (c : TC) (x : Den c), (rowT c x).map toAV = rowAV c x
  | .int, n | .u8, n | .bool, n | .str, n | .quad, n | .event, n => by simp [rowT, rowAV, toAV]
  | .exp, e => by cases e; simp only [rowT, rowAV, expAV, List.map_cons, List.map_nil, toAV_sl, toAV, expsAV_eq, rowAV_exp]; rfl
  | .stm, e => by cases e; simp only [rowT, rowAV, stmAV, List.map_cons, List.map_nil, toAV_sl, toAV, expsAV_eq, stmsAV_eq, rowAV_exp, rowAV_stm]; rfl
  | .stms, l => by simp only [rowT, rowAV, List.map_cons, List.map_nil, toAV_sl, stmsAV_eq, rowAV_stm]; rfl
  | .bx, b => by simp only [rowT, rowAV, bxAV, intsAV, List.map_cons, List.map_nil, toAV_sl, toAV, rowAV_int]; rfl
  | .tk, b => by simp only [rowT, rowAV, tkAV, intsAV, List.map_cons, List.map_nil, toAV_sl, toAV, rowAV_int, stmsAV_eq, rowAV_stm]; rfl
  | .ints, b => by simp only [rowT, rowAV, intsAV, List.map_cons, List.map_nil, toAV_sl, rowAV_int]; rfl
  | .rg, b => by simp only [rowT, rowAV, intsAV, List.map_cons, List.map_nil, toAV_sl, toAV, rowAV_int]; rfl
  | .prg, b => by simp only [rowT, rowAV, intsAV, List.map_cons, List.map_nil, toAV_sl, toAV, rowAV_int, rowAV_stms]; rfl
  | .wld, b => by simp only [rowT, rowAV, intsAV, List.map_cons, List.map_nil, toAV_sl, toAV, rowAV_int, rowAV_tk, rowAV_bx]; rfl
  | .otc, b => by simp only [rowT, rowAV, intsAV, List.map_cons, List.map_nil, toAV_sl, toAV, rowAV_int, rowAV_ints, rowAV_bool]; rfl
  | .fn, g => by simp [rowT, rowAV, toAV, toAVs]
  | .intsH, g | .stmsH, g | .stmsHH, g | .expH, g | .stmH, g | .bxH, g | .tkH, g | .rgH, g | .prgH, g | .wldH, g | .otcH, g => by simp [rowT, rowAV, toAV, TC.sz]
  | .wldO, g => by simp only [rowT, rowAV, List.map_cons, List.map_nil, toAV_sl, toAV, rowAV_tk, rowAV_bx]; rfl
theorem rowT_len : ∀ (c : TC) (x : Den c), (rowT c x).length = c.sz
  | .int, _ | .u8, _ | .bool, _ | .str, _ | .quad, _ | .event, _ | .exp, _ | .stm, _ | .stms, _ | .bx, _ | .tk, _ | .ints, _ | .rg, _ | .prg, _ | .wld, _ | .otc, _ | .fn, _ | .intsH, _ | .stmsH, _ | .stmsHH, _ | .expH, _ | .stmH, _ | .bxH, _ | .tkH, _ | .rgH, _ | .prgH, _ | .wldH, _ | .otcH, _ | .wldO, _ => rfl
theorem rowAV_len (c : TC) (x : Den c) : (rowAV c x).length = c.sz := by rw [← rowT_av, List.length_map, rowT_len]
theorem rowT_one : ∀ (c : TC) (x : Den c), (rowT c x).all TV.one = true
  | .int, _ | .u8, _ | .bool, _ | .str, _ | .quad, _ | .event, _ | .exp, _ | .stm, _ | .stms, _ | .bx, _ | .tk, _ | .ints, _ | .rg, _ | .prg, _ | .wld, _ | .otc, _ | .fn, _ | .intsH, _ | .stmsH, _ | .stmsHH, _ | .expH, _ | .stmH, _ | .bxH, _ | .tkH, _ | .rgH, _ | .prgH, _ | .wldH, _ | .otcH, _ | .wldO, _ => rfl
theorem castD_is {c c' : TC} {l : List (Den c)} {l' : List (Den c')} (h : castD c c' l = some l') : ∃ e : c = c', e ▸ l = l' := by
  unfold castD at h
  split at h
  · rename_i e; injection h with h; exact ⟨e, h⟩
  · cases h
theorem decRow_is {c : TC} {cs : List TV} {x : Den c} (h : decRow c cs = some x) : cs = rowT c x := by
  unfold decRow at h
  split at h <;> first
    | (cases h; done)
    | (injection h with h; subst h; rfl)
    | (simp only [bnd_is] at h
       obtain ⟨a, h1, h2⟩ := h
       obtain ⟨rfl, rfl⟩ := castD_is h1
       injection h2 with h2; subst h2; rfl)
    | (obtain ⟨rfl, rfl⟩ := castD_is h; rfl)
    | (split at h
       · rename_i hc
         first | subst hc | (obtain ⟨rfl, rfl⟩ := hc) | (obtain ⟨rfl, rfl, rfl⟩ := hc)
         injection h with h; subst h; rfl
       · cases h)
    | (simp only [bnd_is] at h
       obtain ⟨a, h1, b, h2, h3⟩ := h
       obtain ⟨rfl, rfl⟩ := castD_is h1
       obtain ⟨rfl, rfl⟩ := castD_is h2
       injection h3 with h3; subst h3; rfl)
    | (simp only [bnd_is] at h
       obtain ⟨a, h1, b, h2, h3⟩ := h
       obtain ⟨rfl, rfl⟩ := castD_is h1
       obtain ⟨rfl, rfl⟩ := castD_is h2
       split at h3
       · rename_i hc
         subst hc
         injection h3 with h3; subst h3; rfl
       · cases h3)
    | (simp only [bnd_is] at h
       obtain ⟨a, h1, b, h2, c, h3, h4⟩ := h
       obtain ⟨rfl, rfl⟩ := castD_is h1
       obtain ⟨rfl, rfl⟩ := castD_is h2
       obtain ⟨rfl, rfl⟩ := castD_is h3
       injection h4 with h4; subst h4; rfl)

theorem av_dem (v : TV) : (toAV v).dem = toAV v.dem := by
  cases v with
  | sl m c l =>
    cases m with
    | share => simp [toAV, TV.dem, AV.dem, Md.dem, Md.sm]
    | full => simp [toAV, TV.dem, AV.dem, Md.dem, Md.sm]
    | own b => cases b <;> simp [toAV, TV.dem, AV.dem, Md.dem, Md.sm]
  | _ => simp [toAV, TV.dem, AV.dem]
theorem av_shr (v : TV) : (toAV v).share = toAV v.shr := by cases v <;> simp [toAV, TV.shr, AV.share, Md.sm]
theorem av_tip (v : TV) : (toAV v).toTip = toAV v.toTip := by
  cases v with
  | sl m c l =>
    cases m with
    | share => simp [toAV, TV.toTip, AV.toTip, Md.sm]
    | full => simp [toAV, TV.toTip, AV.toTip, Md.sm]
    | own b => cases b <;> simp [toAV, TV.toTip, AV.toTip, Md.sm]
  | _ => simp [toAV, TV.toTip, AV.toTip]
theorem av_cells (v : TV) : (toAV v).cells = v.cells.map toAV := by cases v <;> simp [toAV, TV.cells, AV.cells, toAVs_eq]
theorem map_dem (cs : List TV) : (cs.map toAV).map AV.dem = (cs.map TV.dem).map toAV := by simp [av_dem]
theorem map_shr (cs : List TV) : (cs.map toAV).map AV.share = (cs.map TV.shr).map toAV := by simp [av_shr]
theorem av_scells (v : TV) : (toAV v).scells = v.scells.map toAV := by cases v <;> simp [toAV, TV.scells, AV.scells, toAVs_eq, av_dem]
theorem av_one (v : TV) : (toAV v).one = v.one := by cases v <;> simp [toAV, TV.one, AV.one]
theorem map_one (cs : List TV) : (cs.map toAV).all AV.one = cs.all TV.one := by simp [List.all_map, Function.comp_def, av_one]
theorem av_isP (v : TV) : (toAV v).isP = v.isP := by cases v <;> simp [toAV, TV.isP, AV.isP]
theorem av_okIn (bins : List Nat) (v : TV) : (toAV v).okIn bins = v.okIn bins := by cases v <;> simp [toAV, TV.okIn, AV.okIn]
theorem av_arg (v : TV) : (match toAV v with | .agg cs => .agg (cs.map AV.share) | v => v.share) = toAV (argV v) := by
  cases v with
  | agg cs => simp only [toAV, argV, toAVs_eq, map_shr]
  | _ => simp only [toAV, argV, AV.share, TV.shr, Md.sm]
theorem av_part (n : Nat) (agg : Bool) (cs : List TV) (off : Nat) : Vs.part n agg (cs.map toAV) off = (partT n agg cs off).map toAV := by
  unfold Vs.part partT
  cases agg
  · simp only [Bool.false_eq_true, if_false]
    split
    · rw [List.getElem?_map]; cases cs[off]? <;> simp [av_dem]
    · rfl
  · simp only [if_true, List.length_map]
    split
    · have : (AV.dem ∘ toAV) = (toAV ∘ TV.dem) := by funext v; exact av_dem v
      simp [toAV, toAVs_eq, List.map_take, List.map_drop, this]
    · rfl
theorem av_over (cs : List TV) (off : Nat) (vs : List TV) : Vs.over (cs.map toAV) off (vs.map toAV) = (overT cs off vs).map (List.map toAV) := by
  unfold Vs.over overT
  simp only [List.length_map]
  split
  · simp [List.map_take, List.map_drop]
  · rfl
theorem av_fill : ∀ (ps : List (Nat × Nat × TV)) (cs : List TV), fillP (cs.map toAV) (ps.map fun p => (p.1, p.2.1, toAV p.2.2)) = (fillT cs ps).map (List.map toAV)
  | [], cs => by simp [fillP, fillT]
  | (off, n, v) :: r, cs => by
    simp only [List.map_cons, fillP, fillT, av_cells, List.length_map, map_one, map_dem, av_over]
    split
    · cases overT cs off (v.cells.map TV.dem) with
      | none => rfl
      | some cs' => simp only [Option.map_some, bnd_some]; exact av_fill r cs'
    · rfl
theorem av_eqInts : ∀ (a b : List TV), eqInts (a.map toAV) (b.map toAV) = eqIntsT a b
  | [], [] => rfl
  | [], b :: bs => by cases b <;> rfl
  | a :: as, [] => by cases a <;> rfl
  | a :: as, b :: bs => by
    cases a <;> cases b <;> simp only [List.map_cons, toAV, eqInts, eqIntsT, av_eqInts as bs]
theorem av_asInts : ∀ (a : List TV), asInts (a.map toAV) = intsOf a
  | [] => rfl
  | a :: as => by
    cases a with
    | int k n => cases k <;> simp [toAV, asInts, intsOf, av_asInts as]
    | _ => simp [toAV, asInts, intsOf]
theorem strsOf_is : ∀ {cs : List TV} {l : List (List UInt8)}, strsOf cs = some l → cs = l.map .str
  | [], l, h => by simp [strsOf] at h; subst h; rfl
  | c :: cs, l, h => by
    cases c <;> simp [strsOf] at h
    rw [bnd_is] at h
    obtain ⟨a, h1, h2⟩ := h
    injection h2 with h2
    subst h2
    rw [strsOf_is h1]; rfl
theorem av_bytes (l : List Int) : bytesOfRows (l.map fun n => [.int .u8 n]) = some (bytes l) := by
  induction l with
  | nil => rfl
  | cons n l ih => simp [bytesOfRows, bytes] at ih ⊢; rw [ih]; rfl

theorem rowT_share : ∀ (c : TC) (x : Den c), (rowT c x).map TV.shr = rowT c x
  | .int, _ | .u8, _ | .bool, _ | .str, _ | .quad, _ | .event, _ | .exp, _ | .stm, _ | .stms, _ | .bx, _ | .tk, _ | .ints, _ | .rg, _ | .prg, _ | .wld, _ | .otc, _ | .fn, _ | .intsH, _ | .stmsH, _ | .stmsHH, _ | .expH, _ | .stmH, _ | .bxH, _ | .tkH, _ | .rgH, _ | .prgH, _ | .wldH, _ | .otcH, _ | .wldO, _ => rfl
theorem rowAV_share (c : TC) (x : Den c) : (rowAV c x).map AV.share = rowAV c x := by rw [← rowT_av, map_shr, rowT_share]

/-! ### States -/
def toS (s : TS) : S := { t := fun j => toAV (s.t j), b := fun j => (s.b j).map toBC, seen := s.seen }
def GA (G : Nat → List TV) : Nat → List AV := fun i => toAVs (G i)
theorem toS_b (s : TS) (b : Nat) : (toS s).b b = (s.b b).map toBC := rfl
theorem map_upd {α β : Type} (g : α → β) (f : Nat → α) (i : Nat) (v : α) : (fun j => g (upd f i v j)) = upd (fun j => g (f j)) i (g v) := by
  funext j; unfold upd; split <;> rfl
theorem toS_put (s : TS) (d : Option Nat) (v : TV) : toS (s.put d v) = (toS s).put d (toAV v) := by
  cases d with
  | none => rfl
  | some d => simp only [toS, TS.put, S.put, map_upd toAV]
theorem toS_setT (s : TS) (t : Nat) (v : TV) : toS (s.setT t v) = { toS s with t := upd (toS s).t t (toAV v) } := by
  simp only [toS, TS.setT, map_upd toAV]
theorem toS_setB (s : TS) (b : Nat) (c : BT) : toS (s.setB b c) = (toS s).setB b (toBC c) := by
  have e : (fun j => (upd s.b b (some c) j).map toBC) = upd (fun j => (s.b j).map toBC) b (some (toBC c)) := map_upd (Option.map toBC) s.b b (some c)
  simp only [toS, TS.setB, S.setB, e]
theorem toS_newB (s : TS) (b : Nat) (c : BT) : (toS s).newB b (toBC c) = (s.newB b c).map toS := by
  have e : (fun j => (upd s.b b (some c) j).map toBC) = upd (fun j => (s.b j).map toBC) b (some (toBC c)) := map_upd (Option.map toBC) s.b b (some c)
  unfold S.newB TS.newB
  have : (toS s).seen b = s.seen b := rfl
  rw [this]
  split
  · rfl
  · simp only [Option.map_some, toS, e]
theorem toS_drop (s : TS) (x : OpT) : toS (s.drop x) = (toS s).drop x.er := by
  cases x with
  | take t => simp only [TS.drop, OpT.er, S.drop, toS, map_upd toAV, av_dem]
  | _ => rfl
theorem toS_drops (xs : List OpT) : ∀ s : TS, toS (xs.foldl TS.drop s) = dropAll (toS s) (xs.map OpT.er) := by
  induction xs with
  | nil => intro s; rfl
  | cons x xs ih => intro s; simp only [List.foldl_cons, ih, dropAll, List.map_cons, toS_drop]
theorem toS_get (G : Nat → List TV) (s : TS) (x : OpT) : (toS s).get (GA G) x.er = toAV (s.get G x) := by
  cases x with
  | tmp t => simp only [OpT.er, S.get, TS.get]; exact av_dem (s.t t)
  | _ => simp [OpT.er, S.get, TS.get, toS, toAV, GA, toAVs]
theorem toS_getA (G : Nat → List TV) (s : TS) (x : OpT) : (toS s).getA (GA G) x.er = toAV (s.getA G x) := by
  cases x with
  | tmp t => simp only [OpT.er, S.getA, TS.getA]; exact av_arg (s.t t)
  | take t => simp only [OpT.er, S.getA, TS.getA]; exact av_tip (s.t t)
  | const v => simp only [OpT.er, S.getA, TS.getA]; exact av_tip v
  | _ => simp [OpT.er, S.getA, TS.getA, toS, toAV, GA, toAVs]
theorem toS_gets (G : Nat → List TV) (s : TS) (xs : List OpT) : (xs.map OpT.er).map ((toS s).get (GA G)) = (xs.map (s.get G)).map toAV := by
  simp [List.map_map, Function.comp_def, toS_get]
theorem toS_args (G : Nat → List TV) (s : TS) (xs : List OpT) : argsOf (GA G) (toS s) (xs.map OpT.er) = (xs.map (s.getA G)).map toAV := by
  simp [argsOf, List.map_map, Function.comp_def, toS_getA]
theorem toS_mk (ins : List Nat) (tv : List TV) (bins : List Nat) (bv : List BT) : toS (mkST ins tv bins bv) = mkS ins (tv.map toAV) bins (bv.map toBC) := by
  have h1 : ∀ (ins : List Nat) (tv : List TV), (fun j => toAV (asTT ins tv j)) = asT ins (tv.map toAV) := by
    intro ins
    induction ins with
    | nil => intro tv; funext j; cases tv <;> rfl
    | cons i is ih =>
      intro tv; funext j
      cases tv with
      | nil => rfl
      | cons v vs => have := congrFun (ih vs) j; simp only [asTT, List.map_cons, asT]; split <;> first | rfl | exact this
  have h2 : ∀ (ins : List Nat) (tv : List BT), (fun j => (asBT ins tv j).map toBC) = asB ins (tv.map toBC) := by
    intro ins
    induction ins with
    | nil => intro tv; funext j; cases tv <;> rfl
    | cons i is ih =>
      intro tv; funext j
      cases tv with
      | nil => rfl
      | cons v vs => have := congrFun (ih vs) j; simp only [asBT, List.map_cons, asB]; split <;> first | rfl | exact this
  simp only [toS, mkST, mkS, h1, h2]
theorem boxesT_is {s : TS} : ∀ {bs : List Nat} {r : List BT}, boxesT s bs = some r → boxesOf (toS s) bs = some (r.map toBC)
  | [], r, h => by simp [boxesT] at h; subst h; rfl
  | b :: bs, r, h => by
    simp only [boxesT, bnd_is] at h
    obtain ⟨c, h1, l, h2, h3⟩ := h
    injection h3 with h3
    subst h3
    simp only [boxesOf, toS_b, h1, Option.map_some, bnd_some, boxesT_is h2, List.map_cons]
theorem toS_mask (s : TS) (ts bs : List Nat) : toS (s.mask ts bs) = (toS s).mask ts bs := by
  simp only [toS, TS.mask, S.mask, S.mk.injEq]
  refine ⟨?_, ?_, trivial⟩
  · funext j; split <;> simp [toAV]
  · funext j; split <;> simp
theorem toS_merge (s : TS) (o : AOp) (s' : TS) : toS (s.merge o.takes o.k.mods o.fp s') = (toS s).merge o (toS s') := by
  simp only [toS, TS.merge, S.merge, S.mk.injEq]
  refine ⟨?_, ?_, trivial⟩
  · funext j; split <;> rfl
  · funext j; split <;> rfl
/-! ### Own slices -/
theorem toS_setA (s : TS) (es : List Ent) : toS (s.setA es) = (toS s).setA es := toS_setB s 99 (.ar es)
theorem toS_live (s : TS) (b : Nat) : (toS s).live b = s.live b := by
  unfold S.live TS.live
  rw [toS_b]
  cases s.b b with
  | none => rfl
  | some c => cases c <;> rfl
theorem toS_arr {s : TS} {es : List Ent} (h : s.b 99 = some (.ar es)) : (toS s).arr = some es := by
  unfold S.arr
  rw [toS_b, h]; rfl
theorem noTrL_map {l : List AV} : noTrL l = l.all AV.noTr := by
  induction l with
  | nil => rfl
  | cons x l ih => simp only [noTrL, List.all_cons, ih]
theorem noTrR_map {l : List (List AV)} : noTrR l = l.all noTrL := by
  induction l with
  | nil => rfl
  | cons x l ih => simp only [noTrR, List.all_cons, ih]
mutual
theorem expAV_noTr : ∀ (e : Exp), noTrL (expAV e) = true
  | ⟨o, n, as⟩ => by simp only [expAV, noTrL, AV.noTr, expsAV_noTr as, Bool.and_self]
theorem expsAV_noTr : ∀ (l : List Exp), noTrR (expsAV l) = true
  | [] => rfl
  | e :: l => by simp only [expsAV, noTrR, expAV_noTr e, expsAV_noTr l, Bool.and_self]
end
mutual
theorem stmAV_noTr : ∀ (e : Stm), noTrL (stmAV e) = true
  | ⟨k, v, b, e, bd, el⟩ => by simp only [stmAV, noTrL, AV.noTr, expsAV_noTr e.args, stmsAV_noTr bd, stmsAV_noTr el, Bool.and_self]
theorem stmsAV_noTr : ∀ (l : List Stm), noTrR (stmsAV l) = true
  | [] => rfl
  | e :: l => by simp only [stmsAV, noTrR, stmAV_noTr e, stmsAV_noTr l, Bool.and_self]
end
theorem noTrR_of {α : Type} {f : α → List AV} (h : ∀ x, noTrL (f x) = true) (l : List α) : noTrR (l.map f) = true := by
  rw [noTrR_map, List.all_map, List.all_eq_true]
  intro x _; exact h x
theorem intsAV_noTr (l : List Int) : (intsAV l).noTr = true := by
  simp only [intsAV, AV.noTr]
  exact noTrR_of (fun _ => rfl) l
theorem bxAV_noTr (b : Bx) : noTrL (bxAV b) = true := by simp only [bxAV, noTrL, intsAV_noTr, AV.noTr, Bool.and_self]
theorem tkAV_noTr (b : Tk) : noTrL (tkAV b) = true := by simp only [tkAV, noTrL, intsAV_noTr, AV.noTr, stmsAV_noTr, Bool.and_self]
theorem rowAV_noTr : ∀ (c : TC) (x : Den c), c.plain = true → noTrL (rowAV c x) = true
  | .int, _, _ | .u8, _, _ | .bool, _, _ | .str, _, _ | .quad, _, _ | .event, _, _ | .fn, _, _ => rfl
  | .exp, e, _ => expAV_noTr e
  | .stm, e, _ => stmAV_noTr e
  | .stms, l, _ => by simp only [rowAV, noTrL, AV.noTr, stmsAV_noTr, Bool.and_self]
  | .bx, b, _ => bxAV_noTr b
  | .tk, b, _ => tkAV_noTr b
  | .ints, l, _ => by simp only [rowAV, noTrL, intsAV_noTr, Bool.and_self]
  | .rg, r, _ => by simp only [rowAV, noTrL, intsAV_noTr, AV.noTr, Bool.and_self]
  | .prg, p, _ => by
    simp only [rowAV, noTrL, intsAV_noTr, AV.noTr, Bool.true_and, Bool.and_true]
    exact noTrR_of (fun l => by simp only [noTrL, AV.noTr, stmsAV_noTr, Bool.and_self]) _
  | .wld, w, _ => by
    simp only [rowAV, noTrL, intsAV_noTr, AV.noTr, Bool.true_and, Bool.and_true]
    rw [noTrR_of tkAV_noTr, noTrR_of bxAV_noTr]; rfl
  | .otc, o, _ => by
    simp only [rowAV, noTrL, intsAV_noTr, AV.noTr, Bool.true_and, Bool.and_true]
    rw [noTrR_of (fun l => by simp only [noTrL, intsAV_noTr, Bool.and_self]), noTrR_of (fun _ => rfl)]; rfl
theorem rowsAV_noTr {c : TC} (h : c.plain = true) (l : List (Den c)) : noTrR (l.map (rowAV c)) = true := noTrR_of (fun x => rowAV_noTr c x h) l
mutual
theorem av_noTr : ∀ (v : TV), v.noTr = true → (toAV v).noTr = true
  | .undef, _ | .int _ _, _ | .bool _, _ | .str _, _ | .con _, _ | .bp _ _, _ | .bs _, _ | .be _ _ _, _ => by simp [toAV, AV.noTr]
  | .sl m c l, h => by simp only [toAV, AV.noTr]; exact rowsAV_noTr h l
  | .agg cs, h => by simp only [toAV, AV.noTr]; exact avs_noTr cs h
  | .rp cs off, h => by simp only [toAV, AV.noTr]; exact avs_noTr cs h
  | .rs l i, h => by
    simp only [toAV, AV.noTr, noTrL_map, List.all_map, List.all_eq_true]
    intro x _; rfl
  | .fn g cs, h => by simp only [toAV, AV.noTr]; exact avs_noTr cs h
  | .tup cs, h => by simp only [toAV, AV.noTr]; exact avs_noTr cs h
  | .np cs, h => by simp only [toAV, AV.noTr]; exact avs_noTr cs h
  | .tr _ _ _, h => by cases h
  | .trp _ _ _ _, h => by cases h
  | .arv _, h => by cases h
theorem avs_noTr : ∀ (cs : List TV), noTrTs cs = true → noTrL (toAVs cs) = true
  | [], _ => rfl
  | c :: cs, h => by
    simp only [noTrTs, Bool.and_eq_true] at h
    simp only [toAVs, noTrL, av_noTr c h.1, avs_noTr cs h.2, Bool.and_self]
end
mutual
theorem av_flat : ∀ (v : TV), v.flat = true → (toAV v).flat = true
  | .int _ _, _ | .bool _, _ | .str _, _ => by simp [toAV, AV.flat]
  | .agg cs, h => by simp only [toAV, AV.flat]; exact avs_flat cs h
  | .tup cs, h => by simp only [toAV, AV.flat]; exact avs_flat cs h
  | .undef, h | .con _, h | .bp _ _, h | .bs _, h | .be _ _ _, h | .sl _ _ _, h | .rp _ _, h | .rs _ _, h | .fn _ _, h | .np _, h | .tr _ _ _, h | .trp _ _ _ _, h | .arv _, h => by cases h
theorem avs_flat : ∀ (cs : List TV), flatTs cs = true → flatL (toAVs cs) = true
  | [], _ => rfl
  | c :: cs, h => by
    simp only [flatTs, Bool.and_eq_true] at h
    simp only [toAVs, flatL, av_flat c h.1, avs_flat cs h.2, Bool.and_self]
end
mutual
theorem av_flatT : ∀ (v : TV), v.flatT = true → (toAV v).flatT = true
  | .int _ _, _ | .bool _, _ | .str _, _ | .tr _ _ _, _ => by simp [toAV, AV.flatT]
  | .agg cs, h => by simp only [toAV, AV.flatT]; exact avs_flatT cs h
  | .tup cs, h => by simp only [toAV, AV.flatT]; exact avs_flatT cs h
  | .undef, h | .con _, h | .bp _ _, h | .bs _, h | .be _ _ _, h | .sl _ _ _, h | .rp _ _, h | .rs _ _, h | .fn _ _, h | .np _, h | .trp _ _ _ _, h | .arv _, h => by cases h
theorem avs_flatT : ∀ (cs : List TV), flatTTs cs = true → flatTL (toAVs cs) = true
  | [], _ => rfl
  | c :: cs, h => by
    simp only [flatTTs, Bool.and_eq_true] at h
    simp only [toAVs, flatTL, av_flatT c h.1, avs_flatT cs h.2, Bool.and_self]
end
theorem av_calm (v : TV) (h : v.calm = true) : (toAV v).calm = true := by
  cases v with
  | sl m c l =>
    cases m with
    | own b => cases b <;> first | (cases h; done) | simp [toAV, AV.calm, Md.sm]
    | share => simp [toAV, AV.calm, Md.sm]
    | full => simp [toAV, AV.calm, Md.sm]
  | _ => first | (cases h; done) | simp [toAV, AV.calm]
theorem seen_sz (c : TC) : c.seen.sz = c.sz := by cases c <;> rfl
theorem seen_plain (c : TC) : c.seen.plain = true := by cases c <;> rfl
theorem bt_noTr (b : BT) (h : b.noTr = true) : (toBC b).noTr = true := by
  cases b with
  | var cs => exact avs_noTr cs h
  | rows c l => exact rowsAV_noTr h l
  | ar es => cases h
theorem bt_isAr (b : BT) : (toBC b).isAr = b.isAr := by cases b <;> rfl
theorem decRows_is {c : TC} {xs : List (List AV)} {l : List (Den c)} (h : decRows c xs = some l) : xs = l.map (rowAV c) := by
  unfold decRows at h
  split at h
  · rename_i hx; injection h with h; rw [← h]; exact hx.choose_spec.symm
  · cases h
theorem arGet_is {es : List Ent} {c : TC} {h : Option Nat} {l : List (Den c)} (hg : arGet es c h = some l) : rowsOf es c.sz h = some (l.map (rowAV c)) := by
  unfold arGet at hg
  obtain ⟨xs, h1, h2⟩ := bnd_is.1 hg
  rw [h1, decRows_is h2]
end Go.Tv

/- What the typed evaluator tells is what the plain one tells. -/
set_option linter.unusedVariables false
set_option linter.unusedSimpArgs false
namespace Go.Tv
open Go Go.RowKit Go.Vs

variable {ρ : Type}
def PhiOk (Φ : CT ρ) (call : Vs.Call) : Prop :=
  ∀ g tv bv k r, Φ g tv bv k = some r → ∃ o outs bv', call g (tv.map toAV) (bv.map toBC) = some (o, outs.map toAV, bv'.map toBC) ∧ k o outs bv' = some r

theorem geti_is {α : Type} {l : List α} {n : Int} {x : α} (h : geti l n = some x) : 0 ≤ n ∧ l[n.toNat]? = some x := by
  unfold geti at h; split at h
  · exact ⟨‹_›, h⟩
  · cases h
theorem geti_nat {α : Type} {l : List α} {k : IntKind} {n : Int} {x : α} (h : geti l n = some x) : natOf (.int k n) = some n.toNat := by
  simp [natOf, (geti_is h).1]
theorem partT_is {n : Nat} {agg : Bool} {cs : List TV} {off : Nat} {v : TV} (h : partT n agg cs off = some v) : Vs.part n agg (cs.map toAV) off = some (toAV v) := by
  rw [av_part, h]; rfl
theorem overT_is {cs vs r : List TV} {off : Nat} (h : overT cs off vs = some r) : Vs.over (cs.map toAV) off (vs.map toAV) = some (r.map toAV) := by rw [av_over, h]; rfl
theorem newB_is {s s' : TS} {b : Nat} {c : BT} (h : s.newB b c = some s') : (toS s).newB b (toBC c) = some (toS s') := by rw [toS_newB, h]; rfl
theorem some_toS {s : TS} {b : Nat} (h : s.live b = true) : (toS s).live b = true := by rw [toS_live]; exact h

mutual
theorem forceV_eq : ∀ (v : TV) (k : TV → Option ρ), forceV v k = k v
  | .undef, k | .int a n, k | .bool b, k | .str l, k | .con c, k | .sl m c l, k | .bp b o, k | .bs b, k | .be b i o, k | .rs l i, k | .tr c h n, k | .trp c h i o, k | .arv es, k => by simp only [forceV]
  | .agg cs, k | .rp cs _, k | .fn _ cs, k | .tup cs, k | .np cs, k => by simp only [forceV, forceL_eq cs]
theorem forceL_eq : ∀ (l : List TV) (k : List TV → Option ρ), forceL l k = k l
  | [], k => by simp only [forceL]
  | v :: r, k => by simp only [forceL, forceV_eq v, forceL_eq r]
end
theorem loadT_is {n : Nat} {agg take : Bool} {s : TS} {p : TV} {k : TV → TS → Option ρ} {r : ρ} (h : loadT n agg take s p k = some r) : ∃ v s', loadP n agg take (toS s) (toAV p) = some (toAV v, toS s') ∧ k v s' = some r := by
  unfold loadT at h
  split at h
  · rename_i b off
    split at h
    · rename_i cs hb
      split at h
      · split at h
        · cases h
        · split at h
          · rename_i hn
            rw [bnd_is] at h
            obtain ⟨v, h1, h2⟩ := h
            split at h2
            · cases h2
            · rename_i hp
              refine ⟨v, _, ?_, h2⟩
              simp only [toAV, loadP, toS_b, hb, Option.map_some, toBC, toAVs_eq, if_true, Bool.false_eq_true, if_false, hn, List.getElem?_map, h1, bnd_some, av_isP, hp, toS_setB, List.map_set, av_dem]
          · cases h
      · rw [bnd_is] at h
        obtain ⟨v, h1, h2⟩ := h
        refine ⟨v, s, ?_, h2⟩
        simp only [toAV, loadP, toS_b, hb, Option.map_some, toBC, toAVs_eq, Bool.false_eq_true, if_false, partT_is h1, bnd_some]
    · cases h
  · rename_i b i off
    split at h
    · rename_i c l hb
      split at h
      · cases h
      · rw [bnd_is] at h
        obtain ⟨x, h1, h⟩ := h
        rw [bnd_is] at h
        obtain ⟨v, h2, h3⟩ := h
        refine ⟨v, s, ?_, h3⟩
        have := partT_is h2
        rw [rowT_av] at this
        simp only [toAV, loadP, toS_b, hb, Option.map_some, toBC, List.getElem?_map, h1, bnd_some, Bool.false_eq_true, if_false, this]
    · cases h
  · split at h
    · cases h
    · rw [bnd_is] at h
      obtain ⟨v, h2, h3⟩ := h
      refine ⟨v, s, ?_, h3⟩
      simp only [toAV, loadP, toAVs_eq, Bool.false_eq_true, if_false, partT_is h2, bnd_some]
  · split at h
    · cases h
    · split at h
      · cases h
      · split at h
        · rename_i hn
          rw [bnd_is] at h
          obtain ⟨v, h2, h3⟩ := h
          refine ⟨.str v, s, ?_, h3⟩
          simp only [toAV, loadP, Vs.part, Bool.false_eq_true, if_false, hn, if_true, List.getElem?_map, h2, Option.map_some, bnd_some, AV.dem]
        · cases h
  · cases h

theorem storeT_is {n : Nat} {s : TS} {p v : TV} {k : TS → Option ρ} {r : ρ} (h : storeT n s p v k = some r) : ∃ s', storeP n (toS s) (toAV p) (toAV v) = some (toS s') ∧ k s' = some r := by
  unfold storeT at h
  split at h
  · rename_i hc
    have hc' : (toAV v).cells.length = n ∧ (toAV v).cells.all AV.one = true := by rw [av_cells, List.length_map, map_one]; exact hc
    unfold storeP
    rw [if_pos hc']
    split at h
    · rename_i b off
      split at h
      · rename_i cs hb
        rw [bnd_is] at h
        obtain ⟨cs', h1, h2⟩ := h
        rw [forceL_eq] at h2
        refine ⟨_, ?_, h2⟩
        simp only [toAV, toS_b, hb, Option.map_some, toBC, toAVs_eq, av_scells, overT_is h1, bnd_some, toS_setB]
      · cases h
    · rename_i b i off
      split at h
      · rename_i c l hb
        simp only [bnd_is] at h
        obtain ⟨x, h1, cs', h2, y, h3, h4⟩ := h
        refine ⟨_, ?_, h4⟩
        have e := overT_is h2
        rw [rowT_av, ← map_shr, ← av_cells, decRow_is h3, rowT_av] at e
        simp only [toAV, toS_b, hb, Option.map_some, toBC, List.getElem?_map, h1, bnd_some, e, toS_setB, List.map_set]
      · cases h
    · cases h
  · cases h

theorem binT_is {op : BinOp} {x y : TV} {k : TV → Option ρ} {r : ρ} (h : binT op x y k = some r) : ∃ v, bin op (toAV x) (toAV y) = some (toAV v) ∧ k v = some r := by
  unfold binT at h
  split at h
  · rename_i kx a ky b
    split at h
    · rw [bnd_is] at h
      obtain ⟨n, h1, h2⟩ := h
      refine ⟨_, ?_, h2⟩
      unfold shlI at h1
      split at h1
      · cases h1
      · rename_i hb
        injection h1 with h1
        rw [wrT_eq] at h1
        simp [toAV, bin, shiftI, hb, h1]
    · rw [bnd_is] at h
      obtain ⟨n, h1, h2⟩ := h
      refine ⟨_, ?_, h2⟩
      unfold shrI at h1
      split at h1
      · cases h1
      · rename_i hb
        injection h1 with h1
        simp [toAV, bin, shiftI, hb, h1]
    · split at h
      · rename_i hk
        subst hk
        split at h <;> first
          | (cases h; done)
          | exact ⟨_, by simp [toAV, bin, binI, wrT_eq], h⟩
          | (rw [bnd_is] at h
             obtain ⟨n, h1, h2⟩ := h
             refine ⟨_, ?_, h2⟩
             unfold quoI at h1
             split at h1
             · cases h1
             · rename_i hb
               injection h1 with h1
               rw [wrT_eq] at h1
               simp [toAV, bin, binI, hb, h1])
          | (rw [bnd_is] at h
             obtain ⟨n, h1, h2⟩ := h
             refine ⟨_, ?_, h2⟩
             unfold remI at h1
             split at h1
             · cases h1
             · rename_i hb
               injection h1 with h1
               simp [toAV, bin, binI, hb, h1])
      · cases h
  · split at h
    · rw [bnd_is] at h
      obtain ⟨n, h1, h2⟩ := h
      refine ⟨_, ?_, h2⟩
      unfold catS at h1
      split at h1
      · rename_i hl
        injection h1 with h1
        simp [toAV, bin, binS, hl, h1]
      · cases h1
    · exact ⟨_, by simp [toAV, bin, binS], h⟩
    · exact ⟨_, by simp [toAV, bin, binS], h⟩
    · cases h
  · cases h

theorem lendT_is {s : TS} : ∀ {as : List TV} {j : Nat} {q : List TV × List BT × List Nat}, lendT s as j = some q → lend (toS s) (as.map toAV) j = some (q.1.map toAV, q.2.1.map toBC, q.2.2)
  | [], j, q, h => by simp [lendT] at h; subst h; rfl
  | v :: r, j, q, h => by
    by_cases hv : ∃ b off, v = .bp b off
    · obtain ⟨b, off, rfl⟩ := hv
      simp only [lendT] at h
      split at h
      · rename_i hc
        split at h
        · rename_i cs hb
          rw [bnd_is] at h
          obtain ⟨q', h1, h2⟩ := h
          split at h2
          · cases h2
          · rename_i hn
            injection h2 with h2
            subst h2
            simp only [List.map_cons, toAV, lend, hc, and_self, if_true, toS_b, hb, Option.map_some, toBC, lendT_is h1, bnd_some, hn, Bool.false_eq_true, if_false, toAVs_eq]
            try simp
        · cases h
      · cases h
    · have h' : (match v.isP with | true => none | false => bnd (lendT s r j) fun q => some (v :: q.1, q.2.1, q.2.2)) = some q := by
        cases v with
        | bp b off => exact absurd ⟨b, off, rfl⟩ hv
        | _ => simp only [lendT] at h; exact h
      split at h'
      · cases h'
      · rename_i hp
        rw [bnd_is] at h'
        obtain ⟨q', h1, h2⟩ := h'
        injection h2 with h2
        subst h2
        have e : lend (toS s) (toAV v :: r.map toAV) j = (if (toAV v).isP then none else bnd (lend (toS s) (r.map toAV) j) fun (tv, bv, ls) => some ((toAV v :: tv, bv, ls))) := by
          cases v with
          | bp b off => exact absurd ⟨b, off, rfl⟩ hv
          | _ => simp only [toAV, lend]; rfl
        rw [List.map_cons, e, av_isP, hp, lendT_is h1]
        simp
theorem giveT_is : ∀ {bs : List Nat} {cs : List BT} {s s' : TS}, giveT s bs cs = some s' → giveBack (toS s) bs (cs.map toBC) = some (toS s')
  | [], [], s, s', h => by simp [giveT] at h; subst h; rfl
  | [], c :: cs, s, s', h => by simp [giveT] at h
  | b :: bs, [], s, s', h => by simp [giveT] at h
  | b :: bs, c :: cs, s, s', h => by
    simp only [giveT] at h
    simp only [List.map_cons, giveBack, ← toS_setB]
    exact giveT_is h
theorem callT_is {Φ : CT ρ} {call : Vs.Call} (hΦ : PhiOk Φ call) {s : TS} {g site : Nat} {as : List TV} {k : TV → TS → Option ρ} {r : ρ} (h : callT Φ s g site as k = some r) :
    ∃ v s', callF call (toS s) g site (as.map toAV) = some (toAV v, toS s') ∧ k v s' = some r := by
  unfold callT at h
  rw [bnd_is] at h
  obtain ⟨q, h1, h⟩ := h
  obtain ⟨o, outs, bv', h2, h⟩ := hΦ _ _ _ _ _ h
  rw [bnd_is] at h
  obtain ⟨s1, h3, h⟩ := h
  unfold callF
  rw [lendT_is h1, bnd_some]
  simp only []
  rw [h2, bnd_some]
  simp only []
  rw [giveT_is h3, bnd_some]
  split at h
  · rename_i v
    split at h
    · rename_i cs
      rw [bnd_is] at h
      obtain ⟨s2, h4, h5⟩ := h
      refine ⟨_, s2, ?_, h5⟩
      have := newB_is h4
      simp only [toBC] at this
      simp only [List.map_cons, List.map_nil, toAV, this, bnd_some]
    · split at h
      · cases h
      · rename_i hnp _ hp
        refine ⟨v, s1, ?_, h⟩
        have hp' : (toAV v).isP = false := by rw [av_isP]; exact hp
        cases v with
        | np cs => exact absurd rfl (hnp cs)
        | _ => simp only [List.map_cons, List.map_nil, toAV] at hp' ⊢; simp [hp']
  · cases h
theorem takesOkT_is : ∀ (xs : List OpT), takesOk (xs.map OpT.er) = takesOkT xs
  | [] => rfl
  | x :: xs => by
    have e : ∀ (t : Nat), ((xs.map OpT.er).all fun x => match x with | .take u => u != t | _ => true) = (xs.all fun x => match x with | .take u => u != t | _ => true) := by
      intro t
      rw [List.all_map]
      congr 1
      funext y
      cases y <;> rfl
    cases x <;> simp only [List.map_cons, OpT.er, takesOk, takesOkT, takesOkT_is xs]
    rename_i t
    exact congrArg (· && takesOkT xs) (e t)
theorem captT_is : ∀ {vs : List TV} {s : TS} {q : List TV × TS}, captT s vs = some q → capture (toS s) (vs.map toAV) = some (q.1.map toAV, toS q.2)
  | [], s, q, h => by simp [captT] at h; subst h; rfl
  | v :: r, s, q, h => by
    by_cases hv : ∃ b off, v = .bp b off
    · obtain ⟨b, off, rfl⟩ := hv
      simp only [captT] at h
      split at h
      · rename_i hc
        split at h
        · rename_i cs hb
          rw [bnd_is] at h
          obtain ⟨q', h1, h2⟩ := h
          injection h2 with h2
          subst h2
          have e : toS { s with b := upd s.b b none } = { toS s with b := upd (toS s).b b none } := by
            have e : (fun j => (upd s.b b none j).map toBC) = upd (fun j => (s.b j).map toBC) b none := map_upd (Option.map toBC) s.b b none
            simp only [toS, e]
          have h3 := captT_is h1
          rw [e] at h3
          simp only [List.map_cons, toAV, capture, hc, if_true, toS_b, hb, Option.map_some, toBC, h3, bnd_some, toAVs_eq, map_shr]
        · cases h
      · cases h
    · have h' : (match v.isP with | true => none | false => bnd (captT s r) fun q => some (v.shr :: q.1, q.2)) = some q := by
        cases v with
        | bp b off => exact absurd ⟨b, off, rfl⟩ hv
        | _ => simp only [captT] at h; exact h
      split at h'
      · cases h'
      · rename_i hp
        rw [bnd_is] at h'
        obtain ⟨q', h1, h2⟩ := h'
        injection h2 with h2
        subst h2
        have e : capture (toS s) (toAV v :: r.map toAV) = (if (toAV v).isP then none else bnd (capture (toS s) (r.map toAV)) fun (vs, s') => some (((toAV v).share :: vs, s'))) := by
          cases v with
          | bp b off => exact absurd ⟨b, off, rfl⟩ hv
          | _ => simp only [toAV, capture]; rfl
        rw [List.map_cons, e, av_isP, hp, captT_is h1]
        simp [av_shr]
theorem convT_is {s : TS} {c : CK} {x : TV} {k : TV → TS → Option ρ} {r : ρ} (h : convT s c x k = some r) : ∃ v s', convK (toS s) c (toAV x) = some (toAV v, toS s') ∧ k v s' = some r := by
  unfold convT at h
  split at h
  · exact ⟨_, _, by simp [convK, toAV, wrT_eq], h⟩
  · exact ⟨_, _, by simp [convK, toAV], h⟩
  · rename_i m l
    refine ⟨_, _, ?_, h⟩
    have : rowAV .u8 = fun n => [.int .u8 n] := rfl
    simp only [convK, toAV, TC.sz, this, av_bytes, bnd_some]
  · rename_i b
    split at h
    · rename_i l hb
      refine ⟨_, _, ?_, h⟩
      have : rowAV .u8 = fun n => [.int .u8 n] := rfl
      simp only [convK, toAV, toS_b, hb, Option.map_some, toBC, TC.sz, this, av_bytes, bnd_some]
    · cases h
  · rename_i b l
    rw [bnd_is] at h
    obtain ⟨s1, h1, h2⟩ := h
    refine ⟨_, _, ?_, h2⟩
    have := newB_is h1
    have e : (toBC (.rows .u8 (unbytes l))) = .rows 1 (l.map fun c => [.int .u8 (c.toNat : Int)]) := by
      simp only [toBC, unbytes, List.map_map]; rfl
    rw [e] at this
    simp only [convK, toAV, this, bnd_some]
  · rename_i k' n
    rw [bnd_is] at h
    obtain ⟨l, h1, h2⟩ := h
    refine ⟨_, _, ?_, h2⟩
    unfold rune at h1
    split at h1
    · rename_i hn
      injection h1 with h1
      subst h1
      simp [convK, toAV, hn]
    · cases h1
  · cases h
theorem mapDec_is {c : TC} {G : Nat → List TV} {s : TS} : ∀ {ps : List OpT} {l : List (Den c)}, (ps.mapM fun p => decRow c ((s.get G p).cells.map TV.shr)) = some l →
    (ps.map fun p => (toAV (s.get G p)).cells.map AV.share) = l.map (rowAV c) ∧ ∀ p ∈ ps, (toAV (s.get G p)).cells.length = c.sz ∧ (toAV (s.get G p)).cells.all AV.one = true
  | [], l, h => by simp at h; subst h; simp
  | p :: ps, l, h => by
    simp only [List.mapM_cons, bind, Option.bind_eq_some_iff, pure, Option.some.injEq] at h
    obtain ⟨x, h1, l', h2, rfl⟩ := h
    obtain ⟨h3, h4⟩ := mapDec_is h2
    have e := decRow_is h1
    have e2 : (toAV (s.get G p)).cells.map AV.share = rowAV c x := by rw [av_cells, map_shr, e, rowT_av]
    refine ⟨by simp only [List.map_cons, e2, h3], fun q hq => ?_⟩
    rcases List.mem_cons.1 hq with rfl | hq
    · constructor
      · have := congrArg List.length e2
        rw [List.length_map, rowAV_len] at this
        exact this
      · rw [av_cells, map_one]
        have h5 := rowT_one c x
        rw [← e, List.all_map] at h5
        rw [List.all_eq_true] at h5 ⊢
        intro v hv
        have := h5 v hv
        cases v <;> simp_all [TV.one, TV.shr]
    · exact h4 q hq
end Go.Tv
