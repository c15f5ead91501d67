/- What a typed value is as a plain one. -/
import Derived.Test.YtpkgdoapdijmeaaTv1
set_option linter.unusedVariables false
set_option linter.unusedSimpArgs false
namespace Go.Tv
open Go Go.RowKit Go.Vs
theorem Qj (cs : List TV) : Qca cs = cs.map toAV := by
 induction cs with
 | nil => rfl
 | cons c cs ih => simp [Qca, ih]
theorem Qex (l : List Exp) : Qep l = l.map Qfz := by
 induction l with
 | nil => rfl
 | cons c cs ih => simp [Qep, ih]
theorem Qby (l : List Stm) : Qcp l = l.map Qiq := by
 induction l with
 | nil => rfl
 | cons c cs ih => simp [Qcp, ih]
theorem Qpu : Qd .exp = Qfz := rfl
theorem Qle : Qd .stm = Qiq := rfl
theorem Qde (m : Md) (c : TC) (l : List (Den c)) : toAV (.sl m c l) = .sl m.sm c.sz (l.map (Qd c)) := by simp only [toAV]
theorem Qdd : Qd .int = fun n => [.int .i64 n] := rfl
theorem Qts : Qd .bool = fun n => [.bool n] := rfl
theorem Qsm : Qd .bx = bxAV := rfl
theorem Qsn : Qd .tk = tkAV := rfl
theorem Qtu : Qd .stms = fun l => [.sl .share 8 (Qcp l)] := rfl
theorem Qtt : Qd .ints = fun l => [Qao l] := rfl
theorem Qci : ∀ (c : TC) (x : Den c), (rowT c x).map toAV = Qd c x
 | .int, n | .u8, n | .bool, n | .str, n | .quad, n | .event, n => by simp [rowT, Qd, toAV]
 | .exp, e => by cases e; simp only [rowT, Qd, Qfz, List.map_cons, List.map_nil, Qde, toAV, Qex, Qpu]; rfl
 | .stm, e => by cases e; simp only [rowT, Qd, Qiq, List.map_cons, List.map_nil, Qde, toAV, Qex, Qby, Qpu, Qle]; rfl
 | .stms, l => by simp only [rowT, Qd, List.map_cons, List.map_nil, Qde, Qby, Qle]; rfl
 | .bx, b => by simp only [rowT, Qd, bxAV, Qao, List.map_cons, List.map_nil, Qde, toAV, Qdd]; rfl
 | .tk, b => by simp only [rowT, Qd, tkAV, Qao, List.map_cons, List.map_nil, Qde, toAV, Qdd, Qby, Qle]; rfl
 | .ints, b => by simp only [rowT, Qd, Qao, List.map_cons, List.map_nil, Qde, Qdd]; rfl
 | .rg, b => by simp only [rowT, Qd, Qao, List.map_cons, List.map_nil, Qde, toAV, Qdd]; rfl
 | .prg, b => by simp only [rowT, Qd, Qao, List.map_cons, List.map_nil, Qde, toAV, Qdd, Qtu]; rfl
 | .wld, b => by simp only [rowT, Qd, Qao, List.map_cons, List.map_nil, Qde, toAV, Qdd, Qsn, Qsm]; rfl
 | .otc, b => by simp only [rowT, Qd, Qao, List.map_cons, List.map_nil, Qde, toAV, Qdd, Qtt, Qts]; rfl
 | .fn, g => by simp [rowT, Qd, toAV, Qca]
 | .intsH, g | .stmsH, g | .stmsHH, g | .expH, g | .stmH, g | .bxH, g | .tkH, g | .rgH, g | .prgH, g | .wldH, g | .otcH, g => by simp [rowT, Qd, toAV, TC.sz]
 | .wldO, g => by simp only [rowT, Qd, List.map_cons, List.map_nil, Qde, toAV, Qsn, Qsm]; rfl
theorem Qyo : ∀ (c : TC) (x : Den c), (rowT c x).length = c.sz
 | .int, _ | .u8, _ | .bool, _ | .str, _ | .quad, _ | .event, _ | .exp, _ | .stm, _ | .stms, _ | .bx, _ | .tk, _ | .ints, _ | .rg, _ | .prg, _ | .wld, _ | .otc, _ | .fn, _ | .intsH, _ | .stmsH, _ | .stmsHH, _ | .expH, _ | .stmH, _ | .bxH, _ | .tkH, _ | .rgH, _ | .prgH, _ | .wldH, _ | .otcH, _ | .wldO, _ => rfl
theorem Qdv (c : TC) (x : Den c) : (Qd c x).length = c.sz := by rw [← Qci, List.length_map, Qyo]
theorem Qso : ∀ (c : TC) (x : Den c), (rowT c x).all TV.one = true
 | .int, _ | .u8, _ | .bool, _ | .str, _ | .quad, _ | .event, _ | .exp, _ | .stm, _ | .stms, _ | .bx, _ | .tk, _ | .ints, _ | .rg, _ | .prg, _ | .wld, _ | .otc, _ | .fn, _ | .intsH, _ | .stmsH, _ | .stmsHH, _ | .expH, _ | .stmH, _ | .bxH, _ | .tkH, _ | .rgH, _ | .prgH, _ | .wldH, _ | .otcH, _ | .wldO, _ => rfl
theorem Qaq {c c' : TC} {l : List (Den c)} {l' : List (Den c')} (h : Qbt c c' l = some l') : ∃ e : c = c', e ▸ l = l' := by
 unfold Qbt at h
 split at h
 ·rename_i e; injection h with h; exact ⟨e, h⟩
 ·cases h
theorem Qgy {c : TC} {cs : List TV} {x : Den c} (h : Qit c cs = some x) : cs = rowT c x := by
  unfold Qit at h
  split at h <;> first
    | (cases h; done)
    | (injection h with h; subst h; rfl)
    | (simp only [Qa] at h
       obtain ⟨a, h1, h2⟩ := h
       obtain ⟨rfl, rfl⟩ := Qaq h1
       injection h2 with h2; subst h2; rfl)
    | (obtain ⟨rfl, rfl⟩ := Qaq h; rfl)
    | (split at h
       · rename_i hc
         first | subst hc | (obtain ⟨rfl, rfl⟩ := hc) | (obtain ⟨rfl, rfl, rfl⟩ := hc)
         injection h with h; subst h; rfl
       · cases h)
    | (simp only [Qa] at h
       obtain ⟨a, h1, b, h2, h3⟩ := h
       obtain ⟨rfl, rfl⟩ := Qaq h1
       obtain ⟨rfl, rfl⟩ := Qaq h2
       injection h3 with h3; subst h3; rfl)
    | (simp only [Qa] at h
       obtain ⟨a, h1, b, h2, h3⟩ := h
       obtain ⟨rfl, rfl⟩ := Qaq h1
       obtain ⟨rfl, rfl⟩ := Qaq h2
       split at h3
       · rename_i hc
         subst hc
         injection h3 with h3; subst h3; rfl
       · cases h3)
    | (simp only [Qa] at h
       obtain ⟨a, h1, b, h2, c, h3, h4⟩ := h
       obtain ⟨rfl, rfl⟩ := Qaq h1
       obtain ⟨rfl, rfl⟩ := Qaq h2
       obtain ⟨rfl, rfl⟩ := Qaq h3
       injection h4 with h4; subst h4; rfl)
theorem Qjx (v : TV) : (toAV v).dem = toAV v.dem := by
 cases v with
 | sl m c l =>
  cases m with
  | share => simp [toAV, TV.dem, AV.dem, Md.dem, Md.sm]
  | full => simp [toAV, TV.dem, AV.dem, Md.dem, Md.sm]
  | own b => cases b <;> simp [toAV, TV.dem, AV.dem, Md.dem, Md.sm]
 | _ => simp [toAV, TV.dem, AV.dem]
theorem Qos (v : TV) : (toAV v).share = toAV v.shr := by cases v <;> simp [toAV, TV.shr, AV.share, Md.sm]
theorem Qzf (v : TV) : (toAV v).toTip = toAV v.toTip := by
 cases v with
 | sl m c l =>
  cases m with
  | share => simp [toAV, TV.toTip, AV.toTip, Md.sm]
  | full => simp [toAV, TV.toTip, AV.toTip, Md.sm]
  | own b => cases b <;> simp [toAV, TV.toTip, AV.toTip, Md.sm]
 | _ => simp [toAV, TV.toTip, AV.toTip]
theorem Qdi (v : TV) : (toAV v).cells = v.cells.map toAV := by cases v <;> simp [toAV, TV.cells, AV.cells, Qj]
theorem Qqz (cs : List TV) : (cs.map toAV).map AV.dem = (cs.map TV.dem).map toAV := by simp [Qjx]
theorem Qfb (cs : List TV) : (cs.map toAV).map AV.share = (cs.map TV.shr).map toAV := by simp [Qos]
theorem Qut (v : TV) : (toAV v).scells = v.scells.map toAV := by cases v <;> simp [toAV, TV.scells, AV.scells, Qj, Qjx]
theorem av_one (v : TV) : (toAV v).one = v.one := by cases v <;> simp [toAV, TV.one, AV.one]
theorem Qig (cs : List TV) : (cs.map toAV).all AV.one = cs.all TV.one := by simp [List.all_map, Function.comp_def, av_one]
theorem Qjy (v : TV) : (toAV v).isP = v.isP := by cases v <;> simp [toAV, TV.isP, AV.isP]
theorem av_okIn (bins : List Nat) (v : TV) : (toAV v).okIn bins = v.okIn bins := by cases v <;> simp [toAV, TV.okIn, AV.okIn]
theorem av_arg (v : TV) : (match toAV v with | .agg cs => .agg (cs.map AV.share) | v => v.share) = toAV (argV v) := by
 cases v with
 | agg cs => simp only [toAV, argV, Qj, Qfb]
 | _ => simp only [toAV, argV, AV.share, TV.shr, Md.sm]
theorem av_part (n : Nat) (agg : Bool) (cs : List TV) (off : Nat) : Vs.part n agg (cs.map toAV) off = (Qpp n agg cs off).map toAV := by
 unfold Vs.part Qpp
 cases agg
 ·simp only [Bool.false_eq_true, if_false]
  split
  ·rw [List.getElem?_map]; cases cs[off]? <;> simp [Qjx]
  ·rfl
 ·simp only [if_true, List.length_map]
  split
  ·have : (AV.dem ∘ toAV) = (toAV ∘ TV.dem) := by funext v; exact Qjx v
   simp [toAV, Qj, List.map_take, List.map_drop, this]
  ·rfl
theorem Qus (cs : List TV) (off : Nat) (vs : List TV) : Vs.over (cs.map toAV) off (vs.map toAV) = (Qpo cs off vs).map (List.map toAV) := by
 unfold Vs.over Qpo
 simp only [List.length_map]
 split
 ·simp [List.map_take, List.map_drop]
 ·rfl
theorem Qqi : ∀ (ps : List (Nat × Nat × TV)) (cs : List TV), Qkk (cs.map toAV) (ps.map fun p => (p.1, p.2.1, toAV p.2.2)) = (Qtf cs ps).map (List.map toAV)
 | [], cs => by simp [Qkk, Qtf]
 | (off, n, v) :: r, cs => by
  simp only [List.map_cons, Qkk, Qtf, Qdi, List.length_map, Qig, Qqz, Qus]
  split
  ·cases Qpo cs off (v.cells.map TV.dem) with
   | none => rfl
   | some cs' => simp only [Option.map_some, Qb]; exact Qqi r cs'
  ·rfl
theorem Qor : ∀ (a b : List TV), Qew (a.map toAV) (b.map toAV) = Qno a b
 | [], [] => rfl
 | [], b :: bs => by cases b <;> rfl
 | a :: as, [] => by cases a <;> rfl
 | a :: as, b :: bs => by
  cases a <;> cases b <;> simp only [List.map_cons, toAV, Qew, Qno, Qor as bs]
theorem Qjw : ∀ (a : List TV), Qdh (a.map toAV) = Qml a
 | [] => rfl
 | a :: as => by
  cases a with
  | int k n => cases k <;> simp [toAV, Qdh, Qml, Qjw as]
  | _ => simp [toAV, Qdh, Qml]
theorem Qll : ∀ {cs : List TV} {l : List (List UInt8)}, Qmz cs = some l → cs = l.map .str
 | [], l, h => by simp [Qmz] at h; subst h; rfl
 | c :: cs, l, h => by
  cases c <;> simp [Qmz] at h
  rw [Qa] at h
  obtain ⟨a, h1, h2⟩ := h
  injection h2 with h2
  subst h2
  rw [Qll h1]; rfl
theorem Qrv (l : List Int) : Qau (l.map fun n => [.int .u8 n]) = some (bytes l) := by
 induction l with
 | nil => rfl
 | cons n l ih => simp [Qau, bytes] at ih ⊢; rw [ih]; rfl
theorem Qtv : ∀ (c : TC) (x : Den c), (rowT c x).map TV.shr = rowT c x
 | .int, _ | .u8, _ | .bool, _ | .str, _ | .quad, _ | .event, _ | .exp, _ | .stm, _ | .stms, _ | .bx, _ | .tk, _ | .ints, _ | .rg, _ | .prg, _ | .wld, _ | .otc, _ | .fn, _ | .intsH, _ | .stmsH, _ | .stmsHH, _ | .expH, _ | .stmH, _ | .bxH, _ | .tkH, _ | .rgH, _ | .prgH, _ | .wldH, _ | .otcH, _ | .wldO, _ => rfl
theorem Qld (c : TC) (x : Den c) : (Qd c x).map AV.share = Qd c x := by rw [← Qci, Qfb, Qtv]
def toS (s : TS) : S := { t := fun j => toAV (s.t j), b := fun j => (s.b j).map toBC, seen := s.seen }
def GA (G : Nat → List TV) : Nat → List AV := fun i => Qca (G i)
theorem Qgt (s : TS) (b : Nat) : (toS s).b b = (s.b b).map toBC := rfl
theorem Qih {α β : Type} (g : α → β) (f : Nat → α) (i : Nat) (v : α) : (fun j => g (upd f i v j)) = upd (fun j => g (f j)) i (g v) := by
 funext j; unfold upd; split <;> rfl
theorem Qrm (s : TS) (d : Option Nat) (v : TV) : toS (s.put d v) = (toS s).put d (toAV v) := by
 cases d with
 | none => rfl
 | some d => simp only [toS, TS.put, S.put, Qih toAV]
theorem Qhu (s : TS) (b : Nat) (c : BT) : toS (s.setB b c) = (toS s).setB b (toBC c) := by
 have e : (fun j => (upd s.b b (some c) j).map toBC) = upd (fun j => (s.b j).map toBC) b (some (toBC c)) := Qih (Option.map toBC) s.b b (some c)
 simp only [toS, TS.setB, S.setB, e]
theorem Qyx (s : TS) (b : Nat) (c : BT) : (toS s).newB b (toBC c) = (s.newB b c).map toS := by
 have e : (fun j => (upd s.b b (some c) j).map toBC) = upd (fun j => (s.b j).map toBC) b (some (toBC c)) := Qih (Option.map toBC) s.b b (some c)
 unfold S.newB TS.newB
 have : (toS s).seen b = s.seen b := rfl
 rw [this]
 split
 ·rfl
 ·simp only [Option.map_some, toS, e]
theorem Qel (s : TS) (x : OpT) : toS (s.drop x) = (toS s).drop x.er := by
 cases x with
 | take t => simp only [TS.drop, OpT.er, S.drop, toS, Qih toAV, Qjx]
 | _ => rfl
theorem Qlm (xs : List OpT) : ∀ s : TS, toS (xs.foldl TS.drop s) = dropAll (toS s) (xs.map OpT.er) := by
 induction xs with
 | nil => intro s; rfl
 | cons x xs ih => intro s; simp only [List.foldl_cons, ih, dropAll, List.map_cons, Qel]
theorem Qh (G : Nat → List TV) (s : TS) (x : OpT) : (toS s).get (GA G) x.er = toAV (s.get G x) := by
 cases x with
 | tmp t => simp only [OpT.er, S.get, TS.get]; exact Qjx (s.t t)
 | _ => simp [OpT.er, S.get, TS.get, toS, toAV, GA, Qca]
theorem Qyu (G : Nat → List TV) (s : TS) (x : OpT) : (toS s).getA (GA G) x.er = toAV (s.getA G x) := by
 cases x with
 | tmp t => simp only [OpT.er, S.getA, TS.getA]; exact av_arg (s.t t)
 | take t => simp only [OpT.er, S.getA, TS.getA]; exact Qzf (s.t t)
 | const v => simp only [OpT.er, S.getA, TS.getA]; exact Qzf v
 | _ => simp [OpT.er, S.getA, TS.getA, toS, toAV, GA, Qca]
theorem Qok (G : Nat → List TV) (s : TS) (xs : List OpT) : (xs.map OpT.er).map ((toS s).get (GA G)) = (xs.map (s.get G)).map toAV := by
 simp [List.map_map, Function.comp_def, Qh]
theorem Qoj (G : Nat → List TV) (s : TS) (xs : List OpT) : Qbk (GA G) (toS s) (xs.map OpT.er) = (xs.map (s.getA G)).map toAV := by
 simp [Qbk, List.map_map, Function.comp_def, Qyu]
theorem Qwt (ins : List Nat) (tv : List TV) (bins : List Nat) (bv : List BT) : toS (mkST ins tv bins bv) = mkS ins (tv.map toAV) bins (bv.map toBC) := by
 have h1 : ∀ (ins : List Nat) (tv : List TV), (fun j => toAV (asTT ins tv j)) = asT ins (tv.map toAV) := by
  intro ins
  induction ins with
  | nil => intro tv; funext j; cases tv <;> rfl
  | cons i is ih =>
   intro tv; funext j
   cases tv with
   | nil => rfl
   | cons v vs => have := congrFun (ih vs) j; simp only [asTT, List.map_cons, asT]; split <;> first | rfl | exact this
 have h2 : ∀ (ins : List Nat) (tv : List BT), (fun j => (asBT ins tv j).map toBC) = asB ins (tv.map toBC) := by
  intro ins
  induction ins with
  | nil => intro tv; funext j; cases tv <;> rfl
  | cons i is ih =>
   intro tv; funext j
   cases tv with
   | nil => rfl
   | cons v vs => have := congrFun (ih vs) j; simp only [asBT, List.map_cons, asB]; split <;> first | rfl | exact this
 simp only [toS, mkST, mkS, h1, h2]
theorem Qeu {s : TS} : ∀ {bs : List Nat} {r : List BT}, Qis s bs = some r → Qag (toS s) bs = some (r.map toBC)
 | [], r, h => by simp [Qis] at h; subst h; rfl
 | b :: bs, r, h => by
  simp only [Qis, Qa] at h
  obtain ⟨c, h1, l, h2, h3⟩ := h
  injection h3 with h3
  subst h3
  simp only [Qag, Qgt, h1, Option.map_some, Qb, Qeu h2, List.map_cons]
theorem Qyw (s : TS) (ts bs : List Nat) : toS (s.mask ts bs) = (toS s).mask ts bs := by
 simp only [toS, TS.mask, S.mask, S.mk.injEq]
 refine ⟨?_, ?_, trivial⟩
 ·funext j; split <;> simp [toAV]
 ·funext j; split <;> simp
theorem Qws (s : TS) (o : AOp) (s' : TS) : toS (s.merge o.takes o.k.mods o.fp s') = (toS s).merge o (toS s') := by
 simp only [toS, TS.merge, S.merge, S.mk.injEq]
 refine ⟨?_, ?_, trivial⟩
 ·funext j; split <;> rfl
 ·funext j; split <;> rfl
theorem Qbz (s : TS) (es : List Ent) : toS (s.setA es) = (toS s).setA es := Qhu s 99 (.ar es)
theorem Qyv (s : TS) (b : Nat) : (toS s).live b = s.live b := by
 unfold S.live TS.live
 rw [Qgt]
 cases s.b b with
 | none => rfl
 | some c => cases c <;> rfl
theorem Qcs {s : TS} {es : List Ent} (h : s.b 99 = some (.ar es)) : (toS s).arr = some es := by
 unfold S.arr
 rw [Qgt, h]; rfl
theorem Qvv {l : List AV} : Qas l = l.all AV.noTr := by
 induction l with
 | nil => rfl
 | cons x l ih => simp only [Qas, List.all_cons, ih]
theorem Qvw {l : List (List AV)} : Qgk l = l.all Qas := by
 induction l with
 | nil => rfl
 | cons x l ih => simp only [Qgk, List.all_cons, ih]
mutual
theorem Qmh : ∀ (e : Exp), Qas (Qfz e) = true
 | ⟨o, n, as⟩ => by simp only [Qfz, Qas, AV.noTr, Qgi as, Bool.and_self]
theorem Qgi : ∀ (l : List Exp), Qgk (Qep l) = true
 | [] => rfl
 | e :: l => by simp only [Qep, Qgk, Qmh e, Qgi l, Bool.and_self]
end
mutual
theorem Qmy : ∀ (e : Stm), Qas (Qiq e) = true
 | ⟨k, v, b, e, bd, el⟩ => by simp only [Qiq, Qas, AV.noTr, Qgi e.args, Qcj bd, Qcj el, Bool.and_self]
theorem Qcj : ∀ (l : List Stm), Qgk (Qcp l) = true
 | [] => rfl
 | e :: l => by simp only [Qcp, Qgk, Qmy e, Qcj l, Bool.and_self]
end
theorem Qed {α : Type} {f : α → List AV} (h : ∀ x, Qas (f x) = true) (l : List α) : Qgk (l.map f) = true := by
 rw [Qvw, List.all_map, List.all_eq_true]
 intro x _; exact h x
theorem Qbc (l : List Int) : (Qao l).noTr = true := by
 simp only [Qao, AV.noTr]
 exact Qed (fun _ => rfl) l
theorem Qow (b : Bx) : Qas (bxAV b) = true := by simp only [bxAV, Qas, Qbc, AV.noTr, Bool.and_self]
theorem Qqa (b : Tk) : Qas (tkAV b) = true := by simp only [tkAV, Qas, Qbc, AV.noTr, Qcj, Bool.and_self]
theorem Qmu : ∀ (c : TC) (x : Den c), c.plain = true → Qas (Qd c x) = true
 | .int, _, _ | .u8, _, _ | .bool, _, _ | .str, _, _ | .quad, _, _ | .event, _, _ | .fn, _, _ => rfl
 | .exp, e, _ => Qmh e
 | .stm, e, _ => Qmy e
 | .stms, l, _ => by simp only [Qd, Qas, AV.noTr, Qcj, Bool.and_self]
 | .bx, b, _ => Qow b
 | .tk, b, _ => Qqa b
 | .ints, l, _ => by simp only [Qd, Qas, Qbc, Bool.and_self]
 | .rg, r, _ => by simp only [Qd, Qas, Qbc, AV.noTr, Bool.and_self]
 | .prg, p, _ => by
  simp only [Qd, Qas, Qbc, AV.noTr, Bool.true_and, Bool.and_true]
  exact Qed (fun l => by simp only [Qas, AV.noTr, Qcj, Bool.and_self]) _
 | .wld, w, _ => by
  simp only [Qd, Qas, Qbc, AV.noTr, Bool.true_and, Bool.and_true]
  rw [Qed Qqa, Qed Qow]; rfl
 | .otc, o, _ => by
  simp only [Qd, Qas, Qbc, AV.noTr, Bool.true_and, Bool.and_true]
  rw [Qed (fun l => by simp only [Qas, Qbc, Bool.and_self]), Qed (fun _ => rfl)]; rfl
theorem Qgo {c : TC} (h : c.plain = true) (l : List (Den c)) : Qgk (l.map (Qd c)) = true := Qed (fun x => Qmu c x h) l
mutual
theorem Qhy : ∀ (v : TV), v.noTr = true → (toAV v).noTr = true
 | .undef, _ | .int _ _, _ | .bool _, _ | .str _, _ | .con _, _ | .bp _ _, _ | .bs _, _ | .be _ _ _, _ => by simp [toAV, AV.noTr]
 | .sl m c l, h => by simp only [toAV, AV.noTr]; exact Qgo h l
 | .agg cs, h => by simp only [toAV, AV.noTr]; exact Qdj cs h
 | .rp cs off, h => by simp only [toAV, AV.noTr]; exact Qdj cs h
 | .rs l i, h => by
  simp only [toAV, AV.noTr, Qvv, List.all_map, List.all_eq_true]
  intro x _; rfl
 | .fn g cs, h => by simp only [toAV, AV.noTr]; exact Qdj cs h
 | .tup cs, h => by simp only [toAV, AV.noTr]; exact Qdj cs h
 | .np cs, h => by simp only [toAV, AV.noTr]; exact Qdj cs h
 | .tr _ _ _, h => by cases h
 | .trp _ _ _ _, h => by cases h
 | .arv _, h => by cases h
theorem Qdj : ∀ (cs : List TV), Qgf cs = true → Qas (Qca cs) = true
 | [], _ => rfl
 | c :: cs, h => by
  simp only [Qgf, Zw] at h
  simp only [Qca, Qas, Qhy c h.1, Qdj cs h.2, Bool.and_self]
end
mutual
theorem Qur : ∀ (v : TV), v.flat = true → (toAV v).flat = true
 | .int _ _, _ | .bool _, _ | .str _, _ => by simp [toAV, AV.flat]
 | .agg cs, h => by simp only [toAV, AV.flat]; exact Qnj cs h
 | .tup cs, h => by simp only [toAV, AV.flat]; exact Qnj cs h
 | .undef, h | .con _, h | .bp _ _, h | .bs _, h | .be _ _ _, h | .sl _ _ _, h | .rp _ _, h | .rs _ _, h | .fn _ _, h | .np _, h | .tr _ _ _, h | .trp _ _ _ _, h | .arv _, h => by cases h
theorem Qnj : ∀ (cs : List TV), Qpe cs = true → Qqw (Qca cs) = true
 | [], _ => rfl
 | c :: cs, h => by
  simp only [Qpe, Zw] at h
  simp only [Qca, Qqw, Qur c h.1, Qnj cs h.2, Bool.and_self]
end
mutual
theorem Qrw : ∀ (v : TV), v.flatT = true → (toAV v).flatT = true
 | .int _ _, _ | .bool _, _ | .str _, _ | .tr _ _ _, _ => by simp [toAV, AV.flatT]
 | .agg cs, h => by simp only [toAV, AV.flatT]; exact Qjz cs h
 | .tup cs, h => by simp only [toAV, AV.flatT]; exact Qjz cs h
 | .undef, h | .con _, h | .bp _ _, h | .bs _, h | .be _ _ _, h | .sl _ _ _, h | .rp _ _, h | .rs _ _, h | .fn _ _, h | .np _, h | .trp _ _ _ _, h | .arv _, h => by cases h
theorem Qjz : ∀ (cs : List TV), Qkm cs = true → Qdu (Qca cs) = true
 | [], _ => rfl
 | c :: cs, h => by
  simp only [Qkm, Zw] at h
  simp only [Qca, Qdu, Qrw c h.1, Qjz cs h.2, Bool.and_self]
end
theorem av_calm (v : TV) (h : v.calm = true) : (toAV v).calm = true := by
 cases v with
 | sl m c l =>
  cases m with
  | own b => cases b <;> first | (cases h; done) | simp [toAV, AV.calm, Md.sm]
  | share => simp [toAV, AV.calm, Md.sm]
  | full => simp [toAV, AV.calm, Md.sm]
 | _ => first | (cases h; done) | simp [toAV, AV.calm]
theorem Qwk (c : TC) : c.seen.sz = c.sz := by cases c <;> rfl
theorem bt_noTr (b : BT) (h : b.noTr = true) : (toBC b).noTr = true := by
 cases b with
 | var cs => exact Qdj cs h
 | rows c l => exact Qgo h l
 | ar es => cases h
theorem bt_isAr (b : BT) : (toBC b).isAr = b.isAr := by cases b <;> rfl
theorem Qta {c : TC} {xs : List (List AV)} {l : List (Den c)} (h : Qib c xs = some l) : xs = l.map (Qd c) := by
 unfold Qib at h
 split at h
 ·rename_i hx; injection h with h; rw [← h]; exact hx.choose_spec.symm
 ·cases h
theorem Qat {es : List Ent} {c : TC} {h : Option Nat} {l : List (Den c)} (hg : Qae es c h = some l) : Qbm es c.sz h = some (l.map (Qd c)) := by
 unfold Qae at hg
 obtain ⟨xs, h1, h2⟩ := Qa.1 hg
 rw [h1, Qta h2]
end Go.Tv
namespace Go.Tv
open Go Go.RowKit Go.Vs
variable {ρ : Type}
def Qnd (Φ : CT ρ) (call : Vs.Call) : Prop :=
 ∀ g tv bv k r, Φ g tv bv k = some r → ∃ o outs bv', call g (tv.map toAV) (bv.map toBC) = some (o, outs.map toAV, bv'.map toBC) ∧ k o outs bv' = some r
theorem Qgj {α : Type} {l : List α} {n : Int} {x : α} (h : geti l n = some x) : 0 ≤ n ∧ l[n.toNat]? = some x := by
 unfold geti at h; split at h
 ·exact ⟨‹_›, h⟩
 ·cases h
theorem Qhe {α : Type} {l : List α} {k : IntKind} {n : Int} {x : α} (h : geti l n = some x) : Qcq (.int k n) = some n.toNat := by
 simp [Qcq, (Qgj h).1]
theorem Qhk {n : Nat} {agg : Bool} {cs : List TV} {off : Nat} {v : TV} (h : Qpp n agg cs off = some v) : Vs.part n agg (cs.map toAV) off = some (toAV v) := by
 rw [av_part, h]; rfl
theorem Qod {cs vs r : List TV} {off : Nat} (h : Qpo cs off vs = some r) : Vs.over (cs.map toAV) off (vs.map toAV) = some (r.map toAV) := by rw [Qus, h]; rfl
theorem Qkv {s s' : TS} {b : Nat} {c : BT} (h : s.newB b c = some s') : (toS s).newB b (toBC c) = some (toS s') := by rw [Qyx, h]; rfl
theorem Qjm {s : TS} {b : Nat} (h : s.live b = true) : (toS s).live b = true := by rw [Qyv]; exact h
mutual
theorem Qkq : ∀ (v : TV) (k : TV → Option ρ), Qiv v k = k v
 | .undef, k | .int a n, k | .bool b, k | .str l, k | .con c, k | .sl m c l, k | .bp b o, k | .bs b, k | .be b i o, k | .rs l i, k | .tr c h n, k | .trp c h i o, k | .arv es, k => by simp only [Qiv]
 | .agg cs, k | .rp cs _, k | .fn _ cs, k | .tup cs, k | .np cs, k => by simp only [Qiv, Qey cs]
theorem Qey : ∀ (l : List TV) (k : List TV → Option ρ), Qeq l k = k l
 | [], k => by simp only [Qeq]
 | v :: r, k => by simp only [Qeq, Qkq v, Qey r]
end
theorem Qnx {n : Nat} {agg take : Bool} {s : TS} {p : TV} {k : TV → TS → Option ρ} {r : ρ} (h : Qqy n agg take s p k = some r) : ∃ v s', loadP n agg take (toS s) (toAV p) = some (toAV v, toS s') ∧ k v s' = some r := by
 unfold Qqy at h
 split at h
 ·rename_i b off
  split at h
  ·rename_i cs hb
   split at h
   ·split at h
    ·cases h
    ·split at h
     ·rename_i hn
      rw [Qa] at h
      obtain ⟨v, h1, h2⟩ := h
      split at h2
      ·cases h2
      ·rename_i hp
       refine ⟨v, _, ?_, h2⟩
       simp only [toAV, loadP, Qgt, hb, Option.map_some, toBC, Qj, if_true, Bool.false_eq_true, if_false, hn, List.getElem?_map, h1, Qb, Qjy, hp, Qhu, List.map_set, Qjx]
     ·cases h
   ·rw [Qa] at h
    obtain ⟨v, h1, h2⟩ := h
    refine ⟨v, s, ?_, h2⟩
    simp only [toAV, loadP, Qgt, hb, Option.map_some, toBC, Qj, Bool.false_eq_true, if_false, Qhk h1, Qb]
  ·cases h
 ·rename_i b i off
  split at h
  ·rename_i c l hb
   split at h
   ·cases h
   ·rw [Qa] at h
    obtain ⟨x, h1, h⟩ := h
    rw [Qa] at h
    obtain ⟨v, h2, h3⟩ := h
    refine ⟨v, s, ?_, h3⟩
    have := Qhk h2
    rw [Qci] at this
    simp only [toAV, loadP, Qgt, hb, Option.map_some, toBC, List.getElem?_map, h1, Qb, Bool.false_eq_true, if_false, this]
  ·cases h
 ·split at h
  ·cases h
  ·rw [Qa] at h
   obtain ⟨v, h2, h3⟩ := h
   refine ⟨v, s, ?_, h3⟩
   simp only [toAV, loadP, Qj, Bool.false_eq_true, if_false, Qhk h2, Qb]
 ·split at h
  ·cases h
  ·split at h
   ·cases h
   ·split at h
    ·rename_i hn
     rw [Qa] at h
     obtain ⟨v, h2, h3⟩ := h
     refine ⟨.str v, s, ?_, h3⟩
     simp only [toAV, loadP, Vs.part, Bool.false_eq_true, if_false, hn, if_true, List.getElem?_map, h2, Option.map_some, Qb, AV.dem]
    ·cases h
 ·cases h
theorem Qwp {n : Nat} {s : TS} {p v : TV} {k : TS → Option ρ} {r : ρ} (h : Qwo n s p v k = some r) : ∃ s', storeP n (toS s) (toAV p) (toAV v) = some (toS s') ∧ k s' = some r := by
 unfold Qwo at h
 split at h
 ·rename_i hc
  have hc' : (toAV v).cells.length = n ∧ (toAV v).cells.all AV.one = true := by rw [Qdi, List.length_map, Qig]; exact hc
  unfold storeP
  rw [if_pos hc']
  split at h
  ·rename_i b off
   split at h
   ·rename_i cs hb
    rw [Qa] at h
    obtain ⟨cs', h1, h2⟩ := h
    rw [Qey] at h2
    refine ⟨_, ?_, h2⟩
    simp only [toAV, Qgt, hb, Option.map_some, toBC, Qj, Qut, Qod h1, Qb, Qhu]
   ·cases h
  ·rename_i b i off
   split at h
   ·rename_i c l hb
    simp only [Qa] at h
    obtain ⟨x, h1, cs', h2, y, h3, h4⟩ := h
    refine ⟨_, ?_, h4⟩
    have e := Qod h2
    rw [Qci, ← Qfb, ← Qdi, Qgy h3, Qci] at e
    simp only [toAV, Qgt, hb, Option.map_some, toBC, List.getElem?_map, h1, Qb, e, Qhu, List.map_set]
   ·cases h
  ·cases h
 ·cases h
theorem binT_is {op : BinOp} {x y : TV} {k : TV → Option ρ} {r : ρ} (h : binT op x y k = some r) : ∃ v, bin op (toAV x) (toAV y) = some (toAV v) ∧ k v = some r := by
  unfold binT at h
  split at h
  · rename_i kx a ky b
    split at h
    · rw [Qa] at h
      obtain ⟨n, h1, h2⟩ := h
      refine ⟨_, ?_, h2⟩
      unfold shlI at h1
      split at h1
      · cases h1
      · rename_i hb
        injection h1 with h1
        rw [Qqf] at h1
        simp [toAV, bin, Qmv, hb, h1]
    · rw [Qa] at h
      obtain ⟨n, h1, h2⟩ := h
      refine ⟨_, ?_, h2⟩
      unfold shrI at h1
      split at h1
      · cases h1
      · rename_i hb
        injection h1 with h1
        simp [toAV, bin, Qmv, hb, h1]
    · split at h
      · rename_i hk
        subst hk
        split at h <;> first
          | (cases h; done)
          | exact ⟨_, by simp [toAV, bin, binI, Qqf], h⟩
          | (rw [Qa] at h
             obtain ⟨n, h1, h2⟩ := h
             refine ⟨_, ?_, h2⟩
             unfold quoI at h1
             split at h1
             · cases h1
             · rename_i hb
               injection h1 with h1
               rw [Qqf] at h1
               simp [toAV, bin, binI, hb, h1])
          | (rw [Qa] at h
             obtain ⟨n, h1, h2⟩ := h
             refine ⟨_, ?_, h2⟩
             unfold remI at h1
             split at h1
             · cases h1
             · rename_i hb
               injection h1 with h1
               simp [toAV, bin, binI, hb, h1])
      · cases h
  · split at h
    · rw [Qa] at h
      obtain ⟨n, h1, h2⟩ := h
      refine ⟨_, ?_, h2⟩
      unfold catS at h1
      split at h1
      · rename_i hl
        injection h1 with h1
        simp [toAV, bin, binS, hl, h1]
      · cases h1
    · exact ⟨_, by simp [toAV, bin, binS], h⟩
    · exact ⟨_, by simp [toAV, bin, binS], h⟩
    · cases h
  · cases h
theorem Qji {s : TS} : ∀ {as : List TV} {j : Nat} {q : List TV × List BT × List Nat}, Qnv s as j = some q → lend (toS s) (as.map toAV) j = some (q.1.map toAV, q.2.1.map toBC, q.2.2)
 | [], j, q, h => by simp [Qnv] at h; subst h; rfl
 | v :: r, j, q, h => by
  by_cases hv : ∃ b off, v = .bp b off
  ·obtain ⟨b, off, rfl⟩ := hv
   simp only [Qnv] at h
   split at h
   ·rename_i hc
    split at h
    ·rename_i cs hb
     rw [Qa] at h
     obtain ⟨q', h1, h2⟩ := h
     split at h2
     ·cases h2
     ·rename_i hn
      injection h2 with h2
      subst h2
      simp only [List.map_cons, toAV, lend, hc, and_self, if_true, Qgt, hb, Option.map_some, toBC, Qji h1, Qb, hn, Bool.false_eq_true, if_false, Qj]
      try simp
    ·cases h
   ·cases h
  ·have h' : (match v.isP with | true => none | false => bnd (Qnv s r j) fun q => some (v :: q.1, q.2.1, q.2.2)) = some q := by
    cases v with
    | bp b off => exact absurd ⟨b, off, rfl⟩ hv
    | _ => simp only [Qnv] at h; exact h
   split at h'
   ·cases h'
   ·rename_i hp
    rw [Qa] at h'
    obtain ⟨q', h1, h2⟩ := h'
    injection h2 with h2
    subst h2
    have e : lend (toS s) (toAV v :: r.map toAV) j = (if (toAV v).isP then none else bnd (lend (toS s) (r.map toAV) j) fun (tv, bv, ls) => some ((toAV v :: tv, bv, ls))) := by
     cases v with
     | bp b off => exact absurd ⟨b, off, rfl⟩ hv
     | _ => simp only [toAV, lend]; rfl
    rw [List.map_cons, e, Qjy, hp, Qji h1]
    simp
theorem Qnr : ∀ {bs : List Nat} {cs : List BT} {s s' : TS}, Qpf s bs cs = some s' → giveBack (toS s) bs (cs.map toBC) = some (toS s')
 | [], [], s, s', h => by simp [Qpf] at h; subst h; rfl
 | [], c :: cs, s, s', h => by simp [Qpf] at h
 | b :: bs, [], s, s', h => by simp [Qpf] at h
 | b :: bs, c :: cs, s, s', h => by
  simp only [Qpf] at h
  simp only [List.map_cons, giveBack, ← Qhu]
  exact Qnr h
theorem Qrz {Φ : CT ρ} {call : Vs.Call} (hΦ : Qnd Φ call) {s : TS} {g site : Nat} {as : List TV} {k : TV → TS → Option ρ} {r : ρ} (h : Qxg Φ s g site as k = some r) :
  ∃ v s', callF call (toS s) g site (as.map toAV) = some (toAV v, toS s') ∧ k v s' = some r := by
 unfold Qxg at h
 rw [Qa] at h
 obtain ⟨q, h1, h⟩ := h
 obtain ⟨o, outs, bv', h2, h⟩ := hΦ _ _ _ _ _ h
 rw [Qa] at h
 obtain ⟨s1, h3, h⟩ := h
 unfold callF
 rw [Qji h1, Qb]
 simp only []
 rw [h2, Qb]
 simp only []
 rw [Qnr h3, Qb]
 split at h
 ·rename_i v
  split at h
  ·rename_i cs
   rw [Qa] at h
   obtain ⟨s2, h4, h5⟩ := h
   refine ⟨_, s2, ?_, h5⟩
   have := Qkv h4
   simp only [toBC] at this
   simp only [List.map_cons, List.map_nil, toAV, this, Qb]
  ·split at h
   ·cases h
   ·rename_i hnp _ hp
    refine ⟨v, s1, ?_, h⟩
    have hp' : (toAV v).isP = false := by rw [Qjy]; exact hp
    cases v with
    | np cs => exact absurd rfl (hnp cs)
    | _ => simp only [List.map_cons, List.map_nil, toAV] at hp' ⊢; simp [hp']
 ·cases h
theorem Qek : ∀ (xs : List OpT), Qcr (xs.map OpT.er) = Qdm xs
 | [] => rfl
 | x :: xs => by
  have e : ∀ (t : Nat), ((xs.map OpT.er).all fun x => match x with | .take u => u != t | _ => true) = (xs.all fun x => match x with | .take u => u != t | _ => true) := by
   intro t
   rw [List.all_map]
   congr 1
   funext y
   cases y <;> rfl
  cases x <;> simp only [List.map_cons, OpT.er, Qcr, Qdm, Qek xs]
  rename_i t
  exact congrArg (· && Qdm xs) (e t)
theorem Qnm : ∀ {vs : List TV} {s : TS} {q : List TV × TS}, Qoz s vs = some q → capture (toS s) (vs.map toAV) = some (q.1.map toAV, toS q.2)
 | [], s, q, h => by simp [Qoz] at h; subst h; rfl
 | v :: r, s, q, h => by
  by_cases hv : ∃ b off, v = .bp b off
  ·obtain ⟨b, off, rfl⟩ := hv
   simp only [Qoz] at h
   split at h
   ·rename_i hc
    split at h
    ·rename_i cs hb
     rw [Qa] at h
     obtain ⟨q', h1, h2⟩ := h
     injection h2 with h2
     subst h2
     have e : toS { s with b := upd s.b b none } = { toS s with b := upd (toS s).b b none } := by
      have e : (fun j => (upd s.b b none j).map toBC) = upd (fun j => (s.b j).map toBC) b none := Qih (Option.map toBC) s.b b none
      simp only [toS, e]
     have h3 := Qnm h1
     rw [e] at h3
     simp only [List.map_cons, toAV, capture, hc, if_true, Qgt, hb, Option.map_some, toBC, h3, Qb, Qj, Qfb]
    ·cases h
   ·cases h
  ·have h' : (match v.isP with | true => none | false => bnd (Qoz s r) fun q => some (v.shr :: q.1, q.2)) = some q := by
    cases v with
    | bp b off => exact absurd ⟨b, off, rfl⟩ hv
    | _ => simp only [Qoz] at h; exact h
   split at h'
   ·cases h'
   ·rename_i hp
    rw [Qa] at h'
    obtain ⟨q', h1, h2⟩ := h'
    injection h2 with h2
    subst h2
    have e : capture (toS s) (toAV v :: r.map toAV) = (if (toAV v).isP then none else bnd (capture (toS s) (r.map toAV)) fun (vs, s') => some (((toAV v).share :: vs, s'))) := by
     cases v with
     | bp b off => exact absurd ⟨b, off, rfl⟩ hv
     | _ => simp only [toAV, capture]; rfl
    rw [List.map_cons, e, Qjy, hp, Qnm h1]
    simp [Qos]
theorem Qxi {s : TS} {c : CK} {x : TV} {k : TV → TS → Option ρ} {r : ρ} (h : convT s c x k = some r) : ∃ v s', convK (toS s) c (toAV x) = some (toAV v, toS s') ∧ k v s' = some r := by
 unfold convT at h
 split at h
 ·exact ⟨_, _, by simp [convK, toAV, Qqf], h⟩
 ·exact ⟨_, _, by simp [convK, toAV], h⟩
 ·rename_i m l
  refine ⟨_, _, ?_, h⟩
  have : Qd .u8 = fun n => [.int .u8 n] := rfl
  simp only [convK, toAV, TC.sz, this, Qrv, Qb]
 ·rename_i b
  split at h
  ·rename_i l hb
   refine ⟨_, _, ?_, h⟩
   have : Qd .u8 = fun n => [.int .u8 n] := rfl
   simp only [convK, toAV, Qgt, hb, Option.map_some, toBC, TC.sz, this, Qrv, Qb]
  ·cases h
 ·rename_i b l
  rw [Qa] at h
  obtain ⟨s1, h1, h2⟩ := h
  refine ⟨_, _, ?_, h2⟩
  have := Qkv h1
  have e : (toBC (.rows .u8 (Qrn l))) = .rows 1 (l.map fun c => [.int .u8 (c.toNat : Int)]) := by
   simp only [toBC, Qrn, List.map_map]; rfl
  rw [e] at this
  simp only [convK, toAV, this, Qb]
 ·rename_i k' n
  rw [Qa] at h
  obtain ⟨l, h1, h2⟩ := h
  refine ⟨_, _, ?_, h2⟩
  unfold rune at h1
  split at h1
  ·rename_i hn
   injection h1 with h1
   subst h1
   simp [convK, toAV, hn]
  ·cases h1
 ·cases h
theorem Qkt {c : TC} {G : Nat → List TV} {s : TS} : ∀ {ps : List OpT} {l : List (Den c)}, (ps.mapM fun p => Qit c ((s.get G p).cells.map TV.shr)) = some l →
  (ps.map fun p => (toAV (s.get G p)).cells.map AV.share) = l.map (Qd c) ∧ ∀ p ∈ ps, (toAV (s.get G p)).cells.length = c.sz ∧ (toAV (s.get G p)).cells.all AV.one = true
 | [], l, h => by simp at h; subst h; simp
 | p :: ps, l, h => by
  simp only [List.mapM_cons, bind, Option.bind_eq_some_iff, pure, Zi] at h
  obtain ⟨x, h1, l', h2, rfl⟩ := h
  obtain ⟨h3, h4⟩ := Qkt h2
  have e := Qgy h1
  have e2 : (toAV (s.get G p)).cells.map AV.share = Qd c x := by rw [Qdi, Qfb, e, Qci]
  refine ⟨by simp only [List.map_cons, e2, h3], fun q hq => ?_⟩
  rcases List.mem_cons.1 hq with rfl | hq
  ·constructor
   ·have := congrArg List.length e2
    rw [List.length_map, Qdv] at this
    exact this
   ·rw [Qdi, Qig]
    have h5 := Qso c x
    rw [← e, List.all_map] at h5
    rw [List.all_eq_true] at h5 ⊢
    intro v hv
    have := h5 v hv
    cases v <;> simp_all [TV.one, TV.shr]
  ·exact h4 q hq
end Go.Tv