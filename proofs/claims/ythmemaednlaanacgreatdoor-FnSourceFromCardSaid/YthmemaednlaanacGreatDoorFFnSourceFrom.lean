/- The plain law: what the functions answer. -/
import Derived.Test.YthmemaednlaanacGreatDoorGFnSourceFrom
import Derived.Test.YthmemaednlaanacGreatDoorDFnSourceFromE0
import Derived.Test.YthmemaednlaanacGreatDoorDFnSourceFromE1
import Derived.Test.YthmemaednlaanacGreatDoorDFnSourceFromE2
import Derived.Test.YthmemaednlaanacGreatDoorLkA
import Derived.Lib.ItoaLen
set_option linter.unusedVariables false
set_option linter.unusedSimpArgs false
namespace Go.TFnSourceFrom
open Go Go.RowKit Go.Vs Go.Tv
theorem Rlq {l : List Stm} (hm : mSs l ≤ 4294967296) : Ram l l = some true :=
 Rge (by have := Rfc l; omega) fun s hs => Rky s (by have := Rki hs; omega)
def Ren (l : List Int) : Bool := l.all fun n => decide (1 ≤ n ∧ n ≤ 4)
theorem Rpa {l : List Int} {i : Nat} (hi : i < l.length) : Ren (l.drop i) = (decide (1 ≤ l[i] ∧ l[i] ≤ 4) && Ren (l.drop (i + 1))) := by
 unfold Ren; rw [List.drop_eq_getElem_cons hi, List.all_cons]
theorem Roy {l : List Int} (hl : (l.length : Int) ≤ 4294967296) : ∀ (d i : Nat), i + d = l.length → Rco l l l.length i = some (if Ren (l.drop i) then .inl l else .inr (l, false))
 | 0, i, hd => by
  apply Rgq
  have hi : ¬ ((i : Int) < l.length) := by omega
  rw [List.drop_eq_nil_of_le (by omega)]
  simp [hi, Ren]
 | d + 1, i, hd => by
  apply Rgq
  have hi : i < l.length := by omega
  have hi' : (i : Int) < l.length := by omega
  rw [Rpa hi]
  simp only [hi', Zy, Zt, Rbi hi, Qb, Rdk (show (i : Int) < 9223372036854775807 by omega), Roy hl d (i + 1) (by omega)]
  by_cases h1 : l[i] < 1
  ·have : ¬ (1 ≤ l[i] ∧ l[i] ≤ 4) := by omega
   simp [h1, this]
  by_cases h2 : 4 < l[i]
  ·have : ¬ (1 ≤ l[i] ∧ l[i] ≤ 4) := by omega
   simp [h1, h2, this]
  ·have : 1 ≤ l[i] ∧ l[i] ≤ 4 := by omega
   simp [h1, h2, this]
theorem Rml {l : List Int} (hl : (l.length : Int) ≤ 4294967296) : Rhu l = some (Ren l && decide ((l.length : Int) ≤ 3)) := by
 apply Rmm
 have h : Rco l l (l.length : Int) 0 = _ := Roy hl l.length 0 (by omega)
 rw [h, Qb, List.drop_zero]
 cases Ren l <;> simp [selm]
theorem Rpg {l : List Int} (hl : (l.length : Int) ≤ 4294967296) : ∀ (d i : Nat), i + d = l.length → Rdt l i = some (if Ren (l.drop i) then .inl l else .inr (l, false))
 | 0, i, hd => by
  apply Rif
  have hi : ¬ ((i : Int) < l.length) := by omega
  rw [List.drop_eq_nil_of_le (by omega)]
  simp [hi, Ren]
 | d + 1, i, hd => by
  apply Rif
  have hi : i < l.length := by omega
  have hi' : (i : Int) < l.length := by omega
  rw [Rpa hi]
  simp only [hi', Zy, Zt, Rbi hi, Qb, Rei, Rdk (show (i : Int) < 9223372036854775807 by omega), Rpg hl d (i + 1) (by omega)]
  by_cases h1 : 1 ≤ l[i] ∧ l[i] ≤ 4 <;> simp [h1]
theorem Rpu {l : List Int} (hl : (l.length : Int) ≤ 4294967296) : Rjw l = some (Ren l && decide ((l.length : Int) ≤ 3)) := by
 apply Rpv
 have h : Rdt l 0 = _ := Rpg hl l.length 0 (by omega)
 rw [h, Qb, List.drop_zero]
 cases Ren l <;> simp [selm]
def lsOk (n : Int) (l : List (List Stm)) : Bool := l.all fun x => stOk x && bSs n x
theorem Ruq {n : Int} {l : List (List Stm)} {i : Nat} (hi : i < l.length) : lsOk n (l.drop i) = ((stOk l[i] && bSs n l[i]) && lsOk n (l.drop (i + 1))) := by
 unfold lsOk; rw [List.drop_eq_getElem_cons hi, List.all_cons]
theorem Rox {r : List Int} (hr : (r.length : Int) ≤ 3) {l : List (List Stm)} (hl : (l.length : Int) ≤ 4294967296) (hm : ∀ x ∈ l, mSs x ≤ 4294967296) : ∀ (d i : Nat), i + d = l.length → Rbq l l.length i r l = some (if lsOk r.length (l.drop i) then .inl () else .inr false)
 | 0, i, hd => by
  apply Rfn
  have hi : ¬ ((i : Int) < l.length) := by omega
  rw [List.drop_eq_nil_of_le (by omega)]
  simp [hi, lsOk]
 | d + 1, i, hd => by
  apply Rfn
  have hi : i < l.length := by omega
  have hi' : (i : Int) < l.length := by omega
  rw [Ruq hi]
  simp only [hi', Zy, Zt, Rbi hi, Qb, Roa (show (0 : Int) ≤ (r.length : Int) ∧ (r.length : Int) ≤ 3 by omega) _ (hm _ (List.getElem_mem hi)), Rdk (show (i : Int) < 9223372036854775807 by omega), Rox hr hl hm d (i + 1) (by omega)]
  cases stOk l[i] && bSs (r.length : Int) l[i] <;> simp
theorem Rpf {r : List Int} {l : List (List Stm)} (hl : (l.length : Int) ≤ 4294967296) (hm : ∀ x ∈ l, mSs x ≤ 4294967296) : ∀ (d i : Nat), i + d = l.length → Rbr i r l = some (if lsOk r.length (l.drop i) then .inl () else .inr false)
 | 0, i, hd => by
  apply Rfq
  have hi : ¬ ((i : Int) < l.length) := by omega
  rw [List.drop_eq_nil_of_le (by omega)]
  simp [hi, lsOk]
 | d + 1, i, hd => by
  apply Rfq
  have hi : i < l.length := by omega
  have hi' : (i : Int) < l.length := by omega
  rw [Ruq hi]
  simp only [hi', Zy, Zt, Rbi hi, Qb, Rmz _ (hm _ (List.getElem_mem hi)), Rps (hm _ (List.getElem_mem hi)), Rdk (show (i : Int) < 9223372036854775807 by omega), Rpf hl hm d (i + 1) (by omega)]
  cases stOk l[i] <;> cases bSs (r.length : Int) l[i] <;> simp
def Req (p : Prg) : Bool := (Ren p.rooms && decide ((p.rooms.length : Int) ≤ 3)) && decide (1 ≤ (p.tasks.length : Int) ∧ (p.tasks.length : Int) ≤ 3) && lsOk p.rooms.length p.tasks
theorem Rdb {p : Prg} (hr : (p.rooms.length : Int) ≤ 4294967296) (hl : (p.tasks.length : Int) ≤ 4294967296) (hm : ∀ x ∈ p.tasks, mSs x ≤ 4294967296) : Rv p = some (Req p) := by
 apply Rkw
 rw [Rml hr, Qb]
 unfold Req
 by_cases h3 : (p.rooms.length : Int) ≤ 3
 ·have h : Rbq p.tasks (p.tasks.length : Int) 0 p.rooms p.tasks = _ := Rox h3 hl hm p.tasks.length 0 (by omega)
  rw [h, Qb, List.drop_zero]
  cases Ren p.rooms
  ·simp
  by_cases h1 : (p.tasks.length : Int) < 1
  ·have : ¬ (1 ≤ (p.tasks.length : Int) ∧ (p.tasks.length : Int) ≤ 3) := by omega
   simp only [this, h1, h3, Zy, Zz, Bool.and_true, Zv, Zf, Zt, Bool.and_false, Bool.false_and]
  by_cases h2 : 3 < (p.tasks.length : Int)
  ·have : ¬ (1 ≤ (p.tasks.length : Int) ∧ (p.tasks.length : Int) ≤ 3) := by omega
   simp only [this, h1, h2, h3, Zy, Zz, Bool.and_true, Zv, Zf, Zt, Bool.and_false, Bool.false_and]
  ·have : 1 ≤ (p.tasks.length : Int) ∧ (p.tasks.length : Int) ≤ 3 := by omega
   simp only [this, h1, h2, h3, Zy, Zz, Bool.and_true, Bool.true_and, Zv, Zf, and_self]
   cases lsOk (p.rooms.length : Int) p.tasks <;> simp [selm]
 ·simp [h3]
theorem Rhg {p : Prg} (hr : (p.rooms.length : Int) ≤ 4294967296) (hl : (p.tasks.length : Int) ≤ 4294967296) (hm : ∀ x ∈ p.tasks, mSs x ≤ 4294967296) : Rbe p = some (Req p) := by
 apply Rkz
 have h : Rbr 0 p.rooms p.tasks = _ := Rpf hl hm p.tasks.length 0 (by omega)
 rw [Rpu hr, Qb, Rei, Qb, h, Qb, List.drop_zero]
 unfold Req
 cases Ren p.rooms && decide ((p.rooms.length : Int) ≤ 3)
 ·simp
 by_cases h1 : 1 ≤ (p.tasks.length : Int) ∧ (p.tasks.length : Int) ≤ 3
 ·simp only [h1, and_self, Zy, Zv, Zf, Bool.true_and]
  cases lsOk (p.rooms.length : Int) p.tasks <;> simp [selm]
 ·simp only [h1, Zz, Zx, Zt, Zv, Zf, Bool.and_false, Bool.false_and]
theorem mem_add {ls : List (List Stm)} {l : List Stm} {n : Nat} (h : ∀ x ∈ ls, mSs x ≤ n) (hl : mSs l ≤ n) : ∀ x ∈ ls ++ [l], mSs x ≤ n := by
 intro x hx
 rcases List.mem_append.1 hx with hx | hx
 ·exact h x hx
 ·rw [List.mem_singleton.1 hx]; exact hl
theorem mem_set {ls : List (List Stm)} {l : List Stm} {n i : Nat} (h : ∀ x ∈ ls, mSs x ≤ n) (hl : mSs l ≤ n) : ∀ x ∈ ls.set i l, mSs x ≤ n := by
 intro x hx
 rcases List.mem_or_eq_of_mem_set hx with hx | rfl
 ·exact h x hx
 ·exact hl
theorem Rzy : ∀ {j : J} {l : List Tok} {o : Out}, P j l o → ∀ o', P j l o' → o = o' := by
 intro j l o h
 induction h with
 | nil => intro o' h'; cases h'; rfl
 | atom h1 h2 =>
  intro o' h'
  cases h' with
  | atom h3 h4 => rw [h2] at h4; injection h4 with h4; rw [h4]
  | bad h3 h4 => rw [h2] at h4; cases h4
  | _ => exact absurd rfl h1
 | bad h1 h2 =>
  intro o' h'
  cases h' with
  | atom h3 h4 => rw [h2] at h4; cases h4
  | bad h3 h4 => rfl
  | _ => exact absurd rfl h1
 | par h ih =>
  intro o' h'
  cases h' with
  | atom h3 h4 => exact absurd rfl h3
  | bad h3 h4 => exact absurd rfl h3
  | par h3 => have := ih _ h3; injection this with this; injection this with a b; injection b with b c; rw [a, c]
  | parN h3 => have := ih _ h3; cases this
  | parE h3 => have := ih _ h3; cases this
  | parB h3 h4 => have := ih _ h3; injection this with this; injection this with a b; injection b with b c; exact absurd b.symm h4
 | parN h ih =>
  intro o' h'
  cases h' with
  | atom h3 h4 => exact absurd rfl h3
  | bad h3 h4 => exact absurd rfl h3
  | par h3 => have := ih _ h3; cases this
  | _ => rfl
 | parE h ih =>
  intro o' h'
  cases h' with
  | atom h3 h4 => exact absurd rfl h3
  | bad h3 h4 => exact absurd rfl h3
  | par h3 => have := ih _ h3; cases this
  | _ => rfl
 | parB h hn ih =>
  intro o' h'
  cases h' with
  | atom h3 h4 => exact absurd rfl h3
  | bad h3 h4 => exact absurd rfl h3
  | par h3 => have := ih _ h3; injection this with this; injection this with a b; injection b with b c; exact absurd b hn
  | _ => rfl
 | top hk h ih =>
  intro o' h'
  cases h' with
  | top h3 h4 => exact ih _ h4
  | levN h3 h4 => omega
  | levS h3 h4 h5 => omega
 | levN hk h ih =>
  intro o' h'
  cases h' with
  | top h3 h4 => omega
  | levN h3 h4 => rfl
  | levS h3 h4 h5 => have := ih _ h4; cases this
 | levS hk h1 h2 ih1 ih2 =>
  intro o' h'
  cases h' with
  | top h3 h4 => omega
  | levN h3 h4 => have := ih1 _ h4; cases this
  | levS h3 h4 h5 =>
   have := ih1 _ h4; injection this with this; injection this with a b
   subst a b
   exact ih2 _ h5
 | stop hn =>
  intro o' h'
  cases h' with
  | stop h3 => rfl
  | step h3 h4 h5 => exact absurd h3 hn
  | stepN h3 h4 => exact absurd h3 hn
 | step hl h1 h2 ih1 ih2 =>
  intro o' h'
  cases h' with
  | stop h3 => exact absurd hl h3
  | step h3 h4 h5 =>
   have := ih1 _ h4; injection this with this; injection this with a b
   subst a b
   exact ih2 _ h5
  | stepN h3 h4 => have := ih1 _ h4; cases this
 | stepN hl h ih =>
  intro o' h'
  cases h' with
  | stop h3 => exact absurd hl h3
  | step h3 h4 h5 => have := ih _ h4; cases this
  | stepN h3 h4 => rfl
noncomputable def ex1 (l : List Tok) : Out := Classical.choose (Rnu (l.length + 1) (.lev 1) l (Nat.le_refl 1) (Nat.lt_succ_self _))
theorem Rwu (l : List Tok) : P (.lev 1) l (ex1 l) := Classical.choose_spec (Rnu (l.length + 1) (.lev 1) l (Nat.le_refl 1) (Nat.lt_succ_self _))
theorem ex1_is {l : List Tok} {o : Out} (h : P (.lev 1) l o) : ex1 l = o := Rzy (Rwu l) o h
theorem Rjn {l : List Tok} {e : Exp} {r : List Tok} (h : ex1 l = some (e, r)) : (∃ p, l = p ++ r) ∧ r.length < l.length := Ruy (h ▸ Rwu l) e r rfl
def kIf : Tok := [105, 102]
def Rcp : Tok := [119, 104, 105, 108, 101]
def Rix : Tok := [115, 101, 110, 100]
def Rkf : Tok := [114, 101, 99, 118]
def Rgs : Tok := [121, 105, 101, 108, 100]
def Rga : Tok := [112, 114, 105, 110, 116]
def Rfv : Tok := [101, 108, 115, 101]
def kBox : Tok := [98, 111, 120]
def Rjd : Tok := [116, 97, 115, 107]
def kL : Tok := [123]
def kR : Tok := [125]
def kS : Tok := [59]
def kE : Tok := [61]
def nd (k : Tok) : List Tok → Option (List Tok)
 | t :: l => if t = k then some l else none
 | [] => none
def nu : List Tok → Option (Int × List Tok)
 | t :: l => if 0 ≤ numV t then some (numV t, l) else none
 | [] => none
def va : List Tok → Option (Int × List Tok)
 | t :: l => if 0 ≤ varV t then some (varV t, l) else none
 | [] => none
noncomputable def en (l : List Tok) : Out := (ex1 l).bind fun p => (nd kS p.2).map fun r => (p.1, r)
abbrev GO := Option (List Stm × List Tok)
noncomputable def smp : List Tok → GO
 | [] => none
 | t :: l =>
  if t = Rix then (nu l).bind fun p => (en p.2).map fun q => ([⟨4, 0, p.1, q.1, [], []⟩], q.2)
  else if t = Rkf then (nu l).bind fun p => (va p.2).bind fun q => (nd kS q.2).map fun r => ([⟨5, q.1, p.1, ⟨0, 0, []⟩, [], []⟩], r)
  else if t = Rgs then (nd kS l).map fun r => ([⟨6, 0, 0, ⟨0, 0, []⟩, [], []⟩], r)
  else if t = Rga then (en l).map fun q => ([⟨7, 0, 0, q.1, [], []⟩], q.2)
  else (va (t :: l)).bind fun p => (nd kE p.2).bind fun r => (en r).map fun q => ([⟨1, p.1, 0, q.1, [], []⟩], q.2)
inductive K where
 | st
 | bk
 | lp (acc : List Stm)
inductive G : K → List Tok → GO → Prop
 | bk0 {l : List Tok} : nd kL l = none → G .bk l none
 | bk {l : List Tok} {o : GO} : G (.lp []) l o → G .bk (kL :: l) o
 | lpE {a : List Stm} : G (.lp a) [] none
 | lpS {a : List Stm} {l : List Tok} : G (.lp a) (kR :: l) (some (a, l))
 | lpN {a : List Stm} {t : Tok} {l : List Tok} : t ≠ kR → G .st (t :: l) none → G (.lp a) (t :: l) none
 | lpC {a : List Stm} {t : Tok} {l r : List Tok} {s : Stm} {o : GO} : t ≠ kR → G .st (t :: l) (some ([s], r)) → G (.lp (a ++ [s])) r o → G (.lp a) (t :: l) o
 | smp {t : Tok} {l : List Tok} {o : GO} : t ≠ kIf → t ≠ Rcp → smp (t :: l) = o → G .st (t :: l) o
 | ifN {l : List Tok} : ex1 l = none → G .st (kIf :: l) none
 | ifB {l r : List Tok} {e : Exp} : ex1 l = some (e, r) → G .bk r none → G .st (kIf :: l) none
 | if1 {l r r2 : List Tok} {e : Exp} {b : List Stm} : ex1 l = some (e, r) → G .bk r (some (b, r2)) → nd Rfv r2 = none → G .st (kIf :: l) (some ([⟨2, 0, 0, e, b, []⟩], r2))
 | if2 {l r r2 r3 : List Tok} {e : Exp} {b c : List Stm} : ex1 l = some (e, r) → G .bk r (some (b, Rfv :: r2)) → G .bk r2 (some (c, r3)) → G .st (kIf :: l) (some ([⟨2, 0, 0, e, b, c⟩], r3))
 | if3 {l r r2 : List Tok} {e : Exp} {b : List Stm} : ex1 l = some (e, r) → G .bk r (some (b, Rfv :: r2)) → G .bk r2 none → G .st (kIf :: l) none
 | whN {l : List Tok} : ex1 l = none → G .st (Rcp :: l) none
 | whB {l r : List Tok} {e : Exp} : ex1 l = some (e, r) → G .bk r none → G .st (Rcp :: l) none
 | wh {l r r2 : List Tok} {e : Exp} {b : List Stm} : ex1 l = some (e, r) → G .bk r (some (b, r2)) → G .st (Rcp :: l) (some ([⟨3, 0, 0, e, b, []⟩], r2))
theorem Ree {k : Tok} {l r : List Tok} (h : nd k l = some r) : l = k :: r := by
 cases l with
 | nil => cases h
 | cons t l =>
  simp only [nd] at h
  split at h
  ·rename_i hk; injection h with h; rw [hk, h]
  ·cases h
theorem Rls {l r : List Tok} {n : Int} (h : nu l = some (n, r)) : ∃ t, l = t :: r ∧ 0 ≤ numV t ∧ n = numV t := by
 cases l with
 | nil => cases h
 | cons t l =>
  simp only [nu] at h
  split at h
  ·rename_i hk; injection h with h; injection h with a b; subst a b; exact ⟨t, rfl, hk, rfl⟩
  ·cases h
theorem Rvl {l r : List Tok} {n : Int} (h : va l = some (n, r)) : ∃ t, l = t :: r ∧ 0 ≤ varV t ∧ n = varV t := by
 cases l with
 | nil => cases h
 | cons t l =>
  simp only [va] at h
  split at h
  ·rename_i hk; injection h with h; injection h with a b; subst a b; exact ⟨t, rfl, hk, rfl⟩
  ·cases h
theorem Rve {l r : List Tok} {e : Exp} (h : en l = some (e, r)) : ex1 l = some (e, kS :: r) := by
 unfold en at h
 cases hx : ex1 l with
 | none => rw [hx] at h; cases h
 | some p =>
  rw [hx] at h
  simp only [Option.bind_some, Option.map_eq_some_iff] at h
  obtain ⟨q, h1, h2⟩ := h
  injection h2 with a b
  subst a b
  have := Ree h1
  rw [← this]
theorem Rtw {t : Tok} {l r : List Tok} {b : List Stm} (h : smp (t :: l) = some (b, r)) : ∃ s, b = [s] ∧
    ((∃ u e, t = Rix ∧ 0 ≤ numV u ∧ (∃ r1, l = u :: r1 ∧ ex1 r1 = some (e, kS :: r)) ∧ s = ⟨4, 0, numV u, e, [], []⟩) ∨
     (∃ u w, t = Rkf ∧ 0 ≤ numV u ∧ 0 ≤ varV w ∧ l = u :: w :: kS :: r ∧ s = ⟨5, varV w, numV u, ⟨0, 0, []⟩, [], []⟩) ∨
     (t = Rgs ∧ l = kS :: r ∧ s = ⟨6, 0, 0, ⟨0, 0, []⟩, [], []⟩) ∨
     (∃ e, t = Rga ∧ ex1 l = some (e, kS :: r) ∧ s = ⟨7, 0, 0, e, [], []⟩) ∨
     (∃ e, t ≠ Rix ∧ t ≠ Rkf ∧ t ≠ Rgs ∧ t ≠ Rga ∧ 0 ≤ varV t ∧ (∃ r1, l = kE :: r1 ∧ ex1 r1 = some (e, kS :: r)) ∧ s = ⟨1, varV t, 0, e, [], []⟩)) := by
  simp only [smp] at h
  split at h
  · rename_i hk
    cases h1 : nu l with
    | none => rw [h1] at h; cases h
    | some p =>
      obtain ⟨n, l1⟩ := p
      rw [h1] at h
      simp only [Option.bind_some, Option.map_eq_some_iff] at h
      obtain ⟨⟨e, r1⟩, h2, h3⟩ := h
      injection h3 with a b
      subst a b
      obtain ⟨u, rfl, hu, rfl⟩ := Rls h1
      exact ⟨_, rfl, Or.inl ⟨u, e, hk, hu, ⟨_, rfl, Rve h2⟩, rfl⟩⟩
  · split at h
    · rename_i hk
      cases h1 : nu l with
      | none => rw [h1] at h; cases h
      | some p =>
        obtain ⟨n, l1⟩ := p
        rw [h1] at h
        simp only [Option.bind_some] at h
        cases h2 : va l1 with
        | none => rw [h2] at h; cases h
        | some q =>
          obtain ⟨v, l2⟩ := q
          rw [h2] at h
          simp only [Option.bind_some, Option.map_eq_some_iff] at h
          obtain ⟨r1, h3, h4⟩ := h
          injection h4 with a b
          subst a b
          obtain ⟨u, rfl, hu, rfl⟩ := Rls h1
          obtain ⟨w, rfl, hw, rfl⟩ := Rvl h2
          have := Ree h3
          subst this
          exact ⟨_, rfl, Or.inr (Or.inl ⟨u, w, hk, hu, hw, rfl, rfl⟩)⟩
    · split at h
      · rename_i hk
        simp only [Option.map_eq_some_iff] at h
        obtain ⟨r1, h3, h4⟩ := h
        injection h4 with a b
        subst a b
        exact ⟨_, rfl, Or.inr (Or.inr (Or.inl ⟨hk, Ree h3, rfl⟩))⟩
      · split at h
        · rename_i hk
          simp only [Option.map_eq_some_iff] at h
          obtain ⟨⟨e, r1⟩, h3, h4⟩ := h
          injection h4 with a b
          subst a b
          exact ⟨_, rfl, Or.inr (Or.inr (Or.inr (Or.inl ⟨e, hk, Rve h3, rfl⟩)))⟩
        · rename_i k1 k2 k3 k4
          cases h1 : va (t :: l) with
          | none => rw [h1] at h; cases h
          | some p =>
            obtain ⟨v, l1⟩ := p
            rw [h1] at h
            simp only [Option.bind_some] at h
            cases h2 : nd kE l1 with
            | none => rw [h2] at h; cases h
            | some q =>
              rw [h2] at h
              simp only [Option.bind_some, Option.map_eq_some_iff] at h
              obtain ⟨⟨e, r1⟩, h3, h4⟩ := h
              injection h4 with a b
              subst a b
              obtain ⟨u, hu1, hu, rfl⟩ := Rvl h1
              injection hu1 with a b
              subst a b
              have := Ree h2
              exact ⟨_, rfl, Or.inr (Or.inr (Or.inr (Or.inr ⟨e, k1, k2, k3, k4, hu, ⟨_, this, Rve h3⟩, rfl⟩)))⟩
theorem Raw (k : Tok) (l : List Tok) : nd k (k :: l) = some l := by simp [nd]
theorem Roh {u : Tok} (h : 0 ≤ numV u) (l : List Tok) : nu (u :: l) = some (numV u, l) := by simp only [nu]; rw [if_pos h]
theorem Rrr {u : Tok} (h : 0 ≤ varV u) (l : List Tok) : va (u :: l) = some (varV u, l) := by simp only [va]; rw [if_pos h]
theorem Rvd {l r : List Tok} {e : Exp} (h : ex1 l = some (e, kS :: r)) : en l = some (e, r) := by unfold en; rw [h]; simp [Raw]
theorem Raau {u : Tok} {l r : List Tok} {e : Exp} (hu : 0 ≤ numV u) (h : ex1 l = some (e, kS :: r)) : smp (Rix :: u :: l) = some ([⟨4, 0, numV u, e, [], []⟩], r) := by
 simp only [smp, if_true]; rw [Roh hu]; simp [Rvd h]
theorem Raat {u w : Tok} (r : List Tok) (hu : 0 ≤ numV u) (hw : 0 ≤ varV w) : smp (Rkf :: u :: w :: kS :: r) = some ([⟨5, varV w, numV u, ⟨0, 0, []⟩, [], []⟩], r) := by
 simp only [smp, if_true]; rw [if_neg (by decide), Roh hu]; simp [Rrr hw, Raw]
theorem Rzk (r : List Tok) : smp (Rgs :: kS :: r) = some ([⟨6, 0, 0, ⟨0, 0, []⟩, [], []⟩], r) := by
 simp only [smp, if_true]; rw [if_neg (by decide), if_neg (by decide), Raw]; rfl
theorem Rzj {l r : List Tok} {e : Exp} (h : ex1 l = some (e, kS :: r)) : smp (Rga :: l) = some ([⟨7, 0, 0, e, [], []⟩], r) := by
 simp only [smp, if_true]; rw [if_neg (by decide), if_neg (by decide), if_neg (by decide), Rvd h]; rfl
theorem smp_set {t : Tok} {l r : List Tok} {e : Exp} (hv : 0 ≤ varV t) (h : ex1 l = some (e, kS :: r)) : smp (t :: kE :: l) = some ([⟨1, varV t, 0, e, [], []⟩], r) := by
 have hk : ∀ k : Tok, varV k = -1 → t ≠ k := by intro k h1 h2; rw [h2, h1] at hv; omega
 simp only [smp]; rw [if_neg (hk _ rfl), if_neg (hk _ rfl), if_neg (hk _ rfl), if_neg (hk _ rfl), Rrr hv]; simp [Raw, Rvd h]
theorem smp_suf {t : Tok} {l r : List Tok} {b : List Stm} (h : smp (t :: l) = some (b, r)) : (∃ p, t :: l = p ++ r) ∧ r.length < (t :: l).length := by
 obtain ⟨s, rfl, hh⟩ := Rtw h
 clear h
 rcases hh with ⟨u, e, rfl, hu, ⟨r1, rfl, h⟩, rfl⟩ | ⟨u, w, rfl, hu, hw, rfl, rfl⟩ | ⟨rfl, rfl, rfl⟩ | ⟨e, rfl, h, rfl⟩ | ⟨e, _, _, _, _, hv, ⟨r1, rfl, h⟩, rfl⟩
 ·obtain ⟨⟨p, hp⟩, hl⟩ := Rjn h
  exact ⟨⟨Rix :: u :: p ++ [kS], by rw [hp]; simp⟩, by simp only [Zc] at *; omega⟩
 ·exact ⟨⟨[Rkf, u, w, kS], rfl⟩, by simp only [Zc]; omega⟩
 ·exact ⟨⟨[Rgs, kS], rfl⟩, by simp only [Zc]; omega⟩
 ·obtain ⟨⟨p, hp⟩, hl⟩ := Rjn h
  exact ⟨⟨Rga :: p ++ [kS], by rw [hp]; simp⟩, by simp only [Zc] at *; omega⟩
 ·obtain ⟨⟨p, hp⟩, hl⟩ := Rjn h
  exact ⟨⟨t :: kE :: p ++ [kS], by rw [hp]; simp⟩, by simp only [Zc] at *; omega⟩
theorem Rlz : ∀ {j : K} {l : List Tok} {o : GO}, G j l o → ∀ b r, o = some (b, r) → (∃ p, l = p ++ r) ∧ r.length < l.length := by
 intro j l o h
 induction h with
 | bk0 _ => intro b r ho; cases ho
 | bk h ih =>
  intro b r ho
  obtain ⟨⟨p, hp⟩, hl⟩ := ih b r ho
  exact ⟨⟨kL :: p, by rw [hp]; rfl⟩, by simp only [Zc]; omega⟩
 | lpE => intro b r ho; cases ho
 | lpS => intro b r ho; injection ho with ho; injection ho with a c; subst a c; exact ⟨⟨[kR], rfl⟩, by simp⟩
 | lpN _ _ _ => intro b r ho; cases ho
 | lpC _ _ _ ih1 ih2 =>
  intro b r ho
  obtain ⟨⟨p, hp⟩, hl⟩ := ih1 _ _ rfl
  obtain ⟨⟨q, hq⟩, hl2⟩ := ih2 b r ho
  exact ⟨⟨p ++ q, by rw [hp, hq, List.append_assoc]⟩, by omega⟩
 | smp _ _ h => intro b r ho; rw [ho] at h; exact smp_suf h
 | ifN _ => intro b r ho; cases ho
 | ifB _ _ _ => intro b r ho; cases ho
 | if1 h1 _ _ ih =>
  intro b r ho
  injection ho with ho; injection ho with a c; subst a c
  obtain ⟨⟨p, hp⟩, hl⟩ := Rjn h1
  obtain ⟨⟨q, hq⟩, hl2⟩ := ih _ _ rfl
  exact ⟨⟨kIf :: p ++ q, by rw [hp, hq]; simp⟩, by simp only [Zc]; omega⟩
 | if2 h1 _ _ ih ih2 =>
  intro b r ho
  injection ho with ho; injection ho with a c; subst a c
  obtain ⟨⟨p, hp⟩, hl⟩ := Rjn h1
  obtain ⟨⟨q, hq⟩, hl2⟩ := ih _ _ rfl
  obtain ⟨⟨q2, hq2⟩, hl3⟩ := ih2 _ _ rfl
  exact ⟨⟨kIf :: p ++ q ++ Rfv :: q2, by rw [hp, hq, hq2]; simp⟩, by simp only [Zc] at *; omega⟩
 | if3 _ _ _ _ _ => intro b r ho; cases ho
 | whN _ => intro b r ho; cases ho
 | whB _ _ _ => intro b r ho; cases ho
 | wh h1 _ ih =>
  intro b r ho
  injection ho with ho; injection ho with a c; subst a c
  obtain ⟨⟨p, hp⟩, hl⟩ := Rjn h1
  obtain ⟨⟨q, hq⟩, hl2⟩ := ih _ _ rfl
  exact ⟨⟨Rcp :: p ++ q, by rw [hp, hq]; simp⟩, by simp only [Zc]; omega⟩
theorem G_one : ∀ {j : K} {l : List Tok} {o : GO}, G j l o → j = .st → ∀ b r, o = some (b, r) → ∃ s, b = [s] := by
 intro j l o h
 cases h with
 | smp _ _ h =>
  intro _ b r ho
  rw [ho] at h
  obtain ⟨s, hs, _⟩ := Rtw h
  exact ⟨s, hs⟩
 | if1 _ _ _ => intro _ b r ho; injection ho with ho; injection ho with a c; exact ⟨_, a.symm⟩
 | if2 _ _ _ => intro _ b r ho; injection ho with ho; injection ho with a c; exact ⟨_, a.symm⟩
 | wh _ _ => intro _ b r ho; injection ho with ho; injection ho with a c; exact ⟨_, a.symm⟩
 | ifN _ => intro _ b r ho; cases ho
 | ifB _ _ => intro _ b r ho; cases ho
 | if3 _ _ _ => intro _ b r ho; cases ho
 | whN _ => intro _ b r ho; cases ho
 | whB _ _ => intro _ b r ho; cases ho
 | _ => intro hj; cases hj
theorem Rip {k : Tok} {l : List Tok} : nd k (k :: l) ≠ none := by rw [Raw]; simp
theorem G_det : ∀ {j : K} {l : List Tok} {o : GO}, G j l o → ∀ o', G j l o' → o = o' := by
 intro j l o h
 induction h with
 | bk0 h => intro o' h'; cases h' with | bk0 _ => rfl | bk _ => exact absurd h Rip
 | bk h ih => intro o' h'; cases h' with | bk0 h2 => exact absurd h2 Rip | bk h2 => exact ih _ h2
 | lpE => intro o' h'; cases h'; rfl
 | lpS => intro o' h'; cases h' with | lpS => rfl | lpN h _ => exact absurd rfl h | lpC h _ _ => exact absurd rfl h
 | lpN h1 h2 ih =>
  intro o' h'
  cases h' with
  | lpS => exact absurd rfl h1
  | lpN _ _ => rfl
  | lpC _ h3 _ => have := ih _ h3; cases this
 | lpC h1 h2 h3 ih1 ih2 =>
  intro o' h'
  cases h' with
  | lpS => exact absurd rfl h1
  | lpN _ h4 => have := ih1 _ h4; cases this
  | lpC _ h4 h5 =>
   have := ih1 _ h4
   injection this with this; injection this with a b; injection a with a
   subst a b
   exact ih2 _ h5
 | smp h1 h2 h =>
  intro o' h'
  cases h' with
  | smp _ _ h3 => rw [← h, h3]
  | ifN _ => exact absurd rfl h1
  | ifB _ _ => exact absurd rfl h1
  | if1 _ _ _ => exact absurd rfl h1
  | if2 _ _ _ => exact absurd rfl h1
  | if3 _ _ _ => exact absurd rfl h1
  | whN _ => exact absurd rfl h2
  | whB _ _ => exact absurd rfl h2
  | wh _ _ => exact absurd rfl h2
 | ifN h =>
  intro o' h'
  cases h' with
  | smp h3 _ _ => exact absurd rfl h3
  | if1 h3 _ _ => rw [h] at h3; cases h3
  | if2 h3 _ _ => rw [h] at h3; cases h3
  | _ => rfl
 | ifB h hb ih =>
  intro o' h'
  cases h' with
  | smp h3 _ _ => exact absurd rfl h3
  | if1 h3 h4 _ => rw [h] at h3; injection h3 with h3; injection h3 with a b; subst a b; have := ih _ h4; cases this
  | if2 h3 h4 _ => rw [h] at h3; injection h3 with h3; injection h3 with a b; subst a b; have := ih _ h4; cases this
  | _ => rfl
 | if1 h hb hn ih =>
  intro o' h'
  cases h' with
  | smp h3 _ _ => exact absurd rfl h3
  | ifN h3 => rw [h] at h3; cases h3
  | ifB h3 h4 => rw [h] at h3; injection h3 with h3; injection h3 with a b; subst a b; have := ih _ h4; cases this
  | if1 h3 h4 _ => rw [h] at h3; injection h3 with h3; injection h3 with a b; subst a b; have := ih _ h4; injection this with this; injection this with a b; subst a b; rfl
  | if2 h3 h4 _ => rw [h] at h3; injection h3 with h3; injection h3 with a b; subst a b; have := ih _ h4; injection this with this; injection this with a b; subst a b; exact absurd hn Rip
  | if3 h3 h4 _ => rw [h] at h3; injection h3 with h3; injection h3 with a b; subst a b; have := ih _ h4; injection this with this; injection this with a b; subst a b; exact absurd hn Rip
 | if2 h hb hc ih ih2 =>
  intro o' h'
  cases h' with
  | smp h3 _ _ => exact absurd rfl h3
  | ifN h3 => rw [h] at h3; cases h3
  | ifB h3 h4 => rw [h] at h3; injection h3 with h3; injection h3 with a b; subst a b; have := ih _ h4; cases this
  | if1 h3 h4 hn => rw [h] at h3; injection h3 with h3; injection h3 with a b; subst a b; have := ih _ h4; injection this with this; injection this with a b; subst a b; exact absurd hn Rip
  | if2 h3 h4 h5 =>
   rw [h] at h3; injection h3 with h3; injection h3 with a b; subst a b
   have := ih _ h4; injection this with this; injection this with a b; injection b with b c; subst a c
   have := ih2 _ h5; injection this with this; injection this with a b; subst a b; rfl
  | if3 h3 h4 h5 =>
   rw [h] at h3; injection h3 with h3; injection h3 with a b; subst a b
   have := ih _ h4; injection this with this; injection this with a b; injection b with b c; subst a c
   have := ih2 _ h5; cases this
 | if3 h hb hc ih ih2 =>
  intro o' h'
  cases h' with
  | smp h3 _ _ => exact absurd rfl h3
  | if1 h3 h4 hn => rw [h] at h3; injection h3 with h3; injection h3 with a b; subst a b; have := ih _ h4; injection this with this; injection this with a b; subst a b; exact absurd hn Rip
  | if2 h3 h4 h5 =>
   rw [h] at h3; injection h3 with h3; injection h3 with a b; subst a b
   have := ih _ h4; injection this with this; injection this with a b; injection b with b c; subst a c
   have := ih2 _ h5; cases this
  | _ => rfl
 | whN h =>
  intro o' h'
  cases h' with
  | smp _ h3 _ => exact absurd rfl h3
  | wh h3 _ => rw [h] at h3; cases h3
  | _ => rfl
 | whB h hb ih =>
  intro o' h'
  cases h' with
  | smp _ h3 _ => exact absurd rfl h3
  | wh h3 h4 => rw [h] at h3; injection h3 with h3; injection h3 with a b; subst a b; have := ih _ h4; cases this
  | _ => rfl
 | wh h hb ih =>
  intro o' h'
  cases h' with
  | smp _ h3 _ => exact absurd rfl h3
  | whN h3 => rw [h] at h3; cases h3
  | whB h3 h4 => rw [h] at h3; injection h3 with h3; injection h3 with a b; subst a b; have := ih _ h4; cases this
  | wh h3 h4 => rw [h] at h3; injection h3 with h3; injection h3 with a b; subst a b; have := ih _ h4; injection this with this; injection this with a b; subst a b; rfl
theorem Rnt : ∀ (n : Nat) (l : List Tok), l.length < n → (∃ o, G .st l o ∨ l = []) ∧ (∃ o, G .bk l o) ∧ (∀ a, ∃ o, G (.lp a) l o)
 | 0, _, h => by omega
 | n + 1, l, hn => by
  have st : ∃ o, G .st l o ∨ l = [] := by
   cases l with
   | nil => exact ⟨none, Or.inr rfl⟩
   | cons t l =>
    simp only [Zc] at hn
    by_cases h1 : t = kIf
    ·subst h1
     cases hx : ex1 l with
     | none => exact ⟨_, Or.inl (.ifN hx)⟩
     | some p =>
      obtain ⟨e, r⟩ := p
      have hs := (Rjn hx).2
      obtain ⟨o, ho⟩ := (Rnt n r (by omega)).2.1
      cases o with
      | none => exact ⟨_, Or.inl (.ifB hx ho)⟩
      | some q =>
       obtain ⟨b, r2⟩ := q
       have hs2 := (Rlz ho b r2 rfl).2
       cases he : nd Rfv r2 with
       | none => exact ⟨_, Or.inl (.if1 hx ho he)⟩
       | some r3 =>
        have := Ree he
        subst this
        simp only [Zc] at hs2
        obtain ⟨o2, ho2⟩ := (Rnt n r3 (by omega)).2.1
        cases o2 with
        | none => exact ⟨_, Or.inl (.if3 hx ho ho2)⟩
        | some q2 => exact ⟨_, Or.inl (.if2 hx ho ho2)⟩
    ·by_cases h2 : t = Rcp
     ·subst h2
      cases hx : ex1 l with
      | none => exact ⟨_, Or.inl (.whN hx)⟩
      | some p =>
       obtain ⟨e, r⟩ := p
       have hs := (Rjn hx).2
       obtain ⟨o, ho⟩ := (Rnt n r (by omega)).2.1
       cases o with
       | none => exact ⟨_, Or.inl (.whB hx ho)⟩
       | some q => exact ⟨_, Or.inl (.wh hx ho)⟩
     ·exact ⟨_, Or.inl (.smp h1 h2 rfl)⟩
  have lp : ∀ a, ∃ o, G (.lp a) l o := by
   intro a
   cases l with
   | nil => exact ⟨_, .lpE⟩
   | cons t l =>
    by_cases ht : t = kR
    ·subst ht; exact ⟨_, .lpS⟩
    ·obtain ⟨o, ho | h⟩ := st
     ·cases o with
      | none => exact ⟨_, .lpN ht ho⟩
      | some q =>
       obtain ⟨b, r⟩ := q
       obtain ⟨s, rfl⟩ := G_one ho rfl b r rfl
       have hs := (Rlz ho _ _ rfl).2
       obtain ⟨o2, ho2⟩ := (Rnt n r (by omega)).2.2 (a ++ [s])
       exact ⟨o2, .lpC ht ho ho2⟩
     ·cases h
  refine ⟨st, ?_, lp⟩
  cases hk : nd kL l with
  | none => exact ⟨_, .bk0 hk⟩
  | some r =>
   have := Ree hk
   subst this
   simp only [Zc] at hn
   obtain ⟨o, ho⟩ := (Rnt n r (by omega)).2.2 []
   exact ⟨o, .bk ho⟩
theorem Rn {k : Tok} (hk : k ≠ []) {L l : List Tok} (hL : L.length ≤ 20000) (h : Suf L l) : Re k L (plc L l) false = some (match nd k l with | some r => (true, L, (plc L r : Int), false) | none => (false, L, (plc L l : Int), false)) := by
 apply Rau
 cases l with
 | nil =>
  have hb : (([] : Tok) == k) = false := by rw [beq_eq_false_iff_ne]; exact fun e => hk e.symm
  rw [Rfe, Rmv, Qb]
  simp only [hb, Zx, Zt, nd, Rfe]
 | cons t l =>
  obtain ⟨hs2, hp, hlt, hg⟩ := h.tail
  rw [Rcr h, Qb]
  by_cases ht : t = k
  ·subst ht
   have hb : (t == t) = true := beq_self_eq_true t
   simp only [hb, Zv, Zf, nd, if_true]
   rw [w1n (by omega), hp]
  ·have hb : (t == k) = false := by rw [beq_eq_false_iff_ne]; exact ht
   simp only [hb, Zx, Zt, nd, ht, if_false]
theorem Rhp {k : Tok} (hk : k ≠ []) (L : List Tok) (p : Int) : Re k L p true = some (false, L, p, true) := by
 apply Rau
 have hb : (([] : Tok) == k) = false := by rw [beq_eq_false_iff_ne]; exact fun e => hk e.symm
 rw [Rmu, Qb]
 simp only [hb, Zx, Zt]
theorem Rkj {k : Tok} (hk : k ≠ []) {L l : List Tok} (hL : L.length ≤ 20000) (h : Suf L l) : Rg k L (plc L l) false = some (match nd k l with | some r => (L, (plc L r : Int), false) | none => (L, (plc L l : Int), true)) := by
 apply Rbd
 rw [Rn hk hL h, Qb]
 cases nd k l <;> rfl
theorem Rfd {k : Tok} (hk : k ≠ []) (L : List Tok) (p : Int) : Rg k L p true = some (L, p, true) := by
 apply Rbd
 rw [Rhp hk, Qb]; rfl
theorem Rzq (L : List Tok) (p : Int) : ∃ q, Rci L p true = some ([], L, q, true) := by
 refine ⟨wrap64 (p + 1), ?_⟩
 apply Rfa
 rw [Rmu, Qb]; rfl
theorem Rns (L : List Tok) (p : Int) : ∃ q, Rj L p true = some (0, L, q, true) := by
 obtain ⟨q, hq⟩ := Rzq L p
 refine ⟨q, ?_⟩
 apply Rbs
 rw [hq, Qb]; rfl
theorem Rxn (L : List Tok) (p : Int) : ∃ x q, Rf 1 L p true = some (x, L, q, true) := by
 obtain ⟨q, hq⟩ := Rns L p
 refine ⟨⟨13, 0, []⟩, q, ?_⟩
 apply Rdm
 have h1 : Ral L p true = some (⟨13, 0, []⟩, L, q, true) := by
  apply Rr
  rw [Rmu, Qb]
  simp only [show (([] : List UInt8) == [40]) = false from rfl, Zf, show (([] : List UInt8) == []) = true from rfl, Zv, hq, Qb]
 have hl : Rak 1 L q true 0 0 false [] 13 0 .share [] = some (L, q, true, 0, 0, (false, []), 13, 0, (.share, [])) := by
  apply Rat
  simp only [Zv, Zf]
 rw [h1, Qb]
 simp only [hl, Qb]
theorem Rkt (L : List Tok) (p : Int) (m : Bool) (a : List Stm) : Raf m a L p true = some ((m, a), L, p, true) := by
 apply Rax
 simp only [Zv, Zf]
theorem Rsl (L : List Tok) (p : Int) : Rav L p true = some ([], L, p, true) := by
 apply Rem
 rw [Rfd (by simp), Qb]
 simp only [Rkt, Qb]
theorem Rkv {L l : List Tok} (hL : L.length ≤ 20000) (hg : ∀ t ∈ L, gt t) (h : Suf L l) : match nu l with
  | some (n, r) => Rag L (plc L l) false = some (n, L, (plc L r : Int), false)
  | none => ∃ q, Rag L (plc L l) false = some (0, L, q, true) := by
 cases l with
 | nil =>
  obtain ⟨q, hq⟩ := Ruc L
  refine ⟨q, ?_⟩
  apply Rcn
  rw [Rfe, hq, Qb]; rfl
 | cons t l =>
  obtain ⟨c, r, rfl, hd⟩ := hg t h.mem
  cases hc : dg c
  ·have hn : ¬ 0 ≤ numV (c :: r) := fun h => by have := Ryd h c (List.mem_cons_self ..); rw [hc] at this; cases this
   simp only [nu, hn, if_false]
   refine ⟨(plc L l : Int), ?_⟩
   apply Rcn
   rw [Rnn hL h (by simp), Qb]
   have hb : ((c :: r : Tok) == []) = false := rfl
   simp only [hb, Zf]
   by_cases h5 : (5 : Int) < ((c :: r : Tok).length : Int)
   ·simp only [h5, Zy, Zt]
   ·simp only [h5, Zz, Zf, Rmf, Qb, Rdd, hc, Zx, Zt]
  ·by_cases hn : 0 ≤ numV (c :: r)
   ·simp only [nu, hn, if_true]
    exact (Rjr hL h (hd hc)).1 hn
   ·simp only [nu, hn, if_false]
    exact ⟨_, (Rjr hL h (hd hc)).2 hn⟩
theorem Rpi {L l : List Tok} (hL : L.length ≤ 20000) (hg : ∀ t ∈ L, gt t) (h : Suf L l) : match va l with
  | some (n, r) => Rj L (plc L l) false = some (n, L, (plc L r : Int), false)
  | none => ∃ q, Rj L (plc L l) false = some (0, L, q, true) := by
 cases l with
 | nil =>
  obtain ⟨q, hq⟩ := Ruc L
  refine ⟨q, ?_⟩
  apply Rbs
  rw [Rfe, hq, Qb]; rfl
 | cons t l =>
  obtain ⟨c, r, rfl, hd⟩ := hg t h.mem
  by_cases hn : 0 ≤ varV (c :: r)
  ·simp only [va, hn, if_true]
   exact (Rho hL h (by simp)).1 hn
  ·simp only [va, hn, if_false]
   exact ⟨_, (Rho hL h (by simp)).2 hn⟩
theorem Rhi {L l : List Tok} (hL : L.length ≤ 20000) (hg : ∀ t ∈ L, gt t) (h : Suf L l) : IA L (Rf 1 L (plc L l) false) (ex1 l) :=
 impl_C (P_C (Rwu l)) L hL hg h (by omega) (Nat.le_refl 1)
theorem Rur {k : Tok} {L l r : List Tok} (hs : Suf L l) (h : nd k l = some r) : Suf L r := by rw [Ree h] at hs; exact hs.tail.1
theorem Rwi {L l r : List Tok} {n : Int} (hs : Suf L l) (h : nu l = some (n, r)) : Suf L r := by obtain ⟨t, rfl, _⟩ := Rls h; exact hs.tail.1
theorem Rabp {L l r : List Tok} {n : Int} (hs : Suf L l) (h : va l = some (n, r)) : Suf L r := by obtain ⟨t, rfl, _⟩ := Rvl h; exact hs.tail.1
theorem Rim {L l r : List Tok} {e : Exp} (hs : Suf L l) (h : ex1 l = some (e, r)) : Suf L r := hs.trans (Rjn h).1
def RS (L : List Tok) (f : Option (Stm × List Tok × Int × Bool)) (o : GO) : Prop := match o with
 | some (b, r) => ∃ s, b = [s] ∧ f = some (s, L, (plc L r : Int), false)
 | none => ∃ x p, f = some (x, L, p, true)
def RB (L : List Tok) (f : Option (List Stm × List Tok × Int × Bool)) (o : GO) : Prop := match o with
 | some (b, r) => f = some (b, L, (plc L r : Int), false)
 | none => ∃ x p, f = some (x, L, p, true)
def RL (L : List Tok) (f : Option ((Bool × List Stm) × List Tok × Int × Bool)) (o : GO) : Prop := match o with
 | some (b, r) => ∃ m, f = some ((m, b), L, (plc L r : Int), false)
 | none => ∃ x p, f = some (x, L, p, true)
theorem Rxl {L l : List Tok} (hL : L.length ≤ 20000) (hg : ∀ t ∈ L, gt t) (h : Suf L l) (F : Exp → Stm) (F' : Exp → Stm) (hF : ∀ e, F' e = F e) :
  RS L (bnd (Rf 1 L (plc L l) false) fun r => bnd (Rg [59] r.2.1 r.2.2.1 r.2.2.2) fun q => some (F' r.1, q.1, q.2.1, q.2.2)) ((en l).map fun q => ([F q.1], q.2)) := by
 have h1 := Rhi hL hg h
 unfold en
 cases hx : ex1 l with
 | none =>
  rw [hx] at h1
  obtain ⟨x, p, h1⟩ := h1
  exact ⟨F' x, p, by rw [h1, Qb, Rfd (by simp), Qb]⟩
 | some q =>
  obtain ⟨e, r⟩ := q
  rw [hx] at h1
  have h1 : _ = _ := h1
  rw [h1, Qb]
  simp only [Option.bind_some]
  rw [Rkj (by simp) hL (Rim h hx), Qb]
  change RS L _ ((Option.map _ (nd [59] r)).map _)
  cases nd [59] r with
  | none => exact ⟨_, _, rfl⟩
  | some r2 => exact ⟨_, rfl, by rw [hF]⟩
theorem Rtp (L : List Tok) (p : Int) (F : Exp → Stm) : ∃ x q, (bnd (Rf 1 L p true) fun r => bnd (Rg [59] r.2.1 r.2.2.1 r.2.2.2) fun q => some (F r.1, q.1, q.2.1, q.2.2)) = some (x, L, q, true) := by
 obtain ⟨x, q, h⟩ := Rxn L p
 exact ⟨F x, q, by rw [h, Qb, Rfd (by simp), Qb]⟩
theorem ndN {k t : Tok} {l : List Tok} (h : t ≠ k) : nd k (t :: l) = none := by simp only [nd]; rw [if_neg h]
theorem Rwp {L l : List Tok} (hL : L.length ≤ 20000) (hg : ∀ t ∈ L, gt t) (h : Suf L l) (h1 : nd kIf l = none) (h2 : nd Rcp l = none) : RS L (Rch L (plc L l) false) (smp l) := by
 have main : ∀ f, RS L f (smp l) → (∀ v, f = some v → Rch L (plc L l) false = some v) → RS L (Rch L (plc L l) false) (smp l) := by
  intro f hf hv
  cases hs : smp l with
  | none => rw [hs] at hf; obtain ⟨x, p, hf⟩ := hf; exact ⟨x, p, hv _ hf⟩
  | some q =>
   obtain ⟨b, r⟩ := q
   rw [hs] at hf
   obtain ⟨s, hb, hf⟩ := hf
   exact ⟨s, hb, hv _ hf⟩
 refine main _ ?_ (fun v hv => Rad _ _ _ v hv)
 rw [Rn (k := [105, 102]) (by simp) hL h, show nd [105, 102] l = none from h1, Qb]
 simp only [Zf]
 rw [Rn (k := [119, 104, 105, 108, 101]) (by simp) hL h, show nd [119, 104, 105, 108, 101] l = none from h2, Qb]
 simp only [Zf]
 rw [Rn (k := [115, 101, 110, 100]) (by simp) hL h, Qb]
 cases h3 : nd [115, 101, 110, 100] l with
 | some l1 =>
  have hs1 := Rur h h3
  have := Ree h3
  subst this
  simp only [Zt]
  have hn := Rkv hL hg hs1
  have hsm : smp (([115, 101, 110, 100] : Tok) :: l1) = (nu l1).bind fun p => (en p.2).map fun q => ([⟨4, 0, p.1, q.1, [], []⟩], q.2) := by
   simp only [smp, Rix, if_true]
  rw [hsm]
  cases hu : nu l1 with
  | none =>
   rw [hu] at hn
   obtain ⟨q, hn⟩ := hn
   rw [hn, Qb]
   exact Rtp L q fun e => ⟨4, 0, 0, ⟨e.op, e.n, e.args⟩, [], []⟩
  | some p =>
   obtain ⟨n, r⟩ := p
   rw [hu] at hn
   have hn : _ = _ := hn
   rw [hn, Qb]
   exact Rxl hL hg (Rwi hs1 hu) (fun e => ⟨4, 0, n, e, [], []⟩) (fun e => ⟨4, 0, n, ⟨e.op, e.n, e.args⟩, [], []⟩) (fun e => by rw [Rs])
 | none =>
  simp only [Zf]
  rw [Rn (k := [114, 101, 99, 118]) (by simp) hL h, Qb]
  cases h4 : nd [114, 101, 99, 118] l with
  | some l1 =>
   have hs1 := Rur h h4
   have := Ree h4
   subst this
   simp only [Zt]
   have hn := Rkv hL hg hs1
   have hsm : smp (([114, 101, 99, 118] : Tok) :: l1) = (nu l1).bind fun p => (va p.2).bind fun q => (nd kS q.2).map fun r => ([⟨5, q.1, p.1, ⟨0, 0, []⟩, [], []⟩], r) := by
    simp only [smp, Rix, Rkf, if_true]
    rw [if_neg (by decide)]
   rw [hsm]
   cases hu : nu l1 with
   | none =>
    rw [hu] at hn
    obtain ⟨q, hn⟩ := hn
    obtain ⟨q2, hv⟩ := Rns L q
    exact ⟨_, q2, by rw [hn, Qb, hv, Qb, Rfd (by simp), Qb]⟩
   | some p =>
    obtain ⟨n, r⟩ := p
    rw [hu] at hn
    have hn : _ = _ := hn
    have hs2 := Rwi hs1 hu
    rw [hn, Qb]
    have hv := Rpi hL hg hs2
    simp only [Option.bind_some]
    cases hw : va r with
    | none =>
     rw [hw] at hv
     obtain ⟨q, hv⟩ := hv
     exact ⟨_, q, by rw [hv, Qb, Rfd (by simp), Qb]⟩
    | some p2 =>
     obtain ⟨v, r2⟩ := p2
     rw [hw] at hv
     have hv : _ = _ := hv
     rw [hv, Qb, Rkj (by simp) hL (Rabp hs2 hw), Qb]
     simp only [Option.bind_some]
     change RS L _ (Option.map _ (nd [59] r2))
     cases nd [59] r2 with
     | none => exact ⟨_, _, rfl⟩
     | some r3 => exact ⟨_, rfl, rfl⟩
  | none =>
   simp only [Zf]
   rw [Rn (k := [121, 105, 101, 108, 100]) (by simp) hL h, Qb]
   cases h5 : nd [121, 105, 101, 108, 100] l with
   | some l1 =>
    have hs1 := Rur h h5
    have := Ree h5
    subst this
    simp only [Zt]
    have hsm : smp (([121, 105, 101, 108, 100] : Tok) :: l1) = (nd kS l1).map fun r => ([⟨6, 0, 0, ⟨0, 0, []⟩, [], []⟩], r) := by
     simp only [smp, Rix, Rkf, Rgs, if_true]
     rw [if_neg (by decide), if_neg (by decide)]
    rw [hsm, Rkj (by simp) hL hs1, Qb]
    change RS L _ (Option.map _ (nd [59] l1))
    cases nd [59] l1 with
    | none => exact ⟨_, _, rfl⟩
    | some r3 => exact ⟨_, rfl, rfl⟩
   | none =>
    simp only [Zf]
    rw [Rn (k := [112, 114, 105, 110, 116]) (by simp) hL h, Qb]
    cases h6 : nd [112, 114, 105, 110, 116] l with
    | some l1 =>
     have hs1 := Rur h h6
     have := Ree h6
     subst this
     simp only [Zt]
     have hsm : smp (([112, 114, 105, 110, 116] : Tok) :: l1) = (en l1).map fun q => ([⟨7, 0, 0, q.1, [], []⟩], q.2) := by
      simp only [smp, Rix, Rkf, Rgs, Rga, if_true]
      rw [if_neg (by decide), if_neg (by decide), if_neg (by decide)]
     rw [hsm]
     exact Rxl hL hg hs1 (fun e => ⟨7, 0, 0, e, [], []⟩) (fun e => ⟨7, 0, 0, ⟨e.op, e.n, e.args⟩, [], []⟩) (fun e => by rw [Rs])
    | none =>
     simp only [Zf]
     have hsm : smp l = (va l).bind fun p => (nd kE p.2).bind fun r => (en r).map fun q => ([⟨1, p.1, 0, q.1, [], []⟩], q.2) := by
      cases l with
      | nil => rfl
      | cons t l =>
       have ne : ∀ k, nd k (t :: l) = none → t ≠ k := by intro k hk e; rw [e, Raw] at hk; cases hk
       simp only [smp]
       rw [if_neg (ne Rix h3), if_neg (ne Rkf h4), if_neg (ne Rgs h5), if_neg (ne Rga h6)]
     rw [hsm]
     have hv := Rpi hL hg h
     cases hw : va l with
     | none =>
      rw [hw] at hv
      obtain ⟨q, hv⟩ := hv
      rw [hv, Qb, Rfd (by simp), Qb]
      exact Rtp L q fun e => ⟨1, 0, 0, ⟨e.op, e.n, e.args⟩, [], []⟩
     | some p =>
      obtain ⟨v, r⟩ := p
      rw [hw] at hv
      have hv : _ = _ := hv
      have hs2 := Rabp h hw
      rw [hv, Qb, Rkj (by simp) hL hs2, Qb]
      simp only [Option.bind_some]
      change RS L _ (Option.bind (nd [61] r) _)
      cases he : nd [61] r with
      | none => exact Rtp L _ fun e => ⟨1, v, 0, ⟨e.op, e.n, e.args⟩, [], []⟩
      | some r2 => exact Rxl hL hg (Rur hs2 he) (fun e => ⟨1, v, 0, e, [], []⟩) (fun e => ⟨1, v, 0, ⟨e.op, e.n, e.args⟩, [], []⟩) (fun e => by rw [Rs])
theorem Rabf : ∀ {j : K} {l : List Tok} {o : GO}, G j l o → ∀ L : List Tok, L.length ≤ 20000 → (∀ t ∈ L, gt t) → Suf L l → match j with
  | .st => RS L (Rch L (plc L l) false) o
  | .bk => RB L (Rav L (plc L l) false) o
  | .lp a => a.length ≤ plc L l → ∀ m, RL L (Raf m a L (plc L l) false) o := by
 intro j l o h
 induction h with
 | @bk0 l h =>
  intro L hL hg hs
  refine ⟨[], (plc L l : Int), ?_⟩
  apply Rem
  rw [Rkj (by simp) hL hs, show nd [123] l = none from h, Qb]
  simp only [Rkt, Qb]
 | @bk l o h ih =>
  intro L hL hg hs
  obtain ⟨hs2, hp, hlt, _⟩ := hs.tail
  have h1 := ih L hL hg hs2 (Nat.zero_le _) false
  have st : ∀ v, (bnd (Raf false [] L (plc L l) false) fun r => some (r.1.2, r.2.1, r.2.2.1, r.2.2.2)) = some v → Rav L (plc L (kL :: l)) false = some v := by
   intro v hv
   apply Rem
   rw [Rkj (by simp) hL hs, show nd [123] (kL :: l) = some l from Raw _ _, Qb]
   exact hv
  cases o with
  | none => obtain ⟨x, p, h1⟩ := h1; exact ⟨x.2, p, st _ (by rw [h1, Qb])⟩
  | some q =>
   obtain ⟨b, r⟩ := q
   obtain ⟨m, h1⟩ := h1
   exact st _ (by rw [h1, Qb])
 | @lpE a =>
  intro L hL hg hs ha m
  obtain ⟨x, p, h1⟩ := Rwp hL hg hs rfl rfl
  refine ⟨?_, p, ?_⟩
  rotate_left
  ·apply Rax
   simp only [Zx, Zt]
   rw [Rn (by simp) hL hs, Qb]
   simp only [nd, Zx, Zt]
   rw [h1, Qb]
   simp only [Rdo]
   rw [Rba (by rw [Rfe] at ha; omega), Qb, Rkt]
 | @lpS a l =>
  intro L hL hg hs ha m
  refine ⟨m, ?_⟩
  apply Rax
  simp only [Zx, Zt]
  rw [Rn (by simp) hL hs, show nd [125] (kR :: l) = some l from Raw _ _, Qb]
  rfl
 | @lpN a t l ht h ih =>
  intro L hL hg hs ha m
  obtain ⟨hs2, hp, hlt, _⟩ := hs.tail
  obtain ⟨x, p, h1⟩ := ih L hL hg hs
  refine ⟨?_, p, ?_⟩
  rotate_left
  ·apply Rax
   simp only [Zx, Zt]
   rw [Rn (by simp) hL hs, show nd [125] (t :: l) = none from ndN ht, Qb]
   simp only [Zx, Zt]
   rw [h1, Qb]
   simp only [Rdo]
   rw [Rba (by omega), Qb, Rkt]
 | @lpC a t l r s o ht h1 h2 ih1 ih2 =>
  intro L hL hg hs ha m
  obtain ⟨hs2, hp, hlt, _⟩ := hs.tail
  obtain ⟨s', hb, e1⟩ := ih1 L hL hg hs
  injection hb with hb
  subst hb
  have hsf := Rlz h1 _ _ rfl
  have hs3 := hs.trans hsf.1
  have hpl : plc L (t :: l) + 1 ≤ plc L r := by
   have h3 := hsf.2
   obtain ⟨p, hp2⟩ := hs
   have : L.length = p.length + (t :: l).length := by rw [hp2, Za]
   unfold plc; omega
  have e2 := ih2 L hL hg hs3 (by rw [Za]; simp only [Zc, Zn]; omega) true
  have st : ∀ v, Raf true (a ++ [s]) L (plc L r) false = some v → Raf m a L (plc L (t :: l)) false = some v := by
   intro v hv
   apply Rax
   simp only [Zx, Zt]
   rw [Rn (by simp) hL hs, show nd [125] (t :: l) = none from ndN ht, Qb]
   simp only [Zx, Zt]
   rw [e1, Qb]
   simp only [Rdo]
   rw [Rba (by omega), Qb]
   exact hv
  cases o with
  | none => obtain ⟨x, p, e2⟩ := e2; exact ⟨x, p, st _ e2⟩
  | some q => obtain ⟨b, r'⟩ := q; obtain ⟨m', e2⟩ := e2; exact ⟨m', st _ e2⟩
 | @smp t l o h1 h2 h =>
  intro L hL hg hs
  rw [← h]
  exact Rwp hL hg hs (ndN h1) (ndN h2)
 | @ifN l h =>
  intro L hL hg hs
  have hs2 := hs.tail.1
  have e1 := Rhi hL hg hs2
  rw [h] at e1
  obtain ⟨x, p, e1⟩ := e1
  refine ⟨?_, p, ?_⟩
  rotate_left
  ·apply Rad
   rw [Rn (k := [105, 102]) (by simp) hL hs, show nd [105, 102] (kIf :: l) = some l from Raw _ _, Qb]
   simp only [Zt]
   rw [e1, Qb, Rsl, Qb, Rhp (by simp), Qb]
   rfl
 | @ifB l r e h hb ih =>
  intro L hL hg hs
  have hs2 := hs.tail.1
  have e1 := Rhi hL hg hs2
  rw [h] at e1
  have e1 : _ = _ := e1
  obtain ⟨x, p, e2⟩ := ih L hL hg (Rim hs2 h)
  refine ⟨?_, p, ?_⟩
  rotate_left
  ·apply Rad
   rw [Rn (k := [105, 102]) (by simp) hL hs, show nd [105, 102] (kIf :: l) = some l from Raw _ _, Qb]
   simp only [Zt]
   rw [e1, Qb, e2, Qb, Rhp (by simp), Qb]
   rfl
 | @if1 l r r2 e b h hb hn ih =>
  intro L hL hg hs
  have hs2 := hs.tail.1
  have e1 := Rhi hL hg hs2
  rw [h] at e1
  have e1 : _ = _ := e1
  have hs3 := Rim hs2 h
  have e2 := ih L hL hg hs3
  have e2 : _ = _ := e2
  have hs4 := hs3.trans (Rlz hb _ _ rfl).1
  refine ⟨_, rfl, ?_⟩
  apply Rad
  rw [Rn (k := [105, 102]) (by simp) hL hs, show nd [105, 102] (kIf :: l) = some l from Raw _ _, Qb]
  simp only [Zt]
  rw [e1, Qb, e2, Qb, Rn (by simp) hL hs4, show nd [101, 108, 115, 101] r2 = none from hn, Qb]
  simp only [Zf, Rs]
 | @if2 l r r2 r3 e b c h hb hc ih ih2 =>
  intro L hL hg hs
  have hs2 := hs.tail.1
  have e1 := Rhi hL hg hs2
  rw [h] at e1
  have e1 : _ = _ := e1
  have hs3 := Rim hs2 h
  have e2 := ih L hL hg hs3
  have e2 : _ = _ := e2
  have hs4 := hs3.trans (Rlz hb _ _ rfl).1
  have e3 := ih2 L hL hg hs4.tail.1
  have e3 : _ = _ := e3
  refine ⟨_, rfl, ?_⟩
  apply Rad
  rw [Rn (k := [105, 102]) (by simp) hL hs, show nd [105, 102] (kIf :: l) = some l from Raw _ _, Qb]
  simp only [Zt]
  rw [e1, Qb, e2, Qb, Rn (by simp) hL hs4, show nd [101, 108, 115, 101] (Rfv :: r2) = some r2 from Raw _ _, Qb]
  simp only [Zt]
  rw [e3, Qb]
  simp only [Rs]
 | @if3 l r r2 e b h hb hc ih ih2 =>
  intro L hL hg hs
  have hs2 := hs.tail.1
  have e1 := Rhi hL hg hs2
  rw [h] at e1
  have e1 : _ = _ := e1
  have hs3 := Rim hs2 h
  have e2 := ih L hL hg hs3
  have e2 : _ = _ := e2
  have hs4 := hs3.trans (Rlz hb _ _ rfl).1
  obtain ⟨x, p, e3⟩ := ih2 L hL hg hs4.tail.1
  refine ⟨?_, p, ?_⟩
  rotate_left
  ·apply Rad
   rw [Rn (k := [105, 102]) (by simp) hL hs, show nd [105, 102] (kIf :: l) = some l from Raw _ _, Qb]
   simp only [Zt]
   rw [e1, Qb, e2, Qb, Rn (by simp) hL hs4, show nd [101, 108, 115, 101] (Rfv :: r2) = some r2 from Raw _ _, Qb]
   simp only [Zt]
   rw [e3, Qb]
 | @whN l h =>
  intro L hL hg hs
  have hs2 := hs.tail.1
  have e1 := Rhi hL hg hs2
  rw [h] at e1
  obtain ⟨x, p, e1⟩ := e1
  refine ⟨?_, p, ?_⟩
  rotate_left
  ·apply Rad
   rw [Rn (k := [105, 102]) (by simp) hL hs, show nd [105, 102] (Rcp :: l) = none from ndN (by decide), Qb]
   simp only [Zf]
   rw [Rn (k := [119, 104, 105, 108, 101]) (by simp) hL hs, show nd [119, 104, 105, 108, 101] (Rcp :: l) = some l from Raw _ _, Qb]
   simp only [Zt]
   rw [e1, Qb, Rsl, Qb]
 | @whB l r e h hb ih =>
  intro L hL hg hs
  have hs2 := hs.tail.1
  have e1 := Rhi hL hg hs2
  rw [h] at e1
  have e1 : _ = _ := e1
  obtain ⟨x, p, e2⟩ := ih L hL hg (Rim hs2 h)
  refine ⟨?_, p, ?_⟩
  rotate_left
  ·apply Rad
   rw [Rn (k := [105, 102]) (by simp) hL hs, show nd [105, 102] (Rcp :: l) = none from ndN (by decide), Qb]
   simp only [Zf]
   rw [Rn (k := [119, 104, 105, 108, 101]) (by simp) hL hs, show nd [119, 104, 105, 108, 101] (Rcp :: l) = some l from Raw _ _, Qb]
   simp only [Zt]
   rw [e1, Qb, e2, Qb]
 | @wh l r r2 e b h hb ih =>
  intro L hL hg hs
  have hs2 := hs.tail.1
  have e1 := Rhi hL hg hs2
  rw [h] at e1
  have e1 : _ = _ := e1
  have e2 := ih L hL hg (Rim hs2 h)
  have e2 : _ = _ := e2
  refine ⟨_, rfl, ?_⟩
  apply Rad
  rw [Rn (k := [105, 102]) (by simp) hL hs, show nd [105, 102] (Rcp :: l) = none from ndN (by decide), Qb]
  simp only [Zf]
  rw [Rn (k := [119, 104, 105, 108, 101]) (by simp) hL hs, show nd [119, 104, 105, 108, 101] (Rcp :: l) = some l from Raw _ _, Qb]
  simp only [Zt]
  rw [e1, Qb, e2, Qb]
  simp only [Rs]
theorem Raah {L : List Tok} (n : Nat) (k : Tok) : Ra L (n : Int) k = some (decide (L[n]? = some k)) := by
 apply Rnf
 have h0 : (0 : Int) ≤ (n : Int) := by omega
 simp only [h0, Zy, Zt]
 by_cases h : n < L.length
 ·have h1 : ((n : Int) < (L.length : Int)) := by omega
  simp only [h1, Zy, Zt, Rcy h, Qb, List.getElem?_eq_getElem h, Zi]
  congr 1
  by_cases hk : L[n] = k
  ·simp [hk]
  ·rw [beq_eq_false_iff_ne.mpr hk, Zq hk]
 ·have h1 : ¬ ((n : Int) < (L.length : Int)) := by omega
  simp only [h1, Zz, Zf, List.getElem?_eq_none (Nat.le_of_not_lt h)]
  rfl
theorem Rwe (L : List Tok) (k : Tok) : Ra L (-1) k = some false := by
 apply Rnf
 rfl
theorem Rwj {L : List Tok} (n : Nat) : Ru L (n : Int) = some (match L[n]? with | some t => numV t | none => -1) := by
 apply Rsc
 by_cases h : n < L.length
 ·have h1 : ¬ ((L.length : Int) ≤ (n : Int)) := by omega
  simp only [h1, Zz, Zf, Rcy h, Qb, List.getElem?_eq_getElem h, Rhb]
 ·have h1 : ((L.length : Int) ≤ (n : Int)) := by omega
  simp only [h1, Zy, Zt, List.getElem?_eq_none (Nat.le_of_not_lt h)]
theorem Suf.at {L l : List Tok} (h : Suf L l) (i : Nat) : L[plc L l + i]? = l[i]? := by
 obtain ⟨p, rfl⟩ := h
 have : plc (p ++ l) l = p.length := by unfold plc; rw [Za]; omega
 rw [this, List.getElem?_append_right (by omega)]
 congr 1; omega
theorem Rvf {L l : List Tok} (hL : L.length ≤ 20000) (h : Suf L l) : Rp L (plc L l) = some (match en l with | some (e, r) => (e, (plc L r : Int)) | none => (⟨0, 0, []⟩, -1)) := by
 apply Rre
 have h1 : SA L (Rac L (plc L l) 1) (ex1 l) := Rabm (Rwu l) L hL h (Nat.le_refl 1) (by omega)
 unfold en
 cases hx : ex1 l with
 | none =>
  rw [hx] at h1
  obtain ⟨x, h1⟩ := h1
  rw [h1, Qb]
  simp only [Rwe, Qb, Zx, Zt, Option.bind_none]
 | some q =>
  obtain ⟨e, r⟩ := q
  rw [hx] at h1
  have h1 : _ = _ := h1
  have hs := Rim h hx
  rw [h1, Qb]
  simp only [Option.bind_some]
  rw [Raah, Qb, show L[plc L r]? = r[0]? from hs.at 0]
  cases r with
  | nil => rfl
  | cons t r =>
   obtain ⟨hs2, hp, hlt, _⟩ := hs.tail
   by_cases ht : t = kS
   ·subst ht
    simp only [List.getElem?_cons_zero, kS, Zy, Zv, Zf, nd, if_true, Option.map_some]
    rw [Rs, show ([59] : Tok) :: r = kS :: r from rfl, w1n (by omega), hp]
   ·have hk : ¬ (some t = some ([59] : Tok)) := by intro hh; injection hh with hh; exact ht hh
    simp only [List.getElem?_cons_zero, hk, Zz, Zx, Zt, nd, ht, if_false, Option.map_none]
def SS (L : List Tok) (f : Option (Stm × Int)) (o : GO) : Prop := match o with
 | some (b, r) => ∃ s, b = [s] ∧ f = some (s, (plc L r : Int))
 | none => ∃ x, f = some (x, -1)
def SB (L : List Tok) (f : Option (List Stm × Int)) (o : GO) : Prop := match o with
 | some (b, r) => f = some (b, (plc L r : Int))
 | none => ∃ x, f = some (x, -1)
def SLp (L : List Tok) (f : Option (List Tok × Int × (Bool × List Stm))) (o : GO) : Prop := match o with
 | some (b, r) => ∃ m, f = some (L, (plc L (kR :: r) : Int), (m, b)) ∧ Suf L (kR :: r)
 | none => ∃ p x, f = some (L, p, x) ∧ Ra L p [125] = some false
abbrev z0 : Stm := ⟨0, 0, 0, ⟨0, 0, []⟩, [], []⟩
noncomputable def Vt (a0 : List Tok) (a1 : Int) : Option (Stm × Int) :=
 bif (decide (a1 < (a0.length : Int))) then
  bnd (geti a0 a1) fun e21 =>
  bnd (Rc e21) fun r22 =>
  (bif (decide (0 ≤ r22)) then
  bnd (Ra a0 (wrap64 (a1 + 1)) [61]) fun r23 =>
  (bif r23 then
  bnd (Rp a0 (wrap64 (a1 + 2))) fun r24 =>
  bnd (geti a0 a1) fun e25 =>
  bnd (Rc e25) fun r26 =>
  some (⟨1, r26, 0, ⟨r24.1.op, r24.1.n, r24.1.args⟩, [], []⟩, r24.2)
  else
  some (⟨0, 0, 0, ⟨0, 0, []⟩, [], []⟩, (-1)))
  else
  some (⟨0, 0, 0, ⟨0, 0, []⟩, [], []⟩, (-1)))
 else some (⟨0, 0, 0, ⟨0, 0, []⟩, [], []⟩, (-1))
noncomputable def Rt (a0 : List Tok) (a1 : Int) : Option (Stm × Int) :=
 bnd (Ra a0 a1 ([114, 101, 99, 118])) fun r13 =>
 (bif r13 then
 bnd (Ru a0 (wrap64 (a1 + 1))) fun r14 =>
 (bif (decide (0 ≤ r14)) then
 bnd (Ra a0 (wrap64 (a1 + 3)) [59]) fun r15 =>
 (bif r15 then
 bnd (geti a0 (wrap64 (a1 + 2))) fun e16 =>
 bnd (Rc e16) fun r17 =>
 (bif (decide (r17 < 0)) then
 some (⟨0, 0, 0, ⟨0, 0, []⟩, [], []⟩, (-1))
 else
 bnd (Ru a0 (wrap64 (a1 + 1))) fun r18 =>
 bnd (geti a0 (wrap64 (a1 + 2))) fun e19 =>
 bnd (Rc e19) fun r20 =>
 some (⟨5, r20, r18, ⟨0, 0, []⟩, [], []⟩, (wrap64 (a1 + 4))))
 else Vt a0 a1)
 else Vt a0 a1)
 else Vt a0 a1)
noncomputable def St (a0 : List Tok) (a1 : Int) : Option (Stm × Int) :=
 bnd (Ra a0 a1 ([115, 101, 110, 100])) fun r9 =>
 (bif r9 then
 bnd (Ru a0 (wrap64 (a1 + 1))) fun r10 =>
 (bif (decide (0 ≤ r10)) then
 bnd (Rp a0 (wrap64 (a1 + 2))) fun r11 =>
 bnd (Ru a0 (wrap64 (a1 + 1))) fun r12 =>
 some (⟨4, 0, r12, ⟨r11.1.op, r11.1.n, r11.1.args⟩, [], []⟩, r11.2)
 else Rt a0 a1)
 else Rt a0 a1)
noncomputable def Pt (a0 : List Tok) (a1 : Int) : Option (Stm × Int) :=
 bnd (Ra a0 a1 ([112, 114, 105, 110, 116])) fun r7 =>
 (bif r7 then
 bnd (Rp a0 (wrap64 (a1 + 1))) fun r8 =>
 some (⟨7, 0, 0, ⟨r8.1.op, r8.1.n, r8.1.args⟩, [], []⟩, r8.2)
 else St a0 a1)
noncomputable def Yt (a0 : List Tok) (a1 : Int) : Option (Stm × Int) :=
 bnd (Ra a0 a1 ([121, 105, 101, 108, 100])) fun r5 =>
 (bif r5 then
 bnd (Ra a0 (wrap64 (a1 + 1)) [59]) fun r6 =>
 (bif r6 then
 some (⟨6, 0, 0, ⟨0, 0, []⟩, [], []⟩, (wrap64 (a1 + 2)))
 else Pt a0 a1)
 else Pt a0 a1)
noncomputable def Ot (a0 : List Tok) (a1 : Int) : Option (Stm × Int) :=
 bnd (Ra a0 a1 ([105, 102])) fun r1 =>
 (bif r1 then
 bnd (Rao a0 (wrap64 (a1 + 1)) 2) fun r2 =>
 some (⟨r2.1.kind, r2.1.var, r2.1.box, ⟨r2.1.e.op, r2.1.e.n, r2.1.e.args⟩, r2.1.body, r2.1.els⟩, r2.2)
 else
 bnd (Ra a0 a1 ([119, 104, 105, 108, 101])) fun r3 =>
 (bif r3 then
 bnd (Rao a0 (wrap64 (a1 + 1)) 3) fun r4 =>
 some (⟨r4.1.kind, r4.1.var, r4.1.box, ⟨r4.1.e.op, r4.1.e.n, r4.1.e.args⟩, r4.1.body, r4.1.els⟩, r4.2)
 else Yt a0 a1))
theorem Rwm {a0 : List Tok} {a1 : Int} {v : Stm × Int} (h : Ot a0 a1 = some v) : Reg a0 a1 = some v := Rsd a0 a1 v h
theorem is_at {L : List Tok} {l : List Tok} {t : Tok} (h : Suf L (t :: l)) (k : Tok) : Ra L (plc L (t :: l) : Int) k = some (decide (t = k)) := by
 rw [Raah, show L[plc L (t :: l)]? = some t from h.at 0]
 simp only [Zi]
theorem Rin {L : List Tok} {l : List Tok} {t : Tok} (h : Suf L (t :: l)) : Ra L (plc L (t :: l) : Int) t = some true := by rw [is_at h, Zp rfl]
theorem Rvh {L : List Tok} {l : List Tok} {t : Tok} (h : Suf L (t :: l)) {k : Tok} (hk : t ≠ k) : Ra L (plc L (t :: l) : Int) k = some false := by rw [is_at h, Zq hk]
theorem Rqs {L : List Tok} {l : List Tok} (h : Suf L l) (k : Tok) : Ra L (plc L l : Int) k = some (nd k l).isSome := by
 rw [Raah, show L[plc L l]? = l[0]? from h.at 0]
 cases l with
 | nil => rfl
 | cons t l =>
  by_cases ht : t = k
  ·subst ht; rw [Raw]; simp
  ·rw [ndN ht]; simp [ht]
theorem Rqy (L : List Tok) : Ru L (plc L [] : Int) = some (-1) := by
 rw [Rwj, Rfe, List.getElem?_eq_none (Nat.le_refl _)]
theorem Rku {L : List Tok} {l : List Tok} {t : Tok} (h : Suf L (t :: l)) : Ru L (plc L (t :: l) : Int) = some (numV t) := by
 rw [Rwj, show L[plc L (t :: l)]? = some t from h.at 0]
theorem at1 {L : List Tok} {l : List Tok} {t : Tok} (hL : L.length ≤ 20000) (h : Suf L (t :: l)) : wrap64 ((plc L (t :: l) : Int) + 1) = (plc L l : Int) := by
 obtain ⟨hs2, hp, hlt, hg⟩ := h.tail
 rw [wrap_id (by omega) (by omega)]; omega
theorem at2 {L : List Tok} {l : List Tok} {t : Tok} {u : Tok} (hL : L.length ≤ 20000) (h : Suf L (t :: u :: l)) : wrap64 ((plc L (t :: u :: l) : Int) + 2) = (plc L l : Int) := by
 obtain ⟨hs2, hp, hlt, hg⟩ := h.tail
 obtain ⟨hs3, hp3, hlt3, hg3⟩ := hs2.tail
 rw [wrap_id (by omega) (by omega)]; omega
theorem at3 {L : List Tok} {l : List Tok} {t : Tok} {u w : Tok} (hL : L.length ≤ 20000) (h : Suf L (t :: u :: w :: l)) : wrap64 ((plc L (t :: u :: w :: l) : Int) + 3) = (plc L l : Int) := by
 obtain ⟨hs2, hp, hlt, hg⟩ := h.tail
 obtain ⟨hs3, hp3, hlt3, hg3⟩ := hs2.tail
 obtain ⟨hs4, hp4, hlt4, hg4⟩ := hs3.tail
 rw [wrap_id (by omega) (by omega)]; omega
theorem is3_no {L : List Tok} {l : List Tok} {t : Tok} (hL : L.length ≤ 20000) (h : Suf L (t :: l)) {k : Tok} (hn : l.length ≤ 2) : Ra L (wrap64 ((plc L (t :: l) : Int) + 3)) k = some false := by
 obtain ⟨hs2, hp, hlt, hg⟩ := h.tail
 have := h.at 3
 rw [show wrap64 ((plc L (t :: l) : Int) + 3) = ((plc L (t :: l) + 3 : Nat) : Int) by rw [wrap_id (by omega) (by omega)]; omega, Raah, this, List.getElem?_eq_none (by simp only [Zc]; omega)]
 simp
theorem Rqi {L : List Tok} {l : List Tok} {t : Tok} (h : Suf L (t :: l)) (hv : ¬ 0 ≤ varV t) : Vt L (plc L (t :: l)) = some (z0, -1) := by
 obtain ⟨hs2, hp, hlt, hg⟩ := h.tail
 have hn : ((plc L (t :: l) : Int) < (L.length : Int)) := by omega
 unfold Vt
 rw [Zp hn, Zt, hg, Qb, Rcw, Qb, Zq hv, Zf]
theorem Vt_no {L : List Tok} {l : List Tok} {t : Tok} (hL : L.length ≤ 20000) (h : Suf L (t :: l)) (he : nd kE l = none) : Vt L (plc L (t :: l)) = some (z0, -1) := by
 by_cases hv : 0 ≤ varV t
 ·obtain ⟨hs2, hp, hlt, hg⟩ := h.tail
  have hn : ((plc L (t :: l) : Int) < (L.length : Int)) := by omega
  unfold Vt
  rw [Zp hn, Zt, hg, Qb, Rcw, Qb, Zp hv, Zt, at1 hL h, Rqs hs2, show nd [61] l = none from he, Qb]
  rfl
 ·exact Rqi h hv
theorem Vt_set {L : List Tok} {l : List Tok} {t : Tok} (hL : L.length ≤ 20000) (h : Suf L (t :: kE :: l)) (hv : 0 ≤ varV t) : Vt L (plc L (t :: kE :: l)) = some (match en l with | some (e, r) => (⟨1, varV t, 0, e, [], []⟩, (plc L r : Int)) | none => (⟨1, varV t, 0, ⟨0, 0, []⟩, [], []⟩, -1)) := by
 obtain ⟨hs2, hp, hlt, hg⟩ := h.tail
 have hn : ((plc L (t :: kE :: l) : Int) < (L.length : Int)) := by omega
 unfold Vt
 rw [Zp hn, Zt, hg, Qb, Rcw, Qb, Zp hv, Zt, at1 hL h, show Ra L (plc L (kE :: l) : Int) [61] = some true from Rin hs2, Qb, Zt, at2 hL h, Rvf hL hs2.tail.1, Qb, Qb, Rcw, Qb]
 cases en l with
 | none => rfl
 | some q => simp only [Rs]
theorem Rth {L : List Tok} {l : List Tok} {t : Tok} (h : Suf L (t :: l)) (hk : t ≠ Rkf) : Rt L (plc L (t :: l)) = Vt L (plc L (t :: l)) := by
 unfold Rt
 rw [show Ra L (plc L (t :: l) : Int) [114, 101, 99, 118] = some false from Rvh h hk, Qb, Zf]
theorem Rvn {L : List Tok} {l : List Tok} {t : Tok} (h : Suf L (t :: l)) (hk : t ≠ Rix) : St L (plc L (t :: l)) = Rt L (plc L (t :: l)) := by
 unfold St
 rw [show Ra L (plc L (t :: l) : Int) [115, 101, 110, 100] = some false from Rvh h hk, Qb, Zf]
theorem Rvm {L : List Tok} {l : List Tok} {t : Tok} (h : Suf L (t :: l)) (hk : t ≠ Rga) : Pt L (plc L (t :: l)) = St L (plc L (t :: l)) := by
 unfold Pt
 rw [show Ra L (plc L (t :: l) : Int) [112, 114, 105, 110, 116] = some false from Rvh h hk, Qb, Zf]
theorem Raaa {L : List Tok} {l : List Tok} {t : Tok} (h : Suf L (t :: l)) (hk : t ≠ Rgs) : Yt L (plc L (t :: l)) = Pt L (plc L (t :: l)) := by
 unfold Yt
 rw [show Ra L (plc L (t :: l) : Int) [121, 105, 101, 108, 100] = some false from Rvh h hk, Qb, Zf]
theorem Rzx {L : List Tok} {l : List Tok} {t : Tok} (h : Suf L (t :: l)) (h1 : t ≠ kIf) (h2 : t ≠ Rcp) : Ot L (plc L (t :: l)) = Yt L (plc L (t :: l)) := by
 unfold Ot
 rw [show Ra L (plc L (t :: l) : Int) [105, 102] = some false from Rvh h h1, Qb, Zf, show Ra L (plc L (t :: l) : Int) [119, 104, 105, 108, 101] = some false from Rvh h h2, Qb, Zf]
theorem SS_of {L : List Tok} {l : List Tok} {t : Tok} {f : Option (Stm × Int)} {o : GO} (h : SS L (Ot L (plc L (t :: l))) o) : SS L (Reg L (plc L (t :: l))) o := by
 cases o with
 | none => obtain ⟨x, h⟩ := h; exact ⟨x, Rwm h⟩
 | some q => obtain ⟨b, r⟩ := q; obtain ⟨s, hb, h⟩ := h; exact ⟨s, hb, Rwm h⟩
theorem one_smp {L : List Tok} {l : List Tok} {t : Tok} (hL : L.length ≤ 20000) (h : Suf L (t :: l)) (h1 : t ≠ kIf) (h2 : t ≠ Rcp) : SS L (Reg L (plc L (t :: l))) (smp (t :: l)) := by
 refine SS_of (f := none) ?_
 obtain ⟨hs2, hp, hlt, hg⟩ := h.tail
 rw [Rzx h h1 h2]
 by_cases k3 : t = Rgs
 ·have hsm : smp (t :: l) = (nd kS l).map fun r => ([⟨6, 0, 0, ⟨0, 0, []⟩, [], []⟩], r) := by
   simp only [smp, k3, if_true]
   rw [if_neg (by decide), if_neg (by decide)]
  rw [hsm]
  have e1 : Yt L (plc L (t :: l)) = bif (nd kS l).isSome then some (⟨6, 0, 0, ⟨0, 0, []⟩, [], []⟩, wrap64 ((plc L (t :: l) : Int) + 2)) else Pt L (plc L (t :: l)) := by
   unfold Yt
   rw [show ([121, 105, 101, 108, 100] : Tok) = t from k3.symm, Rin h, Qb, Zt, at1 hL h, Rqs hs2, Qb]
   rfl
  rw [e1]
  cases hn : nd kS l with
  | none =>
   simp only [Option.isSome_none, Zf]
   rw [Rvm h (by rw [k3]; decide), Rvn h (by rw [k3]; decide), Rth h (by rw [k3]; decide)]
   exact ⟨_, Rqi h (by rw [k3]; decide)⟩
  | some r =>
   have := Ree hn
   subst this
   refine ⟨_, rfl, ?_⟩
   simp only [Option.isSome_some, Zt]
   rw [at2 hL h]
 ·rw [Raaa h k3]
  by_cases k4 : t = Rga
  ·have hsm : smp (t :: l) = (en l).map fun q => ([⟨7, 0, 0, q.1, [], []⟩], q.2) := by
    simp only [smp, k4, if_true]
    rw [if_neg (by decide), if_neg (by decide), if_neg (by decide)]
   rw [hsm]
   unfold Pt
   rw [show ([112, 114, 105, 110, 116] : Tok) = t from k4.symm, Rin h, Qb, Zt, at1 hL h, Rvf hL hs2, Qb]
   cases en l with
   | none => exact ⟨_, rfl⟩
   | some q => exact ⟨_, rfl, by simp only [Rs]⟩
  ·rw [Rvm h k4]
   by_cases k5 : t = Rix
   ·have hsm : smp (t :: l) = (nu l).bind fun p => (en p.2).map fun q => ([⟨4, 0, p.1, q.1, [], []⟩], q.2) := by
     simp only [smp, k5, if_true]
    rw [hsm]
    have bad : Rt L (plc L (t :: l)) = some (z0, -1) := by rw [Rth h (by rw [k5]; decide)]; exact Rqi h (by rw [k5]; decide)
    unfold St
    rw [show ([115, 101, 110, 100] : Tok) = t from k5.symm, Rin h, Qb, Zt, at1 hL h]
    cases l with
    | nil =>
     rw [Rqy, Qb]
     exact ⟨_, bad⟩
    | cons u l =>
     rw [Rku hs2, Qb]
     by_cases hu : 0 ≤ numV u
     ·rw [Zp hu, Zt, at2 hL h, Rvf hL hs2.tail.1, Qb, Qb, Roh hu]
      simp only [Option.bind_some]
      cases en l with
      | none => exact ⟨_, rfl⟩
      | some q => exact ⟨_, rfl, by simp only [Rs]⟩
     ·have : nu (u :: l) = none := by simp only [nu, hu, if_false]
      rw [this, Zq hu, Zf]
      exact ⟨_, bad⟩
   ·rw [Rvn h k5]
    by_cases k6 : t = Rkf
    ·have hsm : smp (t :: l) = (nu l).bind fun p => (va p.2).bind fun q => (nd kS q.2).map fun r => ([⟨5, q.1, p.1, ⟨0, 0, []⟩, [], []⟩], r) := by
      simp only [smp, k6, if_true]
      rw [if_neg (by decide)]
     rw [hsm]
     have bad : Vt L (plc L (t :: l)) = some (z0, -1) := Rqi h (by rw [k6]; decide)
     unfold Rt
     rw [show ([114, 101, 99, 118] : Tok) = t from k6.symm, Rin h, Qb, Zt, at1 hL h]
     cases l with
     | nil =>
      rw [Rqy, Qb]
      exact ⟨_, bad⟩
     | cons u l =>
      rw [Rku hs2, Qb]
      by_cases hu : 0 ≤ numV u
      ·rw [Zp hu, Zt, Roh hu]
       simp only [Option.bind_some]
       cases l with
       | nil =>
        rw [is3_no hL h (by simp), Qb, Zf]
        exact ⟨_, bad⟩
       | cons w l =>
        rw [at2 hL h]
        cases hn : nd kS l with
        | none =>
         have hi : Ra L (wrap64 ((plc L (t :: u :: w :: l) : Int) + 3)) [59] = some false := by
          rw [at3 hL h, Rqs hs2.tail.1.tail.1, show nd [59] l = none from hn]; rfl
         have hb : (va (w :: l)).bind (fun q => (nd kS q.2).map fun r => (([⟨5, q.1, numV u, ⟨0, 0, []⟩, [], []⟩] : List Stm), r)) = none := by
          by_cases hw : 0 ≤ varV w
          ·rw [Rrr hw, Option.bind_some, hn]; rfl
          ·simp only [va, hw, if_false]; rfl
         rw [hi, Qb, Zf, hb]
         exact ⟨_, bad⟩
        | some r =>
         have := Ree hn
         subst this
         have hi : Ra L (wrap64 ((plc L (t :: u :: w :: kS :: r) : Int) + 3)) [59] = some true := by
          rw [at3 hL h, Rqs hs2.tail.1.tail.1, show nd [59] (kS :: r) = some r from Raw _ _]; rfl
         obtain ⟨hs4, hp4, hlt4, hg4⟩ := hs2.tail.1.tail
         obtain ⟨hs5, hp5, hlt5, hg5⟩ := hs4.tail
         rw [hi, Qb, Zt, hg4, Qb, Rcw, Qb]
         by_cases hw : 0 ≤ varV w
         ·rw [Zq (show ¬ varV w < 0 by omega), Zf, Qb, Qb, Rcw, Qb, Rrr hw]
          simp only [Option.bind_some, Raw, Option.map_some]
          refine ⟨_, rfl, ?_⟩
          rw [show wrap64 ((plc L (t :: u :: w :: kS :: r) : Int) + 4) = (plc L r : Int) by
           obtain ⟨_, q1, _, _⟩ := h.tail
           obtain ⟨_, q2, _, _⟩ := hs2.tail
           rw [wrap_id (by omega) (by omega)]; omega]
         ·have : va (w :: kS :: r) = none := by simp only [va, hw, if_false]
          rw [Zp (show varV w < 0 by omega), Zt, this]
          exact ⟨_, rfl⟩
      ·have : nu (u :: l) = none := by simp only [nu, hu, if_false]
       rw [this, Zq hu, Zf]
       exact ⟨_, bad⟩
    ·rw [Rth h k6]
     have hsm : smp (t :: l) = (va (t :: l)).bind fun p => (nd kE p.2).bind fun r => (en r).map fun q => ([⟨1, p.1, 0, q.1, [], []⟩], q.2) := by
      simp only [smp]
      rw [if_neg k5, if_neg k6, if_neg k3, if_neg k4]
     rw [hsm]
     by_cases hv : 0 ≤ varV t
     ·rw [Rrr hv]
      simp only [Option.bind_some]
      cases hn : nd kE l with
      | none => exact ⟨_, Vt_no hL h hn⟩
      | some r =>
       have := Ree hn
       subst this
       rw [Vt_set hL h hv]
       simp only [Option.bind_some]
       cases en r with
       | none => exact ⟨_, rfl⟩
       | some q => exact ⟨_, rfl, rfl⟩
     ·have : va (t :: l) = none := by simp only [va, hv, if_false]
      rw [this]
      exact ⟨_, Rqi h hv⟩
theorem Rmt {L l : List Tok} (hL : L.length ≤ 20000) (h : Suf L l) : SA L (Rac L (plc L l) 1) (ex1 l) := Rabm (Rwu l) L hL h (Nat.le_refl 1) (by omega)
theorem Ryf (L : List Tok) (m : Bool) (a : List Stm) : Rbl L (-1) m a = some (L, -1, (m, a)) := by
 apply Rct
 rfl
theorem Rut {L l : List Tok} {s : Stm} {p : Int} (hL : L.length ≤ 20000) (h : Suf L (kIf :: l)) (hb : Rao L (plc L l) 2 = some (s, p)) : Reg L (plc L (kIf :: l)) = some (s, p) := by
 apply Rwm
 unfold Ot
 rw [show Ra L (plc L (kIf :: l) : Int) [105, 102] = some true from Rin h, Qb, Zt, at1 hL h, hb, Qb]
 simp only [Rdo]
theorem Rqz {L l : List Tok} {s : Stm} {p : Int} (hL : L.length ≤ 20000) (h : Suf L (Rcp :: l)) (hb : Rao L (plc L l) 3 = some (s, p)) : Reg L (plc L (Rcp :: l)) = some (s, p) := by
 apply Rwm
 unfold Ot
 rw [show Ra L (plc L (Rcp :: l) : Int) [105, 102] = some false from Rvh h (by decide), Qb, Zf, show Ra L (plc L (Rcp :: l) : Int) [119, 104, 105, 108, 101] = some true from Rin h, Qb, Zt, at1 hL h, hb, Qb]
 simp only [Rdo]
theorem Rxh {L l : List Tok} {k : Int} (hL : L.length ≤ 20000) (h : Suf L l) (hx : ex1 l = none) : Rao L (plc L l) k = some (z0, -1) := by
 have h1 := Rmt hL h
 rw [hx] at h1
 obtain ⟨x, h1⟩ := h1
 apply Rdj
 rw [h1, Qb]
 rfl
theorem Rabc {L l r : List Tok} {k : Int} {e : Exp} {b : List Stm} (hL : L.length ≤ 20000) (h : Suf L l) (hx : ex1 l = some (e, r)) (hb : Rbk L (plc L r) = some (b, -1)) : ∃ s, Rao L (plc L l) k = some (s, -1) := by
 have h1 := Rmt hL h
 rw [hx] at h1
 have h1 : _ = _ := h1
 refine ⟨⟨k, 0, 0, e, b, []⟩, ?_⟩
 apply Rdj
 have hn : ¬ ((plc L r : Int) < 0) := by omega
 rw [h1, Qb]
 dsimp only
 rw [Zq hn, Zf, hb, Qb]
 dsimp only
 rw [Rwe, Qb]
 simp only [Rs]
 cases decide (k = 2) <;> rfl
theorem Raae {L l r r2 : List Tok} {e : Exp} {b : List Stm} (hL : L.length ≤ 20000) (h : Suf L l) (hx : ex1 l = some (e, r)) (hb : Rbk L (plc L r) = some (b, (plc L r2 : Int))) : Rao L (plc L l) 3 = some (⟨3, 0, 0, e, b, []⟩, (plc L r2 : Int)) := by
 have h1 := Rmt hL h
 rw [hx] at h1
 have h1 : _ = _ := h1
 apply Rdj
 have hn : ¬ ((plc L r : Int) < 0) := by omega
 rw [h1, Qb]
 dsimp only
 rw [Zq hn, Zf, hb, Qb, show decide ((3 : Int) = 2) = false from by decide, Zf]
 simp only [Rs]
theorem br_if1 {L l r r2 : List Tok} {e : Exp} {b : List Stm} (hL : L.length ≤ 20000) (h : Suf L l) (hx : ex1 l = some (e, r)) (hs : Suf L r2) (hb : Rbk L (plc L r) = some (b, (plc L r2 : Int))) (hn2 : nd Rfv r2 = none) : Rao L (plc L l) 2 = some (⟨2, 0, 0, e, b, []⟩, (plc L r2 : Int)) := by
 have h1 := Rmt hL h
 rw [hx] at h1
 have h1 : _ = _ := h1
 apply Rdj
 have hn : ¬ ((plc L r : Int) < 0) := by omega
 rw [h1, Qb]
 dsimp only
 rw [Zq hn, Zf, hb, Qb, show decide ((2 : Int) = 2) = true from by decide, Zt]
 dsimp only
 rw [Rqs hs, show nd [101, 108, 115, 101] r2 = none from hn2, Qb]
 simp only [Option.isSome_none, Zf, Rs]
theorem Rabd {L l r r2 : List Tok} {e : Exp} {b c : List Stm} {p : Int} (hL : L.length ≤ 20000) (h : Suf L l) (hx : ex1 l = some (e, r)) (hs : Suf L (Rfv :: r2)) (hb : Rbk L (plc L r) = some (b, (plc L (Rfv :: r2) : Int))) (hc : Rbk L (plc L r2) = some (c, p)) : Rao L (plc L l) 2 = some (⟨2, 0, 0, e, b, c⟩, p) := by
 have h1 := Rmt hL h
 rw [hx] at h1
 have h1 : _ = _ := h1
 apply Rdj
 have hn : ¬ ((plc L r : Int) < 0) := by omega
 rw [h1, Qb]
 dsimp only
 rw [Zq hn, Zf, hb, Qb, show decide ((2 : Int) = 2) = true from by decide, Zt]
 dsimp only
 rw [Rqs hs, show nd [101, 108, 115, 101] (Rfv :: r2) = some r2 from Raw _ _, Qb]
 simp only [Option.isSome_some, Zt]
 rw [at1 hL hs, hc, Qb]
 simp only [Rs]
theorem Rabl : ∀ {j : K} {l : List Tok} {o : GO}, G j l o → ∀ L : List Tok, L.length ≤ 20000 → Suf L l → match j with
  | .st => SS L (Reg L (plc L l)) o
  | .bk => SB L (Rbk L (plc L l)) o
  | .lp a => a.length ≤ plc L l → ∀ m, SLp L (Rbl L (plc L l) m a) o := by
 intro j l o h
 induction h with
 | @bk0 l h =>
  intro L hL hs
  refine ⟨[], ?_⟩
  apply Rkl
  rw [Rqs hs, show nd [123] l = none from h, Qb]
  rfl
 | @bk l o h ih =>
  intro L hL hs
  have h1 := ih L hL hs.tail.1 (Nat.zero_le _) true
  have st : ∀ v, (bnd (Rbl L (plc L l) true []) fun r2 => bnd (Ra r2.1 r2.2.1 [125]) fun r3 => bif (!r3) then some (([] : List Stm), (-1)) else some (r2.2.2.2, (wrap64 (r2.2.1 + 1)))) = some v → Rbk L (plc L (kL :: l)) = some v := by
   intro v hv
   apply Rkl
   rw [show Ra L (plc L (kL :: l) : Int) [123] = some true from Rin hs, Qb]
   simp only [Zv, Zf]
   rw [at1 hL hs]
   exact hv
  cases o with
  | none =>
   obtain ⟨p, x, h1, h2⟩ := h1
   exact ⟨[], st _ (by rw [h1, Qb, h2, Qb]; rfl)⟩
  | some q =>
   obtain ⟨b, r⟩ := q
   obtain ⟨m, h1, h2⟩ := h1
   refine st _ ?_
   rw [h1, Qb]
   dsimp only
   rw [show Ra L (plc L (kR :: r) : Int) [125] = some true from Rin h2, Qb]
   simp only [Zv, Zf]
   rw [at1 hL h2]
 | @lpE a =>
  intro L hL hs ha m
  refine ⟨(plc L [] : Int), (m, a), ?_, ?_⟩
  ·apply Rct
   have h1 : ¬ ((plc L [] : Int) < (L.length : Int)) := by rw [Rfe]; omega
   rw [Zp (show (0 : Int) ≤ (plc L [] : Int) by omega), Zt, Zq h1, Zf]
  ·rw [Rqs hs]; rfl
 | @lpS a l =>
  intro L hL hs ha m
  obtain ⟨hs2, hp, hlt, hg⟩ := hs.tail
  refine ⟨m, ?_, hs⟩
  apply Rct
  have h1 : ((plc L (kR :: l) : Int) < (L.length : Int)) := by omega
  rw [Zp (show (0 : Int) ≤ (plc L (kR :: l) : Int) by omega), Zt, Zp h1, Zt, hg, Qb]
  rfl
 | @lpN a t l ht h ih =>
  intro L hL hs ha m
  obtain ⟨hs2, hp, hlt, hg⟩ := hs.tail
  obtain ⟨x, e1⟩ := ih L hL hs
  refine ⟨-1, (true, a ++ [x]), ?_, Rwe _ _⟩
  apply Rct
  have h1 : ((plc L (t :: l) : Int) < (L.length : Int)) := by omega
  have hb : (t == ([125] : Tok)) = false := by rw [beq_eq_false_iff_ne]; exact ht
  rw [Zp (show (0 : Int) ≤ (plc L (t :: l) : Int) by omega), Zt, Zp h1, Zt, hg, Qb, hb]
  simp only [Zx, Zt]
  rw [e1, Qb]
  simp only [Rdo]
  rw [Rba (by omega), Qb, Ryf]
 | @lpC a t l r s o ht h1 h2 ih1 ih2 =>
  intro L hL hs ha m
  obtain ⟨hs2, hp, hlt, hg⟩ := hs.tail
  obtain ⟨s', hb, e1⟩ := ih1 L hL hs
  injection hb with hb
  subst hb
  have hsf := Rlz h1 _ _ rfl
  have hs3 := hs.trans hsf.1
  have hpl : plc L (t :: l) + 1 ≤ plc L r := by
   have h3 := hsf.2
   obtain ⟨p, hp2⟩ := hs
   have : L.length = p.length + (t :: l).length := by rw [hp2, Za]
   unfold plc; omega
  have e2 := ih2 L hL hs3 (by rw [Za]; simp only [Zc, Zn]; omega) true
  have h1 : ((plc L (t :: l) : Int) < (L.length : Int)) := by omega
  have hb : (t == ([125] : Tok)) = false := by rw [beq_eq_false_iff_ne]; exact ht
  have st : ∀ v, Rbl L (plc L r) true (a ++ [s]) = some v → Rbl L (plc L (t :: l)) m a = some v := by
   intro v hv
   apply Rct
   rw [Zp (show (0 : Int) ≤ (plc L (t :: l) : Int) by omega), Zt, Zp h1, Zt, hg, Qb, hb]
   simp only [Zx, Zt]
   rw [e1, Qb]
   simp only [Rdo]
   rw [Rba (by omega), Qb]
   exact hv
  cases o with
  | none => obtain ⟨p, x, e2, e3⟩ := e2; exact ⟨p, x, st _ e2, e3⟩
  | some q => obtain ⟨b, r'⟩ := q; obtain ⟨m', e2, e3⟩ := e2; exact ⟨m', st _ e2, e3⟩
 | @smp t l o h1 h2 h =>
  intro L hL hs
  rw [← h]
  exact one_smp hL hs h1 h2
 | @ifN l h =>
  intro L hL hs
  exact ⟨_, Rut hL hs (Rxh hL hs.tail.1 h)⟩
 | @ifB l r e h hb ih =>
  intro L hL hs
  obtain ⟨x, e2⟩ := ih L hL (Rim hs.tail.1 h)
  obtain ⟨s, e3⟩ := Rabc (k := 2) hL hs.tail.1 h e2
  exact ⟨s, Rut hL hs e3⟩
 | @if1 l r r2 e b h hb hn ih =>
  intro L hL hs
  have hs3 := Rim hs.tail.1 h
  have e2 := ih L hL hs3
  exact ⟨_, rfl, Rut hL hs (br_if1 hL hs.tail.1 h (hs3.trans (Rlz hb _ _ rfl).1) e2 hn)⟩
 | @if2 l r r2 r3 e b c h hb hc ih ih2 =>
  intro L hL hs
  have hs3 := Rim hs.tail.1 h
  have e2 := ih L hL hs3
  have hs4 := hs3.trans (Rlz hb _ _ rfl).1
  have e3 := ih2 L hL hs4.tail.1
  exact ⟨_, rfl, Rut hL hs (Rabd hL hs.tail.1 h hs4 e2 e3)⟩
 | @if3 l r r2 e b h hb hc ih ih2 =>
  intro L hL hs
  have hs3 := Rim hs.tail.1 h
  have e2 := ih L hL hs3
  have hs4 := hs3.trans (Rlz hb _ _ rfl).1
  obtain ⟨x, e3⟩ := ih2 L hL hs4.tail.1
  exact ⟨_, Rut hL hs (Rabd hL hs.tail.1 h hs4 e2 e3)⟩
 | @whN l h =>
  intro L hL hs
  exact ⟨_, Rqz hL hs (Rxh hL hs.tail.1 h)⟩
 | @whB l r e h hb ih =>
  intro L hL hs
  obtain ⟨x, e2⟩ := ih L hL (Rim hs.tail.1 h)
  obtain ⟨s, e3⟩ := Rabc (k := 3) hL hs.tail.1 h e2
  exact ⟨s, Rqz hL hs e3⟩
 | @wh l r r2 e b h hb ih =>
  intro L hL hs
  exact ⟨_, rfl, Rqz hL hs (Raae hL hs.tail.1 h (ih L hL (Rim hs.tail.1 h)))⟩
theorem Rwa (o n : Int) (as : List Exp) : emX ⟨o, n, as⟩ = emXs as := by rw [Rme]
theorem Raab {t : Tok} {e : Exp} (h : atom t = some e) : emX e = 0 := by
 by_cases h0 : 0 ≤ numV t
 ·rw [Rqc h h0]; rfl
 ·rw [(Rma h h0).2]; rfl
theorem P_sz : ∀ {j : J} {l : List Tok} {o : Out}, P j l o → ∀ e r, o = some (e, r) → match j with
  | .loop _ e0 => emX e + 2 * r.length ≤ emX e0 + 2 * l.length
  | _ => emX e + 2 * r.length + 2 ≤ 2 * l.length := by
 intro j l o h
 induction h with
 | nil => intro e r ho; cases ho
 | atom h1 h2 => intro e r ho; injection ho with ho; injection ho with a b; subst a b; have := Raab h2; simp only [Zc]; omega
 | bad _ _ => intro e r ho; cases ho
 | par h ih => intro e r ho; injection ho with ho; injection ho with a b; subst a b; have := ih _ _ rfl; simp only [Zc] at *; omega
 | parN _ _ => intro e r ho; cases ho
 | parE _ _ => intro e r ho; cases ho
 | parB _ _ _ => intro e r ho; cases ho
 | top hk h ih => intro e r ho; exact ih e r ho
 | levN hk h ih => intro e r ho; cases ho
 | levS hk h1 h2 ih1 ih2 =>
  intro e r ho
  have a := ih1 _ _ rfl
  have b := ih2 e r ho
  simp only at *; omega
 | stop hn => intro e r ho; injection ho with ho; injection ho with a b; subst a b; exact Nat.le_refl _
 | step hl h1 h2 ih1 ih2 =>
  intro e r ho
  have a := ih1 _ _ rfl
  have b := ih2 e r ho
  simp only [Rwa, Rto, Zc] at *; omega
 | stepN hl h ih => intro e r ho; cases ho
theorem Rwv {l r : List Tok} {e : Exp} (h : ex1 l = some (e, r)) : emX e + 2 * r.length + 2 ≤ 2 * l.length := P_sz (h ▸ Rwu l) e r rfl
theorem Rio (k v b : Int) (e : Exp) (bd el : List Stm) : mSs [⟨k, v, b, e, bd, el⟩] = 1 + emX e + mSs bd + mSs el := by
 cases e
 rw [mSs_one, Rof, Rwa]
 omega
theorem smp_sz {t : Tok} {l r : List Tok} {b : List Stm} (h : smp (t :: l) = some (b, r)) : mSs b + 2 * r.length ≤ 2 * (t :: l).length := by
 obtain ⟨s, rfl, hh⟩ := Rtw h
 clear h
 have z : mSs [] = 0 := rfl
 rcases hh with ⟨u, e, rfl, hu, ⟨r1, rfl, h⟩, rfl⟩ | ⟨u, w, rfl, hu, hw, rfl, rfl⟩ | ⟨rfl, rfl, rfl⟩ | ⟨e, rfl, h, rfl⟩ | ⟨e, _, _, _, _, hv, ⟨r1, rfl, h⟩, rfl⟩
 ·have := Rwv h; rw [Rio, z]; simp only [Zc] at *; omega
 ·rw [Rio, z, Rwa]; simp only [Zc, emXs]; omega
 ·rw [Rio, z, Rwa]; simp only [Zc, emXs]; omega
 ·have := Rwv h; rw [Rio, z]; simp only [Zc] at *; omega
 ·have := Rwv h; rw [Rio, z]; simp only [Zc] at *; omega
theorem G_sz : ∀ {j : K} {l : List Tok} {o : GO}, G j l o → ∀ b r, o = some (b, r) → match j with
  | .lp a => mSs b + 2 * r.length ≤ mSs a + 2 * l.length
  | _ => mSs b + 2 * r.length ≤ 2 * l.length := by
 intro j l o h
 have z : mSs [] = 0 := rfl
 induction h with
 | bk0 _ => intro b r ho; cases ho
 | bk h ih => intro b r ho; have := ih b r ho; simp only [Zc, z] at *; omega
 | lpE => intro b r ho; cases ho
 | lpS => intro b r ho; injection ho with ho; injection ho with a c; subst a c; simp only [Zc]; omega
 | lpN _ _ _ => intro b r ho; cases ho
 | lpC h1 h2 h3 ih1 ih2 =>
  intro b r ho
  have a := ih1 _ _ rfl
  have b := ih2 b r ho
  simp only [Rjg] at *; omega
 | smp h1 h2 h => intro b r ho; rw [ho] at h; exact smp_sz h
 | ifN _ => intro b r ho; cases ho
 | ifB _ _ _ => intro b r ho; cases ho
 | if1 h1 h2 h3 ih =>
  intro b r ho
  injection ho with ho; injection ho with a c; subst a c
  have := ih _ _ rfl
  have := Rwv h1
  rw [Rio]; simp only [Zc, z] at *; omega
 | if2 h1 _ _ ih ih2 =>
  intro b r ho
  injection ho with ho; injection ho with a c; subst a c
  have := ih _ _ rfl
  have := ih2 _ _ rfl
  have := Rwv h1
  rw [Rio]; simp only [Zc] at *; omega
 | if3 _ _ _ _ _ => intro b r ho; cases ho
 | whN _ => intro b r ho; cases ho
 | whB _ _ _ => intro b r ho; cases ho
 | wh h1 _ ih =>
  intro b r ho
  injection ho with ho; injection ho with a c; subst a c
  have := ih _ _ rfl
  have := Rwv h1
  rw [Rio]; simp only [Zc, z] at *; omega
inductive BR : List Int → List Tok → Option (List Int × List Tok) → Prop
 | stop {a : List Int} {l : List Tok} : nd kBox l = none → BR a l (some (a, l))
 | go {a : List Int} {l r : List Tok} {n : Int} {o : Option (List Int × List Tok)} : nu l = some (n, kS :: r) → BR (a ++ [n]) r o → BR a (kBox :: l) o
 | bad {a : List Int} {l : List Tok} : (nu l).bind (fun p => nd kS p.2) = none → BR a (kBox :: l) none
inductive TR : List (List Stm) → List Tok → Option (List (List Stm) × List Tok) → Prop
 | stop {a : List (List Stm)} {l : List Tok} : nd Rjd l = none → TR a l (some (a, l))
 | go {a : List (List Stm)} {l r : List Tok} {b : List Stm} {o : Option (List (List Stm) × List Tok)} : G .bk l (some (b, r)) → TR (a ++ [b]) r o → TR a (Rjd :: l) o
 | bad {a : List (List Stm)} {l : List Tok} : G .bk l none → TR a (Rjd :: l) none
theorem Rtf : ∀ (n : Nat) (l : List Tok) (a : List Int), l.length < n → ∃ o, BR a l o
 | 0, _, _, h => by omega
 | n + 1, l, a, h => by
  cases h1 : nd kBox l with
  | none => exact ⟨_, .stop h1⟩
  | some l1 =>
   have := Ree h1
   subst this
   cases h2 : (nu l1).bind (fun p => nd kS p.2) with
   | none => exact ⟨_, .bad h2⟩
   | some r =>
    rw [Option.bind_eq_some_iff] at h2
    obtain ⟨⟨k, l2⟩, h3, h4⟩ := h2
    have := Ree h4
    simp only at this
    subst this
    obtain ⟨u, hu, _⟩ := Rls h3
    subst hu
    simp only [Zc] at h
    obtain ⟨o, ho⟩ := Rtf n r (a ++ [k]) (by omega)
    exact ⟨o, .go h3 ho⟩
theorem Rti : ∀ (n : Nat) (l : List Tok) (a : List (List Stm)), l.length < n → ∃ o, TR a l o
 | 0, _, _, h => by omega
 | n + 1, l, a, h => by
  cases h1 : nd Rjd l with
  | none => exact ⟨_, .stop h1⟩
  | some l1 =>
   have := Ree h1
   subst this
   simp only [Zc] at h
   obtain ⟨o, ho⟩ := (Rnt (l1.length + 1) l1 (Nat.lt_succ_self _)).2.1
   cases o with
   | none => exact ⟨_, .bad ho⟩
   | some q =>
    obtain ⟨b, r⟩ := q
    have := (Rlz ho b r rfl).2
    obtain ⟨o2, ho2⟩ := Rti n r (a ++ [b]) (by omega)
    exact ⟨o2, .go ho ho2⟩
theorem Rxa : ∀ {a : List Int} {l : List Tok} {o}, BR a l o → ∀ b r, o = some (b, r) → (∃ p, l = p ++ r) ∧ a.length + l.length ≥ b.length + r.length := by
 intro a l o h
 induction h with
 | stop h => intro b r ho; injection ho with ho; injection ho with a c; subst a c; exact ⟨⟨[], rfl⟩, Nat.le_refl _⟩
 | @go a l r n o h1 h2 ih =>
  intro b r ho
  obtain ⟨⟨p, hp⟩, hl⟩ := ih b r ho
  obtain ⟨u, hu, _⟩ := Rls h1
  subst hu hp
  refine ⟨⟨kBox :: u :: kS :: p, rfl⟩, ?_⟩
  simp only [Za, Zc, Zn] at *; omega
 | bad h => intro b r ho; cases ho
theorem Rxd : ∀ {a : List (List Stm)} {l : List Tok} {o}, TR a l o → ∀ b r, o = some (b, r) → (∃ p, l = p ++ r) ∧ b.length + r.length ≤ a.length + l.length ∧ (∀ n, 2 * l.length ≤ n → (∀ x ∈ a, mSs x ≤ n) → ∀ x ∈ b, mSs x ≤ n) := by
 intro a l o h
 induction h with
 | stop h => intro b r ho; injection ho with ho; injection ho with a c; subst a c; exact ⟨⟨[], rfl⟩, Nat.le_refl _, fun n _ h => h⟩
 | @go a l r' b o h1 h2 ih =>
  intro b2 r ho
  obtain ⟨⟨p, hp⟩, hl, hm⟩ := ih b2 r ho
  obtain ⟨⟨q, hq⟩, hl2⟩ := Rlz h1 _ _ rfl
  have hz := G_sz h1 _ _ rfl
  refine ⟨⟨Rjd :: q ++ p, by rw [hq, hp]; simp⟩, ?_, ?_⟩
  ·simp only [Za, Zc, Zn] at *; omega
  ·intro n hn ha
   simp only [Zc] at hn hz
   refine hm n (by omega) (fun x hx => ?_)
   rcases List.mem_append.1 hx with hx | hx
   ·exact ha x hx
   ·rw [List.mem_singleton.1 hx]; omega
 | bad h => intro b r ho; cases ho
theorem Rsm {L : List Tok} {t4 : List Tok} {c0 : Bool} {c1 : Bool} {c3 : Bool} {y0 : List Int} {y1 : List (List Stm)} {y3 : List (List Stm)} (p : Int) (m : Bool) (a : List Int) : Ri t4 c0 y0 c1 y1 L p true m a c3 y3 = some (t4, (c0, y0), (c1, y1), L, p, true, (m, a), (c3, y3)) := by
 apply Rbb
 rw [Rhp (by simp), Qb]; rfl
theorem Rtr {L : List Tok} {t4 : List Tok} {c0 : Bool} {c1 : Bool} {c3 : Bool} {y0 : List Int} {y1 : List (List Stm)} {y3 : List (List Stm)} : ∀ {a : List Int} {l : List Tok} {o}, BR a l o → L.length ≤ 20000 → (∀ t ∈ L, gt t) → Suf L l → a.length + l.length ≤ 20000 → ∀ m, match o with
  | some (rs, r) => ∃ m', Ri t4 c0 y0 c1 y1 L (plc L l) false m a c3 y3 = some (t4, (c0, y0), (c1, y1), L, (plc L r : Int), false, (m', rs), (c3, y3))
  | none => ∃ p x, Ri t4 c0 y0 c1 y1 L (plc L l) false m a c3 y3 = some (t4, (c0, y0), (c1, y1), L, p, true, x, (c3, y3)) := by
 intro a l o h
 induction h with
 | @stop a l h =>
  intro hL hg hs ha m
  refine ⟨m, ?_⟩
  apply Rbb
  rw [Rn (by simp) hL hs, show nd [98, 111, 120] l = none from h, Qb]; rfl
 | @go a l r n o h1 h2 ih =>
  intro hL hg hs ha m
  have hn := Rkv hL hg hs.tail.1
  rw [h1] at hn
  have hn : _ = _ := hn
  have hs3 := Rwi hs.tail.1 h1
  obtain ⟨u, hu, _⟩ := Rls h1
  have e2 := ih hL hg hs3.tail.1 (by subst hu; simp only [Za, Zc, Zn] at *; omega) true
  have st : ∀ v, Ri t4 c0 y0 c1 y1 L (plc L r) false true (a ++ [n]) c3 y3 = some v → Ri t4 c0 y0 c1 y1 L (plc L (kBox :: l)) false m a c3 y3 = some v := by
   intro v hv
   apply Rbb
   rw [Rn (k := [98, 111, 120]) (by simp) hL hs, show nd [98, 111, 120] (kBox :: l) = some l from Raw _ _, Qb]
   simp only [Zt]
   rw [hn, Qb]
   dsimp only
   rw [Rba (by omega), Qb, Rkj (by simp) hL hs3, show nd [59] (kS :: r) = some r from Raw _ _, Qb]
   exact hv
  cases o with
  | none => obtain ⟨p, x, e2⟩ := e2; exact ⟨p, x, st _ e2⟩
  | some q => obtain ⟨b, r'⟩ := q; obtain ⟨m', e2⟩ := e2; exact ⟨m', st _ e2⟩
 | @bad a l h =>
  intro hL hg hs ha m
  have hs2 := hs.tail.1
  have hn := Rkv hL hg hs2
  cases h1 : nu l with
  | none =>
   rw [h1] at hn
   obtain ⟨q, hn⟩ := hn
   refine ⟨q, (true, a ++ [0]), ?_⟩
   apply Rbb
   rw [Rn (k := [98, 111, 120]) (by simp) hL hs, show nd [98, 111, 120] (kBox :: l) = some l from Raw _ _, Qb]
   simp only [Zt]
   rw [hn, Qb]
   dsimp only
   rw [Rba (by omega), Qb, Rfd (by simp), Qb, Rsm]
  | some p =>
   obtain ⟨n, r⟩ := p
   rw [h1] at hn h
   have hn : _ = _ := hn
   simp only [Option.bind_some] at h
   have hs3 := Rwi hs2 h1
   refine ⟨(plc L r : Int), (true, a ++ [n]), ?_⟩
   apply Rbb
   rw [Rn (k := [98, 111, 120]) (by simp) hL hs, show nd [98, 111, 120] (kBox :: l) = some l from Raw _ _, Qb]
   simp only [Zt]
   rw [hn, Qb]
   dsimp only
   rw [Rba (by omega), Qb, Rkj (by simp) hL hs3, show nd [59] r = none from h, Qb, Rsm]
theorem Ror {L : List Tok} {t4 : List Tok} {c0 : Bool} {c1 : Bool} {y0 : List Int} {y1 : List (List Stm)} {m0 : Bool} {b0 : List Int} (p : Int) (m : Bool) (a : List (List Stm)) : Rk t4 c0 y0 c1 y1 L p true m0 b0 m a = some (t4, (c0, y0), (c1, y1), L, p, true, (m0, b0), (m, a)) := by
 apply Rcf
 rw [Rhp (by simp), Qb]; rfl
theorem Rxq {L : List Tok} {t4 : List Tok} {c0 : Bool} {c1 : Bool} {y0 : List Int} {y1 : List (List Stm)} {m0 : Bool} {b0 : List Int} : ∀ {a : List (List Stm)} {l : List Tok} {o}, TR a l o → L.length ≤ 20000 → (∀ t ∈ L, gt t) → Suf L l → a.length + l.length ≤ 20000 → ∀ m, match o with
  | some (ts, r) => ∃ m', Rk t4 c0 y0 c1 y1 L (plc L l) false m0 b0 m a = some (t4, (c0, y0), (c1, y1), L, (plc L r : Int), false, (m0, b0), (m', ts))
  | none => ∃ p x, Rk t4 c0 y0 c1 y1 L (plc L l) false m0 b0 m a = some (t4, (c0, y0), (c1, y1), L, p, true, (m0, b0), x) := by
 intro a l o h
 induction h with
 | @stop a l h =>
  intro hL hg hs ha m
  refine ⟨m, ?_⟩
  apply Rcf
  rw [Rn (by simp) hL hs, show nd [116, 97, 115, 107] l = none from h, Qb]; rfl
 | @go a l r b o h1 h2 ih =>
  intro hL hg hs ha m
  have e1 := Rabf h1 L hL hg hs.tail.1
  have e1 : _ = _ := e1
  have hsf := Rlz h1 _ _ rfl
  have hs3 := hs.tail.1.trans hsf.1
  have e2 := ih hL hg hs3 (by have := hsf.2; simp only [Za, Zc, Zn] at *; omega) true
  have st : ∀ v, Rk t4 c0 y0 c1 y1 L (plc L r) false m0 b0 true (a ++ [b]) = some v → Rk t4 c0 y0 c1 y1 L (plc L (Rjd :: l)) false m0 b0 m a = some v := by
   intro v hv
   apply Rcf
   rw [Rn (k := [116, 97, 115, 107]) (by simp) hL hs, show nd [116, 97, 115, 107] (Rjd :: l) = some l from Raw _ _, Qb]
   simp only [Zt]
   rw [e1, Qb]
   dsimp only
   rw [Rba (by omega), Qb]
   exact hv
  cases o with
  | none => obtain ⟨p, x, e2⟩ := e2; exact ⟨p, x, st _ e2⟩
  | some q => obtain ⟨b, r'⟩ := q; obtain ⟨m', e2⟩ := e2; exact ⟨m', st _ e2⟩
 | @bad a l h =>
  intro hL hg hs ha m
  obtain ⟨x, p, e1⟩ := Rabf h L hL hg hs.tail.1
  refine ⟨p, (true, a ++ [x]), ?_⟩
  apply Rcf
  rw [Rn (k := [116, 97, 115, 107]) (by simp) hL hs, show nd [116, 97, 115, 107] (Rjd :: l) = some l from Raw _ _, Qb]
  simp only [Zt]
  rw [e1, Qb]
  dsimp only
  rw [Rba (by omega), Qb, Ror]
theorem Rzl {L : List Tok} {c0 : Bool} {c1 : Bool} {c2 : Bool} {c3 : Bool} {c5 : Bool} {y0 : List Int} {y2 : List Int} {y1 : List (List Stm)} {y3 : List (List Stm)} {y5 : List (List Stm)} : ∀ {a : List Int} {l : List Tok} {o}, BR a l o → L.length ≤ 20000 → Suf L l → a.length + l.length ≤ 20000 → ∀ m, match o with
  | some (rs, r) => ∃ m', Ry L (plc L l) c0 y0 c1 y1 c2 y2 c3 y3 m a c5 y5 = some (L, (plc L r : Int), (c0, y0), (c1, y1), (c2, y2), (c3, y3), (m', rs), (c5, y5))
  | none => ∃ r x, Suf L (kBox :: r) ∧ Ry L (plc L l) c0 y0 c1 y1 c2 y2 c3 y3 m a c5 y5 = some (L, (plc L (kBox :: r) : Int), (c0, y0), (c1, y1), (c2, y2), (c3, y3), x, (c5, y5)) := by
 intro a l o h
 induction h with
 | @stop a l h =>
  intro hL hs ha m
  refine ⟨m, ?_⟩
  apply Rdz
  rw [Rqs hs, show nd [98, 111, 120] l = none from h, Qb]; rfl
 | @go a l r n o h1 h2 ih =>
  intro hL hs ha m
  obtain ⟨u, hu, h0, hn⟩ := Rls h1
  subst hu
  have hs2 := hs.tail.1
  have hs3 := hs2.tail.1
  have e2 := ih hL hs3.tail.1 (by simp only [Za, Zc, Zn] at *; omega) true
  have st : ∀ v, Ry L (plc L r) c0 y0 c1 y1 c2 y2 c3 y3 true (a ++ [n]) c5 y5 = some v → Ry L (plc L (kBox :: u :: kS :: r)) c0 y0 c1 y1 c2 y2 c3 y3 m a c5 y5 = some v := by
   intro v hv
   apply Rdz
   rw [show Ra L (plc L (kBox :: u :: kS :: r) : Int) [98, 111, 120] = some true from Rin hs, Qb, Zt, at1 hL hs, Rku hs2, Qb, Zp h0, Zt, at2 hL hs,
    show Ra L (plc L (kS :: r) : Int) [59] = some true from Rin hs3, Qb, Zt, Qb, Rba (by omega), Qb, at3 hL hs, ← hn]
   exact hv
  cases o with
  | none => obtain ⟨r2, x, q, e2⟩ := e2; exact ⟨r2, x, q, st _ e2⟩
  | some q => obtain ⟨b, r'⟩ := q; obtain ⟨m', e2⟩ := e2; exact ⟨m', st _ e2⟩
 | @bad a l h =>
  intro hL hs ha m
  refine ⟨l, (m, a), hs, ?_⟩
  apply Rdz
  rw [show Ra L (plc L (kBox :: l) : Int) [98, 111, 120] = some true from Rin hs, Qb, Zt, at1 hL hs]
  have hs2 := hs.tail.1
  cases l with
  | nil => rw [Rqy, Qb]; rfl
  | cons u l =>
   rw [Rku hs2, Qb]
   by_cases h0 : 0 ≤ numV u
   ·rw [Roh h0] at h
    simp only [Option.bind_some] at h
    rw [Zp h0, Zt, at2 hL hs, Rqs hs2.tail.1, show nd [59] l = none from h, Qb]; rfl
   ·rw [Zq h0, Zf]
theorem Rzr {L : List Tok} {c0 : Bool} {c1 : Bool} {c2 : Bool} {c3 : Bool} {y0 : List Int} {y2 : List Int} {y1 : List (List Stm)} {y3 : List (List Stm)} {m0 : Bool} {b0 : List Int} (m : Bool) (a : List (List Stm)) : Rz L (-1) c0 y0 c1 y1 c2 y2 c3 y3 m0 b0 m a = some (L, -1, (c0, y0), (c1, y1), (c2, y2), (c3, y3), (m0, b0), (m, a)) := by
 apply Rcg
 rw [Rwe, Qb]; rfl
theorem Rzm {L : List Tok} {c0 : Bool} {c1 : Bool} {c2 : Bool} {c3 : Bool} {y0 : List Int} {y2 : List Int} {y1 : List (List Stm)} {y3 : List (List Stm)} {m0 : Bool} {b0 : List Int} : ∀ {a : List (List Stm)} {l : List Tok} {o}, TR a l o → L.length ≤ 20000 → Suf L l → a.length + l.length ≤ 20000 → ∀ m, match o with
  | some (ts, r) => ∃ m', Rz L (plc L l) c0 y0 c1 y1 c2 y2 c3 y3 m0 b0 m a = some (L, (plc L r : Int), (c0, y0), (c1, y1), (c2, y2), (c3, y3), (m0, b0), (m', ts))
  | none => ∃ x, Rz L (plc L l) c0 y0 c1 y1 c2 y2 c3 y3 m0 b0 m a = some (L, -1, (c0, y0), (c1, y1), (c2, y2), (c3, y3), (m0, b0), x) := by
 intro a l o h
 induction h with
 | @stop a l h =>
  intro hL hs ha m
  refine ⟨m, ?_⟩
  apply Rcg
  rw [Rqs hs, show nd [116, 97, 115, 107] l = none from h, Qb]; rfl
 | @go a l r b o h1 h2 ih =>
  intro hL hs ha m
  have e1 := Rabl h1 L hL hs.tail.1
  have e1 : _ = _ := e1
  have hsf := Rlz h1 _ _ rfl
  have e2 := ih hL (hs.tail.1.trans hsf.1) (by have := hsf.2; simp only [Za, Zc, Zn] at *; omega) true
  have st : ∀ v, Rz L (plc L r) c0 y0 c1 y1 c2 y2 c3 y3 m0 b0 true (a ++ [b]) = some v → Rz L (plc L (Rjd :: l)) c0 y0 c1 y1 c2 y2 c3 y3 m0 b0 m a = some v := by
   intro v hv
   apply Rcg
   rw [show Ra L (plc L (Rjd :: l) : Int) [116, 97, 115, 107] = some true from Rin hs, Qb, Zt, at1 hL hs, e1, Qb]
   dsimp only
   rw [Rba (by omega), Qb]
   exact hv
  cases o with
  | none => obtain ⟨x, e2⟩ := e2; exact ⟨x, st _ e2⟩
  | some q => obtain ⟨b, r'⟩ := q; obtain ⟨m', e2⟩ := e2; exact ⟨m', st _ e2⟩
 | @bad a l h =>
  intro hL hs ha m
  obtain ⟨x, e1⟩ := Rabl h L hL hs.tail.1
  refine ⟨(true, a ++ [x]), ?_⟩
  apply Rcg
  rw [show Ra L (plc L (Rjd :: l) : Int) [116, 97, 115, 107] = some true from Rin hs, Qb, Zt, at1 hL hs, e1, Qb]
  dsimp only
  rw [Rba (by omega), Qb, Rzr]
def PrF (t : List Tok) (p : Prg) : Prop := ∃ l, BR [] t (some (p.rooms, l)) ∧ TR [] l (some (p.tasks, []))
def Prm (s : List UInt8) (p : Prg) : Prop := s.length ≤ 20000 ∧ (∃ t, toks s = some t ∧ PrF t p) ∧ Req p = true
theorem Rxc {t : List Tok} {p : Prg} (h : PrF t p) (n : Nat) (hn : 2 * t.length ≤ n) : p.rooms.length ≤ n ∧ p.tasks.length ≤ n ∧ ∀ x ∈ p.tasks, mSs x ≤ n := by
 obtain ⟨l, h1, h2⟩ := h
 have a := (Rxa h1 _ _ rfl).2
 have b := Rxd h2 _ _ rfl
 simp only [Zn] at a b
 exact ⟨by omega, by omega, b.2.2 n (by omega) (fun x hx => by cases hx)⟩
theorem Rqh : ∀ {a : List Int} {l : List Tok} {o}, BR a l o → ∀ o', BR a l o' → o = o' := by
 intro a l o h
 induction h with
 | stop h => intro o' h'; cases h' with | stop _ => rfl | go _ _ => exact absurd h Rip | bad _ => exact absurd h Rip
 | go h1 h2 ih =>
  intro o' h'
  cases h' with
  | stop h => exact absurd h Rip
  | go h3 h4 => rw [h1] at h3; injection h3 with h3; injection h3 with a b; injection b with _ b; subst a b; exact ih _ h4
  | bad h => rw [h1, Option.bind_some, Raw] at h; cases h
 | bad h =>
  intro o' h'
  cases h' with
  | stop h2 => exact absurd h2 Rip
  | go h1 h2 => rw [h1, Option.bind_some, Raw] at h; cases h
  | bad h => rfl
theorem Rug : ∀ {a : List (List Stm)} {l : List Tok} {o}, TR a l o → ∀ o', TR a l o' → o = o' := by
 intro a l o h
 induction h with
 | stop h => intro o' h'; cases h' with | stop _ => rfl | go _ _ => exact absurd h Rip | bad _ => exact absurd h Rip
 | go h1 h2 ih =>
  intro o' h'
  cases h' with
  | stop h => exact absurd h Rip
  | go h3 h4 => have := G_det h1 _ h3; injection this with this; injection this with a b; subst a b; exact ih _ h4
  | bad h => have := G_det h1 _ h; cases this
 | bad h =>
  intro o' h'
  cases h' with
  | stop h2 => exact absurd h2 Rip
  | go h1 h2 => have := G_det h _ h1; cases this
  | bad h => rfl
theorem Ruz {t : List Tok} {p q : Prg} (h1 : PrF t p) (h2 : PrF t q) : p = q := by
 obtain ⟨l, a, b⟩ := h1
 obtain ⟨l2, c, d⟩ := h2
 have e := Rqh a _ c
 injection e with e; injection e with e1 e2
 subst e2
 have f := Rug b _ d
 injection f with f; injection f with f1 f2
 cases p; cases q
 simp only at e1 f1
 rw [e1, f1]
theorem impl_pf (s : List UInt8) : (∃ p, Prm s p ∧ Rq s = some (p, true)) ∨
  ((∀ p, ¬ Prm s p) ∧ Rq s = some (⟨[], []⟩, false)) := by
 by_cases hl : 20000 < s.length
 ·refine Or.inr ⟨fun p h => by have := h.1; omega, ?_⟩
  ·apply Rbc; rw [Rdw, if_pos hl, Qb]; rfl
 ·cases ht : toks s with
  | none =>
   refine Or.inr ⟨fun p h => ?_, ?_⟩
   ·obtain ⟨_, ⟨t, h1, _⟩, _⟩ := h
    rw [ht] at h1; cases h1
   ·apply Rbc; rw [Rdw, if_neg hl, ht, Qb]; rfl
  | some t =>
   have hlen := Rue ht
   have hL : t.length ≤ 20000 := by omega
   have hg := Rzs ht
   obtain ⟨hs, h0⟩ := Rzp t
   have no : (∀ p, PrF t p → Req p = false) → (∀ p, ¬ Prm s p) := by
    intro h p hp
    obtain ⟨_, ⟨t', h1, h2⟩, h3⟩ := hp
    rw [ht] at h1; injection h1 with h1; subst h1
    rw [h p h2] at h3; cases h3
   have ist : ∀ v, (bnd (Ri t false [] false [] t 0 false false [] false []) fun r2 =>
     bnd (Rk r2.1 r2.2.1.1 r2.2.1.2 r2.2.2.1.1 r2.2.2.1.2 r2.2.2.2.1 r2.2.2.2.2.1 r2.2.2.2.2.2.1 r2.2.2.2.2.2.2.1.1 r2.2.2.2.2.2.2.1.2 r2.2.2.2.2.2.2.2.1 r2.2.2.2.2.2.2.2.2) fun r3 =>
     (bif r3.2.2.2.2.2.1 then some ((⟨[], []⟩ : Prg), false) else
     (bif (!decide (r3.2.2.2.2.1 = (r3.1.length : Int))) then some (⟨[], []⟩, false) else
     bnd (Rv (⟨r3.2.2.2.2.2.2.1.2, r3.2.2.2.2.2.2.2.2⟩ : Prg)) fun r4 =>
     (bif (!r4) then some (⟨[], []⟩, false) else some (⟨r3.2.2.2.2.2.2.1.2, r3.2.2.2.2.2.2.2.2⟩, true))))) = some v → Rq s = some v := by
    intro v hv
    apply Rbc
    rw [Rdw, if_neg hl, ht, Qb]
    exact hv
   obtain ⟨o1, b1⟩ := Rtf (t.length + 1) t [] (Nat.lt_succ_self _)
   cases o1 with
   | none =>
    refine Or.inr ⟨no fun p ⟨l, a, b⟩ => ?_, ?_⟩
    ·have := Rqh b1 _ a; cases this
    ·obtain ⟨p, x, e1⟩ := Rtr (t4 := t) (c0 := false) (c1 := false) (c3 := false) (y0 := []) (y1 := []) (y3 := []) b1 hL hg hs (by simpa using hL) false
     rw [h0] at e1
     apply ist
     rw [show Ri t false [] false [] t 0 false false [] false [] = _ from e1, Qb]
     dsimp only
     rw [Ror, Qb]; rfl
   | some q =>
    obtain ⟨rs, l1⟩ := q
    have sf := Rxa b1 _ _ rfl
    have hs2 := hs.trans sf.1
    obtain ⟨m1, e1⟩ := Rtr (t4 := t) (c0 := false) (c1 := false) (c3 := false) (y0 := []) (y1 := []) (y3 := []) b1 hL hg hs (by simpa using hL) false
    rw [h0] at e1
    obtain ⟨o2, t1⟩ := Rti (l1.length + 1) l1 [] (Nat.lt_succ_self _)
    have hl1 : ([] : List (List Stm)).length + l1.length ≤ 20000 := by have := sf.2; simp only [Zn] at *; omega
    have i2 := Rxq (L := t) (t4 := t) (c0 := false) (c1 := false) (y0 := []) (y1 := []) (m0 := m1) (b0 := rs) t1 hL hg hs2 hl1 false
    have ist2 : ∀ v, (bnd (Rk t false [] false [] t (plc t l1) false m1 rs false []) fun r3 =>
      (bif r3.2.2.2.2.2.1 then some ((⟨[], []⟩ : Prg), false) else
      (bif (!decide (r3.2.2.2.2.1 = (r3.1.length : Int))) then some (⟨[], []⟩, false) else
      bnd (Rv (⟨r3.2.2.2.2.2.2.1.2, r3.2.2.2.2.2.2.2.2⟩ : Prg)) fun r4 =>
      (bif (!r4) then some (⟨[], []⟩, false) else some (⟨r3.2.2.2.2.2.2.1.2, r3.2.2.2.2.2.2.2.2⟩, true))))) = some v → Rq s = some v := by
     intro v hv
     apply ist
     rw [show Ri t false [] false [] t 0 false false [] false [] = _ from e1, Qb]
     exact hv
    cases o2 with
    | none =>
     refine Or.inr ⟨no fun p ⟨l, a, b⟩ => ?_, ?_⟩
     ·have := Rqh b1 _ a; injection this with this; injection this with _ this; subst this
      have := Rug t1 _ b; cases this
     ·obtain ⟨p, x, i2⟩ := i2
      apply ist2
      rw [i2, Qb]; rfl
    | some q =>
     obtain ⟨ts, l2⟩ := q
     obtain ⟨m3, i2⟩ := i2
     have sf2 := Rxd t1 _ _ rfl
     have hs3 := hs2.trans sf2.1
     by_cases he : l2 = []
     ·subst he
      have hpf : PrF t ⟨rs, ts⟩ := ⟨l1, b1, t1⟩
      have sz := Rxc hpf 40000 (by omega)
      have hpl : ((plc t [] : Nat) : Int) = (t.length : Int) := by rw [Rfe]
      have iv : Rv ⟨rs, ts⟩ = some (Req ⟨rs, ts⟩) := Rdb (by have := sz.1; simp only at *; omega) (by have := sz.2.1; simp only at *; omega) (fun x hx => by have := sz.2.2 x hx; omega)
      cases ho : Req ⟨rs, ts⟩
      ·refine Or.inr ⟨no fun p hp => by rw [Ruz hp hpf]; exact ho, ?_⟩
       ·apply ist2
        rw [i2, Qb]
        dsimp only
        rw [Zf, Zp hpl, Zv, Zf, iv, Qb, ho]; rfl
      ·refine Or.inl ⟨⟨rs, ts⟩, ⟨by omega, ⟨t, ht, hpf⟩, ho⟩, ?_⟩
       ·apply ist2
        rw [i2, Qb]
        dsimp only
        rw [Zf, Zp hpl, Zv, Zf, iv, Qb, ho]; rfl
     ·have hne : ¬ ((plc t l2 : Int) = (t.length : Int)) := by
       cases l2 with
       | nil => exact absurd rfl he
       | cons u l2 => have := hs3.tail.2.2.1; omega
      refine Or.inr ⟨no fun p ⟨l, a, b⟩ => ?_, ?_⟩
      ·have := Rqh b1 _ a; injection this with this; injection this with _ this; subst this
       have := Rug t1 _ b; injection this with this; injection this with _ this; exact absurd this he
      ·apply ist2
       rw [i2, Qb]
       dsimp only
       rw [Zf, Zq hne]; rfl
theorem pf_all (s : List UInt8) : (∃ p, Prm s p ∧ Rq s = some (p, true) ∧ Rbp s = some (p, true)) ∨
  ((∀ p, ¬ Prm s p) ∧ Rq s = some (⟨[], []⟩, false) ∧ Rbp s = some (⟨[], []⟩, false)) := by
 by_cases hl : 20000 < s.length
 ·refine Or.inr ⟨fun p h => by have := h.1; omega, ?_, ?_⟩
  ·apply Rbc; rw [Rdw, if_pos hl, Qb]; rfl
  ·apply Rff; rw [Riy, if_pos hl, Qb]; rfl
 ·cases ht : toks s with
  | none =>
   refine Or.inr ⟨fun p h => ?_, ?_, ?_⟩
   ·obtain ⟨_, ⟨t, h1, _⟩, _⟩ := h
    rw [ht] at h1; cases h1
   ·apply Rbc; rw [Rdw, if_neg hl, ht, Qb]; rfl
   ·apply Rff; rw [Riy, if_neg hl, ht, Qb]; rfl
  | some t =>
   have hlen := Rue ht
   have hL : t.length ≤ 20000 := by omega
   have hg := Rzs ht
   obtain ⟨hs, h0⟩ := Rzp t
   have no : (∀ p, PrF t p → Req p = false) → (∀ p, ¬ Prm s p) := by
    intro h p hp
    obtain ⟨_, ⟨t', h1, h2⟩, h3⟩ := hp
    rw [ht] at h1; injection h1 with h1; subst h1
    rw [h p h2] at h3; cases h3
   have ist : ∀ v, (bnd (Ri t false [] false [] t 0 false false [] false []) fun r2 =>
     bnd (Rk r2.1 r2.2.1.1 r2.2.1.2 r2.2.2.1.1 r2.2.2.1.2 r2.2.2.2.1 r2.2.2.2.2.1 r2.2.2.2.2.2.1 r2.2.2.2.2.2.2.1.1 r2.2.2.2.2.2.2.1.2 r2.2.2.2.2.2.2.2.1 r2.2.2.2.2.2.2.2.2) fun r3 =>
     (bif r3.2.2.2.2.2.1 then some ((⟨[], []⟩ : Prg), false) else
     (bif (!decide (r3.2.2.2.2.1 = (r3.1.length : Int))) then some (⟨[], []⟩, false) else
     bnd (Rv (⟨r3.2.2.2.2.2.2.1.2, r3.2.2.2.2.2.2.2.2⟩ : Prg)) fun r4 =>
     (bif (!r4) then some (⟨[], []⟩, false) else some (⟨r3.2.2.2.2.2.2.1.2, r3.2.2.2.2.2.2.2.2⟩, true))))) = some v → Rq s = some v := by
    intro v hv
    apply Rbc
    rw [Rdw, if_neg hl, ht, Qb]
    exact hv
   have sst : ∀ v, (bnd (Ry t 0 false [] false [] false [] false [] false ([] : List Int) false ([] : List (List Stm))) fun r2 =>
     bnd (Rz r2.1 r2.2.1 r2.2.2.1.1 r2.2.2.1.2 r2.2.2.2.1.1 r2.2.2.2.1.2 r2.2.2.2.2.1.1 r2.2.2.2.2.1.2 r2.2.2.2.2.2.1.1 r2.2.2.2.2.2.1.2 r2.2.2.2.2.2.2.1.1 r2.2.2.2.2.2.2.1.2 r2.2.2.2.2.2.2.2.1 r2.2.2.2.2.2.2.2.2) fun r3 =>
     (bif (!decide (r3.2.1 = (r3.1.length : Int))) then some ((⟨r3.2.2.2.2.1.2, r3.2.2.2.2.2.1.2⟩ : Prg), false) else
     bnd (Rbe (⟨r3.2.2.2.2.2.2.1.2, r3.2.2.2.2.2.2.2.2⟩ : Prg)) fun r4 =>
     (bif (!r4) then some (⟨r3.2.2.2.2.1.2, r3.2.2.2.2.2.1.2⟩, false) else some (⟨r3.2.2.2.2.2.2.1.2, r3.2.2.2.2.2.2.2.2⟩, true)))) = some v → Rbp s = some v := by
    intro v hv
    apply Rff
    rw [Riy, if_neg hl, ht, Qb]
    exact hv
   obtain ⟨o1, b1⟩ := Rtf (t.length + 1) t [] (Nat.lt_succ_self _)
   cases o1 with
   | none =>
    refine Or.inr ⟨no fun p ⟨l, a, b⟩ => ?_, ?_, ?_⟩
    ·have := Rqh b1 _ a; cases this
    ·obtain ⟨p, x, e1⟩ := Rtr (t4 := t) (c0 := false) (c1 := false) (c3 := false) (y0 := []) (y1 := []) (y3 := []) b1 hL hg hs (by simpa using hL) false
     rw [h0] at e1
     apply ist
     rw [show Ri t false [] false [] t 0 false false [] false [] = _ from e1, Qb]
     dsimp only
     rw [Ror, Qb]; rfl
    ·obtain ⟨r, x, hr, e1⟩ := Rzl (c0 := false) (c1 := false) (c2 := false) (c3 := false) (c5 := false) (y0 := []) (y1 := []) (y2 := []) (y3 := []) (y5 := []) b1 hL hs (by simpa using hL) false
     rw [h0] at e1
     apply sst
     rw [show Ry t 0 false [] false [] false [] false [] false [] false [] = _ from e1, Qb]
     dsimp only
     obtain ⟨m', e2⟩ := Rzm (c0 := false) (c1 := false) (c2 := false) (c3 := false) (y0 := []) (y1 := []) (y2 := []) (y3 := []) (m0 := x.1) (b0 := x.2) (TR.stop (a := []) (show nd Rjd (kBox :: r) = none from ndN (by decide))) hL hr (by obtain ⟨q, hq⟩ := hr; rw [hq, Za] at hL; simp only [Zn]; omega) false
     have hlt := hr.tail.2.2.1
     have hne : ¬ ((plc t (kBox :: r) : Int) = (t.length : Int)) := by omega
     rw [e2, Qb]
     dsimp only
     rw [Zq hne]; rfl
   | some q =>
    obtain ⟨rs, l1⟩ := q
    have sf := Rxa b1 _ _ rfl
    have hs2 := hs.trans sf.1
    obtain ⟨m1, e1⟩ := Rtr (t4 := t) (c0 := false) (c1 := false) (c3 := false) (y0 := []) (y1 := []) (y3 := []) b1 hL hg hs (by simpa using hL) false
    obtain ⟨m2, f1⟩ := Rzl (c0 := false) (c1 := false) (c2 := false) (c3 := false) (c5 := false) (y0 := []) (y1 := []) (y2 := []) (y3 := []) (y5 := []) b1 hL hs (by simpa using hL) false
    rw [h0] at e1 f1
    obtain ⟨o2, t1⟩ := Rti (l1.length + 1) l1 [] (Nat.lt_succ_self _)
    have hl1 : ([] : List (List Stm)).length + l1.length ≤ 20000 := by have := sf.2; simp only [Zn] at *; omega
    have i2 := Rxq (L := t) (t4 := t) (c0 := false) (c1 := false) (y0 := []) (y1 := []) (m0 := m1) (b0 := rs) t1 hL hg hs2 hl1 false
    have s2 := Rzm (L := t) (c0 := false) (c1 := false) (c2 := false) (c3 := false) (y0 := []) (y1 := []) (y2 := []) (y3 := []) (m0 := m2) (b0 := rs) t1 hL hs2 hl1 false
    have ist2 : ∀ v, (bnd (Rk t false [] false [] t (plc t l1) false m1 rs false []) fun r3 =>
      (bif r3.2.2.2.2.2.1 then some ((⟨[], []⟩ : Prg), false) else
      (bif (!decide (r3.2.2.2.2.1 = (r3.1.length : Int))) then some (⟨[], []⟩, false) else
      bnd (Rv (⟨r3.2.2.2.2.2.2.1.2, r3.2.2.2.2.2.2.2.2⟩ : Prg)) fun r4 =>
      (bif (!r4) then some (⟨[], []⟩, false) else some (⟨r3.2.2.2.2.2.2.1.2, r3.2.2.2.2.2.2.2.2⟩, true))))) = some v → Rq s = some v := by
     intro v hv
     apply ist
     rw [show Ri t false [] false [] t 0 false false [] false [] = _ from e1, Qb]
     exact hv
    have sst2 : ∀ v, (bnd (Rz t (plc t l1) false [] false [] false [] false [] m2 rs false []) fun r3 =>
      (bif (!decide (r3.2.1 = (r3.1.length : Int))) then some ((⟨r3.2.2.2.2.1.2, r3.2.2.2.2.2.1.2⟩ : Prg), false) else
      bnd (Rbe (⟨r3.2.2.2.2.2.2.1.2, r3.2.2.2.2.2.2.2.2⟩ : Prg)) fun r4 =>
      (bif (!r4) then some (⟨r3.2.2.2.2.1.2, r3.2.2.2.2.2.1.2⟩, false) else some (⟨r3.2.2.2.2.2.2.1.2, r3.2.2.2.2.2.2.2.2⟩, true)))) = some v → Rbp s = some v := by
     intro v hv
     apply sst
     rw [show Ry t 0 false [] false [] false [] false [] false [] false [] = _ from f1, Qb]
     exact hv
    cases o2 with
    | none =>
     refine Or.inr ⟨no fun p ⟨l, a, b⟩ => ?_, ?_, ?_⟩
     ·have := Rqh b1 _ a; injection this with this; injection this with _ this; subst this
      have := Rug t1 _ b; cases this
     ·obtain ⟨p, x, i2⟩ := i2
      apply ist2
      rw [i2, Qb]; rfl
     ·obtain ⟨x, s2⟩ := s2
      apply sst2
      rw [s2, Qb]
      dsimp only
      have hne : ¬ ((-1 : Int) = (t.length : Int)) := by omega
      rw [Zq hne]; rfl
    | some q =>
     obtain ⟨ts, l2⟩ := q
     obtain ⟨m3, i2⟩ := i2
     obtain ⟨m4, s2⟩ := s2
     have sf2 := Rxd t1 _ _ rfl
     have hs3 := hs2.trans sf2.1
     by_cases he : l2 = []
     ·subst he
      have hpf : PrF t ⟨rs, ts⟩ := ⟨l1, b1, t1⟩
      have sz := Rxc hpf 40000 (by omega)
      have hpl : ((plc t [] : Nat) : Int) = (t.length : Int) := by rw [Rfe]
      have iv : Rv ⟨rs, ts⟩ = some (Req ⟨rs, ts⟩) := Rdb (by have := sz.1; simp only at *; omega) (by have := sz.2.1; simp only at *; omega) (fun x hx => by have := sz.2.2 x hx; omega)
      have sv : Rbe ⟨rs, ts⟩ = some (Req ⟨rs, ts⟩) := Rhg (by have := sz.1; simp only at *; omega) (by have := sz.2.1; simp only at *; omega) (fun x hx => by have := sz.2.2 x hx; omega)
      cases ho : Req ⟨rs, ts⟩
      ·refine Or.inr ⟨no fun p hp => by rw [Ruz hp hpf]; exact ho, ?_, ?_⟩
       ·apply ist2
        rw [i2, Qb]
        dsimp only
        rw [Zf, Zp hpl, Zv, Zf, iv, Qb, ho]; rfl
       ·apply sst2
        rw [s2, Qb]
        dsimp only
        rw [Zp hpl, Zv, Zf, sv, Qb, ho]; rfl
      ·refine Or.inl ⟨⟨rs, ts⟩, ⟨by omega, ⟨t, ht, hpf⟩, ho⟩, ?_, ?_⟩
       ·apply ist2
        rw [i2, Qb]
        dsimp only
        rw [Zf, Zp hpl, Zv, Zf, iv, Qb, ho]; rfl
       ·apply sst2
        rw [s2, Qb]
        dsimp only
        rw [Zp hpl, Zv, Zf, sv, Qb, ho]; rfl
     ·have hne : ¬ ((plc t l2 : Int) = (t.length : Int)) := by
       cases l2 with
       | nil => exact absurd rfl he
       | cons u l2 => have := hs3.tail.2.2.1; omega
      refine Or.inr ⟨no fun p ⟨l, a, b⟩ => ?_, ?_, ?_⟩
      ·have := Rqh b1 _ a; injection this with this; injection this with _ this; subst this
       have := Rug t1 _ b; injection this with this; injection this with _ this; exact absurd this he
      ·apply ist2
       rw [i2, Qb]
       dsimp only
       rw [Zf, Zq hne]; rfl
      ·apply sst2
       rw [s2, Qb]
       dsimp only
       rw [Zq hne]; rfl
def wl : List Tok → Nat
 | [] => 0
 | t :: l => t.length + 1 + wl l
theorem Res : ∀ a b : List Tok, wl (a ++ b) = wl a + wl b
 | [], b => by simp [wl]
 | t :: a, b => by simp only [List.cons_append, wl, Res a b]; omega
theorem wl_take (l : List Tok) (i : Nat) : wl (l.take i) ≤ wl l := by
 have h : wl (l.take i ++ l.drop i) = wl l := by rw [List.take_append_drop]
 rw [Res] at h; omega
theorem Rzv : ∀ {l : List Tok} {t : Tok}, t ∈ l → t.length + 1 ≤ wl l
 | a :: l, t, h => by
  rcases List.mem_cons.1 h with rfl | h
  ·simp only [wl]; omega
  ·have := Rzv h; simp only [wl]; omega
theorem Rpj : ∀ l : List Tok, l.length ≤ wl l
 | [] => Nat.le_refl _
 | t :: l => by have := Rpj l; simp only [wl, Zc]; omega
theorem Raai : ∀ l : List Tok, (jn l).length ≤ wl l
 | [] => by simp [jn]
 | [a] => by simp only [jn, wl]; omega
 | a :: b :: r => by
  have := Raai (b :: r)
  simp only [jn, wl, Za, Zc] at *; omega
theorem Rrm {l : List Tok} (hw : wl l ≤ 1000000000) : ∀ (d i : Nat), i + d = l.length →
  ∃ x, Rbo l (jn (l.take i)) i = some x ∧ selm x (fun y => some y) (fun z => some z.1) = some (if (l.drop i).all tvb = true then jn l else [])
 | 0, i, h => by
  refine ⟨.inl (jn (l.take i)), ?_, ?_⟩
  ·apply Ref
   have h1 : ¬ ((i : Int) < l.length) := by omega
   simp only [h1, Zz, Zf]
  ·rw [List.drop_eq_nil_of_le (by omega), List.take_of_length_le (by omega)]; simp [selm]
 | d + 1, i, h => by
  have h1 : (i : Int) < l.length := by omega
  have hi : i < l.length := by omega
  have hg := Rcy hi
  have hm := List.getElem_mem hi
  have hll := Rpj l
  have htk : l.take (i + 1) = l.take i ++ [l[i]] := by rw [List.take_succ_eq_append_getElem hi]
  have hlen := Rzv hm
  rw [List.drop_eq_getElem_cons hi, List.all_cons]
  cases hv : tvb l[i] with
  | false =>
   refine ⟨.inr ([], jn (l.take i)), ?_, ?_⟩
   ·apply Ref
    simp only [h1, Zy, Zt, hg, Qb, Ris (show (l[i]).length ≤ 1000000000 by omega), hv, Zx]
   ·simp [selm]
  | true =>
   obtain ⟨x, hx1, hx2⟩ := Rrm hw d (i + 1) (by omega)
   refine ⟨x, ?_, by rw [hx2]; simp⟩
   apply Ref
   have hjl := Nat.le_trans (Raai (l.take i)) (wl_take l i)
   simp only [h1, Zy, Zt, hg, Qb, Ris (show (l[i]).length ≤ 1000000000 by omega), hv, Zv, Zf]
   by_cases h0 : i = 0
   ·subst h0
    simp only [show ¬ ((0 : Int) < ((0 : Nat) : Int)) by omega, Zz, Zf]
    rw [Rhq (by omega), Qb, w1n (by omega)]
    have : jn (l.take 0) ++ l[0] = jn (l.take (0 + 1)) := by rw [htk]; rfl
    rw [this, hx1]
   ·simp only [show ((0 : Int) < (i : Int)) by omega, Zy, Zt]
    rw [Rhq (by simp only [Zc, Zn]; omega), Qb, Rhq (by simp only [Za, Zc, Zn]; omega), Qb, w1n (by omega)]
    have : jn (l.take i) ++ [32] ++ l[i] = jn (l.take (i + 1)) := by
     rw [htk, Rxs _ _ (by intro h; have := congrArg List.length h; rw [List.length_take, Zn] at this; omega), List.append_assoc]; rfl
    rw [this, hx1]
theorem Roj {l : List Tok} (hw : wl l ≤ 1000000000) : Ric l = some (if l.all tvb = true then jn l else []) := by
 apply Rnc
 obtain ⟨x, hx1, hx2⟩ := Rrm hw l.length 0 (by omega)
 rw [List.drop_zero] at hx2
 rw [show Rbo l [] 0 = some x from hx1, Qb, hx2]
theorem Rqp {l : List Tok} (hw : wl l ≤ 1000000000) : ∀ (d i : Nat), i + d = l.length →
  Rcm l l l.length i = some (if (l.drop i).all tvb = true then .inl l else .inr (l, []))
 | 0, i, h => by
  apply Rgo
  have h1 : ¬ ((i : Int) < l.length) := by omega
  simp only [h1, Zz, Zf]
  rw [List.drop_eq_nil_of_le (by omega)]; rfl
 | d + 1, i, h => by
  have h1 : (i : Int) < l.length := by omega
  have hi : i < l.length := by omega
  have hg := Rcy hi
  have hlen := Rzv (List.getElem_mem hi)
  have hll := Rpj l
  rw [List.drop_eq_getElem_cons hi, List.all_cons]
  apply Rgo
  simp only [h1, Zy, Zt, hg, Qb, Rmg (show (l[i]).length ≤ 1000000000 by omega)]
  cases hv : tvb l[i] with
  | false => simp
  | true =>
   simp only [Zv, Zf, Bool.true_and]
   rw [w1n (by omega), Rqp hw d (i + 1) (by omega)]
theorem Rnx {l : List Tok} (hw : wl l ≤ 1000000000) : Rht l = some (if l.all tvb = true then jn l else []) := by
 apply Rmi
 have hx := Rqp hw l.length 0 (by omega)
 have hll := Rpj l
 rw [List.drop_zero] at hx
 rw [show Rcm l l l.length 0 = _ from hx, Qb]
 have hj : strings_Join l [32] = some (jn l) := by
  apply Rrp
  have := Raai l
  rw [if_pos ⟨by unfold LIM; omega, by rw [Rvi]; unfold LIM; omega⟩, Rvi]
 by_cases h : l.all tvb = true
 ·simp only [h, if_true, selm, hj, Qb]
 ·simp only [h, if_false, selm, Bool.false_eq_true]
def vT (v : Int) : Tok := [UInt8.ofNat (97 + v.toNat)]
mutual
def sT : Stm → List Tok
 | ⟨k, v, b, e, bd, el⟩ =>
  if k = 1 then vT v :: kE :: (eT 5 e ++ [kS])
  else if k = 2 then kIf :: (eT 5 e ++ (kL :: (bkT bd ++ [kR]))) ++ (if el.length = 0 then [] else Rfv :: kL :: (bkT el ++ [kR]))
  else if k = 3 then Rcp :: (eT 5 e ++ (kL :: (bkT bd ++ [kR])))
  else if k = 4 then Rix :: Lib.itoa b :: (eT 5 e ++ [kS])
  else if k = 5 then [Rkf, Lib.itoa b, vT v, kS]
  else if k = 6 then [Rgs, kS]
  else Rga :: (eT 5 e ++ [kS])
def bkT : List Stm → List Tok
 | [] => []
 | s :: r => sT s ++ bkT r
end
theorem sT_eq (s : Stm) : sT s = if s.kind = 1 then vT s.var :: kE :: (eT 5 s.e ++ [kS])
  else if s.kind = 2 then kIf :: (eT 5 s.e ++ (kL :: (bkT s.body ++ [kR]))) ++ (if s.els.length = 0 then [] else Rfv :: kL :: (bkT s.els ++ [kR]))
  else if s.kind = 3 then Rcp :: (eT 5 s.e ++ (kL :: (bkT s.body ++ [kR])))
  else if s.kind = 4 then Rix :: Lib.itoa s.box :: (eT 5 s.e ++ [kS])
  else if s.kind = 5 then [Rkf, Lib.itoa s.box, vT s.var, kS]
  else if s.kind = 6 then [Rgs, kS]
  else Rga :: (eT 5 s.e ++ [kS]) := by cases s; simp only [sT]
theorem Rir {s : Stm} (h : hdr s) :
  (s.kind = 1 ∧ 0 ≤ s.var ∧ s.var < 4 ∧ s.box = 0 ∧ Raq 5 s.e = true ∧ s.body = [] ∧ s.els = [] ∧ sT s = vT s.var :: kE :: (eT 5 s.e ++ [kS])) ∨
  (s.kind = 2 ∧ s.var = 0 ∧ s.box = 0 ∧ Raq 5 s.e = true ∧ sT s = kIf :: (eT 5 s.e ++ (kL :: (bkT s.body ++ [kR]))) ++ (if s.els.length = 0 then [] else Rfv :: kL :: (bkT s.els ++ [kR]))) ∨
  (s.kind = 3 ∧ s.var = 0 ∧ s.box = 0 ∧ Raq 5 s.e = true ∧ s.els = [] ∧ sT s = Rcp :: (eT 5 s.e ++ (kL :: (bkT s.body ++ [kR])))) ∨
  (s.kind = 4 ∧ s.var = 0 ∧ 0 ≤ s.box ∧ s.box < 3 ∧ Raq 5 s.e = true ∧ s.body = [] ∧ s.els = [] ∧ sT s = Rix :: Lib.itoa s.box :: (eT 5 s.e ++ [kS])) ∨
  (s.kind = 5 ∧ 0 ≤ s.var ∧ s.var < 4 ∧ 0 ≤ s.box ∧ s.box < 3 ∧ s.e = ⟨0, 0, []⟩ ∧ s.body = [] ∧ s.els = [] ∧ sT s = [Rkf, Lib.itoa s.box, vT s.var, kS]) ∨
  (s.kind = 6 ∧ s.var = 0 ∧ s.box = 0 ∧ s.e = ⟨0, 0, []⟩ ∧ s.body = [] ∧ s.els = [] ∧ sT s = [Rgs, kS]) ∨
  (s.kind = 7 ∧ s.var = 0 ∧ s.box = 0 ∧ Raq 5 s.e = true ∧ s.body = [] ∧ s.els = [] ∧ sT s = Rga :: (eT 5 s.e ++ [kS])) := by
 have z : ∀ {α : Type} {l : List α}, (l.length : Int) = 0 → l = [] := fun h => (len0 _).1 h
 have e0 : (s.e.op = 0 ∧ s.e.n = 0 ∧ (s.e.args.length : Int) = 0) → s.e = ⟨0, 0, []⟩ := by
  intro ⟨a, b, c⟩
  have := z c
  rw [← Rs s.e, a, b, this]
 rw [sT_eq]
 rcases h with ⟨k, a, b, c, d, e⟩ | ⟨k, a, b, c⟩ | ⟨k, a, b, c, d⟩ | ⟨k, a, b, c, d, e⟩ | ⟨k, a, b, c, d, e⟩ | ⟨k, a, b, c, d, e⟩ | ⟨k, a, b, c, d, e⟩
 ·exact Or.inl ⟨k, a.1, a.2, b, c, z d, z e, by rw [if_pos k]⟩
 ·exact Or.inr (Or.inl ⟨k, a, b, c, by rw [if_neg (by omega), if_pos k]⟩)
 ·exact Or.inr (Or.inr (Or.inl ⟨k, a, b, c, z d, by rw [if_neg (by omega), if_neg (by omega), if_pos k]⟩))
 ·exact Or.inr (Or.inr (Or.inr (Or.inl ⟨k, a, b.1, b.2, c, z d, z e, by rw [if_neg (by omega), if_neg (by omega), if_neg (by omega), if_pos k]⟩)))
 ·exact Or.inr (Or.inr (Or.inr (Or.inr (Or.inl ⟨k, a.1, a.2, b.1, b.2, e0 c, z d, z e, by rw [if_neg (by omega), if_neg (by omega), if_neg (by omega), if_neg (by omega), if_pos k]⟩))))
 ·exact Or.inr (Or.inr (Or.inr (Or.inr (Or.inr (Or.inl ⟨k, a, b, e0 c, z d, z e, by rw [if_neg (by omega), if_neg (by omega), if_neg (by omega), if_neg (by omega), if_neg (by omega), if_pos k]⟩)))))
 ·exact Or.inr (Or.inr (Or.inr (Or.inr (Or.inr (Or.inr ⟨k, a, b, c, z d, z e, by rw [if_neg (by omega), if_neg (by omega), if_neg (by omega), if_neg (by omega), if_neg (by omega), if_neg (by omega)]⟩)))))
theorem Rhk : ∀ {d : Nat} {s : Stm}, sOk d s = true → hdr s
 | 0, s, h => by simp only [sOk, Zw, Ze] at h; exact h.1
 | d + 1, s, h => by simp only [sOk, Zw, Ze] at h; exact h.1
theorem Rkb : ∀ {d : Nat} {s : Stm}, sOk d s = true → s.kind = 2 ∨ s.kind = 3 → ∃ d', d = d' + 1 ∧ s.body.all (sOk d') = true ∧ s.els.all (sOk d') = true
 | 0, s, h, hk => by simp [sOk, hk] at h
 | d + 1, s, h, hk => by
  simp only [sOk, hk, if_true, Zw] at h
  exact ⟨d, rfl, h.2.1, h.2.2⟩
theorem Rgy (t : Tok) : wl [t] = t.length + 1 := by simp [wl]
theorem Rfi (t : Tok) (l : List Tok) : wl (t :: l) = t.length + 1 + wl l := rfl
theorem Rabr (l : List Tok) (c : Bool) : wl (wrp l c) ≤ wl l + 4 := by
 unfold wrp
 split
 ·rw [List.cons_append, Rfi, Res, Rgy]; have a : lp.length = 1 := rfl; have b : rp.length = 1 := rfl; omega
 ·omega
theorem Raaq {n : Int} (h1 : 1 ≤ n) (h2 : n ≤ 12) : (opT n).length ≤ 2 := by
 have : ∀ t ∈ opTs, t.length ≤ 2 := by decide
 exact this _ (Rye h1 h2)
theorem eT_wl : ∀ (d : Nat) (e : Exp), Raq d e = true → 2 * (wl (eT d e) + 11) ≤ 17 * 2 ^ d
 | 0, e, h => by cases h
 | d + 1, e, h => by
  have h2 : 2 ^ (d + 1) = 2 * 2 ^ d := by rw [Nat.pow_succ]; omega
  have h1 : 1 ≤ 2 ^ d := Nat.one_le_two_pow
  rcases Rdl h with h | h | ⟨h1', h2', _, a, b, hab, ha, hb⟩
  ·rw [Ruk h.1, Rgy]
   have := (Rwk h.2.2.1 h.2.2.2).2.2.2
   omega
  ·rw [Rul h.1, Rgy]
   simp only [Zc, Zn]
   omega
  ·rw [Rql h1' h2' hab, Res, Res, Rgy]
   have i1 := eT_wl d a ha
   have i2 := eT_wl d b hb
   have w1 := Rabr (eT d a) (decide (lvE a < levN e.op.toNat))
   have w2 := Rabr (eT d b) (decide (lvE b ≤ levN e.op.toNat))
   have := Raaq h1' h2'
   omega
theorem Rou {e : Exp} (h : Raq 5 e = true) : wl (eT 5 e) ≤ 261 := by have := eT_wl 5 e h; omega
theorem Rgz {n : Int} (h1 : 0 ≤ n) (h2 : n < 5) : (Lib.itoa n).length ≤ 5 ∧ tvb (Lib.itoa n) = true ∧ numV (Lib.itoa n) = n := by
 have h := Rwk h1 (show n ≤ 99999 by omega)
 refine ⟨h.2.2.2, h.1, ?_⟩
 have ha := h.2.1
 by_cases h0 : 0 ≤ numV (Lib.itoa n)
 ·have := Rqc ha h0
  injection this with _ this _
  exact this.symm
 ·have := (Rma ha h0).2
  injection this with this
  cases this
theorem Rhe {n : Int} (h1 : 0 ≤ n) (h2 : n < 4) : (vT n).length = 1 ∧ tvb (vT n) = true ∧ varV (vT n) = n := by
 have : n = 0 ∨ n = 1 ∨ n = 2 ∨ n = 3 := by omega
 rcases this with rfl | rfl | rfl | rfl <;> decide
theorem kws : kIf.length = 2 ∧ Rcp.length = 5 ∧ Rix.length = 4 ∧ Rkf.length = 4 ∧ Rgs.length = 5 ∧ Rga.length = 5 ∧ Rfv.length = 4 ∧ kBox.length = 3 ∧ Rjd.length = 4 ∧ kL.length = 1 ∧ kR.length = 1 ∧ kS.length = 1 ∧ kE.length = 1 := by decide
theorem kwt : tvb kIf = true ∧ tvb Rcp = true ∧ tvb Rix = true ∧ tvb Rkf = true ∧ tvb Rgs = true ∧ tvb Rga = true ∧ tvb Rfv = true ∧ tvb kBox = true ∧ tvb Rjd = true ∧ tvb kL = true ∧ tvb kR = true ∧ tvb kS = true ∧ tvb kE = true := by decide
theorem Rmc {d : Nat} (ih : ∀ s, sOk d s = true → wl (sT s) ≤ 300 * cS s) : ∀ l : List Stm, l.all (sOk d) = true → wl (bkT l) ≤ 300 * cSs l
 | [], _ => by simp [bkT, wl]
 | s :: r, h => by
  simp only [List.all_cons, Zw] at h
  have h1 := ih s h.1
  have h2 := Rmc ih r h.2
  simp only [bkT, cSs, Res] at *; omega
theorem sT_wl : ∀ (d : Nat) (s : Stm), sOk d s = true → wl (sT s) ≤ 300 * cS s := by
 intro d
 induction d with
 | zero =>
  intro s h
  obtain ⟨q1, q2, q3, q4, q5, q6, q7, q8, q9, q10, q11, q12, q13⟩ := kws
  have hc := Rwt s
  rcases Rir (Rhk h) with ⟨k, a, b, _, c, _, _, e⟩ | ⟨k, _⟩ | ⟨k, _⟩ | ⟨k, _, a, b, c, _, _, e⟩ | ⟨k, a, b, a', b', _, _, _, e⟩ | ⟨k, _, _, _, _, _, e⟩ | ⟨k, _, _, c, _, _, e⟩
  ·have := Rou c; have := (Rhe a b).1; rw [e]; simp only [Rfi, Res, Rgy, wl] at *; omega
  ·exact absurd (Rkb h (Or.inl k)) (by rintro ⟨_, h, _⟩; cases h)
  ·exact absurd (Rkb h (Or.inr k)) (by rintro ⟨_, h, _⟩; cases h)
  ·have := Rou c; have := (Rgz a (by omega)).1; rw [e]; simp only [Rfi, Res, Rgy, wl] at *; omega
  ·have := (Rhe a b).1; have := (Rgz a' (by omega)).1; rw [e]; simp only [Rfi, Res, Rgy, wl] at *; omega
  ·rw [e]; simp only [Rfi, Res, Rgy, wl] at *; omega
  ·have := Rou c; rw [e]; simp only [Rfi, Res, Rgy, wl] at *; omega
 | succ d ih =>
  intro s h
  obtain ⟨q1, q2, q3, q4, q5, q6, q7, q8, q9, q10, q11, q12, q13⟩ := kws
  have hc := Rwt s
  rcases Rir (Rhk h) with ⟨k, a, b, _, c, _, _, e⟩ | ⟨k, _, _, c, e⟩ | ⟨k, _, _, c, _, e⟩ | ⟨k, _, a, b, c, _, _, e⟩ | ⟨k, a, b, a', b', _, _, _, e⟩ | ⟨k, _, _, _, _, _, e⟩ | ⟨k, _, _, c, _, _, e⟩
  ·have := Rou c; have := (Rhe a b).1; rw [e]; simp only [Rfi, Res, Rgy, wl] at *; omega
  ·obtain ⟨d', hd, hb, he⟩ := Rkb h (Or.inl k)
   have hd : d = d' := by omega
   subst hd
   have := Rmc ih _ hb
   have := Rmc ih _ he
   have := Rou c
   rw [e]
   split
   ·simp only [Rfi, Res, Rgy, wl] at *; omega
   ·simp only [Rfi, Res, Rgy, wl] at *; omega
  ·obtain ⟨d', hd, hb, he⟩ := Rkb h (Or.inr k)
   have hd : d = d' := by omega
   subst hd
   have := Rmc ih _ hb
   have := Rou c
   rw [e]
   simp only [Rfi, Res, Rgy, wl] at *; omega
  ·have := Rou c; have := (Rgz a (by omega)).1; rw [e]; simp only [Rfi, Res, Rgy, wl] at *; omega
  ·have := (Rhe a b).1; have := (Rgz a' (by omega)).1; rw [e]; simp only [Rfi, Res, Rgy, wl] at *; omega
  ·rw [e]; simp only [Rfi, Res, Rgy, wl] at *; omega
  ·have := Rou c; rw [e]; simp only [Rfi, Res, Rgy, wl] at *; omega
theorem bT_wl {d : Nat} {l : List Stm} (h : l.all (sOk d) = true) : wl (bkT l) ≤ 300 * cSs l := Rmc (sT_wl d) l h
theorem Rmb {d : Nat} (ih : ∀ s, sOk d s = true → ∀ t ∈ sT s, tvb t = true) : ∀ l : List Stm, l.all (sOk d) = true → ∀ t ∈ bkT l, tvb t = true
 | [], _ => by simp [bkT]
 | s :: r, h => by
  simp only [List.all_cons, Zw] at h
  intro t ht
  simp only [bkT, Zu] at ht
  rcases ht with ht | ht
  ·exact ih s h.1 t ht
  ·exact Rmb ih r h.2 t ht
theorem sT_tv : ∀ (d : Nat) (s : Stm), sOk d s = true → ∀ t ∈ sT s, tvb t = true := by
 intro d
 induction d with
 | zero =>
  intro s h t ht
  obtain ⟨q1, q2, q3, q4, q5, q6, q7, q8, q9, q10, q11, q12, q13⟩ := kwt
  rcases Rir (Rhk h) with ⟨k, a, b, _, c, _, _, e⟩ | ⟨k, _⟩ | ⟨k, _⟩ | ⟨k, _, a, b, c, _, _, e⟩ | ⟨k, a, b, a', b', _, _, _, e⟩ | ⟨k, _, _, _, _, _, e⟩ | ⟨k, _, _, c, _, _, e⟩
  ·rw [e] at ht
   simp only [Zo, Zu, List.not_mem_nil, or_false] at ht
   rcases ht with rfl | rfl | ht | rfl
   ·exact (Rhe a b).2.1
   ·exact q13
   ·exact (Rlc 5 _ c t ht).1
   ·exact q12
  ·exact absurd (Rkb h (Or.inl k)) (by rintro ⟨_, h, _⟩; cases h)
  ·exact absurd (Rkb h (Or.inr k)) (by rintro ⟨_, h, _⟩; cases h)
  ·rw [e] at ht
   simp only [Zo, Zu, List.not_mem_nil, or_false] at ht
   rcases ht with rfl | rfl | ht | rfl
   ·exact q3
   ·exact (Rgz a (by omega)).2.1
   ·exact (Rlc 5 _ c t ht).1
   ·exact q12
  ·rw [e] at ht
   simp only [Zo, List.not_mem_nil, or_false] at ht
   rcases ht with rfl | rfl | rfl | rfl
   ·exact q4
   ·exact (Rgz a' (by omega)).2.1
   ·exact (Rhe a b).2.1
   ·exact q12
  ·rw [e] at ht
   simp only [Zo, List.not_mem_nil, or_false] at ht
   rcases ht with rfl | rfl
   ·exact q5
   ·exact q12
  ·rw [e] at ht
   simp only [Zo, Zu, List.not_mem_nil, or_false] at ht
   rcases ht with rfl | ht | rfl
   ·exact q6
   ·exact (Rlc 5 _ c t ht).1
   ·exact q12
 | succ d ih =>
  intro s h t ht
  obtain ⟨q1, q2, q3, q4, q5, q6, q7, q8, q9, q10, q11, q12, q13⟩ := kwt
  rcases Rir (Rhk h) with ⟨k, a, b, _, c, _, _, e⟩ | ⟨k, _, _, c, e⟩ | ⟨k, _, _, c, _, e⟩ | ⟨k, _, a, b, c, _, _, e⟩ | ⟨k, a, b, a', b', _, _, _, e⟩ | ⟨k, _, _, _, _, _, e⟩ | ⟨k, _, _, c, _, _, e⟩
  ·rw [e] at ht
   simp only [Zo, Zu, List.not_mem_nil, or_false] at ht
   rcases ht with rfl | rfl | ht | rfl
   ·exact (Rhe a b).2.1
   ·exact q13
   ·exact (Rlc 5 _ c t ht).1
   ·exact q12
  ·obtain ⟨d', hd, hb, he⟩ := Rkb h (Or.inl k)
   have hd : d = d' := by omega
   subst hd
   rw [e] at ht
   rcases List.mem_append.1 ht with ht | ht
   ·simp only [Zo, Zu, List.not_mem_nil, or_false] at ht
    rcases ht with rfl | ht | rfl | ht | rfl
    ·exact q1
    ·exact (Rlc 5 _ c t ht).1
    ·exact q10
    ·exact Rmb ih _ hb t ht
    ·exact q11
   ·split at ht
    ·cases ht
    ·simp only [Zo, Zu, List.not_mem_nil, or_false] at ht
     rcases ht with rfl | rfl | ht | rfl
     ·exact q7
     ·exact q10
     ·exact Rmb ih _ he t ht
     ·exact q11
  ·obtain ⟨d', hd, hb, he⟩ := Rkb h (Or.inr k)
   have hd : d = d' := by omega
   subst hd
   rw [e] at ht
   simp only [Zo, Zu, List.not_mem_nil, or_false] at ht
   rcases ht with rfl | ht | rfl | ht | rfl
   ·exact q2
   ·exact (Rlc 5 _ c t ht).1
   ·exact q10
   ·exact Rmb ih _ hb t ht
   ·exact q11
  ·rw [e] at ht
   simp only [Zo, Zu, List.not_mem_nil, or_false] at ht
   rcases ht with rfl | rfl | ht | rfl
   ·exact q3
   ·exact (Rgz a (by omega)).2.1
   ·exact (Rlc 5 _ c t ht).1
   ·exact q12
  ·rw [e] at ht
   simp only [Zo, List.not_mem_nil, or_false] at ht
   rcases ht with rfl | rfl | rfl | rfl
   ·exact q4
   ·exact (Rgz a' (by omega)).2.1
   ·exact (Rhe a b).2.1
   ·exact q12
  ·rw [e] at ht
   simp only [Zo, List.not_mem_nil, or_false] at ht
   rcases ht with rfl | rfl
   ·exact q5
   ·exact q12
  ·rw [e] at ht
   simp only [Zo, Zu, List.not_mem_nil, or_false] at ht
   rcases ht with rfl | ht | rfl
   ·exact q6
   ·exact (Rlc 5 _ c t ht).1
   ·exact q12
theorem bT_tv {d : Nat} {l : List Stm} (h : l.all (sOk d) = true) : ∀ t ∈ bkT l, tvb t = true := Rmb (sT_tv d) l h
theorem Rtk {l : List Stm} {i : Nat} (hi : i < l.length) : bkT (l.drop i) = sT l[i] ++ bkT (l.drop (i + 1)) := by
 rw [List.drop_eq_getElem_cons hi]; simp only [bkT]
theorem sT_pos (s : Stm) : 1 ≤ (sT s).length := by
 rw [sT_eq]
 split
 ·simp
 ·split
  ·simp
  ·split
   ·simp
   ·split
    ·simp
    ·split
     ·simp
     ·split
      ·simp
      ·simp
theorem Rxe : ∀ l : List Stm, l.length ≤ (bkT l).length
 | [] => Nat.zero_le _
 | s :: r => by have := Rxe r; have := sT_pos s; simp only [bkT, Za, Zc]; omega
theorem Rov {l : List Stm} (hln : l.length ≤ 1000000) (h : ∀ s ∈ l, ∀ out : List Tok, out.length + (sT s).length ≤ 15000 → Rbx s out = some (out ++ sT s)) : ∀ (d i : Nat) (m : Bool) (o : List Tok), i + d = l.length → o.length + (bkT (l.drop i)).length ≤ 15000 →
  ∃ m', Rbw m o l l.length i = some (m', o ++ bkT (l.drop i))
 | 0, i, m, o, hi, ho => by
  refine ⟨m, ?_⟩
  apply Rfy
  have h1 : ¬ ((i : Int) < l.length) := by omega
  simp only [h1, Zz, Zf]
  rw [List.drop_eq_nil_of_le (by omega)]; simp [bkT]
 | d + 1, i, m, o, hi, ho => by
  have h1 : ((i : Int) < l.length) := by omega
  have hl : i < l.length := by omega
  rw [Rtk hl, Za] at ho
  obtain ⟨m', h2⟩ := Rov hln h d (i + 1) true (o ++ sT l[i]) (by omega) (by rw [Za]; omega)
  refine ⟨m', ?_⟩
  apply Rfy
  simp only [h1, Zy, Zt, Rcy hl, Qb, Rdo]
  rw [h _ (List.getElem_mem hl) o (by omega), Qb, w1n (by omega), h2, Rtk hl, List.append_assoc]
theorem Rmj {l : List Stm} (h : ∀ s ∈ l, ∀ out : List Tok, out.length + (sT s).length ≤ 15000 → Rbx s out = some (out ++ sT s)) (out : List Tok) (ho : out.length + (bkT l).length + 2 ≤ 15000) : Ray l out = some (out ++ kL :: (bkT l ++ [kR])) := by
 apply Rll
 rw [Ro (by simp only [Zc, Zn]; omega), Qb]
 obtain ⟨m, h2⟩ := Rov (by have := Rxe l; omega) h l.length 0 true (out ++ [[123]]) (by omega) (by rw [Za]; simp only [Zc, Zn, List.drop_zero]; omega)
 rw [List.drop_zero] at h2
 rw [show Rbw true (out ++ [[123]]) l l.length 0 = _ from h2, Qb]
 dsimp only
 rw [Ro (by simp only [Za, Zc, Zn]; omega), Qb]
 simp [kL, kR]
theorem nm5 {n : Int} (h1 : 0 ≤ n) (h2 : n < 5) : strconv_Itoa n = some (Lib.itoa n) := Rxr (by unfold wfI; omega)
theorem Rxm {e : Exp} (h : Raq 5 e = true) (out : List Tok) (ho : out.length ≤ 20000) : Rx ⟨e.op, e.n, e.args⟩ out = some (out ++ eT 5 e) := by
 rw [Rs]
 exact Rea 5 e out (Nat.le_refl _) h (by omega)
theorem Raag : ∀ (d : Nat) (s : Stm), sOk d s = true → ∀ out : List Tok, out.length + (sT s).length ≤ 15000 → Rbx s out = some (out ++ sT s) := by
  have main : ∀ (d : Nat), (∀ d', d = d' + 1 → ∀ s, sOk d' s = true → ∀ out : List Tok, out.length + (sT s).length ≤ 15000 → Rbx s out = some (out ++ sT s)) → ∀ s, sOk d s = true → ∀ out : List Tok, out.length + (sT s).length ≤ 15000 → Rbx s out = some (out ++ sT s) := by
    intro d ih s h out ho
    have blk : ∀ (k : s.kind = 2 ∨ s.kind = 3) (l : List Stm), (l = s.body ∨ l = s.els) → ∀ o : List Tok, o.length + (bkT l).length + 2 ≤ 15000 → Ray l o = some (o ++ kL :: (bkT l ++ [kR])) := by
      intro k l hl o hlo
      obtain ⟨d', hd, hb, he⟩ := Rkb h k
      rw [List.all_eq_true] at hb he
      refine Rmj (fun x hx out ho => ih d' hd x ?_ out ho) o hlo
      rcases hl with rfl | rfl
      · exact hb x hx
      · exact he x hx
    apply Rmn
    rcases Rir (Rhk h) with ⟨k, a, b, _, c, _, _, e⟩ | ⟨k, _, _, c, e⟩ | ⟨k, _, _, c, _, e⟩ | ⟨k, _, a, b, c, _, _, e⟩ | ⟨k, a, b, a', b', _, _, _, e⟩ | ⟨k, _, _, _, _, _, e⟩ | ⟨k, _, _, c, _, _, e⟩
    · rw [e] at ho ⊢
      simp only [Zc, Za, Zn] at ho
      rw [Zp k, Zt, Rot a b, Qb, Ro (by simp only [Zc, Zn]; omega), Qb, Rxm c _ (by simp only [Za, Zc, Zn]; omega), Qb,
        Ro (by simp only [Za, Zc, Zn]; omega), Qb]
      simp [vT, kE, kS]
    · rw [Zq (show ¬ s.kind = 1 by omega), Zf, Zp k, Zt]
      rw [e] at ho ⊢
      simp only [Zc, Za, Zn] at ho
      rw [Ro (by simp only [Zc, Zn]; omega), Qb, Rxm c _ (by simp only [Za, Zc, Zn]; omega), Qb,
        blk (Or.inl k) s.body (Or.inl rfl) _ (by simp only [Za, Zc, Zn]; omega), Qb]
      by_cases hz : s.els.length = 0
      · have hz' : ¬ (0 : Int) < (s.els.length : Int) := by omega
        rw [Zq hz', Zf, if_pos hz]
        simp [kIf]
      · have hz' : (0 : Int) < (s.els.length : Int) := by omega
        rw [if_neg hz] at ho
        simp only [Zc, Za, Zn] at ho
        rw [Zp hz', Zt, if_neg hz, Ro (by simp only [Za, Zc, Zn]; omega), Qb,
          blk (Or.inl k) s.els (Or.inr rfl) _ (by simp only [Za, Zc, Zn]; omega), Qb]
        simp [kIf, Rfv]
    · rw [Zq (show ¬ s.kind = 1 by omega), Zf, Zq (show ¬ s.kind = 2 by omega), Zf, Zp k, Zt]
      rw [e] at ho ⊢
      simp only [Zc, Za, Zn] at ho
      rw [Ro (by simp only [Zc, Zn]; omega), Qb, Rxm c _ (by simp only [Za, Zc, Zn]; omega), Qb,
        blk (Or.inr k) s.body (Or.inl rfl) _ (by simp only [Za, Zc, Zn]; omega), Qb]
      simp [Rcp]
    · rw [Zq (show ¬ s.kind = 1 by omega), Zf, Zq (show ¬ s.kind = 2 by omega), Zf, Zq (show ¬ s.kind = 3 by omega), Zf, Zp k, Zt]
      rw [e] at ho ⊢
      simp only [Zc, Za, Zn] at ho
      rw [nm5 a (by omega), Qb, Ro (by simp only [Zc, Zn]; omega), Qb, Rxm c _ (by simp only [Za, Zc, Zn]; omega), Qb,
        Ro (by simp only [Za, Zc, Zn]; omega), Qb]
      simp [Rix, kS]
    · rw [Zq (show ¬ s.kind = 1 by omega), Zf, Zq (show ¬ s.kind = 2 by omega), Zf, Zq (show ¬ s.kind = 3 by omega), Zf, Zq (show ¬ s.kind = 4 by omega), Zf, Zp k, Zt]
      rw [e] at ho ⊢
      simp only [Zc, Za, Zn] at ho
      rw [nm5 a' (by omega), Qb, Rot a b, Qb, Ro (by simp only [Zc, Zn]; omega), Qb, Ro (by simp only [Za, Zc, Zn]; omega), Qb]
      simp [Rkf, kS, vT]
    · rw [Zq (show ¬ s.kind = 1 by omega), Zf, Zq (show ¬ s.kind = 2 by omega), Zf, Zq (show ¬ s.kind = 3 by omega), Zf, Zq (show ¬ s.kind = 4 by omega), Zf, Zq (show ¬ s.kind = 5 by omega), Zf, Zp k, Zt]
      rw [e] at ho ⊢
      simp only [Zc, Za, Zn] at ho
      rw [Ro (by simp only [Zc, Zn]; omega), Qb, Ro (by simp only [Za, Zc, Zn]; omega), Qb]
      simp [Rgs, kS]
    · rw [Zq (show ¬ s.kind = 1 by omega), Zf, Zq (show ¬ s.kind = 2 by omega), Zf, Zq (show ¬ s.kind = 3 by omega), Zf, Zq (show ¬ s.kind = 4 by omega), Zf, Zq (show ¬ s.kind = 5 by omega), Zf, Zq (show ¬ s.kind = 6 by omega), Zf, Zp k, Zt]
      rw [e] at ho ⊢
      simp only [Zc, Za, Zn] at ho
      rw [Ro (by simp only [Zc, Zn]; omega), Qb, Rxm c _ (by simp only [Za, Zc, Zn]; omega), Qb,
        Ro (by simp only [Za, Zc, Zn]; omega), Qb]
      simp [Rga, kS]
  intro d
  induction d with
  | zero => exact main 0 (fun d' h => by omega)
  | succ d ih => exact main (d + 1) (fun d' h => by have : d = d' := by omega
                                                    subst this; exact ih)
theorem impl_bT {d : Nat} {l : List Stm} (h : l.all (sOk d) = true) (out : List Tok) (ho : out.length + (bkT l).length + 2 ≤ 15000) : Ray l out = some (out ++ kL :: (bkT l ++ [kR])) :=
 Rmj (fun s hs => Raag d s (List.all_eq_true.1 h s hs)) out ho
theorem Rpb {l : List Stm} (hln : l.length ≤ 1000000) (h : ∀ s ∈ l, (sT s).length ≤ 15000 → Reh s = some (sT s)) : ∀ (d i : Nat) (m : Bool) (o : List Tok), i + d = l.length → o.length + (bkT (l.drop i)).length ≤ 15000 →
  ∃ m', Rdu l m o i = some (m', o ++ bkT (l.drop i))
 | 0, i, m, o, hi, ho => by
  refine ⟨m, ?_⟩
  apply Rig
  have h1 : ¬ ((i : Int) < l.length) := by omega
  simp only [h1, Zz, Zf]
  rw [List.drop_eq_nil_of_le (by omega)]; simp [bkT]
 | d + 1, i, m, o, hi, ho => by
  have h1 : ((i : Int) < l.length) := by omega
  have hl : i < l.length := by omega
  rw [Rtk hl, Za] at ho
  obtain ⟨m', h2⟩ := Rpb hln h d (i + 1) true (o ++ sT l[i]) (by omega) (by rw [Za]; omega)
  refine ⟨m', ?_⟩
  apply Rig
  simp only [h1, Zy, Zt, Rcy hl, Qb, Rdo]
  rw [h _ (List.getElem_mem hl) (by omega), Qb, Ro (by omega), Qb, w1n (by omega), h2, Rtk hl, List.append_assoc]
theorem Rnd {l : List Stm} (h : ∀ s ∈ l, (sT s).length ≤ 15000 → Reh s = some (sT s)) (ho : (bkT l).length + 2 ≤ 15000) : Rcs l = some (kL :: (bkT l ++ [kR])) := by
 apply Rpw
 obtain ⟨m, h2⟩ := Rpb (by have := Rxe l; omega) h l.length 0 true ([[123]]) (by omega) (by simp only [Zc, Zn, List.drop_zero]; omega)
 rw [List.drop_zero] at h2
 rw [show Rdu l true ([[123]]) 0 = _ from h2, Qb]
 dsimp only
 rw [Ro (by simp only [Za, Zc, Zn]; omega), Qb]
 simp [kL, kR]
theorem Rqu {e : Exp} (h : Raq 5 e = true) : Rcv ⟨e.op, e.n, e.args⟩ = some (eT 5 e) := by
 rw [Rs]; exact Rhc 5 e (Nat.le_refl _) h
theorem Rob {e : Exp} (h : Raq 5 e = true) (o : List Tok) (ho : o.length + (eT 5 e).length ≤ 15000) : Rgu o ⟨e.op, e.n, e.args⟩ = some (o ++ eT 5 e ++ [kS]) := by
 apply Rrf
 dsimp only
 rw [Rqu h, Qb, Ro (by omega), Qb, Ro (by simp only [Za, Zc, Zn]; omega), Qb]; rfl
theorem vName {n : Int} (h1 : 0 ≤ n) (h2 : n < 4) : Rfg n = some (vT n) := by
 have := Rmp (v := n.toNat) (by omega)
 rw [show ((n.toNat : Nat) : Int) = n by omega] at this
 exact this
theorem dec5 {n : Int} (h1 : 0 ≤ n) (h2 : n < 5) : Rdx n = some (Lib.itoa n) := Rni (by unfold wfI; omega)
theorem Raav : ∀ (d : Nat) (s : Stm), sOk d s = true → (sT s).length ≤ 15000 → Reh s = some (sT s) := by
  have main : ∀ (d : Nat), (∀ d', d = d' + 1 → ∀ s, sOk d' s = true → (sT s).length ≤ 15000 → Reh s = some (sT s)) → ∀ s, sOk d s = true → (sT s).length ≤ 15000 → Reh s = some (sT s) := by
    intro d ih s h ho
    have blk : ∀ (k : s.kind = 2 ∨ s.kind = 3) (l : List Stm), (l = s.body ∨ l = s.els) → (bkT l).length + 2 ≤ 15000 → Rcs l = some (kL :: (bkT l ++ [kR])) := by
      intro k l hl hlo
      obtain ⟨d', hd, hb, he⟩ := Rkb h k
      rw [List.all_eq_true] at hb he
      refine Rnd (fun x hx ho => ih d' hd x ?_ ho) hlo
      rcases hl with rfl | rfl
      · exact hb x hx
      · exact he x hx
    apply Rrg
    rcases Rir (Rhk h) with ⟨k, a, b, _, c, _, _, e⟩ | ⟨k, _, _, c, e⟩ | ⟨k, _, _, c, _, e⟩ | ⟨k, _, a, b, c, _, _, e⟩ | ⟨k, a, b, a', b', _, _, _, e⟩ | ⟨k, _, _, _, _, _, e⟩ | ⟨k, _, _, c, _, _, e⟩
    · rw [e] at ho ⊢
      simp only [Zc, Za, Zn] at ho
      rw [Zp k, Zt, vName a b, Qb, Rob c _ (by simp only [Zc, Zn]; omega), Qb]
      simp [kE]
    · rw [Zq (show ¬ s.kind = 1 by omega), Zf, Zq (show ¬ s.kind = 4 by omega), Zf, Zq (show ¬ s.kind = 7 by omega), Zf, Zq (show ¬ s.kind = 5 by omega), Zf, Zq (show ¬ s.kind = 6 by omega), Zf, Zq (show ¬ s.kind = 3 by omega), Zf]
      rw [e] at ho ⊢
      simp only [Zc, Za, Zn] at ho
      rw [Rqu c, Qb, Ro (by simp only [Zc, Zn]; omega), Qb, blk (Or.inl k) s.body (Or.inl rfl) (by omega), Qb, Ro (by simp only [Za, Zc, Zn]; omega), Qb]
      by_cases hz : s.els.length = 0
      · have hz' : (s.els.length : Int) = 0 := by omega
        rw [Zp hz', Zt, if_pos hz]
        simp [kIf]
      · have hz' : ¬ (s.els.length : Int) = 0 := by omega
        rw [if_neg hz] at ho
        simp only [Zc, Za, Zn] at ho
        rw [Zq hz', Zf, if_neg hz, Ro (by simp only [Za, Zc, Zn]; omega), Qb,
          blk (Or.inl k) s.els (Or.inr rfl) (by omega), Qb, Ro (by simp only [Za, Zc, Zn]; omega), Qb]
        simp [kIf, Rfv]
    · rw [Zq (show ¬ s.kind = 1 by omega), Zf, Zq (show ¬ s.kind = 4 by omega), Zf, Zq (show ¬ s.kind = 7 by omega), Zf, Zq (show ¬ s.kind = 5 by omega), Zf, Zq (show ¬ s.kind = 6 by omega), Zf, Zp k, Zt]
      rw [e] at ho ⊢
      simp only [Zc, Za, Zn] at ho
      rw [Rqu c, Qb, Ro (by simp only [Zc, Zn]; omega), Qb, blk (Or.inr k) s.body (Or.inl rfl) (by omega), Qb, Ro (by simp only [Za, Zc, Zn]; omega), Qb]
      simp [Rcp]
    · rw [Zq (show ¬ s.kind = 1 by omega), Zf, Zp k, Zt]
      rw [e] at ho ⊢
      simp only [Zc, Za, Zn] at ho
      rw [dec5 a (by omega), Qb, Rob c _ (by simp only [Zc, Zn]; omega), Qb]
      simp [Rix]
    · rw [Zq (show ¬ s.kind = 1 by omega), Zf, Zq (show ¬ s.kind = 4 by omega), Zf, Zq (show ¬ s.kind = 7 by omega), Zf, Zp k, Zt]
      rw [e, dec5 a' (by omega), Qb, vName a b, Qb]; rfl
    · rw [Zq (show ¬ s.kind = 1 by omega), Zf, Zq (show ¬ s.kind = 4 by omega), Zf, Zq (show ¬ s.kind = 7 by omega), Zf, Zq (show ¬ s.kind = 5 by omega), Zf, Zp k, Zt]
      rw [e]; rfl
    · rw [Zq (show ¬ s.kind = 1 by omega), Zf, Zq (show ¬ s.kind = 4 by omega), Zf, Zp k, Zt]
      rw [e] at ho ⊢
      simp only [Zc, Za, Zn] at ho
      rw [Rob c _ (by simp only [Zc, Zn]; omega), Qb]
      simp [Rga]
  intro d
  induction d with
  | zero => exact main 0 (fun d' h => by omega)
  | succ d ih => exact main (d + 1) (fun d' h => by have : d = d' := by omega
                                                    subst this; exact ih)
theorem spec_bT {d : Nat} {l : List Stm} (h : l.all (sOk d) = true) (ho : (bkT l).length + 2 ≤ 15000) : Rcs l = some (kL :: (bkT l ++ [kR])) :=
 Rnd (fun s hs => Raav d s (List.all_eq_true.1 h s hs)) ho
def bxT : List Int → List Tok
 | [] => []
 | n :: r => kBox :: Lib.itoa n :: kS :: bxT r
def tsT : List (List Stm) → List Tok
 | [] => []
 | l :: r => Rjd :: kL :: (bkT l ++ kR :: tsT r)
def pT (p : Prg) : List Tok := bxT p.rooms ++ tsT p.tasks
theorem Riq {p : Prg} (h : Req p = true) : Ren p.rooms = true ∧ p.rooms.length ≤ 3 ∧ 1 ≤ p.tasks.length ∧ p.tasks.length ≤ 3 ∧ ∀ l ∈ p.tasks, l.all (sOk 3) = true ∧ cSs l ≤ 16 ∧ bSs p.rooms.length l = true := by
 simp only [Req, Zw, Ze] at h
 obtain ⟨⟨⟨a, b⟩, c, d⟩, e⟩ := h
 refine ⟨a, by omega, by omega, by omega, fun l hl => ?_⟩
 have := List.all_eq_true.1 e l hl
 simp only [stOk, Zw, Ze] at this
 exact ⟨this.1.1, by omega, this.2⟩
theorem Rjh {l : List Int} (h : Ren l = true) {n : Int} (hn : n ∈ l) : 1 ≤ n ∧ n ≤ 4 := by
 have := List.all_eq_true.1 h n hn
 simpa using this
theorem Rvu : ∀ l : List Int, (∀ n ∈ l, 1 ≤ n ∧ n ≤ 4) → wl (bxT l) ≤ 12 * l.length ∧ (∀ t ∈ bxT l, tvb t = true)
 | [], _ => ⟨Nat.le_refl _, by simp [bxT]⟩
 | n :: r, h => by
  obtain ⟨i1, i2⟩ := Rvu r (fun m hm => h m (List.mem_cons_of_mem _ hm))
  obtain ⟨a, b⟩ := h n (List.mem_cons_self ..)
  obtain ⟨c, d, _⟩ := Rgz (n := n) (by omega) (by omega)
  obtain ⟨_, _, _, _, _, _, _, q8, _, _, _, q12, _⟩ := kws
  obtain ⟨_, _, _, _, _, _, _, t8, _, _, _, t12, _⟩ := kwt
  refine ⟨by simp only [bxT, wl, Zc] at *; omega, ?_⟩
  intro t ht
  simp only [bxT, Zo] at ht
  rcases ht with rfl | rfl | rfl | ht
  ·exact t8
  ·exact d
  ·exact t12
  ·exact i2 t ht
theorem Rabo : ∀ l : List (List Stm), (∀ x ∈ l, x.all (sOk 3) = true ∧ cSs x ≤ 16) → wl (tsT l) ≤ 4820 * l.length ∧ (∀ t ∈ tsT l, tvb t = true)
 | [], _ => ⟨Nat.le_refl _, by simp [tsT]⟩
 | x :: r, h => by
  obtain ⟨i1, i2⟩ := Rabo r (fun m hm => h m (List.mem_cons_of_mem _ hm))
  obtain ⟨a, b⟩ := h x (List.mem_cons_self ..)
  have c := bT_wl a
  obtain ⟨_, _, _, _, _, _, _, _, q9, q10, q11, _, _⟩ := kws
  obtain ⟨_, _, _, _, _, _, _, _, t9, t10, t11, _, _⟩ := kwt
  refine ⟨by simp only [tsT, Rfi, Res, Zc] at *; omega, ?_⟩
  intro t ht
  simp only [tsT, Zo, Zu] at ht
  rcases ht with rfl | rfl | ht | rfl | ht
  ·exact t9
  ·exact t10
  ·exact bT_tv a t ht
  ·exact t11
  ·exact i2 t ht
theorem pT_ok {p : Prg} (h : Req p = true) : wl (pT p) ≤ 14600 ∧ ∀ t ∈ pT p, tvb t = true := by
 obtain ⟨a, b, _, c, d⟩ := Riq h
 obtain ⟨e1, e2⟩ := Rvu p.rooms (fun n hn => Rjh a hn)
 obtain ⟨f1, f2⟩ := Rabo p.tasks (fun x hx => ⟨(d x hx).1, (d x hx).2.1⟩)
 refine ⟨by unfold pT; rw [Res]; omega, fun t ht => ?_⟩
 rcases List.mem_append.1 ht with ht | ht
 ·exact e2 t ht
 ·exact f2 t ht
theorem Rvt {l : List Int} {i : Nat} (hi : i < l.length) : bxT (l.drop i) = kBox :: Lib.itoa l[i] :: kS :: bxT (l.drop (i + 1)) := by
 rw [List.drop_eq_getElem_cons hi]; simp only [bxT]
theorem Rwr {l : List (List Stm)} {i : Nat} (hi : i < l.length) : tsT (l.drop i) = Rjd :: kL :: (bkT l[i] ++ kR :: tsT (l.drop (i + 1))) := by
 rw [List.drop_eq_getElem_cons hi]; simp only [tsT]
theorem Row {l : List Int} {b1 : List (List Stm)} {b0 : List Int} (hl : l.length ≤ 3) (hr : ∀ n ∈ l, 1 ≤ n ∧ n ≤ 4) : ∀ (d i : Nat) (m : Bool) (o : List Tok), i + d = l.length → o.length ≤ 100 + 3 * i →
  ∃ m', Rbu m o l l.length i b0 b1 = some ((m', o ++ bxT (l.drop i)), b0, b1)
 | 0, i, m, o, hi, ho => by
  refine ⟨m, ?_⟩
  apply Rfw
  have h1 : ¬ ((i : Int) < l.length) := by omega
  simp only [h1, Zz, Zf]
  rw [List.drop_eq_nil_of_le (by omega)]; simp [bxT]
 | d + 1, i, m, o, hi, ho => by
  have h1 : ((i : Int) < l.length) := by omega
  have hlt : i < l.length := by omega
  obtain ⟨m', h2⟩ := Row (b0 := b0) (b1 := b1) hl hr d (i + 1) true (o ++ [kBox, Lib.itoa l[i], kS]) (by omega) (by simp only [Za, Zc, Zn]; omega)
  refine ⟨m', ?_⟩
  apply Rfw
  obtain ⟨a, b⟩ := hr _ (List.getElem_mem hlt)
  simp only [h1, Zy, Zt, Rcy hlt, Qb]
  rw [nm5 (by omega) (by omega), Qb, Ro (by simp only [Zc, Zn]; omega), Qb, w1n (by omega)]
  rw [show (o ++ [[98, 111, 120], Lib.itoa l[i], [59]] : List Tok) = o ++ [kBox, Lib.itoa l[i], kS] from rfl, h2, Rvt hlt]
  simp
theorem Rpc {l : List Int} {b1 : List (List Stm)} (hl : l.length ≤ 3) (hr : ∀ n ∈ l, 1 ≤ n ∧ n ≤ 4) : ∀ (d i : Nat) (m : Bool) (o : List Tok), i + d = l.length → o.length ≤ 100 + 3 * i →
  ∃ m', Rca m o i l b1 = some ((m', o ++ bxT (l.drop i)), l, b1)
 | 0, i, m, o, hi, ho => by
  refine ⟨m, ?_⟩
  apply Rgc
  have h1 : ¬ ((i : Int) < l.length) := by omega
  simp only [h1, Zz, Zf]
  rw [List.drop_eq_nil_of_le (by omega)]; simp [bxT]
 | d + 1, i, m, o, hi, ho => by
  have h1 : ((i : Int) < l.length) := by omega
  have hlt : i < l.length := by omega
  obtain ⟨m', h2⟩ := Rpc (b1 := b1) hl hr d (i + 1) true (o ++ [kBox, Lib.itoa l[i], kS]) (by omega) (by simp only [Za, Zc, Zn]; omega)
  refine ⟨m', ?_⟩
  apply Rgc
  obtain ⟨a, b⟩ := hr _ (List.getElem_mem hlt)
  simp only [h1, Zy, Zt, Rcy hlt, Qb]
  rw [dec5 (by omega) (by omega), Qb, Ro (by simp only [Zc, Zn]; omega), Qb, w1n (by omega)]
  rw [show (o ++ [[98, 111, 120], Lib.itoa l[i], [59]] : List Tok) = o ++ [kBox, Lib.itoa l[i], kS] from rfl, h2, Rvt hlt]
  simp
theorem Roz {l : List (List Stm)} (hl : l.length ≤ 3) (hr : ∀ x ∈ l, x.all (sOk 3) = true ∧ cSs x ≤ 16) : ∀ (d i : Nat) (m : Bool) (o : List Tok), i + d = l.length → o.length ≤ 100 + 4820 * i →
  ∃ m', Rbv m o l l.length i = some (m', o ++ tsT (l.drop i))
 | 0, i, m, o, hi, ho => by
  refine ⟨m, ?_⟩
  apply Rfx
  have h1 : ¬ ((i : Int) < l.length) := by omega
  simp only [h1, Zz, Zf]
  rw [List.drop_eq_nil_of_le (by omega)]; simp [tsT]
 | d + 1, i, m, o, hi, ho => by
  have h1 : ((i : Int) < l.length) := by omega
  have hlt : i < l.length := by omega
  obtain ⟨a, b⟩ := hr _ (List.getElem_mem hlt)
  have c := bT_wl a
  have c2 := Rpj (bkT l[i])
  obtain ⟨m', h2⟩ := Roz hl hr d (i + 1) true (o ++ [Rjd] ++ kL :: (bkT l[i] ++ [kR])) (by omega) (by simp only [Za, Zc, Zn]; omega)
  refine ⟨m', ?_⟩
  apply Rfx
  simp only [h1, Zy, Zt, Rcy hlt, Qb]
  rw [Ro (by simp only [Zc, Zn]; omega), Qb, impl_bT a _ (by simp only [Za, Zc, Zn]; omega), Qb, w1n (by omega)]
  rw [show (o ++ [[116, 97, 115, 107]] : List Tok) = o ++ [Rjd] from rfl, h2, Rwr hlt]
  simp
theorem Rph {l : List (List Stm)} {b0 : List Int} (hl : l.length ≤ 3) (hr : ∀ x ∈ l, x.all (sOk 3) = true ∧ cSs x ≤ 16) : ∀ (d i : Nat) (m : Bool) (o : List Tok), i + d = l.length → o.length ≤ 100 + 4820 * i →
  ∃ m', Rcb m o i b0 l = some (m', o ++ tsT (l.drop i))
 | 0, i, m, o, hi, ho => by
  refine ⟨m, ?_⟩
  apply Rgd
  have h1 : ¬ ((i : Int) < l.length) := by omega
  simp only [h1, Zz, Zf]
  rw [List.drop_eq_nil_of_le (by omega)]; simp [tsT]
 | d + 1, i, m, o, hi, ho => by
  have h1 : ((i : Int) < l.length) := by omega
  have hlt : i < l.length := by omega
  obtain ⟨a, b⟩ := hr _ (List.getElem_mem hlt)
  have c := bT_wl a
  have c2 := Rpj (bkT l[i])
  obtain ⟨m', h2⟩ := Rph (b0 := b0) hl hr d (i + 1) true (o ++ [Rjd] ++ kL :: (bkT l[i] ++ [kR])) (by omega) (by simp only [Za, Zc, Zn]; omega)
  refine ⟨m', ?_⟩
  apply Rgd
  simp only [h1, Zy, Zt, Rcy hlt, Qb]
  rw [Ro (by simp only [Zc, Zn]; omega), Qb, spec_bT a (by omega), Qb, Ro (by simp only [Za, Zc, Zn]; omega), Qb, w1n (by omega)]
  rw [show (o ++ [[116, 97, 115, 107]] : List Tok) = o ++ [Rjd] from rfl, h2, Rwr hlt]
  simp
def pTxt (p : Prg) : List UInt8 := if Req p = true then jn (pT p) else []
theorem Rli {p : Prg} (hr : (p.rooms.length : Int) ≤ 4294967296) (hl : (p.tasks.length : Int) ≤ 4294967296) (hm : ∀ x ∈ p.tasks, mSs x ≤ 4294967296) : Ret p = some (pTxt p) := by
 apply Rlj
 rw [Rdb hr hl hm, Qb]
 unfold pTxt
 cases h : Req p with
 | false => rfl
 | true =>
  obtain ⟨a, b, _, c, d⟩ := Riq h
  obtain ⟨e, f⟩ := pT_ok h
  obtain ⟨m1, h1⟩ := Row (b0 := p.rooms) (b1 := p.tasks) b (fun n hn => Rjh a hn) p.rooms.length 0 false [] (by omega) (by simp)
  have hb := (Rvu p.rooms (fun n hn => Rjh a hn)).1
  have hb2 := Rpj (bxT p.rooms)
  obtain ⟨m2, h2⟩ := Roz c (fun x hx => ⟨(d x hx).1, (d x hx).2.1⟩) p.tasks.length 0 m1 (bxT p.rooms) (by omega) (by omega)
  rw [List.drop_zero, List.nil_append] at h1
  rw [List.drop_zero] at h2
  simp only [Zv, Zf, if_true]
  rw [show Rbu false [] p.rooms p.rooms.length 0 p.rooms p.tasks = _ from h1, Qb]
  dsimp only
  rw [show Rbv m1 (bxT p.rooms) p.tasks p.tasks.length 0 = _ from h2, Qb]
  dsimp only
  rw [show bxT p.rooms ++ tsT p.tasks = pT p from rfl, Rnx (by omega), Qb, if_pos (List.all_eq_true.mpr f)]
theorem Rlt {p : Prg} (hr : (p.rooms.length : Int) ≤ 4294967296) (hl : (p.tasks.length : Int) ≤ 4294967296) (hm : ∀ x ∈ p.tasks, mSs x ≤ 4294967296) : Rha p = some (pTxt p) := by
 apply Rlu
 rw [Rhg hr hl hm, Qb]
 unfold pTxt
 cases h : Req p with
 | false => rfl
 | true =>
  obtain ⟨a, b, _, c, d⟩ := Riq h
  obtain ⟨e, f⟩ := pT_ok h
  obtain ⟨m1, h1⟩ := Rpc (b1 := p.tasks) b (fun n hn => Rjh a hn) p.rooms.length 0 true [] (by omega) (by simp)
  have hb := (Rvu p.rooms (fun n hn => Rjh a hn)).1
  have hb2 := Rpj (bxT p.rooms)
  obtain ⟨m2, h2⟩ := Rph (b0 := p.rooms) c (fun x hx => ⟨(d x hx).1, (d x hx).2.1⟩) p.tasks.length 0 m1 (bxT p.rooms) (by omega) (by omega)
  rw [List.drop_zero, List.nil_append] at h1
  rw [List.drop_zero] at h2
  simp only [Zv, Zf, if_true]
  rw [show Rca true [] 0 p.rooms p.tasks = _ from h1, Qb]
  dsimp only
  rw [show Rcb m1 (bxT p.rooms) 0 p.rooms p.tasks = _ from h2, Qb]
  dsimp only
  rw [show bxT p.rooms ++ tsT p.tasks = pT p from rfl, Roj (by omega), Qb, if_pos (List.all_eq_true.mpr f)]
theorem Rsp {e : Exp} (h : Raq 5 e = true) {u : List Tok} (hu : nlev u = 0) : ex1 (eT 5 e ++ u) = some (e, u) :=
 ex1_is (P_ext hu (Raac h) e [] rfl)
theorem Ryb (u : List Tok) : nlev (kS :: u) = 0 := rfl
theorem Rya (u : List Tok) : nlev (kL :: u) = 0 := rfl
theorem Rzh {s : Stm} (h : hdr s) : ∃ t r, sT s = t :: r ∧ t ≠ Rfv ∧ t ≠ kR := by
 rcases Rir h with ⟨k, a, b, _, c, _, _, e⟩ | ⟨k, _, _, c, e⟩ | ⟨k, _, _, c, _, e⟩ | ⟨k, _, a, b, c, _, _, e⟩ | ⟨k, a, b, a', b', _, _, _, e⟩ | ⟨k, _, _, _, _, _, e⟩ | ⟨k, _, _, c, _, _, e⟩
 ·refine ⟨_, _, e, fun hh => ?_, fun hh => ?_⟩
  ·have := (Rhe a b).2.2
   rw [hh] at this
   have h2 : varV Rfv = -1 := by decide
   omega
  ·have := (Rhe a b).2.2
   rw [hh] at this
   have h2 : varV kR = -1 := by decide
   omega
 ·exact ⟨_, _, e, by decide, by decide⟩
 ·exact ⟨_, _, e, by decide, by decide⟩
 ·exact ⟨_, _, e, by decide, by decide⟩
 ·exact ⟨_, _, e, by decide, by decide⟩
 ·exact ⟨_, _, e, by decide, by decide⟩
 ·exact ⟨_, _, e, by decide, by decide⟩
theorem Rxw {d : Nat} (ih : ∀ s, sOk d s = true → ∀ u, nd Rfv u = none → G .st (sT s ++ u) (some ([s], u))) : ∀ (l : List Stm), l.all (sOk d) = true → ∀ (a : List Stm) (u : List Tok), G (.lp a) (bkT l ++ kR :: u) (some (a ++ l, u))
 | [], _, a, u => by
  rw [show bkT [] ++ kR :: u = kR :: u from rfl, List.append_nil]
  exact .lpS
 | s :: r, h, a, u => by
  simp only [List.all_cons, Zw] at h
  have h2 := Rxw ih r h.2 (a ++ [s]) u
  have hn : nd Rfv (bkT r ++ kR :: u) = none := by
   cases r with
   | nil => exact ndN (by decide)
   | cons s2 r2 =>
    have h3 := h.2
    simp only [List.all_cons, Zw] at h3
    obtain ⟨t, q, e, hne, _⟩ := Rzh (Rhk h3.1)
    simp only [bkT]
    rw [e]
    exact ndN hne
  have h1 := ih s h.1 (bkT r ++ kR :: u) hn
  obtain ⟨t, q, e, _, hne⟩ := Rzh (Rhk h.1)
  simp only [bkT]
  rw [e] at h1
  rw [List.append_assoc, e]
  rw [show a ++ s :: r = a ++ [s] ++ r by simp]
  exact .lpC hne h1 h2
theorem Rqj {d : Nat} (ih : ∀ s, sOk d s = true → ∀ u, nd Rfv u = none → G .st (sT s ++ u) (some ([s], u))) {l : List Stm} (h : l.all (sOk d) = true) (u : List Tok) : G .bk (kL :: (bkT l ++ kR :: u)) (some (l, u)) :=
 .bk (Rxw ih l h [] u)
theorem st_back : ∀ (d : Nat) (s : Stm), sOk d s = true → ∀ u, nd Rfv u = none → G .st (sT s ++ u) (some ([s], u)) := by
  have main : ∀ (d : Nat), (∀ d', d = d' + 1 → ∀ s, sOk d' s = true → ∀ u, nd Rfv u = none → G .st (sT s ++ u) (some ([s], u))) → ∀ s, sOk d s = true → ∀ u, nd Rfv u = none → G .st (sT s ++ u) (some ([s], u)) := by
    intro d ih s h u hu
    have et := Raaw s
    rcases Rir (Rhk h) with ⟨k, a, b, x, c, y, z, e⟩ | ⟨k, x, y, c, e⟩ | ⟨k, x, y, c, z, e⟩ | ⟨k, x, a, b, c, y, z, e⟩ | ⟨k, a, b, a', b', x, y, z, e⟩ | ⟨k, x, y, w, z, v, e⟩ | ⟨k, x, y, c, z, v, e⟩
    · have hv := (Rhe a b).2.2
      rw [e, show vT s.var :: kE :: (eT 5 s.e ++ [kS]) ++ u = vT s.var :: kE :: (eT 5 s.e ++ kS :: u) by simp]
      refine .smp (fun hh => ?_) (fun hh => ?_) ?_
      · rw [hh] at hv; have h2 : varV kIf = -1 := by decide
        omega
      · rw [hh] at hv; have h2 : varV Rcp = -1 := by decide
        omega
      · rw [smp_set (by omega) (Rsp c (Ryb u)), hv]
        rw [k, x, y, z] at et
        rw [et]
    · obtain ⟨d', hd, hb, he⟩ := Rkb h (Or.inl k)
      have ih' := ih d' hd
      rw [k, x, y] at et
      rw [e]
      by_cases hz : s.els.length = 0
      · rw [if_pos hz, show kIf :: (eT 5 s.e ++ kL :: (bkT s.body ++ [kR])) ++ [] ++ u = kIf :: (eT 5 s.e ++ kL :: (bkT s.body ++ kR :: u)) by simp]
        have := G.if1 (Rsp c (Rya _)) (Rqj ih' hb u) hu
        rw [List.eq_nil_of_length_eq_zero hz] at et
        rw [et] at this
        exact this
      · rw [if_neg hz, show kIf :: (eT 5 s.e ++ kL :: (bkT s.body ++ [kR])) ++ Rfv :: kL :: (bkT s.els ++ [kR]) ++ u = kIf :: (eT 5 s.e ++ kL :: (bkT s.body ++ kR :: Rfv :: kL :: (bkT s.els ++ kR :: u))) by simp]
        have := G.if2 (Rsp c (Rya _)) (Rqj ih' hb _) (Rqj ih' he u)
        rw [et] at this
        exact this
    · obtain ⟨d', hd, hb, he⟩ := Rkb h (Or.inr k)
      have ih' := ih d' hd
      rw [k, x, y, z] at et
      rw [e, show Rcp :: (eT 5 s.e ++ kL :: (bkT s.body ++ [kR])) ++ u = Rcp :: (eT 5 s.e ++ kL :: (bkT s.body ++ kR :: u)) by simp]
      have := G.wh (Rsp c (Rya _)) (Rqj ih' hb u)
      rw [et] at this
      exact this
    · obtain ⟨_, _, hv⟩ := Rgz a (show s.box < 5 by omega)
      rw [e, show Rix :: Lib.itoa s.box :: (eT 5 s.e ++ [kS]) ++ u = Rix :: Lib.itoa s.box :: (eT 5 s.e ++ kS :: u) by simp]
      refine .smp (by decide) (by decide) ?_
      rw [Raau (by omega) (Rsp c (Ryb u)), hv]
      rw [k, x, y, z] at et
      rw [et]
    · obtain ⟨_, _, hv⟩ := Rgz a' (show s.box < 5 by omega)
      have hw := (Rhe a b).2.2
      rw [e]
      refine .smp (by decide) (by decide) ?_
      show smp (Rkf :: Lib.itoa s.box :: vT s.var :: kS :: u) = _
      rw [Raat u (by omega) (by omega), hv, hw]
      rw [k, x, y, z] at et
      rw [et]
    · rw [e]
      refine .smp (by decide) (by decide) ?_
      show smp (Rgs :: kS :: u) = _
      rw [Rzk]
      rw [k, x, y, w, z, v] at et
      rw [et]
    · rw [e, show Rga :: (eT 5 s.e ++ [kS]) ++ u = Rga :: (eT 5 s.e ++ kS :: u) by simp]
      refine .smp (by decide) (by decide) ?_
      rw [Rzj (Rsp c (Ryb u))]
      rw [k, x, y, z, v] at et
      rw [et]
  intro d
  induction d with
  | zero => exact main 0 (fun d' h => by omega)
  | succ d ih => exact main (d + 1) (fun d' h => by have : d = d' := by omega
                                                    subst this; exact ih)
theorem Rwq : ∀ (l : List (List Stm)), (∀ x ∈ l, x.all (sOk 3) = true) → ∀ a, TR a (tsT l) (some (a ++ l, []))
 | [], _, a => by rw [List.append_nil]; exact .stop rfl
 | x :: r, h, a => by
  have h1 := Rqj (st_back 3) (h x (List.mem_cons_self ..)) (tsT r)
  have h2 := Rwq r (fun y hy => h y (List.mem_cons_of_mem _ hy)) (a ++ [x])
  rw [show a ++ x :: r = a ++ [x] ++ r by simp]
  exact .go h1 h2
theorem tsT_box : ∀ l : List (List Stm), nd kBox (tsT l) = none
 | [] => rfl
 | x :: r => ndN (by decide)
theorem Rvs {u : List Tok} (hu : nd kBox u = none) : ∀ (l : List Int), (∀ n ∈ l, 1 ≤ n ∧ n ≤ 4) → ∀ a, BR a (bxT l ++ u) (some (a ++ l, u))
 | [], _, a => by rw [List.append_nil]; exact .stop hu
 | n :: r, h, a => by
  obtain ⟨h1, h2⟩ := h n (List.mem_cons_self ..)
  obtain ⟨_, _, hv⟩ := Rgz (n := n) (by omega) (by omega)
  have h3 := Rvs hu r (fun m hm => h m (List.mem_cons_of_mem _ hm)) (a ++ [n])
  rw [show a ++ n :: r = a ++ [n] ++ r by simp]
  have hn : nu (Lib.itoa n :: kS :: (bxT r ++ u)) = some (n, kS :: (bxT r ++ u)) := by rw [Roh (by omega), hv]
  exact .go hn h3
theorem pT_back {p : Prg} (h : Req p = true) : PrF (pT p) p := by
 obtain ⟨a, b, _, c, d⟩ := Riq h
 exact ⟨tsT p.tasks, Rvs (tsT_box _) p.rooms (fun n hn => Rjh a hn) [], Rwq p.tasks (fun x hx => (d x hx).1) []⟩
theorem Rwo {p : Prg} (h : Req p = true) : Prm (pTxt p) p ∧ (pTxt p).length ≤ 14600 := by
 obtain ⟨e, f⟩ := pT_ok h
 have hl := Raai (pT p)
 unfold pTxt
 rw [if_pos h]
 exact ⟨⟨by omega, ⟨_, Rzt _ f, pT_back h⟩, h⟩, by omega⟩
theorem Raas (p : Prg) : (pTxt p).length ≤ 14600 := by
 by_cases h : Req p = true
 ·exact (Rwo h).2
 ·unfold pTxt; rw [if_neg h]; simp
theorem Rqw {n : Int} (hn : n ≤ 3) : ∀ (d : Nat) (i : Int) (f : Bool) (l : List Int) {b : List Int} {p m : Int}, n ≤ i + d → 0 ≤ i → i ≤ 10 - d → d ≤ 3 → (l.length : Int) ≤ i → Rd b p m → m + d ≤ 999990000 →
  Ok (Rex f l n i b p) fun r => Rd r.2.1 r.2.2 (m + d) ∧ r.1.2.length ≤ 10
 | 0, i, f, l, b, p, m, hd, h0, hi1, hd3, hl, hr, hm => by
  apply Ok.le (Rik _ _ _ _ _ _)
  have : ¬ (i < n) := by omega
  simp only [this, Zz, Zf]
  exact Ok.of ⟨hr.mono (by omega), by dsimp only; omega⟩
 | d + 1, i, f, l, b, p, m, hd, h0, hi1, hd3, hl, hr, hm => by
  apply Ok.le (Rik _ _ _ _ _ _)
  refine Ok.bif (fun hb => ?_) (fun hb => ?_)
  ·refine Ok.bnd (Rar hr (by omega) (by decide)) fun r1 h1 => ?_
   refine Ok.bnd (Rkk h1.2 (by omega) rfl) fun e he => ?_
   rw [Rba (by omega), Qb, wrap_id (n := i + 1) (by omega) (by omega)]
   exact (Rqw hn d (i + 1) true (l ++ [e]) (by omega) (by omega) (by omega) (by omega) (by simp; omega) h1.1 (by omega)).mono fun r hr => ⟨hr.1.mono (by omega), hr.2⟩
  ·exact Ok.of ⟨hr.mono (by omega), by dsimp only; omega⟩
theorem Run {b : List Int} {p m : Int} (h : Rd b p m) (hm : m ≤ 999900000) : Ok (Rjz b p) fun r => Rd r.2.1 r.2.2 (m + 4) ∧ r.1.length ≤ 10 := by
 apply Ok.le (Rqa b p)
 refine Ok.bnd (Rar h (by omega) (by decide)) fun r1 h1 => ?_
 refine Ok.bnd (Rkk h1.2 (by omega) rfl) fun e he => ?_
 have he3 : e ≤ 3 := by
  simp only [Zo, List.not_mem_nil, or_false] at he; omega
 refine Ok.bnd (Rqw he3 3 0 true [] (by omega) (by omega) (by omega) (by omega) (by simp) h1.1 (by omega)) fun r hr => ?_
 exact Ok.of ⟨hr.1.mono (by omega), hr.2⟩
theorem Rzo {b : List Int} {p : Int} : ∀ (d : Nat) (m : Md) (l : List Stm), l.length ≤ d → mSs l ≤ 1000000000 →
  Ok (Rey m l b p) fun r => r.2.1 = b ∧ r.2.2 = p ∧ mSs r.1.2 ≤ mSs l
 | d, m, l, hd, hl => by
  apply Ok.le (Rlx _ _ _ _)
  have hc := Ruh l
  rw [Rkc (by omega), Qb]
  refine Ok.bif (fun hb => ?_) (fun hb => ?_)
  ·simp only [Ze] at hb
   have hm := Rfc l
   have hpos : 0 < l.length := by
    cases l with
    | nil => simp [cSs] at hb
    | cons s r => simp
   rw [show wrap64 ((l.length : Int) - 1) = ((l.length - 1 : Nat) : Int) by rw [wrap_id (by omega) (by omega)]; omega,
    show cutL l (0 : Int) ((l.length - 1 : Nat) : Int) = some ((l.take (l.length - 1)).drop 0) from Riz (Nat.zero_le _) (by omega), Qb, List.drop_zero]
   have ht := Raam l (l.length - 1)
   match d, hd with
   | 0, hd => omega
   | d + 1, hd =>
    exact (Rzo d .share (l.take (l.length - 1)) (by rw [List.length_take]; omega) (by omega)).mono fun r hr => ⟨hr.1, hr.2.1, by have := hr.2.2; omega⟩
  ·exact Ok.of ⟨rfl, rfl, Nat.le_refl _⟩
theorem Ruo {b : List Int} {p m : Int} (a : Int) (ha : a ≤ 1000) (h : Rd b p m) (hm : m ≤ 999900000) : Ok (Rka a b p) fun r => Rd r.2.1 r.2.2 (m + 23000) ∧ mSs r.1.2 ≤ 10000 := by
 apply Ok.le (Rqb a b p)
 have hcs : cs 3 = 3820 := by decide
 have hms : ms 3 = 1590 := by decide
 refine Ok.bnd (Rar h (by omega) (by decide)) fun r1 h1 => ?_
 have hk := h1.2.2.1 (by omega)
 rw [wrap_id (n := 1 + r1.1) (by omega) (by omega)]
 refine Ok.bnd (Rlg (Rub 3 (by omega)) 6 (by omega) (by rw [hms]; omega) a (1 + r1.1) true ha (by omega) h1.1 (by rw [hcs]; omega)) fun r2 h2 => ?_
 rw [hcs, hms] at h2
 refine Ok.bnd (Rzo (b := r2.2.1) (p := r2.2.2) r2.1.length (.own true) r2.1 (Nat.le_refl _) (by have := h2.2; omega)) fun r3 h3 => ?_
 obtain ⟨e1, e2, h3m⟩ := h3
 refine Ok.of ⟨?_, by have := h2.2; dsimp only; omega⟩
 dsimp only
 rw [e1, e2]; exact h2.1.mono (by omega)
theorem Rmq {n : Int} {x0 : Bool} {l0 : List Int} {x1 : Hd} {rs : List Int} (hrs : rs.length ≤ 10) : ∀ (d : Nat) (i : Int) (ht : Hd) (ls : List (List Stm)) (B : List Ent) {b : List Int} {p m : Int}, n ≤ i + d → 0 ≤ i → i ≤ 10 - d → d ≤ 3 → (ls.length : Int) = i → (∀ x ∈ ls, mSs x ≤ 10000) → Got .stms [] ls ht B → Rd b p m → m + 23000 * d ≤ 999800000 →
  Ok (Rec n i b p x0 l0 x1 rs ht B) fun r => Rd r.1 r.2.1 (m + 23000 * d) ∧ r.2.2.2.2.1 = rs ∧ ∃ ls', (ls'.length : Int) ≤ i + d ∧ n ≤ (ls'.length : Int) ∧ (∀ x ∈ ls', mSs x ≤ 10000) ∧ Got .stms [] ls' r.2.2.2.2.2.1 r.2.2.2.2.2.2
 | 0, i, ht, ls, B, b, p, m, hd, h0, hi1, hd3, hl, hm, hg, hrd, hb => by
  apply Ok.le (Rgw _ _ _ _ _ _ _ _ _ _)
  have : ¬ (i < n) := by omega
  simp only [this, Zz, Zf]
  exact Ok.of ⟨hrd.mono (by omega), rfl, ls, by omega, by omega, hm, hg⟩
 | d + 1, i, ht, ls, B, b, p, m, hd, h0, hi1, hd3, hl, hm, hg, hrd, hb => by
  apply Ok.le (Rgw _ _ _ _ _ _ _ _ _ _)
  refine Ok.bif (fun hc => ?_) (fun hc => ?_)
  ·refine Ok.bnd (Ruo ((rs.length : Nat) : Int) (by omega) hrd (by omega)) fun r1 h1 => ?_
   have hc2 := hg.cnt
   refine Ok.bnd (hg.app (ys := [r1.1.2]) (by rw [hc2]; simp only [Zc, Zn]; omega)) fun B2 hB2 => ?_
   rw [wrap_id (n := i + 1) (by omega) (by omega)]
   exact (Rmq hrs d (i + 1) _ (ls ++ [r1.1.2]) B2 (by omega) (by omega) (by omega) (by omega) (by simp; omega) (mem_add hm h1.2) hB2.1 h1.1 (by omega)).mono fun r hr' => ⟨hr'.1.mono (by omega), hr'.2.1, (let ⟨ls', q1, q0, q2, q3⟩ := hr'.2.2; ⟨ls', by omega, q0, q2, q3⟩)⟩
  ·simp only [decide_eq_false_iff_not] at hc
   exact Ok.of ⟨hrd.mono (by omega), rfl, ls, by omega, by omega, hm, hg⟩
theorem Rrx {b : List Int} {p m : Int} (h : Rd b p m) (hm : m ≤ 999000000) : Ok (Rij b p) fun r => Rd r.2.1 r.2.2 (m + 80000) ∧ r.1.rooms.length ≤ 10 ∧ r.1.tasks.length ≤ 10 ∧ ∀ x ∈ r.1.tasks, mSs x ≤ 10000 := by
 apply Ok.le (Rnk b p)
 refine Ok.bnd (Run h (by omega)) fun r1 h1 => ?_
 refine Ok.bnd (Rar h1.1 (by omega) (by decide)) fun r2 h2 => ?_
 have hk := h2.2.2.1 (by omega)
 rw [wrap_id (n := 1 + r2.1) (by omega) (by omega)]
 have hg : Got .stms [] [] ⟨some (List.length ([] : List Ent)), 0⟩ (Qaq ([] : List Ent) .stms ([] : List (List Stm))) := Got.push (c := .stms) (l := ([] : List (List Stm))) (Ext.refl _ _)
 refine Ok.bnd (Rmq (x0 := false) (l0 := []) (x1 := ⟨none, 0⟩) h1.2 3 0 _ [] _ (by omega) (by omega) (by omega) (by omega) (by simp) (by simp) hg h2.1 (by omega)) fun r3 h3 => ?_
 obtain ⟨h3r, e3, ls, hl, hl1, hms, h3g⟩ := h3
 refine Ok.bnd (Rar h3r (by omega) (by decide)) fun r4 h4 => ?_
 refine Ok.bif (fun _ => ?_) (fun _ => ?_)
 ·refine Ok.bnd (Rts h4.1 (by omega)) fun r5 h5 => ?_
  have hc := h3g.cnt
  obtain ⟨k, hk0⟩ : ∃ k, ls[0]? = some k := ⟨ls[0]'(by omega), List.getElem?_eq_getElem (by omega)⟩
  rw [idxN_eq (by omega) (by omega), Qb, h3g.row (i := (0 : Int).toNat) hk0, Qb]
  have hset := Got.set (i := (0 : Int).toNat) (x := ([⟨r5.1.kind, r5.1.var, r5.1.box, ⟨r5.1.e.op, r5.1.e.n, r5.1.e.args⟩, r5.1.body, r5.1.els⟩] : List Stm)) h3g
  rw [arView_stms, hset.get, Qb]
  have hsz := h5.2
  rw [Rtu, Rme] at hsz
  refine Ok.of ⟨h5.1.mono (by omega), by dsimp only; rw [e3]; exact h1.2, by dsimp only; rw [List.length_set]; omega, ?_⟩
  dsimp only
  exact mem_set hms (by simp only [mSs, Rof]; omega)
 ·rw [arView_stms, h3g.get, Qb]
  refine Ok.of ⟨h4.1.mono (by omega), by dsimp only; rw [e3]; exact h1.2, by dsimp only; omega, hms⟩
theorem Rly {a : List Int} (h : wfBs a) : Ok (Rdc a) fun s => s.length ≤ 15000 := by
 apply Ok.le (Rjs a)
 refine Ok.bnd (open_ok h) fun r1 h1 => ?_
 refine Ok.bnd (Rrx h1 (by omega)) fun r2 h2 => ?_
 obtain ⟨h2r, p1, p2, p3⟩ := h2
 rw [Rlt (by omega) (by omega) (fun x hx => by have := p3 x hx; omega), Qb]
 have hl := Raas r2.1
 generalize pTxt r2.1 = w at hl
 refine Ok.bnd (Rar h2r (by omega) (by decide)) fun r4 h4 => ?_
 refine Ok.bif (fun _ => ?_) (fun _ => ?_)
 ·refine Ok.bnd (of_ok h4.1 (by omega) (by decide) (by decide)) fun r5 h5 => ?_
  have h6 : r5.1.length ≤ 30 := by
   have : ∀ x ∈ ([[32, 116, 97, 115, 107, 32, 123, 32, 125], [32, 125], [59], [32, 116, 97, 115, 107, 32, 123], [10], [32, 98, 111, 120, 32, 49, 32, 59]] : List (List UInt8)), x.length ≤ 30 := by decide
   exact this _ h5.2
  rw [Rhq (by omega), Qb]
  exact Ok.of (by rw [Za]; omega)
 refine Ok.bif (fun _ => ?_) (fun _ => ?_)
 ·rw [wrap_id (n := (w.length : Int) + 1) (by omega) (by omega)]
  refine Ok.bnd (Rar h4.1 (by omega) (by unfold wfI; omega)) fun r7 h7 => ?_
  have hk := h7.2.2.1 (by omega)
  have h0 := h7.2.1
  rw [show cutL w 0 r7.1 = some ((w.take r7.1.toNat).drop 0) from by
   have := Riz (l := w) (lo := 0) (hi := r7.1.toNat) (Nat.zero_le _) (by omega)
   rw [show ((r7.1.toNat : Nat) : Int) = r7.1 by omega] at this
   exact this, Qb, List.drop_zero]
  exact Ok.of (by rw [List.length_take]; omega)
 refine Ok.bif (fun _ => ?_) (fun _ => ?_)
 ·refine Ok.bnd (of_ok h4.1 (by omega) (by decide) (by decide)) fun r9 h9 => ?_
  have h6 : r9.1.length ≤ 60 := by
   have : ∀ x ∈ ([[116, 97, 115, 107, 123, 125], [116, 97, 115, 107, 123, 121, 105, 101, 108, 100, 59, 121, 105, 101, 108, 100, 59, 125], [116, 97, 115, 107, 32, 123, 32, 115, 101, 110, 100, 32, 48, 32, 40, 97, 41, 32, 59, 32, 114, 101, 99, 118, 32, 48, 32, 98, 32, 59, 32, 125], [116, 97, 115, 107, 32, 123, 32, 105, 102, 32, 97, 32, 123, 32, 125, 32, 101, 108, 115, 101, 32, 123, 32, 125, 32, 125], [116, 97, 115, 107, 32, 123, 32, 112, 114, 105, 110, 116, 32, 51], [116, 97, 115, 107, 32, 123, 32, 114, 101, 99, 118, 32, 49, 32, 97, 32, 59, 32, 125], [116, 97, 115, 107, 32, 123, 32, 101, 32, 61, 32, 49, 32, 59, 32, 125]] : List (List UInt8)), x.length ≤ 60 := by decide
   exact this _ h9.2
  rw [Rhq (by simp only [Zc, Zn]; omega), Qb]
  exact Ok.of (by simp only [Za, Zc, Zn]; omega)
 ·exact Ok.of (by omega)
theorem Rmy {l : List (List Stm)} {r r2 : List Int} (hl : (l.length : Int) ≤ 4294967296) (hm : ∀ x ∈ l, mSs x ≤ 4294967296) : ∀ (d i : Nat), i + d = l.length → Rdn i r l r2 l = some (.inl ())
 | 0, i, hd => by
  apply Rgb
  have hi : ¬ ((i : Int) < l.length) := by omega
  simp [hi]
 | d + 1, i, hd => by
  apply Rgb
  have hi : i < l.length := by omega
  have hi' : (i : Int) < l.length := by omega
  have ht := hm _ (List.getElem_mem hi)
  simp only [hi', Zy, Zt, Rbi hi, Qb, Rlq ht, Zv, Zf, Rdk (show (i : Int) < 9223372036854775807 by omega)]
  exact Rmy hl hm d (i + 1) (by omega)
def midP (p : Prg) : Prop := p.rooms.length ≤ 1000000 ∧ p.tasks.length ≤ 1000000 ∧ ∀ x ∈ p.tasks, mSs x ≤ 1000000
theorem Red {p : Prg} (h : midP p) : Rw p p = some true := by
 obtain ⟨h1, h2, h3⟩ := h
 apply Rlp
 rw [Rms (by omega), Qb]
 simp only [Zv, Zf, Zy]
 rw [show (0 : Int) = ((0 : Nat) : Int) by rfl, Rmy (by omega) (fun x hx => by have := h3 x hx; omega) p.tasks.length 0 (by omega), Qb]
 rfl
theorem Rva {s : List UInt8} {p : Prg} (h : Prm s p) : midP p := by
 obtain ⟨hl, ⟨t, ht, hp⟩, _⟩ := h
 have := Rue ht
 obtain ⟨a, b, c⟩ := Rxc hp 40000 (by omega)
 exact ⟨by omega, by omega, fun x hx => by have := c x hx; omega⟩
theorem Prm_det {s : List UInt8} {p q : Prg} (h1 : Prm s p) (h2 : Prm s q) : p = q := by
 obtain ⟨_, ⟨t, ht, hp⟩, _⟩ := h1
 obtain ⟨_, ⟨t', ht', hq⟩, _⟩ := h2
 rw [ht] at ht'; injection ht' with ht'; subst ht'
 exact Ruz hp hq
theorem Rzz {s : List UInt8} {p : Prg} (h : Prm s p) : Rq s = some (p, true) := by
 rcases impl_pf s with ⟨q, hq, h1⟩ | ⟨hn, _⟩
 ·rw [Prm_det h hq]; exact h1
 ·exact absurd h (hn p)
theorem Rzi : Rw (⟨[], []⟩ : Prg) (⟨[], []⟩ : Prg) = some true := Red ⟨by simp, by simp, by simp⟩
theorem Raal {a : List Int} (h : wfBs a) {F : List UInt8 → Prg → Option Bool} (hF : ∀ s p, s.length ≤ 15000 → Prm s p → Ok (F s p) fun r => r = true) :
  Ok (bif (decide (1048576 < (a.length : Int))) then some true else
   bnd (Rdc a) fun r1 => bnd (Rq r1) fun r2 => bnd (Rbp r1) fun r3 =>
   (bif (!(r2.2 == r3.2)) then (bif (r2.2 == r3.2) then bnd (Rw r2.1 r3.1) fun r4 => some r4 else some false) else
   bnd (Rw r2.1 r3.1) fun r5 =>
   (bif (!r5) then (bif (r2.2 == r3.2) then bnd (Rw r2.1 r3.1) fun r6 => some r6 else some false) else
   (bif (!r2.2) then (bif (r2.2 == r3.2) then bnd (Rw r2.1 r3.1) fun r7 => some r7 else some false) else F r1 r2.1)))) fun r => r = true := by
 refine Ok.bif (fun _ => Ok.of rfl) (fun _ => ?_)
 refine Ok.bnd (Rly h) fun s hs => ?_
 rcases pf_all s with ⟨p, hp, h1, h2⟩ | ⟨_, h1, h2⟩
 ·rw [h1, Qb, h2, Qb]
  simp only [beq_self_eq_true, Zv, Zf, Red (Rva hp), Qb]
  exact hF s p hs hp
 ·rw [h1, Qb, h2, Qb]
  simp only [beq_self_eq_true, Zv, Zx, Zf, Zt, Rzi, Qb]
  exact Ok.of rfl
theorem laws_FnSourceFrom_eq (a : List Int) (h : wfBs a) : laws_FnSourceFrom a = some true := by
 apply Rkx
 apply Ok.some
 refine Raal h (F := fun r1 r2 => bnd (Ret r2) fun r8 =>
  bnd (Rq r8) fun r9 =>
  bnd (Rv r2) fun r10 =>
  (bif r10 then (bif r9.2 then bnd (Rw r9.1 r2) fun r11 => some r11 else some false) else some false)) (fun s p hs hp => ?_)
 have ho := hp.2.2
 obtain ⟨p1, p2, p3⟩ := Rva hp
 have hm : ∀ x ∈ p.tasks, mSs x ≤ 4294967296 := fun x hx => by have := p3 x hx; omega
 obtain ⟨hpr, hl⟩ := Rwo ho
 rw [Rli (by omega) (by omega) hm, Qb, Rzz hpr, Qb, Rdb (by omega) (by omega) hm, Qb, ho]
 simp only [Zt]
 rw [Red (Rva hpr), Qb]
 exact Ok.of rfl
end Go.TFnSourceFrom