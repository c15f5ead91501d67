/- The plain law: what the functions answer. -/
import Derived.Test.YthmemaednlaanaaGreatDoorGFnSourceBlank
import Derived.Test.YthmemaednlaanaaGreatDoorDFnSourceBlankE0
import Derived.Test.YthmemaednlaanaaGreatDoorDFnSourceBlankE1
import Derived.Test.YthmemaednlaanaaGreatDoorDFnSourceBlankE2
import Derived.Test.YthmemaednlaanaaGreatDoorLkA
import Derived.Lib.ItoaLen
import Derived.Test.YthmemaednlaanaaGreatDoorLkU
set_option linter.unusedVariables false
set_option linter.unusedSimpArgs false
namespace Go.TFnSourceBlank
open Go Go.RowKit Go.Vs Go.Tv
theorem Rln {l : List Int} (hl : (l.length : Int) ≤ 4294967296) : Rha l = some (Rdy l && decide ((l.length : Int) ≤ 3)) := by
 apply Rlo
 have h : Rcg l l (l.length : Int) 0 = _ := Rnx hl l.length 0 (by omega)
 rw [h, Qb, List.drop_zero]
 cases Rdy l <;> simp [selm]
theorem Roe {l : List Int} (hl : (l.length : Int) ≤ 4294967296) : ∀ (d i : Nat), i + d = l.length → Rde l i = some (if Rdy (l.drop i) then .inl l else .inr (l, false))
 | 0, i, hd => by
  apply Rhl
  have hi : ¬ ((i : Int) < l.length) := by omega
  rw [List.drop_eq_nil_of_le (by omega)]
  simp [hi, Rdy]
 | d + 1, i, hd => by
  apply Rhl
  have hi : i < l.length := by omega
  have hi' : (i : Int) < l.length := by omega
  rw [Rny hi]
  simp only [hi', Zy, Zt, Rbe hi, Qb, Rdt, Rcz (show (i : Int) < 9223372036854775807 by omega), Roe hl d (i + 1) (by omega)]
  by_cases h1 : 1 ≤ l[i] ∧ l[i] ≤ 4 <;> simp [h1]
theorem Ror {l : List Int} (hl : (l.length : Int) ≤ 4294967296) : Rjd l = some (Rdy l && decide ((l.length : Int) ≤ 3)) := by
 apply Ros
 have h : Rde l 0 = _ := Roe hl l.length 0 (by omega)
 rw [h, Qb, List.drop_zero]
 cases Rdy l <;> simp [selm]
def lsOk (n : Int) (l : List (List Stm)) : Bool := l.all fun x => stOk x && bSs n x
theorem Rte {n : Int} {l : List (List Stm)} {i : Nat} (hi : i < l.length) : lsOk n (l.drop i) = ((stOk l[i] && bSs n l[i]) && lsOk n (l.drop (i + 1))) := by
 unfold lsOk; rw [List.drop_eq_getElem_cons hi, List.all_cons]
theorem Rnw {r : List Int} (hr : (r.length : Int) ≤ 3) {l : List (List Stm)} (hl : (l.length : Int) ≤ 4294967296) (hm : ∀ x ∈ l, mSs x ≤ 4294967296) : ∀ (d i : Nat), i + d = l.length → Rbm l l.length i r l = some (if lsOk r.length (l.drop i) then .inl () else .inr false)
 | 0, i, hd => by
  apply Rfb
  have hi : ¬ ((i : Int) < l.length) := by omega
  rw [List.drop_eq_nil_of_le (by omega)]
  simp [hi, lsOk]
 | d + 1, i, hd => by
  apply Rfb
  have hi : i < l.length := by omega
  have hi' : (i : Int) < l.length := by omega
  rw [Rte hi]
  simp only [hi', Zy, Zt, Rbe hi, Qb, Rnb (show (0 : Int) ≤ (r.length : Int) ∧ (r.length : Int) ≤ 3 by omega) _ (hm _ (List.getElem_mem hi)), Rcz (show (i : Int) < 9223372036854775807 by omega), Rnw hr hl hm d (i + 1) (by omega)]
  cases stOk l[i] && bSs (r.length : Int) l[i] <;> simp
theorem Rod {r : List Int} {l : List (List Stm)} (hl : (l.length : Int) ≤ 4294967296) (hm : ∀ x ∈ l, mSs x ≤ 4294967296) : ∀ (d i : Nat), i + d = l.length → Rbn i r l = some (if lsOk r.length (l.drop i) then .inl () else .inr false)
 | 0, i, hd => by
  apply Rfe
  have hi : ¬ ((i : Int) < l.length) := by omega
  rw [List.drop_eq_nil_of_le (by omega)]
  simp [hi, lsOk]
 | d + 1, i, hd => by
  apply Rfe
  have hi : i < l.length := by omega
  have hi' : (i : Int) < l.length := by omega
  rw [Rte hi]
  simp only [hi', Zy, Zt, Rbe hi, Qb, Rmb _ (hm _ (List.getElem_mem hi)), Rop (hm _ (List.getElem_mem hi)), Rcz (show (i : Int) < 9223372036854775807 by omega), Rod hl hm d (i + 1) (by omega)]
  cases stOk l[i] <;> cases bSs (r.length : Int) l[i] <;> simp
def Rev (p : Prg) : Bool := (Rdy p.rooms && decide ((p.rooms.length : Int) ≤ 3)) && decide (1 ≤ (p.tasks.length : Int) ∧ (p.tasks.length : Int) ≤ 3) && lsOk p.rooms.length p.tasks
theorem Rgo {p : Prg} (hr : (p.rooms.length : Int) ≤ 4294967296) (hl : (p.tasks.length : Int) ≤ 4294967296) (hm : ∀ x ∈ p.tasks, mSs x ≤ 4294967296) : Ran p = some (Rev p) := by
 apply Rkj
 rw [Rln hr, Qb]
 unfold Rev
 by_cases h3 : (p.rooms.length : Int) ≤ 3
 ·have h : Rbm p.tasks (p.tasks.length : Int) 0 p.rooms p.tasks = _ := Rnw h3 hl hm p.tasks.length 0 (by omega)
  rw [h, Qb, List.drop_zero]
  cases Rdy p.rooms
  ·simp
  by_cases h1 : (p.tasks.length : Int) < 1
  ·have : ¬ (1 ≤ (p.tasks.length : Int) ∧ (p.tasks.length : Int) ≤ 3) := by omega
   simp only [this, h1, h3, Zy, Zz, Bool.and_true, Zv, Zf, Zt, Bool.and_false, Bool.false_and]
  by_cases h2 : 3 < (p.tasks.length : Int)
  ·have : ¬ (1 ≤ (p.tasks.length : Int) ∧ (p.tasks.length : Int) ≤ 3) := by omega
   simp only [this, h1, h2, h3, Zy, Zz, Bool.and_true, Zv, Zf, Zt, Bool.and_false, Bool.false_and]
  ·have : 1 ≤ (p.tasks.length : Int) ∧ (p.tasks.length : Int) ≤ 3 := by omega
   simp only [this, h1, h2, h3, Zy, Zz, Bool.and_true, Bool.true_and, Zv, Zf, and_self]
   cases lsOk (p.rooms.length : Int) p.tasks <;> simp [selm]
 ·simp [h3]
theorem Rgr {p : Prg} (hr : (p.rooms.length : Int) ≤ 4294967296) (hl : (p.tasks.length : Int) ≤ 4294967296) (hm : ∀ x ∈ p.tasks, mSs x ≤ 4294967296) : Rbb p = some (Rev p) := by
 apply Rkl
 have h : Rbn 0 p.rooms p.tasks = _ := Rod hl hm p.tasks.length 0 (by omega)
 rw [Ror hr, Qb, Rdt, Qb, h, Qb, List.drop_zero]
 unfold Rev
 cases Rdy p.rooms && decide ((p.rooms.length : Int) ≤ 3)
 ·simp
 by_cases h1 : 1 ≤ (p.tasks.length : Int) ∧ (p.tasks.length : Int) ≤ 3
 ·simp only [h1, and_self, Zy, Zv, Zf, Bool.true_and]
  cases lsOk (p.rooms.length : Int) p.tasks <;> simp [selm]
 ·simp only [h1, Zz, Zx, Zt, Zv, Zf, Bool.and_false, Bool.false_and]
theorem mem_add {ls : List (List Stm)} {l : List Stm} {n : Nat} (h : ∀ x ∈ ls, mSs x ≤ n) (hl : mSs l ≤ n) : ∀ x ∈ ls ++ [l], mSs x ≤ n := by
 intro x hx
 rcases List.mem_append.1 hx with hx | hx
 ·exact h x hx
 ·rw [List.mem_singleton.1 hx]; exact hl
theorem mem_set {ls : List (List Stm)} {l : List Stm} {n i : Nat} (h : ∀ x ∈ ls, mSs x ≤ n) (hl : mSs l ≤ n) : ∀ x ∈ ls.set i l, mSs x ≤ n := by
 intro x hx
 rcases List.mem_or_eq_of_mem_set hx with hx | rfl
 ·exact h x hx
 ·exact hl
theorem Ryn : ∀ {j : J} {l : List Tok} {o : Out}, P j l o → ∀ o', P j l o' → o = o' := by
 intro j l o h
 induction h with
 | nil => intro o' h'; cases h'; rfl
 | atom h1 h2 =>
  intro o' h'
  cases h' with
  | atom h3 h4 => rw [h2] at h4; injection h4 with h4; rw [h4]
  | bad h3 h4 => rw [h2] at h4; cases h4
  | _ => exact absurd rfl h1
 | bad h1 h2 =>
  intro o' h'
  cases h' with
  | atom h3 h4 => rw [h2] at h4; cases h4
  | bad h3 h4 => rfl
  | _ => exact absurd rfl h1
 | par h ih =>
  intro o' h'
  cases h' with
  | atom h3 h4 => exact absurd rfl h3
  | bad h3 h4 => exact absurd rfl h3
  | par h3 => have := ih _ h3; injection this with this; injection this with a b; injection b with b c; rw [a, c]
  | parN h3 => have := ih _ h3; cases this
  | parE h3 => have := ih _ h3; cases this
  | parB h3 h4 => have := ih _ h3; injection this with this; injection this with a b; injection b with b c; exact absurd b.symm h4
 | parN h ih =>
  intro o' h'
  cases h' with
  | atom h3 h4 => exact absurd rfl h3
  | bad h3 h4 => exact absurd rfl h3
  | par h3 => have := ih _ h3; cases this
  | _ => rfl
 | parE h ih =>
  intro o' h'
  cases h' with
  | atom h3 h4 => exact absurd rfl h3
  | bad h3 h4 => exact absurd rfl h3
  | par h3 => have := ih _ h3; cases this
  | _ => rfl
 | parB h hn ih =>
  intro o' h'
  cases h' with
  | atom h3 h4 => exact absurd rfl h3
  | bad h3 h4 => exact absurd rfl h3
  | par h3 => have := ih _ h3; injection this with this; injection this with a b; injection b with b c; exact absurd b hn
  | _ => rfl
 | top hk h ih =>
  intro o' h'
  cases h' with
  | top h3 h4 => exact ih _ h4
  | levN h3 h4 => omega
  | levS h3 h4 h5 => omega
 | levN hk h ih =>
  intro o' h'
  cases h' with
  | top h3 h4 => omega
  | levN h3 h4 => rfl
  | levS h3 h4 h5 => have := ih _ h4; cases this
 | levS hk h1 h2 ih1 ih2 =>
  intro o' h'
  cases h' with
  | top h3 h4 => omega
  | levN h3 h4 => have := ih1 _ h4; cases this
  | levS h3 h4 h5 =>
   have := ih1 _ h4; injection this with this; injection this with a b
   subst a b
   exact ih2 _ h5
 | stop hn =>
  intro o' h'
  cases h' with
  | stop h3 => rfl
  | step h3 h4 h5 => exact absurd h3 hn
  | stepN h3 h4 => exact absurd h3 hn
 | step hl h1 h2 ih1 ih2 =>
  intro o' h'
  cases h' with
  | stop h3 => exact absurd hl h3
  | step h3 h4 h5 =>
   have := ih1 _ h4; injection this with this; injection this with a b
   subst a b
   exact ih2 _ h5
  | stepN h3 h4 => have := ih1 _ h4; cases this
 | stepN hl h ih =>
  intro o' h'
  cases h' with
  | stop h3 => exact absurd hl h3
  | step h3 h4 h5 => have := ih _ h4; cases this
  | stepN h3 h4 => rfl
noncomputable def ex1 (l : List Tok) : Out := Classical.choose (Rmv (l.length + 1) (.lev 1) l (Nat.le_refl 1) (Nat.lt_succ_self _))
theorem Rvh (l : List Tok) : P (.lev 1) l (ex1 l) := Classical.choose_spec (Rmv (l.length + 1) (.lev 1) l (Nat.le_refl 1) (Nat.lt_succ_self _))
theorem ex1_is {l : List Tok} {o : Out} (h : P (.lev 1) l o) : ex1 l = o := Ryn (Rvh l) o h
theorem Rit {l : List Tok} {e : Exp} {r : List Tok} (h : ex1 l = some (e, r)) : (∃ p, l = p ++ r) ∧ r.length < l.length := Rtm (h ▸ Rvh l) e r rfl
def kIf : Tok := [105, 102]
def Rcq : Tok := [119, 104, 105, 108, 101]
def Rik : Tok := [115, 101, 110, 100]
def Rjo : Tok := [114, 101, 99, 118]
def Rgp : Tok := [121, 105, 101, 108, 100]
def Rga : Tok := [112, 114, 105, 110, 116]
def Rfo : Tok := [101, 108, 115, 101]
def kBox : Tok := [98, 111, 120]
def Rjl : Tok := [116, 97, 115, 107]
def kL : Tok := [123]
def kR : Tok := [125]
def kS : Tok := [59]
def kE : Tok := [61]
def nd (k : Tok) : List Tok → Option (List Tok)
 | t :: l => if t = k then some l else none
 | [] => none
def nu : List Tok → Option (Int × List Tok)
 | t :: l => if 0 ≤ numV t then some (numV t, l) else none
 | [] => none
def va : List Tok → Option (Int × List Tok)
 | t :: l => if 0 ≤ varV t then some (varV t, l) else none
 | [] => none
noncomputable def en (l : List Tok) : Out := (ex1 l).bind fun p => (nd kS p.2).map fun r => (p.1, r)
abbrev GO := Option (List Stm × List Tok)
noncomputable def smp : List Tok → GO
 | [] => none
 | t :: l =>
  if t = Rik then (nu l).bind fun p => (en p.2).map fun q => ([⟨4, 0, p.1, q.1, [], []⟩], q.2)
  else if t = Rjo then (nu l).bind fun p => (va p.2).bind fun q => (nd kS q.2).map fun r => ([⟨5, q.1, p.1, ⟨0, 0, []⟩, [], []⟩], r)
  else if t = Rgp then (nd kS l).map fun r => ([⟨6, 0, 0, ⟨0, 0, []⟩, [], []⟩], r)
  else if t = Rga then (en l).map fun q => ([⟨7, 0, 0, q.1, [], []⟩], q.2)
  else (va (t :: l)).bind fun p => (nd kE p.2).bind fun r => (en r).map fun q => ([⟨1, p.1, 0, q.1, [], []⟩], q.2)
inductive K where
 | st
 | bk
 | lp (acc : List Stm)
inductive G : K → List Tok → GO → Prop
 | bk0 {l : List Tok} : nd kL l = none → G .bk l none
 | bk {l : List Tok} {o : GO} : G (.lp []) l o → G .bk (kL :: l) o
 | lpE {a : List Stm} : G (.lp a) [] none
 | lpS {a : List Stm} {l : List Tok} : G (.lp a) (kR :: l) (some (a, l))
 | lpN {a : List Stm} {t : Tok} {l : List Tok} : t ≠ kR → G .st (t :: l) none → G (.lp a) (t :: l) none
 | lpC {a : List Stm} {t : Tok} {l r : List Tok} {s : Stm} {o : GO} : t ≠ kR → G .st (t :: l) (some ([s], r)) → G (.lp (a ++ [s])) r o → G (.lp a) (t :: l) o
 | smp {t : Tok} {l : List Tok} {o : GO} : t ≠ kIf → t ≠ Rcq → smp (t :: l) = o → G .st (t :: l) o
 | ifN {l : List Tok} : ex1 l = none → G .st (kIf :: l) none
 | ifB {l r : List Tok} {e : Exp} : ex1 l = some (e, r) → G .bk r none → G .st (kIf :: l) none
 | if1 {l r r2 : List Tok} {e : Exp} {b : List Stm} : ex1 l = some (e, r) → G .bk r (some (b, r2)) → nd Rfo r2 = none → G .st (kIf :: l) (some ([⟨2, 0, 0, e, b, []⟩], r2))
 | if2 {l r r2 r3 : List Tok} {e : Exp} {b c : List Stm} : ex1 l = some (e, r) → G .bk r (some (b, Rfo :: r2)) → G .bk r2 (some (c, r3)) → G .st (kIf :: l) (some ([⟨2, 0, 0, e, b, c⟩], r3))
 | if3 {l r r2 : List Tok} {e : Exp} {b : List Stm} : ex1 l = some (e, r) → G .bk r (some (b, Rfo :: r2)) → G .bk r2 none → G .st (kIf :: l) none
 | whN {l : List Tok} : ex1 l = none → G .st (Rcq :: l) none
 | whB {l r : List Tok} {e : Exp} : ex1 l = some (e, r) → G .bk r none → G .st (Rcq :: l) none
 | wh {l r r2 : List Tok} {e : Exp} {b : List Stm} : ex1 l = some (e, r) → G .bk r (some (b, r2)) → G .st (Rcq :: l) (some ([⟨3, 0, 0, e, b, []⟩], r2))
theorem Rdp {k : Tok} {l r : List Tok} (h : nd k l = some r) : l = k :: r := by
 cases l with
 | nil => cases h
 | cons t l =>
  simp only [nd] at h
  split at h
  ·rename_i hk; injection h with h; rw [hk, h]
  ·cases h
theorem Rla {l r : List Tok} {n : Int} (h : nu l = some (n, r)) : ∃ t, l = t :: r ∧ 0 ≤ numV t ∧ n = numV t := by
 cases l with
 | nil => cases h
 | cons t l =>
  simp only [nu] at h
  split at h
  ·rename_i hk; injection h with h; injection h with a b; subst a b; exact ⟨t, rfl, hk, rfl⟩
  ·cases h
theorem Rtx {l r : List Tok} {n : Int} (h : va l = some (n, r)) : ∃ t, l = t :: r ∧ 0 ≤ varV t ∧ n = varV t := by
 cases l with
 | nil => cases h
 | cons t l =>
  simp only [va] at h
  split at h
  ·rename_i hk; injection h with h; injection h with a b; subst a b; exact ⟨t, rfl, hk, rfl⟩
  ·cases h
theorem Rtr {l r : List Tok} {e : Exp} (h : en l = some (e, r)) : ex1 l = some (e, kS :: r) := by
 unfold en at h
 cases hx : ex1 l with
 | none => rw [hx] at h; cases h
 | some p =>
  rw [hx] at h
  simp only [Option.bind_some, Option.map_eq_some_iff] at h
  obtain ⟨q, h1, h2⟩ := h
  injection h2 with a b
  subst a b
  have := Rdp h1
  rw [← this]
theorem Rsn {t : Tok} {l r : List Tok} {b : List Stm} (h : smp (t :: l) = some (b, r)) : ∃ s, b = [s] ∧
    ((∃ u e, t = Rik ∧ 0 ≤ numV u ∧ (∃ r1, l = u :: r1 ∧ ex1 r1 = some (e, kS :: r)) ∧ s = ⟨4, 0, numV u, e, [], []⟩) ∨
     (∃ u w, t = Rjo ∧ 0 ≤ numV u ∧ 0 ≤ varV w ∧ l = u :: w :: kS :: r ∧ s = ⟨5, varV w, numV u, ⟨0, 0, []⟩, [], []⟩) ∨
     (t = Rgp ∧ l = kS :: r ∧ s = ⟨6, 0, 0, ⟨0, 0, []⟩, [], []⟩) ∨
     (∃ e, t = Rga ∧ ex1 l = some (e, kS :: r) ∧ s = ⟨7, 0, 0, e, [], []⟩) ∨
     (∃ e, t ≠ Rik ∧ t ≠ Rjo ∧ t ≠ Rgp ∧ t ≠ Rga ∧ 0 ≤ varV t ∧ (∃ r1, l = kE :: r1 ∧ ex1 r1 = some (e, kS :: r)) ∧ s = ⟨1, varV t, 0, e, [], []⟩)) := by
  simp only [smp] at h
  split at h
  · rename_i hk
    cases h1 : nu l with
    | none => rw [h1] at h; cases h
    | some p =>
      obtain ⟨n, l1⟩ := p
      rw [h1] at h
      simp only [Option.bind_some, Option.map_eq_some_iff] at h
      obtain ⟨⟨e, r1⟩, h2, h3⟩ := h
      injection h3 with a b
      subst a b
      obtain ⟨u, rfl, hu, rfl⟩ := Rla h1
      exact ⟨_, rfl, Or.inl ⟨u, e, hk, hu, ⟨_, rfl, Rtr h2⟩, rfl⟩⟩
  · split at h
    · rename_i hk
      cases h1 : nu l with
      | none => rw [h1] at h; cases h
      | some p =>
        obtain ⟨n, l1⟩ := p
        rw [h1] at h
        simp only [Option.bind_some] at h
        cases h2 : va l1 with
        | none => rw [h2] at h; cases h
        | some q =>
          obtain ⟨v, l2⟩ := q
          rw [h2] at h
          simp only [Option.bind_some, Option.map_eq_some_iff] at h
          obtain ⟨r1, h3, h4⟩ := h
          injection h4 with a b
          subst a b
          obtain ⟨u, rfl, hu, rfl⟩ := Rla h1
          obtain ⟨w, rfl, hw, rfl⟩ := Rtx h2
          have := Rdp h3
          subst this
          exact ⟨_, rfl, Or.inr (Or.inl ⟨u, w, hk, hu, hw, rfl, rfl⟩)⟩
    · split at h
      · rename_i hk
        simp only [Option.map_eq_some_iff] at h
        obtain ⟨r1, h3, h4⟩ := h
        injection h4 with a b
        subst a b
        exact ⟨_, rfl, Or.inr (Or.inr (Or.inl ⟨hk, Rdp h3, rfl⟩))⟩
      · split at h
        · rename_i hk
          simp only [Option.map_eq_some_iff] at h
          obtain ⟨⟨e, r1⟩, h3, h4⟩ := h
          injection h4 with a b
          subst a b
          exact ⟨_, rfl, Or.inr (Or.inr (Or.inr (Or.inl ⟨e, hk, Rtr h3, rfl⟩)))⟩
        · rename_i k1 k2 k3 k4
          cases h1 : va (t :: l) with
          | none => rw [h1] at h; cases h
          | some p =>
            obtain ⟨v, l1⟩ := p
            rw [h1] at h
            simp only [Option.bind_some] at h
            cases h2 : nd kE l1 with
            | none => rw [h2] at h; cases h
            | some q =>
              rw [h2] at h
              simp only [Option.bind_some, Option.map_eq_some_iff] at h
              obtain ⟨⟨e, r1⟩, h3, h4⟩ := h
              injection h4 with a b
              subst a b
              obtain ⟨u, hu1, hu, rfl⟩ := Rtx h1
              injection hu1 with a b
              subst a b
              have := Rdp h2
              exact ⟨_, rfl, Or.inr (Or.inr (Or.inr (Or.inr ⟨e, k1, k2, k3, k4, hu, ⟨_, this, Rtr h3⟩, rfl⟩)))⟩
theorem Rav (k : Tok) (l : List Tok) : nd k (k :: l) = some l := by simp [nd]
theorem Rnj {u : Tok} (h : 0 ≤ numV u) (l : List Tok) : nu (u :: l) = some (numV u, l) := by simp only [nu]; rw [if_pos h]
theorem Rqj {u : Tok} (h : 0 ≤ varV u) (l : List Tok) : va (u :: l) = some (varV u, l) := by simp only [va]; rw [if_pos h]
theorem Rtq {l r : List Tok} {e : Exp} (h : ex1 l = some (e, kS :: r)) : en l = some (e, r) := by unfold en; rw [h]; simp [Rav]
theorem Rzh {u : Tok} {l r : List Tok} {e : Exp} (hu : 0 ≤ numV u) (h : ex1 l = some (e, kS :: r)) : smp (Rik :: u :: l) = some ([⟨4, 0, numV u, e, [], []⟩], r) := by
 simp only [smp, if_true]; rw [Rnj hu]; simp [Rtq h]
theorem Rzg {u w : Tok} (r : List Tok) (hu : 0 ≤ numV u) (hw : 0 ≤ varV w) : smp (Rjo :: u :: w :: kS :: r) = some ([⟨5, varV w, numV u, ⟨0, 0, []⟩, [], []⟩], r) := by
 simp only [smp, if_true]; rw [if_neg (by decide), Rnj hu]; simp [Rqj hw, Rav]
theorem Rxz (r : List Tok) : smp (Rgp :: kS :: r) = some ([⟨6, 0, 0, ⟨0, 0, []⟩, [], []⟩], r) := by
 simp only [smp, if_true]; rw [if_neg (by decide), if_neg (by decide), Rav]; rfl
theorem Rxy {l r : List Tok} {e : Exp} (h : ex1 l = some (e, kS :: r)) : smp (Rga :: l) = some ([⟨7, 0, 0, e, [], []⟩], r) := by
 simp only [smp, if_true]; rw [if_neg (by decide), if_neg (by decide), if_neg (by decide), Rtq h]; rfl
theorem smp_set {t : Tok} {l r : List Tok} {e : Exp} (hv : 0 ≤ varV t) (h : ex1 l = some (e, kS :: r)) : smp (t :: kE :: l) = some ([⟨1, varV t, 0, e, [], []⟩], r) := by
 have hk : ∀ k : Tok, varV k = -1 → t ≠ k := by intro k h1 h2; rw [h2, h1] at hv; omega
 simp only [smp]; rw [if_neg (hk _ rfl), if_neg (hk _ rfl), if_neg (hk _ rfl), if_neg (hk _ rfl), Rqj hv]; simp [Rav, Rtq h]
theorem smp_suf {t : Tok} {l r : List Tok} {b : List Stm} (h : smp (t :: l) = some (b, r)) : (∃ p, t :: l = p ++ r) ∧ r.length < (t :: l).length := by
 obtain ⟨s, rfl, hh⟩ := Rsn h
 clear h
 rcases hh with ⟨u, e, rfl, hu, ⟨r1, rfl, h⟩, rfl⟩ | ⟨u, w, rfl, hu, hw, rfl, rfl⟩ | ⟨rfl, rfl, rfl⟩ | ⟨e, rfl, h, rfl⟩ | ⟨e, _, _, _, _, hv, ⟨r1, rfl, h⟩, rfl⟩
 ·obtain ⟨⟨p, hp⟩, hl⟩ := Rit h
  exact ⟨⟨Rik :: u :: p ++ [kS], by rw [hp]; simp⟩, by simp only [Zc] at *; omega⟩
 ·exact ⟨⟨[Rjo, u, w, kS], rfl⟩, by simp only [Zc]; omega⟩
 ·exact ⟨⟨[Rgp, kS], rfl⟩, by simp only [Zc]; omega⟩
 ·obtain ⟨⟨p, hp⟩, hl⟩ := Rit h
  exact ⟨⟨Rga :: p ++ [kS], by rw [hp]; simp⟩, by simp only [Zc] at *; omega⟩
 ·obtain ⟨⟨p, hp⟩, hl⟩ := Rit h
  exact ⟨⟨t :: kE :: p ++ [kS], by rw [hp]; simp⟩, by simp only [Zc] at *; omega⟩
theorem Rlh : ∀ {j : K} {l : List Tok} {o : GO}, G j l o → ∀ b r, o = some (b, r) → (∃ p, l = p ++ r) ∧ r.length < l.length := by
 intro j l o h
 induction h with
 | bk0 _ => intro b r ho; cases ho
 | bk h ih =>
  intro b r ho
  obtain ⟨⟨p, hp⟩, hl⟩ := ih b r ho
  exact ⟨⟨kL :: p, by rw [hp]; rfl⟩, by simp only [Zc]; omega⟩
 | lpE => intro b r ho; cases ho
 | lpS => intro b r ho; injection ho with ho; injection ho with a c; subst a c; exact ⟨⟨[kR], rfl⟩, by simp⟩
 | lpN _ _ _ => intro b r ho; cases ho
 | lpC _ _ _ ih1 ih2 =>
  intro b r ho
  obtain ⟨⟨p, hp⟩, hl⟩ := ih1 _ _ rfl
  obtain ⟨⟨q, hq⟩, hl2⟩ := ih2 b r ho
  exact ⟨⟨p ++ q, by rw [hp, hq, List.append_assoc]⟩, by omega⟩
 | smp _ _ h => intro b r ho; rw [ho] at h; exact smp_suf h
 | ifN _ => intro b r ho; cases ho
 | ifB _ _ _ => intro b r ho; cases ho
 | if1 h1 _ _ ih =>
  intro b r ho
  injection ho with ho; injection ho with a c; subst a c
  obtain ⟨⟨p, hp⟩, hl⟩ := Rit h1
  obtain ⟨⟨q, hq⟩, hl2⟩ := ih _ _ rfl
  exact ⟨⟨kIf :: p ++ q, by rw [hp, hq]; simp⟩, by simp only [Zc]; omega⟩
 | if2 h1 _ _ ih ih2 =>
  intro b r ho
  injection ho with ho; injection ho with a c; subst a c
  obtain ⟨⟨p, hp⟩, hl⟩ := Rit h1
  obtain ⟨⟨q, hq⟩, hl2⟩ := ih _ _ rfl
  obtain ⟨⟨q2, hq2⟩, hl3⟩ := ih2 _ _ rfl
  exact ⟨⟨kIf :: p ++ q ++ Rfo :: q2, by rw [hp, hq, hq2]; simp⟩, by simp only [Zc] at *; omega⟩
 | if3 _ _ _ _ _ => intro b r ho; cases ho
 | whN _ => intro b r ho; cases ho
 | whB _ _ _ => intro b r ho; cases ho
 | wh h1 _ ih =>
  intro b r ho
  injection ho with ho; injection ho with a c; subst a c
  obtain ⟨⟨p, hp⟩, hl⟩ := Rit h1
  obtain ⟨⟨q, hq⟩, hl2⟩ := ih _ _ rfl
  exact ⟨⟨Rcq :: p ++ q, by rw [hp, hq]; simp⟩, by simp only [Zc]; omega⟩
theorem G_one : ∀ {j : K} {l : List Tok} {o : GO}, G j l o → j = .st → ∀ b r, o = some (b, r) → ∃ s, b = [s] := by
 intro j l o h
 cases h with
 | smp _ _ h =>
  intro _ b r ho
  rw [ho] at h
  obtain ⟨s, hs, _⟩ := Rsn h
  exact ⟨s, hs⟩
 | if1 _ _ _ => intro _ b r ho; injection ho with ho; injection ho with a c; exact ⟨_, a.symm⟩
 | if2 _ _ _ => intro _ b r ho; injection ho with ho; injection ho with a c; exact ⟨_, a.symm⟩
 | wh _ _ => intro _ b r ho; injection ho with ho; injection ho with a c; exact ⟨_, a.symm⟩
 | ifN _ => intro _ b r ho; cases ho
 | ifB _ _ => intro _ b r ho; cases ho
 | if3 _ _ _ => intro _ b r ho; cases ho
 | whN _ => intro _ b r ho; cases ho
 | whB _ _ => intro _ b r ho; cases ho
 | _ => intro hj; cases hj
theorem Rhw {k : Tok} {l : List Tok} : nd k (k :: l) ≠ none := by rw [Rav]; simp
theorem G_det : ∀ {j : K} {l : List Tok} {o : GO}, G j l o → ∀ o', G j l o' → o = o' := by
 intro j l o h
 induction h with
 | bk0 h => intro o' h'; cases h' with | bk0 _ => rfl | bk _ => exact absurd h Rhw
 | bk h ih => intro o' h'; cases h' with | bk0 h2 => exact absurd h2 Rhw | bk h2 => exact ih _ h2
 | lpE => intro o' h'; cases h'; rfl
 | lpS => intro o' h'; cases h' with | lpS => rfl | lpN h _ => exact absurd rfl h | lpC h _ _ => exact absurd rfl h
 | lpN h1 h2 ih =>
  intro o' h'
  cases h' with
  | lpS => exact absurd rfl h1
  | lpN _ _ => rfl
  | lpC _ h3 _ => have := ih _ h3; cases this
 | lpC h1 h2 h3 ih1 ih2 =>
  intro o' h'
  cases h' with
  | lpS => exact absurd rfl h1
  | lpN _ h4 => have := ih1 _ h4; cases this
  | lpC _ h4 h5 =>
   have := ih1 _ h4
   injection this with this; injection this with a b; injection a with a
   subst a b
   exact ih2 _ h5
 | smp h1 h2 h =>
  intro o' h'
  cases h' with
  | smp _ _ h3 => rw [← h, h3]
  | ifN _ => exact absurd rfl h1
  | ifB _ _ => exact absurd rfl h1
  | if1 _ _ _ => exact absurd rfl h1
  | if2 _ _ _ => exact absurd rfl h1
  | if3 _ _ _ => exact absurd rfl h1
  | whN _ => exact absurd rfl h2
  | whB _ _ => exact absurd rfl h2
  | wh _ _ => exact absurd rfl h2
 | ifN h =>
  intro o' h'
  cases h' with
  | smp h3 _ _ => exact absurd rfl h3
  | if1 h3 _ _ => rw [h] at h3; cases h3
  | if2 h3 _ _ => rw [h] at h3; cases h3
  | _ => rfl
 | ifB h hb ih =>
  intro o' h'
  cases h' with
  | smp h3 _ _ => exact absurd rfl h3
  | if1 h3 h4 _ => rw [h] at h3; injection h3 with h3; injection h3 with a b; subst a b; have := ih _ h4; cases this
  | if2 h3 h4 _ => rw [h] at h3; injection h3 with h3; injection h3 with a b; subst a b; have := ih _ h4; cases this
  | _ => rfl
 | if1 h hb hn ih =>
  intro o' h'
  cases h' with
  | smp h3 _ _ => exact absurd rfl h3
  | ifN h3 => rw [h] at h3; cases h3
  | ifB h3 h4 => rw [h] at h3; injection h3 with h3; injection h3 with a b; subst a b; have := ih _ h4; cases this
  | if1 h3 h4 _ => rw [h] at h3; injection h3 with h3; injection h3 with a b; subst a b; have := ih _ h4; injection this with this; injection this with a b; subst a b; rfl
  | if2 h3 h4 _ => rw [h] at h3; injection h3 with h3; injection h3 with a b; subst a b; have := ih _ h4; injection this with this; injection this with a b; subst a b; exact absurd hn Rhw
  | if3 h3 h4 _ => rw [h] at h3; injection h3 with h3; injection h3 with a b; subst a b; have := ih _ h4; injection this with this; injection this with a b; subst a b; exact absurd hn Rhw
 | if2 h hb hc ih ih2 =>
  intro o' h'
  cases h' with
  | smp h3 _ _ => exact absurd rfl h3
  | ifN h3 => rw [h] at h3; cases h3
  | ifB h3 h4 => rw [h] at h3; injection h3 with h3; injection h3 with a b; subst a b; have := ih _ h4; cases this
  | if1 h3 h4 hn => rw [h] at h3; injection h3 with h3; injection h3 with a b; subst a b; have := ih _ h4; injection this with this; injection this with a b; subst a b; exact absurd hn Rhw
  | if2 h3 h4 h5 =>
   rw [h] at h3; injection h3 with h3; injection h3 with a b; subst a b
   have := ih _ h4; injection this with this; injection this with a b; injection b with b c; subst a c
   have := ih2 _ h5; injection this with this; injection this with a b; subst a b; rfl
  | if3 h3 h4 h5 =>
   rw [h] at h3; injection h3 with h3; injection h3 with a b; subst a b
   have := ih _ h4; injection this with this; injection this with a b; injection b with b c; subst a c
   have := ih2 _ h5; cases this
 | if3 h hb hc ih ih2 =>
  intro o' h'
  cases h' with
  | smp h3 _ _ => exact absurd rfl h3
  | if1 h3 h4 hn => rw [h] at h3; injection h3 with h3; injection h3 with a b; subst a b; have := ih _ h4; injection this with this; injection this with a b; subst a b; exact absurd hn Rhw
  | if2 h3 h4 h5 =>
   rw [h] at h3; injection h3 with h3; injection h3 with a b; subst a b
   have := ih _ h4; injection this with this; injection this with a b; injection b with b c; subst a c
   have := ih2 _ h5; cases this
  | _ => rfl
 | whN h =>
  intro o' h'
  cases h' with
  | smp _ h3 _ => exact absurd rfl h3
  | wh h3 _ => rw [h] at h3; cases h3
  | _ => rfl
 | whB h hb ih =>
  intro o' h'
  cases h' with
  | smp _ h3 _ => exact absurd rfl h3
  | wh h3 h4 => rw [h] at h3; injection h3 with h3; injection h3 with a b; subst a b; have := ih _ h4; cases this
  | _ => rfl
 | wh h hb ih =>
  intro o' h'
  cases h' with
  | smp _ h3 _ => exact absurd rfl h3
  | whN h3 => rw [h] at h3; cases h3
  | whB h3 h4 => rw [h] at h3; injection h3 with h3; injection h3 with a b; subst a b; have := ih _ h4; cases this
  | wh h3 h4 => rw [h] at h3; injection h3 with h3; injection h3 with a b; subst a b; have := ih _ h4; injection this with this; injection this with a b; subst a b; rfl
theorem Rmu : ∀ (n : Nat) (l : List Tok), l.length < n → (∃ o, G .st l o ∨ l = []) ∧ (∃ o, G .bk l o) ∧ (∀ a, ∃ o, G (.lp a) l o)
 | 0, _, h => by omega
 | n + 1, l, hn => by
  have st : ∃ o, G .st l o ∨ l = [] := by
   cases l with
   | nil => exact ⟨none, Or.inr rfl⟩
   | cons t l =>
    simp only [Zc] at hn
    by_cases h1 : t = kIf
    ·subst h1
     cases hx : ex1 l with
     | none => exact ⟨_, Or.inl (.ifN hx)⟩
     | some p =>
      obtain ⟨e, r⟩ := p
      have hs := (Rit hx).2
      obtain ⟨o, ho⟩ := (Rmu n r (by omega)).2.1
      cases o with
      | none => exact ⟨_, Or.inl (.ifB hx ho)⟩
      | some q =>
       obtain ⟨b, r2⟩ := q
       have hs2 := (Rlh ho b r2 rfl).2
       cases he : nd Rfo r2 with
       | none => exact ⟨_, Or.inl (.if1 hx ho he)⟩
       | some r3 =>
        have := Rdp he
        subst this
        simp only [Zc] at hs2
        obtain ⟨o2, ho2⟩ := (Rmu n r3 (by omega)).2.1
        cases o2 with
        | none => exact ⟨_, Or.inl (.if3 hx ho ho2)⟩
        | some q2 => exact ⟨_, Or.inl (.if2 hx ho ho2)⟩
    ·by_cases h2 : t = Rcq
     ·subst h2
      cases hx : ex1 l with
      | none => exact ⟨_, Or.inl (.whN hx)⟩
      | some p =>
       obtain ⟨e, r⟩ := p
       have hs := (Rit hx).2
       obtain ⟨o, ho⟩ := (Rmu n r (by omega)).2.1
       cases o with
       | none => exact ⟨_, Or.inl (.whB hx ho)⟩
       | some q => exact ⟨_, Or.inl (.wh hx ho)⟩
     ·exact ⟨_, Or.inl (.smp h1 h2 rfl)⟩
  have lp : ∀ a, ∃ o, G (.lp a) l o := by
   intro a
   cases l with
   | nil => exact ⟨_, .lpE⟩
   | cons t l =>
    by_cases ht : t = kR
    ·subst ht; exact ⟨_, .lpS⟩
    ·obtain ⟨o, ho | h⟩ := st
     ·cases o with
      | none => exact ⟨_, .lpN ht ho⟩
      | some q =>
       obtain ⟨b, r⟩ := q
       obtain ⟨s, rfl⟩ := G_one ho rfl b r rfl
       have hs := (Rlh ho _ _ rfl).2
       obtain ⟨o2, ho2⟩ := (Rmu n r (by omega)).2.2 (a ++ [s])
       exact ⟨o2, .lpC ht ho ho2⟩
     ·cases h
  refine ⟨st, ?_, lp⟩
  cases hk : nd kL l with
  | none => exact ⟨_, .bk0 hk⟩
  | some r =>
   have := Rdp hk
   subst this
   simp only [Zc] at hn
   obtain ⟨o, ho⟩ := (Rmu n r (by omega)).2.2 []
   exact ⟨o, .bk ho⟩
theorem Rp {k : Tok} (hk : k ≠ []) {L l : List Tok} (hL : L.length ≤ 20000) (h : Suf L l) : Re k L (plc L l) false = some (match nd k l with | some r => (true, L, (plc L r : Int), false) | none => (false, L, (plc L l : Int), false)) := by
 apply Rat
 cases l with
 | nil =>
  have hb : (([] : Tok) == k) = false := by rw [beq_eq_false_iff_ne]; exact fun e => hk e.symm
  rw [Rep, Rlw, Qb]
  simp only [hb, Zx, Zt, nd, Rep]
 | cons t l =>
  obtain ⟨hs2, hp, hlt, hg⟩ := h.tail
  rw [Rci h, Qb]
  by_cases ht : t = k
  ·subst ht
   have hb : (t == t) = true := beq_self_eq_true t
   simp only [hb, Zv, Zf, nd, if_true]
   rw [w1n (by omega), hp]
  ·have hb : (t == k) = false := by rw [beq_eq_false_iff_ne]; exact ht
   simp only [hb, Zx, Zt, nd, ht, if_false]
theorem Rgz {k : Tok} (hk : k ≠ []) (L : List Tok) (p : Int) : Re k L p true = some (false, L, p, true) := by
 apply Rat
 have hb : (([] : Tok) == k) = false := by rw [beq_eq_false_iff_ne]; exact fun e => hk e.symm
 rw [Rlv, Qb]
 simp only [hb, Zx, Zt]
theorem Rjr {k : Tok} (hk : k ≠ []) {L l : List Tok} (hL : L.length ≤ 20000) (h : Suf L l) : Rh k L (plc L l) false = some (match nd k l with | some r => (L, (plc L r : Int), false) | none => (L, (plc L l : Int), true)) := by
 apply Rba
 rw [Rp hk hL h, Qb]
 cases nd k l <;> rfl
theorem Reo {k : Tok} (hk : k ≠ []) (L : List Tok) (p : Int) : Rh k L p true = some (L, p, true) := by
 apply Rba
 rw [Rgz hk, Qb]; rfl
theorem Ryf (L : List Tok) (p : Int) : ∃ q, Rcb L p true = some ([], L, q, true) := by
 refine ⟨wrap64 (p + 1), ?_⟩
 apply Rel
 rw [Rlv, Qb]; rfl
theorem Rmt (L : List Tok) (p : Int) : ∃ q, Rl L p true = some (0, L, q, true) := by
 obtain ⟨q, hq⟩ := Ryf L p
 refine ⟨q, ?_⟩
 apply Rbo
 rw [hq, Qb]; rfl
theorem Rwb (L : List Tok) (p : Int) : ∃ x q, Rf 1 L p true = some (x, L, q, true) := by
 obtain ⟨q, hq⟩ := Rmt L p
 refine ⟨⟨13, 0, []⟩, q, ?_⟩
 apply Rda
 have h1 : Rai L p true = some (⟨13, 0, []⟩, L, q, true) := by
  apply Rr
  rw [Rlv, Qb]
  simp only [show (([] : List UInt8) == [40]) = false from rfl, Zf, show (([] : List UInt8) == []) = true from rfl, Zv, hq, Qb]
 have hl : Rah 1 L q true 0 0 false [] 13 0 .share [] = some (L, q, true, 0, 0, (false, []), 13, 0, (.share, [])) := by
  apply Rar
  simp only [Zv, Zf]
 rw [h1, Qb]
 simp only [hl, Qb]
theorem Rkf (L : List Tok) (p : Int) (m : Bool) (a : List Stm) : Rac m a L p true = some ((m, a), L, p, true) := by
 apply Raw
 simp only [Zv, Zf]
theorem Rra (L : List Tok) (p : Int) : Rau L p true = some ([], L, p, true) := by
 apply Rdx
 rw [Reo (by simp), Qb]
 simp only [Rkf, Qb]
theorem Rkh {L l : List Tok} (hL : L.length ≤ 20000) (hg : ∀ t ∈ L, gt t) (h : Suf L l) : match nu l with
  | some (n, r) => Rad L (plc L l) false = some (n, L, (plc L r : Int), false)
  | none => ∃ q, Rad L (plc L l) false = some (0, L, q, true) := by
 cases l with
 | nil =>
  obtain ⟨q, hq⟩ := Rst L
  refine ⟨q, ?_⟩
  apply Rcf
  rw [Rep, hq, Qb]; rfl
 | cons t l =>
  obtain ⟨c, r, rfl, hd⟩ := hg t h.mem
  cases hc : dg c
  ·have hn : ¬ 0 ≤ numV (c :: r) := fun h => by have := Rwr h c (List.mem_cons_self ..); rw [hc] at this; cases this
   simp only [nu, hn, if_false]
   refine ⟨(plc L l : Int), ?_⟩
   apply Rcf
   rw [Rmp hL h (by simp), Qb]
   have hb : ((c :: r : Tok) == []) = false := rfl
   simp only [hb, Zf]
   by_cases h5 : (5 : Int) < ((c :: r : Tok).length : Int)
   ·simp only [h5, Zy, Zt]
   ·simp only [h5, Zz, Zf, Rmw, Qb, Rct, hc, Zx, Zt]
  ·by_cases hn : 0 ≤ numV (c :: r)
   ·simp only [nu, hn, if_true]
    exact (Rix hL h (hd hc)).1 hn
   ·simp only [nu, hn, if_false]
    exact ⟨_, (Rix hL h (hd hc)).2 hn⟩
theorem Rog {L l : List Tok} (hL : L.length ≤ 20000) (hg : ∀ t ∈ L, gt t) (h : Suf L l) : match va l with
  | some (n, r) => Rl L (plc L l) false = some (n, L, (plc L r : Int), false)
  | none => ∃ q, Rl L (plc L l) false = some (0, L, q, true) := by
 cases l with
 | nil =>
  obtain ⟨q, hq⟩ := Rst L
  refine ⟨q, ?_⟩
  apply Rbo
  rw [Rep, hq, Qb]; rfl
 | cons t l =>
  obtain ⟨c, r, rfl, hd⟩ := hg t h.mem
  by_cases hn : 0 ≤ varV (c :: r)
  ·simp only [va, hn, if_true]
   exact (Rgy hL h (by simp)).1 hn
  ·simp only [va, hn, if_false]
   exact ⟨_, (Rgy hL h (by simp)).2 hn⟩
theorem Rgt {L l : List Tok} (hL : L.length ≤ 20000) (hg : ∀ t ∈ L, gt t) (h : Suf L l) : IA L (Rf 1 L (plc L l) false) (ex1 l) :=
 impl_C (P_C (Rvh l)) L hL hg h (by omega) (Nat.le_refl 1)
theorem Rtf {k : Tok} {L l r : List Tok} (hs : Suf L l) (h : nd k l = some r) : Suf L r := by rw [Rdp h] at hs; exact hs.tail.1
theorem Ruw {L l r : List Tok} {n : Int} (hs : Suf L l) (h : nu l = some (n, r)) : Suf L r := by obtain ⟨t, rfl, _⟩ := Rla h; exact hs.tail.1
theorem Raaf {L l r : List Tok} {n : Int} (hs : Suf L l) (h : va l = some (n, r)) : Suf L r := by obtain ⟨t, rfl, _⟩ := Rtx h; exact hs.tail.1
theorem Rhs {L l r : List Tok} {e : Exp} (hs : Suf L l) (h : ex1 l = some (e, r)) : Suf L r := hs.trans (Rit h).1
def RS (L : List Tok) (f : Option (Stm × List Tok × Int × Bool)) (o : GO) : Prop := match o with
 | some (b, r) => ∃ s, b = [s] ∧ f = some (s, L, (plc L r : Int), false)
 | none => ∃ x p, f = some (x, L, p, true)
def RB (L : List Tok) (f : Option (List Stm × List Tok × Int × Bool)) (o : GO) : Prop := match o with
 | some (b, r) => f = some (b, L, (plc L r : Int), false)
 | none => ∃ x p, f = some (x, L, p, true)
def RL (L : List Tok) (f : Option ((Bool × List Stm) × List Tok × Int × Bool)) (o : GO) : Prop := match o with
 | some (b, r) => ∃ m, f = some ((m, b), L, (plc L r : Int), false)
 | none => ∃ x p, f = some (x, L, p, true)
theorem Rwa {L l : List Tok} (hL : L.length ≤ 20000) (hg : ∀ t ∈ L, gt t) (h : Suf L l) (F : Exp → Stm) (F' : Exp → Stm) (hF : ∀ e, F' e = F e) :
  RS L (bnd (Rf 1 L (plc L l) false) fun r => bnd (Rh [59] r.2.1 r.2.2.1 r.2.2.2) fun q => some (F' r.1, q.1, q.2.1, q.2.2)) ((en l).map fun q => ([F q.1], q.2)) := by
 have h1 := Rgt hL hg h
 unfold en
 cases hx : ex1 l with
 | none =>
  rw [hx] at h1
  obtain ⟨x, p, h1⟩ := h1
  exact ⟨F' x, p, by rw [h1, Qb, Reo (by simp), Qb]⟩
 | some q =>
  obtain ⟨e, r⟩ := q
  rw [hx] at h1
  have h1 : _ = _ := h1
  rw [h1, Qb]
  simp only [Option.bind_some]
  rw [Rjr (by simp) hL (Rhs h hx), Qb]
  change RS L _ ((Option.map _ (nd [59] r)).map _)
  cases nd [59] r with
  | none => exact ⟨_, _, rfl⟩
  | some r2 => exact ⟨_, rfl, by rw [hF]⟩
theorem Rsf (L : List Tok) (p : Int) (F : Exp → Stm) : ∃ x q, (bnd (Rf 1 L p true) fun r => bnd (Rh [59] r.2.1 r.2.2.1 r.2.2.2) fun q => some (F r.1, q.1, q.2.1, q.2.2)) = some (x, L, q, true) := by
 obtain ⟨x, q, h⟩ := Rwb L p
 exact ⟨F x, q, by rw [h, Qb, Reo (by simp), Qb]⟩
theorem ndN {k t : Tok} {l : List Tok} (h : t ≠ k) : nd k (t :: l) = none := by simp only [nd]; rw [if_neg h]
theorem Rvc {L l : List Tok} (hL : L.length ≤ 20000) (hg : ∀ t ∈ L, gt t) (h : Suf L l) (h1 : nd kIf l = none) (h2 : nd Rcq l = none) : RS L (Rca L (plc L l) false) (smp l) := by
 have main : ∀ f, RS L f (smp l) → (∀ v, f = some v → Rca L (plc L l) false = some v) → RS L (Rca L (plc L l) false) (smp l) := by
  intro f hf hv
  cases hs : smp l with
  | none => rw [hs] at hf; obtain ⟨x, p, hf⟩ := hf; exact ⟨x, p, hv _ hf⟩
  | some q =>
   obtain ⟨b, r⟩ := q
   rw [hs] at hf
   obtain ⟨s, hb, hf⟩ := hf
   exact ⟨s, hb, hv _ hf⟩
 refine main _ ?_ (fun v hv => Raa _ _ _ v hv)
 rw [Rp (k := [105, 102]) (by simp) hL h, show nd [105, 102] l = none from h1, Qb]
 simp only [Zf]
 rw [Rp (k := [119, 104, 105, 108, 101]) (by simp) hL h, show nd [119, 104, 105, 108, 101] l = none from h2, Qb]
 simp only [Zf]
 rw [Rp (k := [115, 101, 110, 100]) (by simp) hL h, Qb]
 cases h3 : nd [115, 101, 110, 100] l with
 | some l1 =>
  have hs1 := Rtf h h3
  have := Rdp h3
  subst this
  simp only [Zt]
  have hn := Rkh hL hg hs1
  have hsm : smp (([115, 101, 110, 100] : Tok) :: l1) = (nu l1).bind fun p => (en p.2).map fun q => ([⟨4, 0, p.1, q.1, [], []⟩], q.2) := by
   simp only [smp, Rik, if_true]
  rw [hsm]
  cases hu : nu l1 with
  | none =>
   rw [hu] at hn
   obtain ⟨q, hn⟩ := hn
   rw [hn, Qb]
   exact Rsf L q fun e => ⟨4, 0, 0, ⟨e.op, e.n, e.args⟩, [], []⟩
  | some p =>
   obtain ⟨n, r⟩ := p
   rw [hu] at hn
   have hn : _ = _ := hn
   rw [hn, Qb]
   exact Rwa hL hg (Ruw hs1 hu) (fun e => ⟨4, 0, n, e, [], []⟩) (fun e => ⟨4, 0, n, ⟨e.op, e.n, e.args⟩, [], []⟩) (fun e => by rw [Rw])
 | none =>
  simp only [Zf]
  rw [Rp (k := [114, 101, 99, 118]) (by simp) hL h, Qb]
  cases h4 : nd [114, 101, 99, 118] l with
  | some l1 =>
   have hs1 := Rtf h h4
   have := Rdp h4
   subst this
   simp only [Zt]
   have hn := Rkh hL hg hs1
   have hsm : smp (([114, 101, 99, 118] : Tok) :: l1) = (nu l1).bind fun p => (va p.2).bind fun q => (nd kS q.2).map fun r => ([⟨5, q.1, p.1, ⟨0, 0, []⟩, [], []⟩], r) := by
    simp only [smp, Rik, Rjo, if_true]
    rw [if_neg (by decide)]
   rw [hsm]
   cases hu : nu l1 with
   | none =>
    rw [hu] at hn
    obtain ⟨q, hn⟩ := hn
    obtain ⟨q2, hv⟩ := Rmt L q
    exact ⟨_, q2, by rw [hn, Qb, hv, Qb, Reo (by simp), Qb]⟩
   | some p =>
    obtain ⟨n, r⟩ := p
    rw [hu] at hn
    have hn : _ = _ := hn
    have hs2 := Ruw hs1 hu
    rw [hn, Qb]
    have hv := Rog hL hg hs2
    simp only [Option.bind_some]
    cases hw : va r with
    | none =>
     rw [hw] at hv
     obtain ⟨q, hv⟩ := hv
     exact ⟨_, q, by rw [hv, Qb, Reo (by simp), Qb]⟩
    | some p2 =>
     obtain ⟨v, r2⟩ := p2
     rw [hw] at hv
     have hv : _ = _ := hv
     rw [hv, Qb, Rjr (by simp) hL (Raaf hs2 hw), Qb]
     simp only [Option.bind_some]
     change RS L _ (Option.map _ (nd [59] r2))
     cases nd [59] r2 with
     | none => exact ⟨_, _, rfl⟩
     | some r3 => exact ⟨_, rfl, rfl⟩
  | none =>
   simp only [Zf]
   rw [Rp (k := [121, 105, 101, 108, 100]) (by simp) hL h, Qb]
   cases h5 : nd [121, 105, 101, 108, 100] l with
   | some l1 =>
    have hs1 := Rtf h h5
    have := Rdp h5
    subst this
    simp only [Zt]
    have hsm : smp (([121, 105, 101, 108, 100] : Tok) :: l1) = (nd kS l1).map fun r => ([⟨6, 0, 0, ⟨0, 0, []⟩, [], []⟩], r) := by
     simp only [smp, Rik, Rjo, Rgp, if_true]
     rw [if_neg (by decide), if_neg (by decide)]
    rw [hsm, Rjr (by simp) hL hs1, Qb]
    change RS L _ (Option.map _ (nd [59] l1))
    cases nd [59] l1 with
    | none => exact ⟨_, _, rfl⟩
    | some r3 => exact ⟨_, rfl, rfl⟩
   | none =>
    simp only [Zf]
    rw [Rp (k := [112, 114, 105, 110, 116]) (by simp) hL h, Qb]
    cases h6 : nd [112, 114, 105, 110, 116] l with
    | some l1 =>
     have hs1 := Rtf h h6
     have := Rdp h6
     subst this
     simp only [Zt]
     have hsm : smp (([112, 114, 105, 110, 116] : Tok) :: l1) = (en l1).map fun q => ([⟨7, 0, 0, q.1, [], []⟩], q.2) := by
      simp only [smp, Rik, Rjo, Rgp, Rga, if_true]
      rw [if_neg (by decide), if_neg (by decide), if_neg (by decide)]
     rw [hsm]
     exact Rwa hL hg hs1 (fun e => ⟨7, 0, 0, e, [], []⟩) (fun e => ⟨7, 0, 0, ⟨e.op, e.n, e.args⟩, [], []⟩) (fun e => by rw [Rw])
    | none =>
     simp only [Zf]
     have hsm : smp l = (va l).bind fun p => (nd kE p.2).bind fun r => (en r).map fun q => ([⟨1, p.1, 0, q.1, [], []⟩], q.2) := by
      cases l with
      | nil => rfl
      | cons t l =>
       have ne : ∀ k, nd k (t :: l) = none → t ≠ k := by intro k hk e; rw [e, Rav] at hk; cases hk
       simp only [smp]
       rw [if_neg (ne Rik h3), if_neg (ne Rjo h4), if_neg (ne Rgp h5), if_neg (ne Rga h6)]
     rw [hsm]
     have hv := Rog hL hg h
     cases hw : va l with
     | none =>
      rw [hw] at hv
      obtain ⟨q, hv⟩ := hv
      rw [hv, Qb, Reo (by simp), Qb]
      exact Rsf L q fun e => ⟨1, 0, 0, ⟨e.op, e.n, e.args⟩, [], []⟩
     | some p =>
      obtain ⟨v, r⟩ := p
      rw [hw] at hv
      have hv : _ = _ := hv
      have hs2 := Raaf h hw
      rw [hv, Qb, Rjr (by simp) hL hs2, Qb]
      simp only [Option.bind_some]
      change RS L _ (Option.bind (nd [61] r) _)
      cases he : nd [61] r with
      | none => exact Rsf L _ fun e => ⟨1, v, 0, ⟨e.op, e.n, e.args⟩, [], []⟩
      | some r2 => exact Rwa hL hg (Rtf hs2 he) (fun e => ⟨1, v, 0, e, [], []⟩) (fun e => ⟨1, v, 0, ⟨e.op, e.n, e.args⟩, [], []⟩) (fun e => by rw [Rw])
theorem Rzv : ∀ {j : K} {l : List Tok} {o : GO}, G j l o → ∀ L : List Tok, L.length ≤ 20000 → (∀ t ∈ L, gt t) → Suf L l → match j with
  | .st => RS L (Rca L (plc L l) false) o
  | .bk => RB L (Rau L (plc L l) false) o
  | .lp a => a.length ≤ plc L l → ∀ m, RL L (Rac m a L (plc L l) false) o := by
 intro j l o h
 induction h with
 | @bk0 l h =>
  intro L hL hg hs
  refine ⟨[], (plc L l : Int), ?_⟩
  apply Rdx
  rw [Rjr (by simp) hL hs, show nd [123] l = none from h, Qb]
  simp only [Rkf, Qb]
 | @bk l o h ih =>
  intro L hL hg hs
  obtain ⟨hs2, hp, hlt, _⟩ := hs.tail
  have h1 := ih L hL hg hs2 (Nat.zero_le _) false
  have st : ∀ v, (bnd (Rac false [] L (plc L l) false) fun r => some (r.1.2, r.2.1, r.2.2.1, r.2.2.2)) = some v → Rau L (plc L (kL :: l)) false = some v := by
   intro v hv
   apply Rdx
   rw [Rjr (by simp) hL hs, show nd [123] (kL :: l) = some l from Rav _ _, Qb]
   exact hv
  cases o with
  | none => obtain ⟨x, p, h1⟩ := h1; exact ⟨x.2, p, st _ (by rw [h1, Qb])⟩
  | some q =>
   obtain ⟨b, r⟩ := q
   obtain ⟨m, h1⟩ := h1
   exact st _ (by rw [h1, Qb])
 | @lpE a =>
  intro L hL hg hs ha m
  obtain ⟨x, p, h1⟩ := Rvc hL hg hs rfl rfl
  refine ⟨?_, p, ?_⟩
  rotate_left
  ·apply Raw
   simp only [Zx, Zt]
   rw [Rp (by simp) hL hs, Qb]
   simp only [nd, Zx, Zt]
   rw [h1, Qb]
   simp only [Rdl]
   rw [Rce (by rw [Rep] at ha; omega), Qb, Rkf]
 | @lpS a l =>
  intro L hL hg hs ha m
  refine ⟨m, ?_⟩
  apply Raw
  simp only [Zx, Zt]
  rw [Rp (by simp) hL hs, show nd [125] (kR :: l) = some l from Rav _ _, Qb]
  rfl
 | @lpN a t l ht h ih =>
  intro L hL hg hs ha m
  obtain ⟨hs2, hp, hlt, _⟩ := hs.tail
  obtain ⟨x, p, h1⟩ := ih L hL hg hs
  refine ⟨?_, p, ?_⟩
  rotate_left
  ·apply Raw
   simp only [Zx, Zt]
   rw [Rp (by simp) hL hs, show nd [125] (t :: l) = none from ndN ht, Qb]
   simp only [Zx, Zt]
   rw [h1, Qb]
   simp only [Rdl]
   rw [Rce (by omega), Qb, Rkf]
 | @lpC a t l r s o ht h1 h2 ih1 ih2 =>
  intro L hL hg hs ha m
  obtain ⟨hs2, hp, hlt, _⟩ := hs.tail
  obtain ⟨s', hb, e1⟩ := ih1 L hL hg hs
  injection hb with hb
  subst hb
  have hsf := Rlh h1 _ _ rfl
  have hs3 := hs.trans hsf.1
  have hpl : plc L (t :: l) + 1 ≤ plc L r := by
   have h3 := hsf.2
   obtain ⟨p, hp2⟩ := hs
   have : L.length = p.length + (t :: l).length := by rw [hp2, Za]
   unfold plc; omega
  have e2 := ih2 L hL hg hs3 (by rw [Za]; simp only [Zc, Zn]; omega) true
  have st : ∀ v, Rac true (a ++ [s]) L (plc L r) false = some v → Rac m a L (plc L (t :: l)) false = some v := by
   intro v hv
   apply Raw
   simp only [Zx, Zt]
   rw [Rp (by simp) hL hs, show nd [125] (t :: l) = none from ndN ht, Qb]
   simp only [Zx, Zt]
   rw [e1, Qb]
   simp only [Rdl]
   rw [Rce (by omega), Qb]
   exact hv
  cases o with
  | none => obtain ⟨x, p, e2⟩ := e2; exact ⟨x, p, st _ e2⟩
  | some q => obtain ⟨b, r'⟩ := q; obtain ⟨m', e2⟩ := e2; exact ⟨m', st _ e2⟩
 | @smp t l o h1 h2 h =>
  intro L hL hg hs
  rw [← h]
  exact Rvc hL hg hs (ndN h1) (ndN h2)
 | @ifN l h =>
  intro L hL hg hs
  have hs2 := hs.tail.1
  have e1 := Rgt hL hg hs2
  rw [h] at e1
  obtain ⟨x, p, e1⟩ := e1
  refine ⟨?_, p, ?_⟩
  rotate_left
  ·apply Raa
   rw [Rp (k := [105, 102]) (by simp) hL hs, show nd [105, 102] (kIf :: l) = some l from Rav _ _, Qb]
   simp only [Zt]
   rw [e1, Qb, Rra, Qb, Rgz (by simp), Qb]
   rfl
 | @ifB l r e h hb ih =>
  intro L hL hg hs
  have hs2 := hs.tail.1
  have e1 := Rgt hL hg hs2
  rw [h] at e1
  have e1 : _ = _ := e1
  obtain ⟨x, p, e2⟩ := ih L hL hg (Rhs hs2 h)
  refine ⟨?_, p, ?_⟩
  rotate_left
  ·apply Raa
   rw [Rp (k := [105, 102]) (by simp) hL hs, show nd [105, 102] (kIf :: l) = some l from Rav _ _, Qb]
   simp only [Zt]
   rw [e1, Qb, e2, Qb, Rgz (by simp), Qb]
   rfl
 | @if1 l r r2 e b h hb hn ih =>
  intro L hL hg hs
  have hs2 := hs.tail.1
  have e1 := Rgt hL hg hs2
  rw [h] at e1
  have e1 : _ = _ := e1
  have hs3 := Rhs hs2 h
  have e2 := ih L hL hg hs3
  have e2 : _ = _ := e2
  have hs4 := hs3.trans (Rlh hb _ _ rfl).1
  refine ⟨_, rfl, ?_⟩
  apply Raa
  rw [Rp (k := [105, 102]) (by simp) hL hs, show nd [105, 102] (kIf :: l) = some l from Rav _ _, Qb]
  simp only [Zt]
  rw [e1, Qb, e2, Qb, Rp (by simp) hL hs4, show nd [101, 108, 115, 101] r2 = none from hn, Qb]
  simp only [Zf, Rw]
 | @if2 l r r2 r3 e b c h hb hc ih ih2 =>
  intro L hL hg hs
  have hs2 := hs.tail.1
  have e1 := Rgt hL hg hs2
  rw [h] at e1
  have e1 : _ = _ := e1
  have hs3 := Rhs hs2 h
  have e2 := ih L hL hg hs3
  have e2 : _ = _ := e2
  have hs4 := hs3.trans (Rlh hb _ _ rfl).1
  have e3 := ih2 L hL hg hs4.tail.1
  have e3 : _ = _ := e3
  refine ⟨_, rfl, ?_⟩
  apply Raa
  rw [Rp (k := [105, 102]) (by simp) hL hs, show nd [105, 102] (kIf :: l) = some l from Rav _ _, Qb]
  simp only [Zt]
  rw [e1, Qb, e2, Qb, Rp (by simp) hL hs4, show nd [101, 108, 115, 101] (Rfo :: r2) = some r2 from Rav _ _, Qb]
  simp only [Zt]
  rw [e3, Qb]
  simp only [Rw]
 | @if3 l r r2 e b h hb hc ih ih2 =>
  intro L hL hg hs
  have hs2 := hs.tail.1
  have e1 := Rgt hL hg hs2
  rw [h] at e1
  have e1 : _ = _ := e1
  have hs3 := Rhs hs2 h
  have e2 := ih L hL hg hs3
  have e2 : _ = _ := e2
  have hs4 := hs3.trans (Rlh hb _ _ rfl).1
  obtain ⟨x, p, e3⟩ := ih2 L hL hg hs4.tail.1
  refine ⟨?_, p, ?_⟩
  rotate_left
  ·apply Raa
   rw [Rp (k := [105, 102]) (by simp) hL hs, show nd [105, 102] (kIf :: l) = some l from Rav _ _, Qb]
   simp only [Zt]
   rw [e1, Qb, e2, Qb, Rp (by simp) hL hs4, show nd [101, 108, 115, 101] (Rfo :: r2) = some r2 from Rav _ _, Qb]
   simp only [Zt]
   rw [e3, Qb]
 | @whN l h =>
  intro L hL hg hs
  have hs2 := hs.tail.1
  have e1 := Rgt hL hg hs2
  rw [h] at e1
  obtain ⟨x, p, e1⟩ := e1
  refine ⟨?_, p, ?_⟩
  rotate_left
  ·apply Raa
   rw [Rp (k := [105, 102]) (by simp) hL hs, show nd [105, 102] (Rcq :: l) = none from ndN (by decide), Qb]
   simp only [Zf]
   rw [Rp (k := [119, 104, 105, 108, 101]) (by simp) hL hs, show nd [119, 104, 105, 108, 101] (Rcq :: l) = some l from Rav _ _, Qb]
   simp only [Zt]
   rw [e1, Qb, Rra, Qb]
 | @whB l r e h hb ih =>
  intro L hL hg hs
  have hs2 := hs.tail.1
  have e1 := Rgt hL hg hs2
  rw [h] at e1
  have e1 : _ = _ := e1
  obtain ⟨x, p, e2⟩ := ih L hL hg (Rhs hs2 h)
  refine ⟨?_, p, ?_⟩
  rotate_left
  ·apply Raa
   rw [Rp (k := [105, 102]) (by simp) hL hs, show nd [105, 102] (Rcq :: l) = none from ndN (by decide), Qb]
   simp only [Zf]
   rw [Rp (k := [119, 104, 105, 108, 101]) (by simp) hL hs, show nd [119, 104, 105, 108, 101] (Rcq :: l) = some l from Rav _ _, Qb]
   simp only [Zt]
   rw [e1, Qb, e2, Qb]
 | @wh l r r2 e b h hb ih =>
  intro L hL hg hs
  have hs2 := hs.tail.1
  have e1 := Rgt hL hg hs2
  rw [h] at e1
  have e1 : _ = _ := e1
  have e2 := ih L hL hg (Rhs hs2 h)
  have e2 : _ = _ := e2
  refine ⟨_, rfl, ?_⟩
  apply Raa
  rw [Rp (k := [105, 102]) (by simp) hL hs, show nd [105, 102] (Rcq :: l) = none from ndN (by decide), Qb]
  simp only [Zf]
  rw [Rp (k := [119, 104, 105, 108, 101]) (by simp) hL hs, show nd [119, 104, 105, 108, 101] (Rcq :: l) = some l from Rav _ _, Qb]
  simp only [Zt]
  rw [e1, Qb, e2, Qb]
  simp only [Rw]
theorem Ryu {L : List Tok} (n : Nat) (k : Tok) : Ra L (n : Int) k = some (decide (L[n]? = some k)) := by
 apply Rmh
 have h0 : (0 : Int) ≤ (n : Int) := by omega
 simp only [h0, Zy, Zt]
 by_cases h : n < L.length
 ·have h1 : ((n : Int) < (L.length : Int)) := by omega
  simp only [h1, Zy, Zt, Rdn h, Qb, List.getElem?_eq_getElem h, Zi]
  congr 1
  by_cases hk : L[n] = k
  ·simp [hk]
  ·rw [beq_eq_false_iff_ne.mpr hk, Zq hk]
 ·have h1 : ¬ ((n : Int) < (L.length : Int)) := by omega
  simp only [h1, Zz, Zf, List.getElem?_eq_none (Nat.le_of_not_lt h)]
  rfl
theorem Rus (L : List Tok) (k : Tok) : Ra L (-1) k = some false := by
 apply Rmh
 rfl
theorem Rux {L : List Tok} (n : Nat) : Rs L (n : Int) = some (match L[n]? with | some t => numV t | none => -1) := by
 apply Rqr
 by_cases h : n < L.length
 ·have h1 : ¬ ((L.length : Int) ≤ (n : Int)) := by omega
  simp only [h1, Zz, Zf, Rdn h, Qb, List.getElem?_eq_getElem h, Rgk]
 ·have h1 : ((L.length : Int) ≤ (n : Int)) := by omega
  simp only [h1, Zy, Zt, List.getElem?_eq_none (Nat.le_of_not_lt h)]
theorem Suf.at {L l : List Tok} (h : Suf L l) (i : Nat) : L[plc L l + i]? = l[i]? := by
 obtain ⟨p, rfl⟩ := h
 have : plc (p ++ l) l = p.length := by unfold plc; rw [Za]; omega
 rw [this, List.getElem?_append_right (by omega)]
 congr 1; omega
theorem Rts {L l : List Tok} (hL : L.length ≤ 20000) (h : Suf L l) : Rq L (plc L l) = some (match en l with | some (e, r) => (e, (plc L r : Int)) | none => (⟨0, 0, []⟩, -1)) := by
 apply Rpx
 have h1 : SA L (Rz L (plc L l) 1) (ex1 l) := Raac (Rvh l) L hL h (Nat.le_refl 1) (by omega)
 unfold en
 cases hx : ex1 l with
 | none =>
  rw [hx] at h1
  obtain ⟨x, h1⟩ := h1
  rw [h1, Qb]
  simp only [Rus, Qb, Zx, Zt, Option.bind_none]
 | some q =>
  obtain ⟨e, r⟩ := q
  rw [hx] at h1
  have h1 : _ = _ := h1
  have hs := Rhs h hx
  rw [h1, Qb]
  simp only [Option.bind_some]
  rw [Ryu, Qb, show L[plc L r]? = r[0]? from hs.at 0]
  cases r with
  | nil => rfl
  | cons t r =>
   obtain ⟨hs2, hp, hlt, _⟩ := hs.tail
   by_cases ht : t = kS
   ·subst ht
    simp only [List.getElem?_cons_zero, kS, Zy, Zv, Zf, nd, if_true, Option.map_some]
    rw [Rw, show ([59] : Tok) :: r = kS :: r from rfl, w1n (by omega), hp]
   ·have hk : ¬ (some t = some ([59] : Tok)) := by intro hh; injection hh with hh; exact ht hh
    simp only [List.getElem?_cons_zero, hk, Zz, Zx, Zt, nd, ht, if_false, Option.map_none]
def SS (L : List Tok) (f : Option (Stm × Int)) (o : GO) : Prop := match o with
 | some (b, r) => ∃ s, b = [s] ∧ f = some (s, (plc L r : Int))
 | none => ∃ x, f = some (x, -1)
def SB (L : List Tok) (f : Option (List Stm × Int)) (o : GO) : Prop := match o with
 | some (b, r) => f = some (b, (plc L r : Int))
 | none => ∃ x, f = some (x, -1)
def SLp (L : List Tok) (f : Option (List Tok × Int × (Bool × List Stm))) (o : GO) : Prop := match o with
 | some (b, r) => ∃ m, f = some (L, (plc L (kR :: r) : Int), (m, b)) ∧ Suf L (kR :: r)
 | none => ∃ p x, f = some (L, p, x) ∧ Ra L p [125] = some false
abbrev z0 : Stm := ⟨0, 0, 0, ⟨0, 0, []⟩, [], []⟩
noncomputable def Vt (a0 : List Tok) (a1 : Int) : Option (Stm × Int) :=
 bif (decide (a1 < (a0.length : Int))) then
  bnd (geti a0 a1) fun e21 =>
  bnd (Rc e21) fun r22 =>
  (bif (decide (0 ≤ r22)) then
  bnd (Ra a0 (wrap64 (a1 + 1)) [61]) fun r23 =>
  (bif r23 then
  bnd (Rq a0 (wrap64 (a1 + 2))) fun r24 =>
  bnd (geti a0 a1) fun e25 =>
  bnd (Rc e25) fun r26 =>
  some (⟨1, r26, 0, ⟨r24.1.op, r24.1.n, r24.1.args⟩, [], []⟩, r24.2)
  else
  some (⟨0, 0, 0, ⟨0, 0, []⟩, [], []⟩, (-1)))
  else
  some (⟨0, 0, 0, ⟨0, 0, []⟩, [], []⟩, (-1)))
 else some (⟨0, 0, 0, ⟨0, 0, []⟩, [], []⟩, (-1))
noncomputable def Rt (a0 : List Tok) (a1 : Int) : Option (Stm × Int) :=
 bnd (Ra a0 a1 ([114, 101, 99, 118])) fun r13 =>
 (bif r13 then
 bnd (Rs a0 (wrap64 (a1 + 1))) fun r14 =>
 (bif (decide (0 ≤ r14)) then
 bnd (Ra a0 (wrap64 (a1 + 3)) [59]) fun r15 =>
 (bif r15 then
 bnd (geti a0 (wrap64 (a1 + 2))) fun e16 =>
 bnd (Rc e16) fun r17 =>
 (bif (decide (r17 < 0)) then
 some (⟨0, 0, 0, ⟨0, 0, []⟩, [], []⟩, (-1))
 else
 bnd (Rs a0 (wrap64 (a1 + 1))) fun r18 =>
 bnd (geti a0 (wrap64 (a1 + 2))) fun e19 =>
 bnd (Rc e19) fun r20 =>
 some (⟨5, r20, r18, ⟨0, 0, []⟩, [], []⟩, (wrap64 (a1 + 4))))
 else Vt a0 a1)
 else Vt a0 a1)
 else Vt a0 a1)
noncomputable def St (a0 : List Tok) (a1 : Int) : Option (Stm × Int) :=
 bnd (Ra a0 a1 ([115, 101, 110, 100])) fun r9 =>
 (bif r9 then
 bnd (Rs a0 (wrap64 (a1 + 1))) fun r10 =>
 (bif (decide (0 ≤ r10)) then
 bnd (Rq a0 (wrap64 (a1 + 2))) fun r11 =>
 bnd (Rs a0 (wrap64 (a1 + 1))) fun r12 =>
 some (⟨4, 0, r12, ⟨r11.1.op, r11.1.n, r11.1.args⟩, [], []⟩, r11.2)
 else Rt a0 a1)
 else Rt a0 a1)
noncomputable def Pt (a0 : List Tok) (a1 : Int) : Option (Stm × Int) :=
 bnd (Ra a0 a1 ([112, 114, 105, 110, 116])) fun r7 =>
 (bif r7 then
 bnd (Rq a0 (wrap64 (a1 + 1))) fun r8 =>
 some (⟨7, 0, 0, ⟨r8.1.op, r8.1.n, r8.1.args⟩, [], []⟩, r8.2)
 else St a0 a1)
noncomputable def Yt (a0 : List Tok) (a1 : Int) : Option (Stm × Int) :=
 bnd (Ra a0 a1 ([121, 105, 101, 108, 100])) fun r5 =>
 (bif r5 then
 bnd (Ra a0 (wrap64 (a1 + 1)) [59]) fun r6 =>
 (bif r6 then
 some (⟨6, 0, 0, ⟨0, 0, []⟩, [], []⟩, (wrap64 (a1 + 2)))
 else Pt a0 a1)
 else Pt a0 a1)
noncomputable def Ot (a0 : List Tok) (a1 : Int) : Option (Stm × Int) :=
 bnd (Ra a0 a1 ([105, 102])) fun r1 =>
 (bif r1 then
 bnd (Ram a0 (wrap64 (a1 + 1)) 2) fun r2 =>
 some (⟨r2.1.kind, r2.1.var, r2.1.box, ⟨r2.1.e.op, r2.1.e.n, r2.1.e.args⟩, r2.1.body, r2.1.els⟩, r2.2)
 else
 bnd (Ra a0 a1 ([119, 104, 105, 108, 101])) fun r3 =>
 (bif r3 then
 bnd (Ram a0 (wrap64 (a1 + 1)) 3) fun r4 =>
 some (⟨r4.1.kind, r4.1.var, r4.1.box, ⟨r4.1.e.op, r4.1.e.n, r4.1.e.args⟩, r4.1.body, r4.1.els⟩, r4.2)
 else Yt a0 a1))
theorem Rva {a0 : List Tok} {a1 : Int} {v : Stm × Int} (h : Ot a0 a1 = some v) : Rdr a0 a1 = some v := Rqs a0 a1 v h
theorem is_at {L : List Tok} {l : List Tok} {t : Tok} (h : Suf L (t :: l)) (k : Tok) : Ra L (plc L (t :: l) : Int) k = some (decide (t = k)) := by
 rw [Ryu, show L[plc L (t :: l)]? = some t from h.at 0]
 simp only [Zi]
theorem Rhu {L : List Tok} {l : List Tok} {t : Tok} (h : Suf L (t :: l)) : Ra L (plc L (t :: l) : Int) t = some true := by rw [is_at h, Zp rfl]
theorem Rtu {L : List Tok} {l : List Tok} {t : Tok} (h : Suf L (t :: l)) {k : Tok} (hk : t ≠ k) : Ra L (plc L (t :: l) : Int) k = some false := by rw [is_at h, Zq hk]
theorem Rpl {L : List Tok} {l : List Tok} (h : Suf L l) (k : Tok) : Ra L (plc L l : Int) k = some (nd k l).isSome := by
 rw [Ryu, show L[plc L l]? = l[0]? from h.at 0]
 cases l with
 | nil => rfl
 | cons t l =>
  by_cases ht : t = k
  ·subst ht; rw [Rav]; simp
  ·rw [ndN ht]; simp [ht]
theorem Rpr (L : List Tok) : Rs L (plc L [] : Int) = some (-1) := by
 rw [Rux, Rep, List.getElem?_eq_none (Nat.le_refl _)]
theorem Rkg {L : List Tok} {l : List Tok} {t : Tok} (h : Suf L (t :: l)) : Rs L (plc L (t :: l) : Int) = some (numV t) := by
 rw [Rux, show L[plc L (t :: l)]? = some t from h.at 0]
theorem at1 {L : List Tok} {l : List Tok} {t : Tok} (hL : L.length ≤ 20000) (h : Suf L (t :: l)) : wrap64 ((plc L (t :: l) : Int) + 1) = (plc L l : Int) := by
 obtain ⟨hs2, hp, hlt, hg⟩ := h.tail
 rw [wrap_id (by omega) (by omega)]; omega
theorem at2 {L : List Tok} {l : List Tok} {t : Tok} {u : Tok} (hL : L.length ≤ 20000) (h : Suf L (t :: u :: l)) : wrap64 ((plc L (t :: u :: l) : Int) + 2) = (plc L l : Int) := by
 obtain ⟨hs2, hp, hlt, hg⟩ := h.tail
 obtain ⟨hs3, hp3, hlt3, hg3⟩ := hs2.tail
 rw [wrap_id (by omega) (by omega)]; omega
theorem at3 {L : List Tok} {l : List Tok} {t : Tok} {u w : Tok} (hL : L.length ≤ 20000) (h : Suf L (t :: u :: w :: l)) : wrap64 ((plc L (t :: u :: w :: l) : Int) + 3) = (plc L l : Int) := by
 obtain ⟨hs2, hp, hlt, hg⟩ := h.tail
 obtain ⟨hs3, hp3, hlt3, hg3⟩ := hs2.tail
 obtain ⟨hs4, hp4, hlt4, hg4⟩ := hs3.tail
 rw [wrap_id (by omega) (by omega)]; omega
theorem is3_no {L : List Tok} {l : List Tok} {t : Tok} (hL : L.length ≤ 20000) (h : Suf L (t :: l)) {k : Tok} (hn : l.length ≤ 2) : Ra L (wrap64 ((plc L (t :: l) : Int) + 3)) k = some false := by
 obtain ⟨hs2, hp, hlt, hg⟩ := h.tail
 have := h.at 3
 rw [show wrap64 ((plc L (t :: l) : Int) + 3) = ((plc L (t :: l) + 3 : Nat) : Int) by rw [wrap_id (by omega) (by omega)]; omega, Ryu, this, List.getElem?_eq_none (by simp only [Zc]; omega)]
 simp
theorem Rpd {L : List Tok} {l : List Tok} {t : Tok} (h : Suf L (t :: l)) (hv : ¬ 0 ≤ varV t) : Vt L (plc L (t :: l)) = some (z0, -1) := by
 obtain ⟨hs2, hp, hlt, hg⟩ := h.tail
 have hn : ((plc L (t :: l) : Int) < (L.length : Int)) := by omega
 unfold Vt
 rw [Zp hn, Zt, hg, Qb, Rcn, Qb, Zq hv, Zf]
theorem Vt_no {L : List Tok} {l : List Tok} {t : Tok} (hL : L.length ≤ 20000) (h : Suf L (t :: l)) (he : nd kE l = none) : Vt L (plc L (t :: l)) = some (z0, -1) := by
 by_cases hv : 0 ≤ varV t
 ·obtain ⟨hs2, hp, hlt, hg⟩ := h.tail
  have hn : ((plc L (t :: l) : Int) < (L.length : Int)) := by omega
  unfold Vt
  rw [Zp hn, Zt, hg, Qb, Rcn, Qb, Zp hv, Zt, at1 hL h, Rpl hs2, show nd [61] l = none from he, Qb]
  rfl
 ·exact Rpd h hv
theorem Vt_set {L : List Tok} {l : List Tok} {t : Tok} (hL : L.length ≤ 20000) (h : Suf L (t :: kE :: l)) (hv : 0 ≤ varV t) : Vt L (plc L (t :: kE :: l)) = some (match en l with | some (e, r) => (⟨1, varV t, 0, e, [], []⟩, (plc L r : Int)) | none => (⟨1, varV t, 0, ⟨0, 0, []⟩, [], []⟩, -1)) := by
 obtain ⟨hs2, hp, hlt, hg⟩ := h.tail
 have hn : ((plc L (t :: kE :: l) : Int) < (L.length : Int)) := by omega
 unfold Vt
 rw [Zp hn, Zt, hg, Qb, Rcn, Qb, Zp hv, Zt, at1 hL h, show Ra L (plc L (kE :: l) : Int) [61] = some true from Rhu hs2, Qb, Zt, at2 hL h, Rts hL hs2.tail.1, Qb, Qb, Rcn, Qb]
 cases en l with
 | none => rfl
 | some q => simp only [Rw]
theorem Rrw {L : List Tok} {l : List Tok} {t : Tok} (h : Suf L (t :: l)) (hk : t ≠ Rjo) : Rt L (plc L (t :: l)) = Vt L (plc L (t :: l)) := by
 unfold Rt
 rw [show Ra L (plc L (t :: l) : Int) [114, 101, 99, 118] = some false from Rtu h hk, Qb, Zf]
theorem Rua {L : List Tok} {l : List Tok} {t : Tok} (h : Suf L (t :: l)) (hk : t ≠ Rik) : St L (plc L (t :: l)) = Rt L (plc L (t :: l)) := by
 unfold St
 rw [show Ra L (plc L (t :: l) : Int) [115, 101, 110, 100] = some false from Rtu h hk, Qb, Zf]
theorem Rtz {L : List Tok} {l : List Tok} {t : Tok} (h : Suf L (t :: l)) (hk : t ≠ Rga) : Pt L (plc L (t :: l)) = St L (plc L (t :: l)) := by
 unfold Pt
 rw [show Ra L (plc L (t :: l) : Int) [112, 114, 105, 110, 116] = some false from Rtu h hk, Qb, Zf]
theorem Ryo {L : List Tok} {l : List Tok} {t : Tok} (h : Suf L (t :: l)) (hk : t ≠ Rgp) : Yt L (plc L (t :: l)) = Pt L (plc L (t :: l)) := by
 unfold Yt
 rw [show Ra L (plc L (t :: l) : Int) [121, 105, 101, 108, 100] = some false from Rtu h hk, Qb, Zf]
theorem Rym {L : List Tok} {l : List Tok} {t : Tok} (h : Suf L (t :: l)) (h1 : t ≠ kIf) (h2 : t ≠ Rcq) : Ot L (plc L (t :: l)) = Yt L (plc L (t :: l)) := by
 unfold Ot
 rw [show Ra L (plc L (t :: l) : Int) [105, 102] = some false from Rtu h h1, Qb, Zf, show Ra L (plc L (t :: l) : Int) [119, 104, 105, 108, 101] = some false from Rtu h h2, Qb, Zf]
theorem SS_of {L : List Tok} {l : List Tok} {t : Tok} {f : Option (Stm × Int)} {o : GO} (h : SS L (Ot L (plc L (t :: l))) o) : SS L (Rdr L (plc L (t :: l))) o := by
 cases o with
 | none => obtain ⟨x, h⟩ := h; exact ⟨x, Rva h⟩
 | some q => obtain ⟨b, r⟩ := q; obtain ⟨s, hb, h⟩ := h; exact ⟨s, hb, Rva h⟩
theorem one_smp {L : List Tok} {l : List Tok} {t : Tok} (hL : L.length ≤ 20000) (h : Suf L (t :: l)) (h1 : t ≠ kIf) (h2 : t ≠ Rcq) : SS L (Rdr L (plc L (t :: l))) (smp (t :: l)) := by
 refine SS_of (f := none) ?_
 obtain ⟨hs2, hp, hlt, hg⟩ := h.tail
 rw [Rym h h1 h2]
 by_cases k3 : t = Rgp
 ·have hsm : smp (t :: l) = (nd kS l).map fun r => ([⟨6, 0, 0, ⟨0, 0, []⟩, [], []⟩], r) := by
   simp only [smp, k3, if_true]
   rw [if_neg (by decide), if_neg (by decide)]
  rw [hsm]
  have e1 : Yt L (plc L (t :: l)) = bif (nd kS l).isSome then some (⟨6, 0, 0, ⟨0, 0, []⟩, [], []⟩, wrap64 ((plc L (t :: l) : Int) + 2)) else Pt L (plc L (t :: l)) := by
   unfold Yt
   rw [show ([121, 105, 101, 108, 100] : Tok) = t from k3.symm, Rhu h, Qb, Zt, at1 hL h, Rpl hs2, Qb]
   rfl
  rw [e1]
  cases hn : nd kS l with
  | none =>
   simp only [Option.isSome_none, Zf]
   rw [Rtz h (by rw [k3]; decide), Rua h (by rw [k3]; decide), Rrw h (by rw [k3]; decide)]
   exact ⟨_, Rpd h (by rw [k3]; decide)⟩
  | some r =>
   have := Rdp hn
   subst this
   refine ⟨_, rfl, ?_⟩
   simp only [Option.isSome_some, Zt]
   rw [at2 hL h]
 ·rw [Ryo h k3]
  by_cases k4 : t = Rga
  ·have hsm : smp (t :: l) = (en l).map fun q => ([⟨7, 0, 0, q.1, [], []⟩], q.2) := by
    simp only [smp, k4, if_true]
    rw [if_neg (by decide), if_neg (by decide), if_neg (by decide)]
   rw [hsm]
   unfold Pt
   rw [show ([112, 114, 105, 110, 116] : Tok) = t from k4.symm, Rhu h, Qb, Zt, at1 hL h, Rts hL hs2, Qb]
   cases en l with
   | none => exact ⟨_, rfl⟩
   | some q => exact ⟨_, rfl, by simp only [Rw]⟩
  ·rw [Rtz h k4]
   by_cases k5 : t = Rik
   ·have hsm : smp (t :: l) = (nu l).bind fun p => (en p.2).map fun q => ([⟨4, 0, p.1, q.1, [], []⟩], q.2) := by
     simp only [smp, k5, if_true]
    rw [hsm]
    have bad : Rt L (plc L (t :: l)) = some (z0, -1) := by rw [Rrw h (by rw [k5]; decide)]; exact Rpd h (by rw [k5]; decide)
    unfold St
    rw [show ([115, 101, 110, 100] : Tok) = t from k5.symm, Rhu h, Qb, Zt, at1 hL h]
    cases l with
    | nil =>
     rw [Rpr, Qb]
     exact ⟨_, bad⟩
    | cons u l =>
     rw [Rkg hs2, Qb]
     by_cases hu : 0 ≤ numV u
     ·rw [Zp hu, Zt, at2 hL h, Rts hL hs2.tail.1, Qb, Qb, Rnj hu]
      simp only [Option.bind_some]
      cases en l with
      | none => exact ⟨_, rfl⟩
      | some q => exact ⟨_, rfl, by simp only [Rw]⟩
     ·have : nu (u :: l) = none := by simp only [nu, hu, if_false]
      rw [this, Zq hu, Zf]
      exact ⟨_, bad⟩
   ·rw [Rua h k5]
    by_cases k6 : t = Rjo
    ·have hsm : smp (t :: l) = (nu l).bind fun p => (va p.2).bind fun q => (nd kS q.2).map fun r => ([⟨5, q.1, p.1, ⟨0, 0, []⟩, [], []⟩], r) := by
      simp only [smp, k6, if_true]
      rw [if_neg (by decide)]
     rw [hsm]
     have bad : Vt L (plc L (t :: l)) = some (z0, -1) := Rpd h (by rw [k6]; decide)
     unfold Rt
     rw [show ([114, 101, 99, 118] : Tok) = t from k6.symm, Rhu h, Qb, Zt, at1 hL h]
     cases l with
     | nil =>
      rw [Rpr, Qb]
      exact ⟨_, bad⟩
     | cons u l =>
      rw [Rkg hs2, Qb]
      by_cases hu : 0 ≤ numV u
      ·rw [Zp hu, Zt, Rnj hu]
       simp only [Option.bind_some]
       cases l with
       | nil =>
        rw [is3_no hL h (by simp), Qb, Zf]
        exact ⟨_, bad⟩
       | cons w l =>
        rw [at2 hL h]
        cases hn : nd kS l with
        | none =>
         have hi : Ra L (wrap64 ((plc L (t :: u :: w :: l) : Int) + 3)) [59] = some false := by
          rw [at3 hL h, Rpl hs2.tail.1.tail.1, show nd [59] l = none from hn]; rfl
         have hb : (va (w :: l)).bind (fun q => (nd kS q.2).map fun r => (([⟨5, q.1, numV u, ⟨0, 0, []⟩, [], []⟩] : List Stm), r)) = none := by
          by_cases hw : 0 ≤ varV w
          ·rw [Rqj hw, Option.bind_some, hn]; rfl
          ·simp only [va, hw, if_false]; rfl
         rw [hi, Qb, Zf, hb]
         exact ⟨_, bad⟩
        | some r =>
         have := Rdp hn
         subst this
         have hi : Ra L (wrap64 ((plc L (t :: u :: w :: kS :: r) : Int) + 3)) [59] = some true := by
          rw [at3 hL h, Rpl hs2.tail.1.tail.1, show nd [59] (kS :: r) = some r from Rav _ _]; rfl
         obtain ⟨hs4, hp4, hlt4, hg4⟩ := hs2.tail.1.tail
         obtain ⟨hs5, hp5, hlt5, hg5⟩ := hs4.tail
         rw [hi, Qb, Zt, hg4, Qb, Rcn, Qb]
         by_cases hw : 0 ≤ varV w
         ·rw [Zq (show ¬ varV w < 0 by omega), Zf, Qb, Qb, Rcn, Qb, Rqj hw]
          simp only [Option.bind_some, Rav, Option.map_some]
          refine ⟨_, rfl, ?_⟩
          rw [show wrap64 ((plc L (t :: u :: w :: kS :: r) : Int) + 4) = (plc L r : Int) by
           obtain ⟨_, q1, _, _⟩ := h.tail
           obtain ⟨_, q2, _, _⟩ := hs2.tail
           rw [wrap_id (by omega) (by omega)]; omega]
         ·have : va (w :: kS :: r) = none := by simp only [va, hw, if_false]
          rw [Zp (show varV w < 0 by omega), Zt, this]
          exact ⟨_, rfl⟩
      ·have : nu (u :: l) = none := by simp only [nu, hu, if_false]
       rw [this, Zq hu, Zf]
       exact ⟨_, bad⟩
    ·rw [Rrw h k6]
     have hsm : smp (t :: l) = (va (t :: l)).bind fun p => (nd kE p.2).bind fun r => (en r).map fun q => ([⟨1, p.1, 0, q.1, [], []⟩], q.2) := by
      simp only [smp]
      rw [if_neg k5, if_neg k6, if_neg k3, if_neg k4]
     rw [hsm]
     by_cases hv : 0 ≤ varV t
     ·rw [Rqj hv]
      simp only [Option.bind_some]
      cases hn : nd kE l with
      | none => exact ⟨_, Vt_no hL h hn⟩
      | some r =>
       have := Rdp hn
       subst this
       rw [Vt_set hL h hv]
       simp only [Option.bind_some]
       cases en r with
       | none => exact ⟨_, rfl⟩
       | some q => exact ⟨_, rfl, rfl⟩
     ·have : va (t :: l) = none := by simp only [va, hv, if_false]
      rw [this]
      exact ⟨_, Rpd h hv⟩
theorem Rlu {L l : List Tok} (hL : L.length ≤ 20000) (h : Suf L l) : SA L (Rz L (plc L l) 1) (ex1 l) := Raac (Rvh l) L hL h (Nat.le_refl 1) (by omega)
theorem Rwt (L : List Tok) (m : Bool) (a : List Stm) : Rbh L (-1) m a = some (L, -1, (m, a)) := by
 apply Rck
 rfl
theorem Rth {L l : List Tok} {s : Stm} {p : Int} (hL : L.length ≤ 20000) (h : Suf L (kIf :: l)) (hb : Ram L (plc L l) 2 = some (s, p)) : Rdr L (plc L (kIf :: l)) = some (s, p) := by
 apply Rva
 unfold Ot
 rw [show Ra L (plc L (kIf :: l) : Int) [105, 102] = some true from Rhu h, Qb, Zt, at1 hL h, hb, Qb]
 simp only [Rdl]
theorem Rps {L l : List Tok} {s : Stm} {p : Int} (hL : L.length ≤ 20000) (h : Suf L (Rcq :: l)) (hb : Ram L (plc L l) 3 = some (s, p)) : Rdr L (plc L (Rcq :: l)) = some (s, p) := by
 apply Rva
 unfold Ot
 rw [show Ra L (plc L (Rcq :: l) : Int) [105, 102] = some false from Rtu h (by decide), Qb, Zf, show Ra L (plc L (Rcq :: l) : Int) [119, 104, 105, 108, 101] = some true from Rhu h, Qb, Zt, at1 hL h, hb, Qb]
 simp only [Rdl]
theorem Rvv {L l : List Tok} {k : Int} (hL : L.length ≤ 20000) (h : Suf L l) (hx : ex1 l = none) : Ram L (plc L l) k = some (z0, -1) := by
 have h1 := Rlu hL h
 rw [hx] at h1
 obtain ⟨x, h1⟩ := h1
 apply Rcy
 rw [h1, Qb]
 rfl
theorem Rzs {L l r : List Tok} {k : Int} {e : Exp} {b : List Stm} (hL : L.length ≤ 20000) (h : Suf L l) (hx : ex1 l = some (e, r)) (hb : Rbg L (plc L r) = some (b, -1)) : ∃ s, Ram L (plc L l) k = some (s, -1) := by
 have h1 := Rlu hL h
 rw [hx] at h1
 have h1 : _ = _ := h1
 refine ⟨⟨k, 0, 0, e, b, []⟩, ?_⟩
 apply Rcy
 have hn : ¬ ((plc L r : Int) < 0) := by omega
 rw [h1, Qb]
 dsimp only
 rw [Zq hn, Zf, hb, Qb]
 dsimp only
 rw [Rus, Qb]
 simp only [Rw]
 cases decide (k = 2) <;> rfl
theorem Rys {L l r r2 : List Tok} {e : Exp} {b : List Stm} (hL : L.length ≤ 20000) (h : Suf L l) (hx : ex1 l = some (e, r)) (hb : Rbg L (plc L r) = some (b, (plc L r2 : Int))) : Ram L (plc L l) 3 = some (⟨3, 0, 0, e, b, []⟩, (plc L r2 : Int)) := by
 have h1 := Rlu hL h
 rw [hx] at h1
 have h1 : _ = _ := h1
 apply Rcy
 have hn : ¬ ((plc L r : Int) < 0) := by omega
 rw [h1, Qb]
 dsimp only
 rw [Zq hn, Zf, hb, Qb, show decide ((3 : Int) = 2) = false from by decide, Zf]
 simp only [Rw]
theorem br_if1 {L l r r2 : List Tok} {e : Exp} {b : List Stm} (hL : L.length ≤ 20000) (h : Suf L l) (hx : ex1 l = some (e, r)) (hs : Suf L r2) (hb : Rbg L (plc L r) = some (b, (plc L r2 : Int))) (hn2 : nd Rfo r2 = none) : Ram L (plc L l) 2 = some (⟨2, 0, 0, e, b, []⟩, (plc L r2 : Int)) := by
 have h1 := Rlu hL h
 rw [hx] at h1
 have h1 : _ = _ := h1
 apply Rcy
 have hn : ¬ ((plc L r : Int) < 0) := by omega
 rw [h1, Qb]
 dsimp only
 rw [Zq hn, Zf, hb, Qb, show decide ((2 : Int) = 2) = true from by decide, Zt]
 dsimp only
 rw [Rpl hs, show nd [101, 108, 115, 101] r2 = none from hn2, Qb]
 simp only [Option.isSome_none, Zf, Rw]
theorem Rzt {L l r r2 : List Tok} {e : Exp} {b c : List Stm} {p : Int} (hL : L.length ≤ 20000) (h : Suf L l) (hx : ex1 l = some (e, r)) (hs : Suf L (Rfo :: r2)) (hb : Rbg L (plc L r) = some (b, (plc L (Rfo :: r2) : Int))) (hc : Rbg L (plc L r2) = some (c, p)) : Ram L (plc L l) 2 = some (⟨2, 0, 0, e, b, c⟩, p) := by
 have h1 := Rlu hL h
 rw [hx] at h1
 have h1 : _ = _ := h1
 apply Rcy
 have hn : ¬ ((plc L r : Int) < 0) := by omega
 rw [h1, Qb]
 dsimp only
 rw [Zq hn, Zf, hb, Qb, show decide ((2 : Int) = 2) = true from by decide, Zt]
 dsimp only
 rw [Rpl hs, show nd [101, 108, 115, 101] (Rfo :: r2) = some r2 from Rav _ _, Qb]
 simp only [Option.isSome_some, Zt]
 rw [at1 hL hs, hc, Qb]
 simp only [Rw]
theorem Raab : ∀ {j : K} {l : List Tok} {o : GO}, G j l o → ∀ L : List Tok, L.length ≤ 20000 → Suf L l → match j with
  | .st => SS L (Rdr L (plc L l)) o
  | .bk => SB L (Rbg L (plc L l)) o
  | .lp a => a.length ≤ plc L l → ∀ m, SLp L (Rbh L (plc L l) m a) o := by
 intro j l o h
 induction h with
 | @bk0 l h =>
  intro L hL hs
  refine ⟨[], ?_⟩
  apply Rjv
  rw [Rpl hs, show nd [123] l = none from h, Qb]
  rfl
 | @bk l o h ih =>
  intro L hL hs
  have h1 := ih L hL hs.tail.1 (Nat.zero_le _) true
  have st : ∀ v, (bnd (Rbh L (plc L l) true []) fun r2 => bnd (Ra r2.1 r2.2.1 [125]) fun r3 => bif (!r3) then some (([] : List Stm), (-1)) else some (r2.2.2.2, (wrap64 (r2.2.1 + 1)))) = some v → Rbg L (plc L (kL :: l)) = some v := by
   intro v hv
   apply Rjv
   rw [show Ra L (plc L (kL :: l) : Int) [123] = some true from Rhu hs, Qb]
   simp only [Zv, Zf]
   rw [at1 hL hs]
   exact hv
  cases o with
  | none =>
   obtain ⟨p, x, h1, h2⟩ := h1
   exact ⟨[], st _ (by rw [h1, Qb, h2, Qb]; rfl)⟩
  | some q =>
   obtain ⟨b, r⟩ := q
   obtain ⟨m, h1, h2⟩ := h1
   refine st _ ?_
   rw [h1, Qb]
   dsimp only
   rw [show Ra L (plc L (kR :: r) : Int) [125] = some true from Rhu h2, Qb]
   simp only [Zv, Zf]
   rw [at1 hL h2]
 | @lpE a =>
  intro L hL hs ha m
  refine ⟨(plc L [] : Int), (m, a), ?_, ?_⟩
  ·apply Rck
   have h1 : ¬ ((plc L [] : Int) < (L.length : Int)) := by rw [Rep]; omega
   rw [Zp (show (0 : Int) ≤ (plc L [] : Int) by omega), Zt, Zq h1, Zf]
  ·rw [Rpl hs]; rfl
 | @lpS a l =>
  intro L hL hs ha m
  obtain ⟨hs2, hp, hlt, hg⟩ := hs.tail
  refine ⟨m, ?_, hs⟩
  apply Rck
  have h1 : ((plc L (kR :: l) : Int) < (L.length : Int)) := by omega
  rw [Zp (show (0 : Int) ≤ (plc L (kR :: l) : Int) by omega), Zt, Zp h1, Zt, hg, Qb]
  rfl
 | @lpN a t l ht h ih =>
  intro L hL hs ha m
  obtain ⟨hs2, hp, hlt, hg⟩ := hs.tail
  obtain ⟨x, e1⟩ := ih L hL hs
  refine ⟨-1, (true, a ++ [x]), ?_, Rus _ _⟩
  apply Rck
  have h1 : ((plc L (t :: l) : Int) < (L.length : Int)) := by omega
  have hb : (t == ([125] : Tok)) = false := by rw [beq_eq_false_iff_ne]; exact ht
  rw [Zp (show (0 : Int) ≤ (plc L (t :: l) : Int) by omega), Zt, Zp h1, Zt, hg, Qb, hb]
  simp only [Zx, Zt]
  rw [e1, Qb]
  simp only [Rdl]
  rw [Rce (by omega), Qb, Rwt]
 | @lpC a t l r s o ht h1 h2 ih1 ih2 =>
  intro L hL hs ha m
  obtain ⟨hs2, hp, hlt, hg⟩ := hs.tail
  obtain ⟨s', hb, e1⟩ := ih1 L hL hs
  injection hb with hb
  subst hb
  have hsf := Rlh h1 _ _ rfl
  have hs3 := hs.trans hsf.1
  have hpl : plc L (t :: l) + 1 ≤ plc L r := by
   have h3 := hsf.2
   obtain ⟨p, hp2⟩ := hs
   have : L.length = p.length + (t :: l).length := by rw [hp2, Za]
   unfold plc; omega
  have e2 := ih2 L hL hs3 (by rw [Za]; simp only [Zc, Zn]; omega) true
  have h1 : ((plc L (t :: l) : Int) < (L.length : Int)) := by omega
  have hb : (t == ([125] : Tok)) = false := by rw [beq_eq_false_iff_ne]; exact ht
  have st : ∀ v, Rbh L (plc L r) true (a ++ [s]) = some v → Rbh L (plc L (t :: l)) m a = some v := by
   intro v hv
   apply Rck
   rw [Zp (show (0 : Int) ≤ (plc L (t :: l) : Int) by omega), Zt, Zp h1, Zt, hg, Qb, hb]
   simp only [Zx, Zt]
   rw [e1, Qb]
   simp only [Rdl]
   rw [Rce (by omega), Qb]
   exact hv
  cases o with
  | none => obtain ⟨p, x, e2, e3⟩ := e2; exact ⟨p, x, st _ e2, e3⟩
  | some q => obtain ⟨b, r'⟩ := q; obtain ⟨m', e2, e3⟩ := e2; exact ⟨m', st _ e2, e3⟩
 | @smp t l o h1 h2 h =>
  intro L hL hs
  rw [← h]
  exact one_smp hL hs h1 h2
 | @ifN l h =>
  intro L hL hs
  exact ⟨_, Rth hL hs (Rvv hL hs.tail.1 h)⟩
 | @ifB l r e h hb ih =>
  intro L hL hs
  obtain ⟨x, e2⟩ := ih L hL (Rhs hs.tail.1 h)
  obtain ⟨s, e3⟩ := Rzs (k := 2) hL hs.tail.1 h e2
  exact ⟨s, Rth hL hs e3⟩
 | @if1 l r r2 e b h hb hn ih =>
  intro L hL hs
  have hs3 := Rhs hs.tail.1 h
  have e2 := ih L hL hs3
  exact ⟨_, rfl, Rth hL hs (br_if1 hL hs.tail.1 h (hs3.trans (Rlh hb _ _ rfl).1) e2 hn)⟩
 | @if2 l r r2 r3 e b c h hb hc ih ih2 =>
  intro L hL hs
  have hs3 := Rhs hs.tail.1 h
  have e2 := ih L hL hs3
  have hs4 := hs3.trans (Rlh hb _ _ rfl).1
  have e3 := ih2 L hL hs4.tail.1
  exact ⟨_, rfl, Rth hL hs (Rzt hL hs.tail.1 h hs4 e2 e3)⟩
 | @if3 l r r2 e b h hb hc ih ih2 =>
  intro L hL hs
  have hs3 := Rhs hs.tail.1 h
  have e2 := ih L hL hs3
  have hs4 := hs3.trans (Rlh hb _ _ rfl).1
  obtain ⟨x, e3⟩ := ih2 L hL hs4.tail.1
  exact ⟨_, Rth hL hs (Rzt hL hs.tail.1 h hs4 e2 e3)⟩
 | @whN l h =>
  intro L hL hs
  exact ⟨_, Rps hL hs (Rvv hL hs.tail.1 h)⟩
 | @whB l r e h hb ih =>
  intro L hL hs
  obtain ⟨x, e2⟩ := ih L hL (Rhs hs.tail.1 h)
  obtain ⟨s, e3⟩ := Rzs (k := 3) hL hs.tail.1 h e2
  exact ⟨s, Rps hL hs e3⟩
 | @wh l r r2 e b h hb ih =>
  intro L hL hs
  exact ⟨_, rfl, Rps hL hs (Rys hL hs.tail.1 h (ih L hL (Rhs hs.tail.1 h)))⟩
theorem Ruo (o n : Int) (as : List Exp) : emX ⟨o, n, as⟩ = emXs as := by rw [Rlm]
theorem Ryp {t : Tok} {e : Exp} (h : atom t = some e) : emX e = 0 := by
 by_cases h0 : 0 ≤ numV t
 ·rw [Roz h h0]; rfl
 ·rw [(Rli h h0).2]; rfl
theorem P_sz : ∀ {j : J} {l : List Tok} {o : Out}, P j l o → ∀ e r, o = some (e, r) → match j with
  | .loop _ e0 => emX e + 2 * r.length ≤ emX e0 + 2 * l.length
  | _ => emX e + 2 * r.length + 2 ≤ 2 * l.length := by
 intro j l o h
 induction h with
 | nil => intro e r ho; cases ho
 | atom h1 h2 => intro e r ho; injection ho with ho; injection ho with a b; subst a b; have := Ryp h2; simp only [Zc]; omega
 | bad _ _ => intro e r ho; cases ho
 | par h ih => intro e r ho; injection ho with ho; injection ho with a b; subst a b; have := ih _ _ rfl; simp only [Zc] at *; omega
 | parN _ _ => intro e r ho; cases ho
 | parE _ _ => intro e r ho; cases ho
 | parB _ _ _ => intro e r ho; cases ho
 | top hk h ih => intro e r ho; exact ih e r ho
 | levN hk h ih => intro e r ho; cases ho
 | levS hk h1 h2 ih1 ih2 =>
  intro e r ho
  have a := ih1 _ _ rfl
  have b := ih2 e r ho
  simp only at *; omega
 | stop hn => intro e r ho; injection ho with ho; injection ho with a b; subst a b; exact Nat.le_refl _
 | step hl h1 h2 ih1 ih2 =>
  intro e r ho
  have a := ih1 _ _ rfl
  have b := ih2 e r ho
  simp only [Ruo, Rse, Zc] at *; omega
 | stepN hl h ih => intro e r ho; cases ho
theorem Rvi {l r : List Tok} {e : Exp} (h : ex1 l = some (e, r)) : emX e + 2 * r.length + 2 ≤ 2 * l.length := P_sz (h ▸ Rvh l) e r rfl
theorem Rhv (k v b : Int) (e : Exp) (bd el : List Stm) : mSs [⟨k, v, b, e, bd, el⟩] = 1 + emX e + mSs bd + mSs el := by
 cases e
 rw [mSs_one, Rnh, Ruo]
 omega
theorem smp_sz {t : Tok} {l r : List Tok} {b : List Stm} (h : smp (t :: l) = some (b, r)) : mSs b + 2 * r.length ≤ 2 * (t :: l).length := by
 obtain ⟨s, rfl, hh⟩ := Rsn h
 clear h
 have z : mSs [] = 0 := rfl
 rcases hh with ⟨u, e, rfl, hu, ⟨r1, rfl, h⟩, rfl⟩ | ⟨u, w, rfl, hu, hw, rfl, rfl⟩ | ⟨rfl, rfl, rfl⟩ | ⟨e, rfl, h, rfl⟩ | ⟨e, _, _, _, _, hv, ⟨r1, rfl, h⟩, rfl⟩
 ·have := Rvi h; rw [Rhv, z]; simp only [Zc] at *; omega
 ·rw [Rhv, z, Ruo]; simp only [Zc, emXs]; omega
 ·rw [Rhv, z, Ruo]; simp only [Zc, emXs]; omega
 ·have := Rvi h; rw [Rhv, z]; simp only [Zc] at *; omega
 ·have := Rvi h; rw [Rhv, z]; simp only [Zc] at *; omega
theorem G_sz : ∀ {j : K} {l : List Tok} {o : GO}, G j l o → ∀ b r, o = some (b, r) → match j with
  | .lp a => mSs b + 2 * r.length ≤ mSs a + 2 * l.length
  | _ => mSs b + 2 * r.length ≤ 2 * l.length := by
 intro j l o h
 have z : mSs [] = 0 := rfl
 induction h with
 | bk0 _ => intro b r ho; cases ho
 | bk h ih => intro b r ho; have := ih b r ho; simp only [Zc, z] at *; omega
 | lpE => intro b r ho; cases ho
 | lpS => intro b r ho; injection ho with ho; injection ho with a c; subst a c; simp only [Zc]; omega
 | lpN _ _ _ => intro b r ho; cases ho
 | lpC h1 h2 h3 ih1 ih2 =>
  intro b r ho
  have a := ih1 _ _ rfl
  have b := ih2 b r ho
  simp only [Rin] at *; omega
 | smp h1 h2 h => intro b r ho; rw [ho] at h; exact smp_sz h
 | ifN _ => intro b r ho; cases ho
 | ifB _ _ _ => intro b r ho; cases ho
 | if1 h1 h2 h3 ih =>
  intro b r ho
  injection ho with ho; injection ho with a c; subst a c
  have := ih _ _ rfl
  have := Rvi h1
  rw [Rhv]; simp only [Zc, z] at *; omega
 | if2 h1 _ _ ih ih2 =>
  intro b r ho
  injection ho with ho; injection ho with a c; subst a c
  have := ih _ _ rfl
  have := ih2 _ _ rfl
  have := Rvi h1
  rw [Rhv]; simp only [Zc] at *; omega
 | if3 _ _ _ _ _ => intro b r ho; cases ho
 | whN _ => intro b r ho; cases ho
 | whB _ _ _ => intro b r ho; cases ho
 | wh h1 _ ih =>
  intro b r ho
  injection ho with ho; injection ho with a c; subst a c
  have := ih _ _ rfl
  have := Rvi h1
  rw [Rhv]; simp only [Zc, z] at *; omega
inductive BR : List Int → List Tok → Option (List Int × List Tok) → Prop
 | stop {a : List Int} {l : List Tok} : nd kBox l = none → BR a l (some (a, l))
 | go {a : List Int} {l r : List Tok} {n : Int} {o : Option (List Int × List Tok)} : nu l = some (n, kS :: r) → BR (a ++ [n]) r o → BR a (kBox :: l) o
 | bad {a : List Int} {l : List Tok} : (nu l).bind (fun p => nd kS p.2) = none → BR a (kBox :: l) none
inductive TR : List (List Stm) → List Tok → Option (List (List Stm) × List Tok) → Prop
 | stop {a : List (List Stm)} {l : List Tok} : nd Rjl l = none → TR a l (some (a, l))
 | go {a : List (List Stm)} {l r : List Tok} {b : List Stm} {o : Option (List (List Stm) × List Tok)} : G .bk l (some (b, r)) → TR (a ++ [b]) r o → TR a (Rjl :: l) o
 | bad {a : List (List Stm)} {l : List Tok} : G .bk l none → TR a (Rjl :: l) none
theorem Rru : ∀ (n : Nat) (l : List Tok) (a : List Int), l.length < n → ∃ o, BR a l o
 | 0, _, _, h => by omega
 | n + 1, l, a, h => by
  cases h1 : nd kBox l with
  | none => exact ⟨_, .stop h1⟩
  | some l1 =>
   have := Rdp h1
   subst this
   cases h2 : (nu l1).bind (fun p => nd kS p.2) with
   | none => exact ⟨_, .bad h2⟩
   | some r =>
    rw [Option.bind_eq_some_iff] at h2
    obtain ⟨⟨k, l2⟩, h3, h4⟩ := h2
    have := Rdp h4
    simp only at this
    subst this
    obtain ⟨u, hu, _⟩ := Rla h3
    subst hu
    simp only [Zc] at h
    obtain ⟨o, ho⟩ := Rru n r (a ++ [k]) (by omega)
    exact ⟨o, .go h3 ho⟩
theorem Rrx : ∀ (n : Nat) (l : List Tok) (a : List (List Stm)), l.length < n → ∃ o, TR a l o
 | 0, _, _, h => by omega
 | n + 1, l, a, h => by
  cases h1 : nd Rjl l with
  | none => exact ⟨_, .stop h1⟩
  | some l1 =>
   have := Rdp h1
   subst this
   simp only [Zc] at h
   obtain ⟨o, ho⟩ := (Rmu (l1.length + 1) l1 (Nat.lt_succ_self _)).2.1
   cases o with
   | none => exact ⟨_, .bad ho⟩
   | some q =>
    obtain ⟨b, r⟩ := q
    have := (Rlh ho b r rfl).2
    obtain ⟨o2, ho2⟩ := Rrx n r (a ++ [b]) (by omega)
    exact ⟨o2, .go ho ho2⟩
theorem Rvm : ∀ {a : List Int} {l : List Tok} {o}, BR a l o → ∀ b r, o = some (b, r) → (∃ p, l = p ++ r) ∧ a.length + l.length ≥ b.length + r.length := by
 intro a l o h
 induction h with
 | stop h => intro b r ho; injection ho with ho; injection ho with a c; subst a c; exact ⟨⟨[], rfl⟩, Nat.le_refl _⟩
 | @go a l r n o h1 h2 ih =>
  intro b r ho
  obtain ⟨⟨p, hp⟩, hl⟩ := ih b r ho
  obtain ⟨u, hu, _⟩ := Rla h1
  subst hu hp
  refine ⟨⟨kBox :: u :: kS :: p, rfl⟩, ?_⟩
  simp only [Za, Zc, Zn] at *; omega
 | bad h => intro b r ho; cases ho
theorem Rvq : ∀ {a : List (List Stm)} {l : List Tok} {o}, TR a l o → ∀ b r, o = some (b, r) → (∃ p, l = p ++ r) ∧ b.length + r.length ≤ a.length + l.length ∧ (∀ n, 2 * l.length ≤ n → (∀ x ∈ a, mSs x ≤ n) → ∀ x ∈ b, mSs x ≤ n) := by
 intro a l o h
 induction h with
 | stop h => intro b r ho; injection ho with ho; injection ho with a c; subst a c; exact ⟨⟨[], rfl⟩, Nat.le_refl _, fun n _ h => h⟩
 | @go a l r' b o h1 h2 ih =>
  intro b2 r ho
  obtain ⟨⟨p, hp⟩, hl, hm⟩ := ih b2 r ho
  obtain ⟨⟨q, hq⟩, hl2⟩ := Rlh h1 _ _ rfl
  have hz := G_sz h1 _ _ rfl
  refine ⟨⟨Rjl :: q ++ p, by rw [hq, hp]; simp⟩, ?_, ?_⟩
  ·simp only [Za, Zc, Zn] at *; omega
  ·intro n hn ha
   simp only [Zc] at hn hz
   refine hm n (by omega) (fun x hx => ?_)
   rcases List.mem_append.1 hx with hx | hx
   ·exact ha x hx
   ·rw [List.mem_singleton.1 hx]; omega
 | bad h => intro b r ho; cases ho
theorem Rrb {L : List Tok} {t4 : List Tok} {c0 : Bool} {c1 : Bool} {c3 : Bool} {y0 : List Int} {y1 : List (List Stm)} {y3 : List (List Stm)} (p : Int) (m : Bool) (a : List Int) : Rj t4 c0 y0 c1 y1 L p true m a c3 y3 = some (t4, (c0, y0), (c1, y1), L, p, true, (m, a), (c3, y3)) := by
 apply Ray
 rw [Rgz (by simp), Qb]; rfl
theorem Rsh {L : List Tok} {t4 : List Tok} {c0 : Bool} {c1 : Bool} {c3 : Bool} {y0 : List Int} {y1 : List (List Stm)} {y3 : List (List Stm)} : ∀ {a : List Int} {l : List Tok} {o}, BR a l o → L.length ≤ 20000 → (∀ t ∈ L, gt t) → Suf L l → a.length + l.length ≤ 20000 → ∀ m, match o with
  | some (rs, r) => ∃ m', Rj t4 c0 y0 c1 y1 L (plc L l) false m a c3 y3 = some (t4, (c0, y0), (c1, y1), L, (plc L r : Int), false, (m', rs), (c3, y3))
  | none => ∃ p x, Rj t4 c0 y0 c1 y1 L (plc L l) false m a c3 y3 = some (t4, (c0, y0), (c1, y1), L, p, true, x, (c3, y3)) := by
 intro a l o h
 induction h with
 | @stop a l h =>
  intro hL hg hs ha m
  refine ⟨m, ?_⟩
  apply Ray
  rw [Rp (by simp) hL hs, show nd [98, 111, 120] l = none from h, Qb]; rfl
 | @go a l r n o h1 h2 ih =>
  intro hL hg hs ha m
  have hn := Rkh hL hg hs.tail.1
  rw [h1] at hn
  have hn : _ = _ := hn
  have hs3 := Ruw hs.tail.1 h1
  obtain ⟨u, hu, _⟩ := Rla h1
  have e2 := ih hL hg hs3.tail.1 (by subst hu; simp only [Za, Zc, Zn] at *; omega) true
  have st : ∀ v, Rj t4 c0 y0 c1 y1 L (plc L r) false true (a ++ [n]) c3 y3 = some v → Rj t4 c0 y0 c1 y1 L (plc L (kBox :: l)) false m a c3 y3 = some v := by
   intro v hv
   apply Ray
   rw [Rp (k := [98, 111, 120]) (by simp) hL hs, show nd [98, 111, 120] (kBox :: l) = some l from Rav _ _, Qb]
   simp only [Zt]
   rw [hn, Qb]
   dsimp only
   rw [Rce (by omega), Qb, Rjr (by simp) hL hs3, show nd [59] (kS :: r) = some r from Rav _ _, Qb]
   exact hv
  cases o with
  | none => obtain ⟨p, x, e2⟩ := e2; exact ⟨p, x, st _ e2⟩
  | some q => obtain ⟨b, r'⟩ := q; obtain ⟨m', e2⟩ := e2; exact ⟨m', st _ e2⟩
 | @bad a l h =>
  intro hL hg hs ha m
  have hs2 := hs.tail.1
  have hn := Rkh hL hg hs2
  cases h1 : nu l with
  | none =>
   rw [h1] at hn
   obtain ⟨q, hn⟩ := hn
   refine ⟨q, (true, a ++ [0]), ?_⟩
   apply Ray
   rw [Rp (k := [98, 111, 120]) (by simp) hL hs, show nd [98, 111, 120] (kBox :: l) = some l from Rav _ _, Qb]
   simp only [Zt]
   rw [hn, Qb]
   dsimp only
   rw [Rce (by omega), Qb, Reo (by simp), Qb, Rrb]
  | some p =>
   obtain ⟨n, r⟩ := p
   rw [h1] at hn h
   have hn : _ = _ := hn
   simp only [Option.bind_some] at h
   have hs3 := Ruw hs2 h1
   refine ⟨(plc L r : Int), (true, a ++ [n]), ?_⟩
   apply Ray
   rw [Rp (k := [98, 111, 120]) (by simp) hL hs, show nd [98, 111, 120] (kBox :: l) = some l from Rav _ _, Qb]
   simp only [Zt]
   rw [hn, Qb]
   dsimp only
   rw [Rce (by omega), Qb, Rjr (by simp) hL hs3, show nd [59] r = none from h, Qb, Rrb]
theorem Rnt {L : List Tok} {t4 : List Tok} {c0 : Bool} {c1 : Bool} {y0 : List Int} {y1 : List (List Stm)} {m0 : Bool} {b0 : List Int} (p : Int) (m : Bool) (a : List (List Stm)) : Rm t4 c0 y0 c1 y1 L p true m0 b0 m a = some (t4, (c0, y0), (c1, y1), L, p, true, (m0, b0), (m, a)) := by
 apply Rby
 rw [Rgz (by simp), Qb]; rfl
theorem Rwe {L : List Tok} {t4 : List Tok} {c0 : Bool} {c1 : Bool} {y0 : List Int} {y1 : List (List Stm)} {m0 : Bool} {b0 : List Int} : ∀ {a : List (List Stm)} {l : List Tok} {o}, TR a l o → L.length ≤ 20000 → (∀ t ∈ L, gt t) → Suf L l → a.length + l.length ≤ 20000 → ∀ m, match o with
  | some (ts, r) => ∃ m', Rm t4 c0 y0 c1 y1 L (plc L l) false m0 b0 m a = some (t4, (c0, y0), (c1, y1), L, (plc L r : Int), false, (m0, b0), (m', ts))
  | none => ∃ p x, Rm t4 c0 y0 c1 y1 L (plc L l) false m0 b0 m a = some (t4, (c0, y0), (c1, y1), L, p, true, (m0, b0), x) := by
 intro a l o h
 induction h with
 | @stop a l h =>
  intro hL hg hs ha m
  refine ⟨m, ?_⟩
  apply Rby
  rw [Rp (by simp) hL hs, show nd [116, 97, 115, 107] l = none from h, Qb]; rfl
 | @go a l r b o h1 h2 ih =>
  intro hL hg hs ha m
  have e1 := Rzv h1 L hL hg hs.tail.1
  have e1 : _ = _ := e1
  have hsf := Rlh h1 _ _ rfl
  have hs3 := hs.tail.1.trans hsf.1
  have e2 := ih hL hg hs3 (by have := hsf.2; simp only [Za, Zc, Zn] at *; omega) true
  have st : ∀ v, Rm t4 c0 y0 c1 y1 L (plc L r) false m0 b0 true (a ++ [b]) = some v → Rm t4 c0 y0 c1 y1 L (plc L (Rjl :: l)) false m0 b0 m a = some v := by
   intro v hv
   apply Rby
   rw [Rp (k := [116, 97, 115, 107]) (by simp) hL hs, show nd [116, 97, 115, 107] (Rjl :: l) = some l from Rav _ _, Qb]
   simp only [Zt]
   rw [e1, Qb]
   dsimp only
   rw [Rce (by omega), Qb]
   exact hv
  cases o with
  | none => obtain ⟨p, x, e2⟩ := e2; exact ⟨p, x, st _ e2⟩
  | some q => obtain ⟨b, r'⟩ := q; obtain ⟨m', e2⟩ := e2; exact ⟨m', st _ e2⟩
 | @bad a l h =>
  intro hL hg hs ha m
  obtain ⟨x, p, e1⟩ := Rzv h L hL hg hs.tail.1
  refine ⟨p, (true, a ++ [x]), ?_⟩
  apply Rby
  rw [Rp (k := [116, 97, 115, 107]) (by simp) hL hs, show nd [116, 97, 115, 107] (Rjl :: l) = some l from Rav _ _, Qb]
  simp only [Zt]
  rw [e1, Qb]
  dsimp only
  rw [Rce (by omega), Qb, Rnt]
theorem Rya {L : List Tok} {c0 : Bool} {c1 : Bool} {c2 : Bool} {c3 : Bool} {c5 : Bool} {y0 : List Int} {y2 : List Int} {y1 : List (List Stm)} {y3 : List (List Stm)} {y5 : List (List Stm)} : ∀ {a : List Int} {l : List Tok} {o}, BR a l o → L.length ≤ 20000 → Suf L l → a.length + l.length ≤ 20000 → ∀ m, match o with
  | some (rs, r) => ∃ m', Ru L (plc L l) c0 y0 c1 y1 c2 y2 c3 y3 m a c5 y5 = some (L, (plc L r : Int), (c0, y0), (c1, y1), (c2, y2), (c3, y3), (m', rs), (c5, y5))
  | none => ∃ r x, Suf L (kBox :: r) ∧ Ru L (plc L l) c0 y0 c1 y1 c2 y2 c3 y3 m a c5 y5 = some (L, (plc L (kBox :: r) : Int), (c0, y0), (c1, y1), (c2, y2), (c3, y3), x, (c5, y5)) := by
 intro a l o h
 induction h with
 | @stop a l h =>
  intro hL hs ha m
  refine ⟨m, ?_⟩
  apply Rdk
  rw [Rpl hs, show nd [98, 111, 120] l = none from h, Qb]; rfl
 | @go a l r n o h1 h2 ih =>
  intro hL hs ha m
  obtain ⟨u, hu, h0, hn⟩ := Rla h1
  subst hu
  have hs2 := hs.tail.1
  have hs3 := hs2.tail.1
  have e2 := ih hL hs3.tail.1 (by simp only [Za, Zc, Zn] at *; omega) true
  have st : ∀ v, Ru L (plc L r) c0 y0 c1 y1 c2 y2 c3 y3 true (a ++ [n]) c5 y5 = some v → Ru L (plc L (kBox :: u :: kS :: r)) c0 y0 c1 y1 c2 y2 c3 y3 m a c5 y5 = some v := by
   intro v hv
   apply Rdk
   rw [show Ra L (plc L (kBox :: u :: kS :: r) : Int) [98, 111, 120] = some true from Rhu hs, Qb, Zt, at1 hL hs, Rkg hs2, Qb, Zp h0, Zt, at2 hL hs,
    show Ra L (plc L (kS :: r) : Int) [59] = some true from Rhu hs3, Qb, Zt, Qb, Rce (by omega), Qb, at3 hL hs, ← hn]
   exact hv
  cases o with
  | none => obtain ⟨r2, x, q, e2⟩ := e2; exact ⟨r2, x, q, st _ e2⟩
  | some q => obtain ⟨b, r'⟩ := q; obtain ⟨m', e2⟩ := e2; exact ⟨m', st _ e2⟩
 | @bad a l h =>
  intro hL hs ha m
  refine ⟨l, (m, a), hs, ?_⟩
  apply Rdk
  rw [show Ra L (plc L (kBox :: l) : Int) [98, 111, 120] = some true from Rhu hs, Qb, Zt, at1 hL hs]
  have hs2 := hs.tail.1
  cases l with
  | nil => rw [Rpr, Qb]; rfl
  | cons u l =>
   rw [Rkg hs2, Qb]
   by_cases h0 : 0 ≤ numV u
   ·rw [Rnj h0] at h
    simp only [Option.bind_some] at h
    rw [Zp h0, Zt, at2 hL hs, Rpl hs2.tail.1, show nd [59] l = none from h, Qb]; rfl
   ·rw [Zq h0, Zf]
theorem Ryg {L : List Tok} {c0 : Bool} {c1 : Bool} {c2 : Bool} {c3 : Bool} {y0 : List Int} {y2 : List Int} {y1 : List (List Stm)} {y3 : List (List Stm)} {m0 : Bool} {b0 : List Int} (m : Bool) (a : List (List Stm)) : Rv L (-1) c0 y0 c1 y1 c2 y2 c3 y3 m0 b0 m a = some (L, -1, (c0, y0), (c1, y1), (c2, y2), (c3, y3), (m0, b0), (m, a)) := by
 apply Rbz
 rw [Rus, Qb]; rfl
theorem Ryb {L : List Tok} {c0 : Bool} {c1 : Bool} {c2 : Bool} {c3 : Bool} {y0 : List Int} {y2 : List Int} {y1 : List (List Stm)} {y3 : List (List Stm)} {m0 : Bool} {b0 : List Int} : ∀ {a : List (List Stm)} {l : List Tok} {o}, TR a l o → L.length ≤ 20000 → Suf L l → a.length + l.length ≤ 20000 → ∀ m, match o with
  | some (ts, r) => ∃ m', Rv L (plc L l) c0 y0 c1 y1 c2 y2 c3 y3 m0 b0 m a = some (L, (plc L r : Int), (c0, y0), (c1, y1), (c2, y2), (c3, y3), (m0, b0), (m', ts))
  | none => ∃ x, Rv L (plc L l) c0 y0 c1 y1 c2 y2 c3 y3 m0 b0 m a = some (L, -1, (c0, y0), (c1, y1), (c2, y2), (c3, y3), (m0, b0), x) := by
 intro a l o h
 induction h with
 | @stop a l h =>
  intro hL hs ha m
  refine ⟨m, ?_⟩
  apply Rbz
  rw [Rpl hs, show nd [116, 97, 115, 107] l = none from h, Qb]; rfl
 | @go a l r b o h1 h2 ih =>
  intro hL hs ha m
  have e1 := Raab h1 L hL hs.tail.1
  have e1 : _ = _ := e1
  have hsf := Rlh h1 _ _ rfl
  have e2 := ih hL (hs.tail.1.trans hsf.1) (by have := hsf.2; simp only [Za, Zc, Zn] at *; omega) true
  have st : ∀ v, Rv L (plc L r) c0 y0 c1 y1 c2 y2 c3 y3 m0 b0 true (a ++ [b]) = some v → Rv L (plc L (Rjl :: l)) c0 y0 c1 y1 c2 y2 c3 y3 m0 b0 m a = some v := by
   intro v hv
   apply Rbz
   rw [show Ra L (plc L (Rjl :: l) : Int) [116, 97, 115, 107] = some true from Rhu hs, Qb, Zt, at1 hL hs, e1, Qb]
   dsimp only
   rw [Rce (by omega), Qb]
   exact hv
  cases o with
  | none => obtain ⟨x, e2⟩ := e2; exact ⟨x, st _ e2⟩
  | some q => obtain ⟨b, r'⟩ := q; obtain ⟨m', e2⟩ := e2; exact ⟨m', st _ e2⟩
 | @bad a l h =>
  intro hL hs ha m
  obtain ⟨x, e1⟩ := Raab h L hL hs.tail.1
  refine ⟨(true, a ++ [x]), ?_⟩
  apply Rbz
  rw [show Ra L (plc L (Rjl :: l) : Int) [116, 97, 115, 107] = some true from Rhu hs, Qb, Zt, at1 hL hs, e1, Qb]
  dsimp only
  rw [Rce (by omega), Qb, Ryg]
def PrF (t : List Tok) (p : Prg) : Prop := ∃ l, BR [] t (some (p.rooms, l)) ∧ TR [] l (some (p.tasks, []))
def Prm (s : List UInt8) (p : Prg) : Prop := s.length ≤ 20000 ∧ (∃ t, toks s = some t ∧ PrF t p) ∧ Rev p = true
theorem prg_eta (p : Prg) : (⟨p.rooms, p.tasks⟩ : Prg) = p := by cases p; rfl
theorem Rvo {t : List Tok} {p : Prg} (h : PrF t p) (n : Nat) (hn : 2 * t.length ≤ n) : p.rooms.length ≤ n ∧ p.tasks.length ≤ n ∧ ∀ x ∈ p.tasks, mSs x ≤ n := by
 obtain ⟨l, h1, h2⟩ := h
 have a := (Rvm h1 _ _ rfl).2
 have b := Rvq h2 _ _ rfl
 simp only [Zn] at a b
 exact ⟨by omega, by omega, b.2.2 n (by omega) (fun x hx => by cases hx)⟩
theorem Rpc : ∀ {a : List Int} {l : List Tok} {o}, BR a l o → ∀ o', BR a l o' → o = o' := by
 intro a l o h
 induction h with
 | stop h => intro o' h'; cases h' with | stop _ => rfl | go _ _ => exact absurd h Rhw | bad _ => exact absurd h Rhw
 | go h1 h2 ih =>
  intro o' h'
  cases h' with
  | stop h => exact absurd h Rhw
  | go h3 h4 => rw [h1] at h3; injection h3 with h3; injection h3 with a b; injection b with _ b; subst a b; exact ih _ h4
  | bad h => rw [h1, Option.bind_some, Rav] at h; cases h
 | bad h =>
  intro o' h'
  cases h' with
  | stop h2 => exact absurd h2 Rhw
  | go h1 h2 => rw [h1, Option.bind_some, Rav] at h; cases h
  | bad h => rfl
theorem Rsw : ∀ {a : List (List Stm)} {l : List Tok} {o}, TR a l o → ∀ o', TR a l o' → o = o' := by
 intro a l o h
 induction h with
 | stop h => intro o' h'; cases h' with | stop _ => rfl | go _ _ => exact absurd h Rhw | bad _ => exact absurd h Rhw
 | go h1 h2 ih =>
  intro o' h'
  cases h' with
  | stop h => exact absurd h Rhw
  | go h3 h4 => have := G_det h1 _ h3; injection this with this; injection this with a b; subst a b; exact ih _ h4
  | bad h => have := G_det h1 _ h; cases this
 | bad h =>
  intro o' h'
  cases h' with
  | stop h2 => exact absurd h2 Rhw
  | go h1 h2 => have := G_det h _ h1; cases this
  | bad h => rfl
theorem Rtn {t : List Tok} {p q : Prg} (h1 : PrF t p) (h2 : PrF t q) : p = q := by
 obtain ⟨l, a, b⟩ := h1
 obtain ⟨l2, c, d⟩ := h2
 have e := Rpc a _ c
 injection e with e; injection e with e1 e2
 subst e2
 have f := Rsw b _ d
 injection f with f; injection f with f1 f2
 cases p; cases q
 simp only at e1 f1
 rw [e1, f1]
theorem impl_pf (s : List UInt8) : (∃ p, Prm s p ∧ Rk s = some (p, true)) ∨
  ((∀ p, ¬ Prm s p) ∧ Rk s = some (⟨[], []⟩, false)) := by
 by_cases hl : 20000 < s.length
 ·refine Or.inr ⟨fun p h => by have := h.1; omega, ?_⟩
  ·apply Raz; rw [Rdh, if_pos hl, Qb]; rfl
 ·cases ht : toks s with
  | none =>
   refine Or.inr ⟨fun p h => ?_, ?_⟩
   ·obtain ⟨_, ⟨t, h1, _⟩, _⟩ := h
    rw [ht] at h1; cases h1
   ·apply Raz; rw [Rdh, if_neg hl, ht, Qb]; rfl
  | some t =>
   have hlen := Rsu ht
   have hL : t.length ≤ 20000 := by omega
   have hg := Ryh ht
   obtain ⟨hs, h0⟩ := Rye t
   have no : (∀ p, PrF t p → Rev p = false) → (∀ p, ¬ Prm s p) := by
    intro h p hp
    obtain ⟨_, ⟨t', h1, h2⟩, h3⟩ := hp
    rw [ht] at h1; injection h1 with h1; subst h1
    rw [h p h2] at h3; cases h3
   have ist : ∀ v, (bnd (Rj t false [] false [] t 0 false false [] false []) fun r2 =>
     bnd (Rm r2.1 r2.2.1.1 r2.2.1.2 r2.2.2.1.1 r2.2.2.1.2 r2.2.2.2.1 r2.2.2.2.2.1 r2.2.2.2.2.2.1 r2.2.2.2.2.2.2.1.1 r2.2.2.2.2.2.2.1.2 r2.2.2.2.2.2.2.2.1 r2.2.2.2.2.2.2.2.2) fun r3 =>
     (bif r3.2.2.2.2.2.1 then some ((⟨[], []⟩ : Prg), false) else
     (bif (!decide (r3.2.2.2.2.1 = (r3.1.length : Int))) then some (⟨[], []⟩, false) else
     bnd (Ran (⟨r3.2.2.2.2.2.2.1.2, r3.2.2.2.2.2.2.2.2⟩ : Prg)) fun r4 =>
     (bif (!r4) then some (⟨[], []⟩, false) else some (⟨r3.2.2.2.2.2.2.1.2, r3.2.2.2.2.2.2.2.2⟩, true))))) = some v → Rk s = some v := by
    intro v hv
    apply Raz
    rw [Rdh, if_neg hl, ht, Qb]
    exact hv
   obtain ⟨o1, b1⟩ := Rru (t.length + 1) t [] (Nat.lt_succ_self _)
   cases o1 with
   | none =>
    refine Or.inr ⟨no fun p ⟨l, a, b⟩ => ?_, ?_⟩
    ·have := Rpc b1 _ a; cases this
    ·obtain ⟨p, x, e1⟩ := Rsh (t4 := t) (c0 := false) (c1 := false) (c3 := false) (y0 := []) (y1 := []) (y3 := []) b1 hL hg hs (by simpa using hL) false
     rw [h0] at e1
     apply ist
     rw [show Rj t false [] false [] t 0 false false [] false [] = _ from e1, Qb]
     dsimp only
     rw [Rnt, Qb]; rfl
   | some q =>
    obtain ⟨rs, l1⟩ := q
    have sf := Rvm b1 _ _ rfl
    have hs2 := hs.trans sf.1
    obtain ⟨m1, e1⟩ := Rsh (t4 := t) (c0 := false) (c1 := false) (c3 := false) (y0 := []) (y1 := []) (y3 := []) b1 hL hg hs (by simpa using hL) false
    rw [h0] at e1
    obtain ⟨o2, t1⟩ := Rrx (l1.length + 1) l1 [] (Nat.lt_succ_self _)
    have hl1 : ([] : List (List Stm)).length + l1.length ≤ 20000 := by have := sf.2; simp only [Zn] at *; omega
    have i2 := Rwe (L := t) (t4 := t) (c0 := false) (c1 := false) (y0 := []) (y1 := []) (m0 := m1) (b0 := rs) t1 hL hg hs2 hl1 false
    have ist2 : ∀ v, (bnd (Rm t false [] false [] t (plc t l1) false m1 rs false []) fun r3 =>
      (bif r3.2.2.2.2.2.1 then some ((⟨[], []⟩ : Prg), false) else
      (bif (!decide (r3.2.2.2.2.1 = (r3.1.length : Int))) then some (⟨[], []⟩, false) else
      bnd (Ran (⟨r3.2.2.2.2.2.2.1.2, r3.2.2.2.2.2.2.2.2⟩ : Prg)) fun r4 =>
      (bif (!r4) then some (⟨[], []⟩, false) else some (⟨r3.2.2.2.2.2.2.1.2, r3.2.2.2.2.2.2.2.2⟩, true))))) = some v → Rk s = some v := by
     intro v hv
     apply ist
     rw [show Rj t false [] false [] t 0 false false [] false [] = _ from e1, Qb]
     exact hv
    cases o2 with
    | none =>
     refine Or.inr ⟨no fun p ⟨l, a, b⟩ => ?_, ?_⟩
     ·have := Rpc b1 _ a; injection this with this; injection this with _ this; subst this
      have := Rsw t1 _ b; cases this
     ·obtain ⟨p, x, i2⟩ := i2
      apply ist2
      rw [i2, Qb]; rfl
    | some q =>
     obtain ⟨ts, l2⟩ := q
     obtain ⟨m3, i2⟩ := i2
     have sf2 := Rvq t1 _ _ rfl
     have hs3 := hs2.trans sf2.1
     by_cases he : l2 = []
     ·subst he
      have hpf : PrF t ⟨rs, ts⟩ := ⟨l1, b1, t1⟩
      have sz := Rvo hpf 40000 (by omega)
      have hpl : ((plc t [] : Nat) : Int) = (t.length : Int) := by rw [Rep]
      have iv : Ran ⟨rs, ts⟩ = some (Rev ⟨rs, ts⟩) := Rgo (by have := sz.1; simp only at *; omega) (by have := sz.2.1; simp only at *; omega) (fun x hx => by have := sz.2.2 x hx; omega)
      cases ho : Rev ⟨rs, ts⟩
      ·refine Or.inr ⟨no fun p hp => by rw [Rtn hp hpf]; exact ho, ?_⟩
       ·apply ist2
        rw [i2, Qb]
        dsimp only
        rw [Zf, Zp hpl, Zv, Zf, iv, Qb, ho]; rfl
      ·refine Or.inl ⟨⟨rs, ts⟩, ⟨by omega, ⟨t, ht, hpf⟩, ho⟩, ?_⟩
       ·apply ist2
        rw [i2, Qb]
        dsimp only
        rw [Zf, Zp hpl, Zv, Zf, iv, Qb, ho]; rfl
     ·have hne : ¬ ((plc t l2 : Int) = (t.length : Int)) := by
       cases l2 with
       | nil => exact absurd rfl he
       | cons u l2 => have := hs3.tail.2.2.1; omega
      refine Or.inr ⟨no fun p ⟨l, a, b⟩ => ?_, ?_⟩
      ·have := Rpc b1 _ a; injection this with this; injection this with _ this; subst this
       have := Rsw t1 _ b; injection this with this; injection this with _ this; exact absurd this he
      ·apply ist2
       rw [i2, Qb]
       dsimp only
       rw [Zf, Zq hne]; rfl
theorem pf_all (s : List UInt8) : (∃ p, Prm s p ∧ Rk s = some (p, true) ∧ Rbl s = some (p, true)) ∨
  ((∀ p, ¬ Prm s p) ∧ Rk s = some (⟨[], []⟩, false) ∧ Rbl s = some (⟨[], []⟩, false)) := by
 by_cases hl : 20000 < s.length
 ·refine Or.inr ⟨fun p h => by have := h.1; omega, ?_, ?_⟩
  ·apply Raz; rw [Rdh, if_pos hl, Qb]; rfl
  ·apply Req; rw [Rif, if_pos hl, Qb]; rfl
 ·cases ht : toks s with
  | none =>
   refine Or.inr ⟨fun p h => ?_, ?_, ?_⟩
   ·obtain ⟨_, ⟨t, h1, _⟩, _⟩ := h
    rw [ht] at h1; cases h1
   ·apply Raz; rw [Rdh, if_neg hl, ht, Qb]; rfl
   ·apply Req; rw [Rif, if_neg hl, ht, Qb]; rfl
  | some t =>
   have hlen := Rsu ht
   have hL : t.length ≤ 20000 := by omega
   have hg := Ryh ht
   obtain ⟨hs, h0⟩ := Rye t
   have no : (∀ p, PrF t p → Rev p = false) → (∀ p, ¬ Prm s p) := by
    intro h p hp
    obtain ⟨_, ⟨t', h1, h2⟩, h3⟩ := hp
    rw [ht] at h1; injection h1 with h1; subst h1
    rw [h p h2] at h3; cases h3
   have ist : ∀ v, (bnd (Rj t false [] false [] t 0 false false [] false []) fun r2 =>
     bnd (Rm r2.1 r2.2.1.1 r2.2.1.2 r2.2.2.1.1 r2.2.2.1.2 r2.2.2.2.1 r2.2.2.2.2.1 r2.2.2.2.2.2.1 r2.2.2.2.2.2.2.1.1 r2.2.2.2.2.2.2.1.2 r2.2.2.2.2.2.2.2.1 r2.2.2.2.2.2.2.2.2) fun r3 =>
     (bif r3.2.2.2.2.2.1 then some ((⟨[], []⟩ : Prg), false) else
     (bif (!decide (r3.2.2.2.2.1 = (r3.1.length : Int))) then some (⟨[], []⟩, false) else
     bnd (Ran (⟨r3.2.2.2.2.2.2.1.2, r3.2.2.2.2.2.2.2.2⟩ : Prg)) fun r4 =>
     (bif (!r4) then some (⟨[], []⟩, false) else some (⟨r3.2.2.2.2.2.2.1.2, r3.2.2.2.2.2.2.2.2⟩, true))))) = some v → Rk s = some v := by
    intro v hv
    apply Raz
    rw [Rdh, if_neg hl, ht, Qb]
    exact hv
   have sst : ∀ v, (bnd (Ru t 0 false [] false [] false [] false [] false ([] : List Int) false ([] : List (List Stm))) fun r2 =>
     bnd (Rv r2.1 r2.2.1 r2.2.2.1.1 r2.2.2.1.2 r2.2.2.2.1.1 r2.2.2.2.1.2 r2.2.2.2.2.1.1 r2.2.2.2.2.1.2 r2.2.2.2.2.2.1.1 r2.2.2.2.2.2.1.2 r2.2.2.2.2.2.2.1.1 r2.2.2.2.2.2.2.1.2 r2.2.2.2.2.2.2.2.1 r2.2.2.2.2.2.2.2.2) fun r3 =>
     (bif (!decide (r3.2.1 = (r3.1.length : Int))) then some ((⟨r3.2.2.2.2.1.2, r3.2.2.2.2.2.1.2⟩ : Prg), false) else
     bnd (Rbb (⟨r3.2.2.2.2.2.2.1.2, r3.2.2.2.2.2.2.2.2⟩ : Prg)) fun r4 =>
     (bif (!r4) then some (⟨r3.2.2.2.2.1.2, r3.2.2.2.2.2.1.2⟩, false) else some (⟨r3.2.2.2.2.2.2.1.2, r3.2.2.2.2.2.2.2.2⟩, true)))) = some v → Rbl s = some v := by
    intro v hv
    apply Req
    rw [Rif, if_neg hl, ht, Qb]
    exact hv
   obtain ⟨o1, b1⟩ := Rru (t.length + 1) t [] (Nat.lt_succ_self _)
   cases o1 with
   | none =>
    refine Or.inr ⟨no fun p ⟨l, a, b⟩ => ?_, ?_, ?_⟩
    ·have := Rpc b1 _ a; cases this
    ·obtain ⟨p, x, e1⟩ := Rsh (t4 := t) (c0 := false) (c1 := false) (c3 := false) (y0 := []) (y1 := []) (y3 := []) b1 hL hg hs (by simpa using hL) false
     rw [h0] at e1
     apply ist
     rw [show Rj t false [] false [] t 0 false false [] false [] = _ from e1, Qb]
     dsimp only
     rw [Rnt, Qb]; rfl
    ·obtain ⟨r, x, hr, e1⟩ := Rya (c0 := false) (c1 := false) (c2 := false) (c3 := false) (c5 := false) (y0 := []) (y1 := []) (y2 := []) (y3 := []) (y5 := []) b1 hL hs (by simpa using hL) false
     rw [h0] at e1
     apply sst
     rw [show Ru t 0 false [] false [] false [] false [] false [] false [] = _ from e1, Qb]
     dsimp only
     obtain ⟨m', e2⟩ := Ryb (c0 := false) (c1 := false) (c2 := false) (c3 := false) (y0 := []) (y1 := []) (y2 := []) (y3 := []) (m0 := x.1) (b0 := x.2) (TR.stop (a := []) (show nd Rjl (kBox :: r) = none from ndN (by decide))) hL hr (by obtain ⟨q, hq⟩ := hr; rw [hq, Za] at hL; simp only [Zn]; omega) false
     have hlt := hr.tail.2.2.1
     have hne : ¬ ((plc t (kBox :: r) : Int) = (t.length : Int)) := by omega
     rw [e2, Qb]
     dsimp only
     rw [Zq hne]; rfl
   | some q =>
    obtain ⟨rs, l1⟩ := q
    have sf := Rvm b1 _ _ rfl
    have hs2 := hs.trans sf.1
    obtain ⟨m1, e1⟩ := Rsh (t4 := t) (c0 := false) (c1 := false) (c3 := false) (y0 := []) (y1 := []) (y3 := []) b1 hL hg hs (by simpa using hL) false
    obtain ⟨m2, f1⟩ := Rya (c0 := false) (c1 := false) (c2 := false) (c3 := false) (c5 := false) (y0 := []) (y1 := []) (y2 := []) (y3 := []) (y5 := []) b1 hL hs (by simpa using hL) false
    rw [h0] at e1 f1
    obtain ⟨o2, t1⟩ := Rrx (l1.length + 1) l1 [] (Nat.lt_succ_self _)
    have hl1 : ([] : List (List Stm)).length + l1.length ≤ 20000 := by have := sf.2; simp only [Zn] at *; omega
    have i2 := Rwe (L := t) (t4 := t) (c0 := false) (c1 := false) (y0 := []) (y1 := []) (m0 := m1) (b0 := rs) t1 hL hg hs2 hl1 false
    have s2 := Ryb (L := t) (c0 := false) (c1 := false) (c2 := false) (c3 := false) (y0 := []) (y1 := []) (y2 := []) (y3 := []) (m0 := m2) (b0 := rs) t1 hL hs2 hl1 false
    have ist2 : ∀ v, (bnd (Rm t false [] false [] t (plc t l1) false m1 rs false []) fun r3 =>
      (bif r3.2.2.2.2.2.1 then some ((⟨[], []⟩ : Prg), false) else
      (bif (!decide (r3.2.2.2.2.1 = (r3.1.length : Int))) then some (⟨[], []⟩, false) else
      bnd (Ran (⟨r3.2.2.2.2.2.2.1.2, r3.2.2.2.2.2.2.2.2⟩ : Prg)) fun r4 =>
      (bif (!r4) then some (⟨[], []⟩, false) else some (⟨r3.2.2.2.2.2.2.1.2, r3.2.2.2.2.2.2.2.2⟩, true))))) = some v → Rk s = some v := by
     intro v hv
     apply ist
     rw [show Rj t false [] false [] t 0 false false [] false [] = _ from e1, Qb]
     exact hv
    have sst2 : ∀ v, (bnd (Rv t (plc t l1) false [] false [] false [] false [] m2 rs false []) fun r3 =>
      (bif (!decide (r3.2.1 = (r3.1.length : Int))) then some ((⟨r3.2.2.2.2.1.2, r3.2.2.2.2.2.1.2⟩ : Prg), false) else
      bnd (Rbb (⟨r3.2.2.2.2.2.2.1.2, r3.2.2.2.2.2.2.2.2⟩ : Prg)) fun r4 =>
      (bif (!r4) then some (⟨r3.2.2.2.2.1.2, r3.2.2.2.2.2.1.2⟩, false) else some (⟨r3.2.2.2.2.2.2.1.2, r3.2.2.2.2.2.2.2.2⟩, true)))) = some v → Rbl s = some v := by
     intro v hv
     apply sst
     rw [show Ru t 0 false [] false [] false [] false [] false [] false [] = _ from f1, Qb]
     exact hv
    cases o2 with
    | none =>
     refine Or.inr ⟨no fun p ⟨l, a, b⟩ => ?_, ?_, ?_⟩
     ·have := Rpc b1 _ a; injection this with this; injection this with _ this; subst this
      have := Rsw t1 _ b; cases this
     ·obtain ⟨p, x, i2⟩ := i2
      apply ist2
      rw [i2, Qb]; rfl
     ·obtain ⟨x, s2⟩ := s2
      apply sst2
      rw [s2, Qb]
      dsimp only
      have hne : ¬ ((-1 : Int) = (t.length : Int)) := by omega
      rw [Zq hne]; rfl
    | some q =>
     obtain ⟨ts, l2⟩ := q
     obtain ⟨m3, i2⟩ := i2
     obtain ⟨m4, s2⟩ := s2
     have sf2 := Rvq t1 _ _ rfl
     have hs3 := hs2.trans sf2.1
     by_cases he : l2 = []
     ·subst he
      have hpf : PrF t ⟨rs, ts⟩ := ⟨l1, b1, t1⟩
      have sz := Rvo hpf 40000 (by omega)
      have hpl : ((plc t [] : Nat) : Int) = (t.length : Int) := by rw [Rep]
      have iv : Ran ⟨rs, ts⟩ = some (Rev ⟨rs, ts⟩) := Rgo (by have := sz.1; simp only at *; omega) (by have := sz.2.1; simp only at *; omega) (fun x hx => by have := sz.2.2 x hx; omega)
      have sv : Rbb ⟨rs, ts⟩ = some (Rev ⟨rs, ts⟩) := Rgr (by have := sz.1; simp only at *; omega) (by have := sz.2.1; simp only at *; omega) (fun x hx => by have := sz.2.2 x hx; omega)
      cases ho : Rev ⟨rs, ts⟩
      ·refine Or.inr ⟨no fun p hp => by rw [Rtn hp hpf]; exact ho, ?_, ?_⟩
       ·apply ist2
        rw [i2, Qb]
        dsimp only
        rw [Zf, Zp hpl, Zv, Zf, iv, Qb, ho]; rfl
       ·apply sst2
        rw [s2, Qb]
        dsimp only
        rw [Zp hpl, Zv, Zf, sv, Qb, ho]; rfl
      ·refine Or.inl ⟨⟨rs, ts⟩, ⟨by omega, ⟨t, ht, hpf⟩, ho⟩, ?_, ?_⟩
       ·apply ist2
        rw [i2, Qb]
        dsimp only
        rw [Zf, Zp hpl, Zv, Zf, iv, Qb, ho]; rfl
       ·apply sst2
        rw [s2, Qb]
        dsimp only
        rw [Zp hpl, Zv, Zf, sv, Qb, ho]; rfl
     ·have hne : ¬ ((plc t l2 : Int) = (t.length : Int)) := by
       cases l2 with
       | nil => exact absurd rfl he
       | cons u l2 => have := hs3.tail.2.2.1; omega
      refine Or.inr ⟨no fun p ⟨l, a, b⟩ => ?_, ?_, ?_⟩
      ·have := Rpc b1 _ a; injection this with this; injection this with _ this; subst this
       have := Rsw t1 _ b; injection this with this; injection this with _ this; exact absurd this he
      ·apply ist2
       rw [i2, Qb]
       dsimp only
       rw [Zf, Zq hne]; rfl
      ·apply sst2
       rw [s2, Qb]
       dsimp only
       rw [Zq hne]; rfl
def wl : List Tok → Nat
 | [] => 0
 | t :: l => t.length + 1 + wl l
theorem Rec : ∀ a b : List Tok, wl (a ++ b) = wl a + wl b
 | [], b => by simp [wl]
 | t :: a, b => by simp only [List.cons_append, wl, Rec a b]; omega
theorem wl_take (l : List Tok) (i : Nat) : wl (l.take i) ≤ wl l := by
 have h : wl (l.take i ++ l.drop i) = wl l := by rw [List.take_append_drop]
 rw [Rec] at h; omega
theorem Raah : ∀ {l : List Tok} {t : Tok}, t ∈ l → t.length + 1 ≤ wl l
 | a :: l, t, h => by
  rcases List.mem_cons.1 h with rfl | h
  ·simp only [wl]; omega
  ·have := Raah h; simp only [wl]; omega
theorem Rvf : ∀ l : List Tok, l.length ≤ wl l
 | [] => Nat.le_refl _
 | t :: l => by have := Rvf l; simp only [wl, Zc]; omega
theorem jn_wl : ∀ l : List Tok, (jn l).length ≤ wl l
 | [] => by simp [jn]
 | [a] => by simp only [jn, wl]; omega
 | a :: b :: r => by
  have := jn_wl (b :: r)
  simp only [jn, wl, Za, Zc] at *; omega
theorem Rqf {l : List Tok} (hw : wl l ≤ 1000000000) : ∀ (d i : Nat), i + d = l.length →
  ∃ x, Rbk l (jn (l.take i)) i = some x ∧ selm x (fun y => some y) (fun z => some z.1) = some (if (l.drop i).all tvb = true then jn l else [])
 | 0, i, h => by
  refine ⟨.inl (jn (l.take i)), ?_, ?_⟩
  ·apply Rdq
   have h1 : ¬ ((i : Int) < l.length) := by omega
   simp only [h1, Zz, Zf]
  ·rw [List.drop_eq_nil_of_le (by omega), List.take_of_length_le (by omega)]; simp [selm]
 | d + 1, i, h => by
  have h1 : (i : Int) < l.length := by omega
  have hi : i < l.length := by omega
  have hg := Rdn hi
  have hm := List.getElem_mem hi
  have hll := Rvf l
  have htk : l.take (i + 1) = l.take i ++ [l[i]] := by rw [List.take_succ_eq_append_getElem hi]
  have hlen := Raah hm
  rw [List.drop_eq_getElem_cons hi, List.all_cons]
  cases hv : tvb l[i] with
  | false =>
   refine ⟨.inr ([], jn (l.take i)), ?_, ?_⟩
   ·apply Rdq
    simp only [h1, Zy, Zt, hg, Qb, Rhy (show (l[i]).length ≤ 1000000000 by omega), hv, Zx]
   ·simp [selm]
  | true =>
   obtain ⟨x, hx1, hx2⟩ := Rqf hw d (i + 1) (by omega)
   refine ⟨x, ?_, by rw [hx2]; simp⟩
   apply Rdq
   have hjl := Nat.le_trans (jn_wl (l.take i)) (wl_take l i)
   simp only [h1, Zy, Zt, hg, Qb, Rhy (show (l[i]).length ≤ 1000000000 by omega), hv, Zv, Zf]
   by_cases h0 : i = 0
   ·subst h0
    simp only [show ¬ ((0 : Int) < ((0 : Nat) : Int)) by omega, Zz, Zf]
    rw [Rez (by omega), Qb, w1n (by omega)]
    have : jn (l.take 0) ++ l[0] = jn (l.take (0 + 1)) := by rw [htk]; rfl
    rw [this, hx1]
   ·simp only [show ((0 : Int) < (i : Int)) by omega, Zy, Zt]
    rw [Rez (by simp only [Zc, Zn]; omega), Qb, Rez (by simp only [Za, Zc, Zn]; omega), Qb, w1n (by omega)]
    have : jn (l.take i) ++ [32] ++ l[i] = jn (l.take (i + 1)) := by
     rw [htk, Rwf _ _ (by intro h; have := congrArg List.length h; rw [List.length_take, Zn] at this; omega), List.append_assoc]; rfl
    rw [this, hx1]
theorem Rnl {l : List Tok} (hw : wl l ≤ 1000000000) : Rhi l = some (if l.all tvb = true then jn l else []) := by
 apply Rme
 obtain ⟨x, hx1, hx2⟩ := Rqf hw l.length 0 (by omega)
 rw [List.drop_zero] at hx2
 rw [show Rbk l [] 0 = some x from hx1, Qb, hx2]
def vT (v : Int) : Tok := [UInt8.ofNat (97 + v.toNat)]
mutual
def sT : Stm → List Tok
 | ⟨k, v, b, e, bd, el⟩ =>
  if k = 1 then vT v :: kE :: (eT 5 e ++ [kS])
  else if k = 2 then kIf :: (eT 5 e ++ (kL :: (bkT bd ++ [kR]))) ++ (if el.length = 0 then [] else Rfo :: kL :: (bkT el ++ [kR]))
  else if k = 3 then Rcq :: (eT 5 e ++ (kL :: (bkT bd ++ [kR])))
  else if k = 4 then Rik :: Lib.itoa b :: (eT 5 e ++ [kS])
  else if k = 5 then [Rjo, Lib.itoa b, vT v, kS]
  else if k = 6 then [Rgp, kS]
  else Rga :: (eT 5 e ++ [kS])
def bkT : List Stm → List Tok
 | [] => []
 | s :: r => sT s ++ bkT r
end
theorem sT_eq (s : Stm) : sT s = if s.kind = 1 then vT s.var :: kE :: (eT 5 s.e ++ [kS])
  else if s.kind = 2 then kIf :: (eT 5 s.e ++ (kL :: (bkT s.body ++ [kR]))) ++ (if s.els.length = 0 then [] else Rfo :: kL :: (bkT s.els ++ [kR]))
  else if s.kind = 3 then Rcq :: (eT 5 s.e ++ (kL :: (bkT s.body ++ [kR])))
  else if s.kind = 4 then Rik :: Lib.itoa s.box :: (eT 5 s.e ++ [kS])
  else if s.kind = 5 then [Rjo, Lib.itoa s.box, vT s.var, kS]
  else if s.kind = 6 then [Rgp, kS]
  else Rga :: (eT 5 s.e ++ [kS]) := by cases s; simp only [sT]
theorem Riy {s : Stm} (h : hdr s) :
  (s.kind = 1 ∧ 0 ≤ s.var ∧ s.var < 4 ∧ s.box = 0 ∧ Ras 5 s.e = true ∧ s.body = [] ∧ s.els = [] ∧ sT s = vT s.var :: kE :: (eT 5 s.e ++ [kS])) ∨
  (s.kind = 2 ∧ s.var = 0 ∧ s.box = 0 ∧ Ras 5 s.e = true ∧ sT s = kIf :: (eT 5 s.e ++ (kL :: (bkT s.body ++ [kR]))) ++ (if s.els.length = 0 then [] else Rfo :: kL :: (bkT s.els ++ [kR]))) ∨
  (s.kind = 3 ∧ s.var = 0 ∧ s.box = 0 ∧ Ras 5 s.e = true ∧ s.els = [] ∧ sT s = Rcq :: (eT 5 s.e ++ (kL :: (bkT s.body ++ [kR])))) ∨
  (s.kind = 4 ∧ s.var = 0 ∧ 0 ≤ s.box ∧ s.box < 3 ∧ Ras 5 s.e = true ∧ s.body = [] ∧ s.els = [] ∧ sT s = Rik :: Lib.itoa s.box :: (eT 5 s.e ++ [kS])) ∨
  (s.kind = 5 ∧ 0 ≤ s.var ∧ s.var < 4 ∧ 0 ≤ s.box ∧ s.box < 3 ∧ s.e = ⟨0, 0, []⟩ ∧ s.body = [] ∧ s.els = [] ∧ sT s = [Rjo, Lib.itoa s.box, vT s.var, kS]) ∨
  (s.kind = 6 ∧ s.var = 0 ∧ s.box = 0 ∧ s.e = ⟨0, 0, []⟩ ∧ s.body = [] ∧ s.els = [] ∧ sT s = [Rgp, kS]) ∨
  (s.kind = 7 ∧ s.var = 0 ∧ s.box = 0 ∧ Ras 5 s.e = true ∧ s.body = [] ∧ s.els = [] ∧ sT s = Rga :: (eT 5 s.e ++ [kS])) := by
 have z : ∀ {α : Type} {l : List α}, (l.length : Int) = 0 → l = [] := fun h => (len0 _).1 h
 have e0 : (s.e.op = 0 ∧ s.e.n = 0 ∧ (s.e.args.length : Int) = 0) → s.e = ⟨0, 0, []⟩ := by
  intro ⟨a, b, c⟩
  have := z c
  rw [← Rw s.e, a, b, this]
 rw [sT_eq]
 rcases h with ⟨k, a, b, c, d, e⟩ | ⟨k, a, b, c⟩ | ⟨k, a, b, c, d⟩ | ⟨k, a, b, c, d, e⟩ | ⟨k, a, b, c, d, e⟩ | ⟨k, a, b, c, d, e⟩ | ⟨k, a, b, c, d, e⟩
 ·exact Or.inl ⟨k, a.1, a.2, b, c, z d, z e, by rw [if_pos k]⟩
 ·exact Or.inr (Or.inl ⟨k, a, b, c, by rw [if_neg (by omega), if_pos k]⟩)
 ·exact Or.inr (Or.inr (Or.inl ⟨k, a, b, c, z d, by rw [if_neg (by omega), if_neg (by omega), if_pos k]⟩))
 ·exact Or.inr (Or.inr (Or.inr (Or.inl ⟨k, a, b.1, b.2, c, z d, z e, by rw [if_neg (by omega), if_neg (by omega), if_neg (by omega), if_pos k]⟩)))
 ·exact Or.inr (Or.inr (Or.inr (Or.inr (Or.inl ⟨k, a.1, a.2, b.1, b.2, e0 c, z d, z e, by rw [if_neg (by omega), if_neg (by omega), if_neg (by omega), if_neg (by omega), if_pos k]⟩))))
 ·exact Or.inr (Or.inr (Or.inr (Or.inr (Or.inr (Or.inl ⟨k, a, b, e0 c, z d, z e, by rw [if_neg (by omega), if_neg (by omega), if_neg (by omega), if_neg (by omega), if_neg (by omega), if_pos k]⟩)))))
 ·exact Or.inr (Or.inr (Or.inr (Or.inr (Or.inr (Or.inr ⟨k, a, b, c, z d, z e, by rw [if_neg (by omega), if_neg (by omega), if_neg (by omega), if_neg (by omega), if_neg (by omega), if_neg (by omega)]⟩)))))
theorem Rhx : ∀ {d : Nat} {s : Stm}, sOk d s = true → hdr s
 | 0, s, h => by simp only [sOk, Zw, Ze] at h; exact h.1
 | d + 1, s, h => by simp only [sOk, Zw, Ze] at h; exact h.1
theorem Rju : ∀ {d : Nat} {s : Stm}, sOk d s = true → s.kind = 2 ∨ s.kind = 3 → ∃ d', d = d' + 1 ∧ s.body.all (sOk d') = true ∧ s.els.all (sOk d') = true
 | 0, s, h, hk => by simp [sOk, hk] at h
 | d + 1, s, h, hk => by
  simp only [sOk, hk, if_true, Zw] at h
  exact ⟨d, rfl, h.2.1, h.2.2⟩
theorem Rgg (t : Tok) : wl [t] = t.length + 1 := by simp [wl]
theorem Ret (t : Tok) (l : List Tok) : wl (t :: l) = t.length + 1 + wl l := rfl
theorem Raai (l : List Tok) (c : Bool) : wl (wrp l c) ≤ wl l + 4 := by
 unfold wrp
 split
 ·rw [List.cons_append, Ret, Rec, Rgg]; have a : lp.length = 1 := rfl; have b : rp.length = 1 := rfl; omega
 ·omega
theorem Rzc {n : Int} (h1 : 1 ≤ n) (h2 : n ≤ 12) : (opT n).length ≤ 2 := by
 have : ∀ t ∈ opTs, t.length ≤ 2 := by decide
 exact this _ (Rws h1 h2)
theorem eT_wl : ∀ (d : Nat) (e : Exp), Ras d e = true → 2 * (wl (eT d e) + 11) ≤ 17 * 2 ^ d
 | 0, e, h => by cases h
 | d + 1, e, h => by
  have h2 : 2 ^ (d + 1) = 2 * 2 ^ d := by rw [Nat.pow_succ]; omega
  have h1 : 1 ≤ 2 ^ d := Nat.one_le_two_pow
  rcases Rej h with h | h | ⟨h1', h2', _, a, b, hab, ha, hb⟩
  ·rw [Rul h.1, Rgg]
   have := (Ruy h.2.2.1 h.2.2.2).2.2.2
   omega
  ·rw [Run h.1, Rgg]
   simp only [Zc, Zn]
   omega
  ·rw [Rsd h1' h2' hab, Rec, Rec, Rgg]
   have i1 := eT_wl d a ha
   have i2 := eT_wl d b hb
   have w1 := Raai (eT d a) (decide (lvE a < levN e.op.toNat))
   have w2 := Raai (eT d b) (decide (lvE b ≤ levN e.op.toNat))
   have := Rzc h1' h2'
   omega
theorem Rnv {e : Exp} (h : Ras 5 e = true) : wl (eT 5 e) ≤ 261 := by have := eT_wl 5 e h; omega
theorem Rgh {n : Int} (h1 : 0 ≤ n) (h2 : n < 5) : (Lib.itoa n).length ≤ 5 ∧ tvb (Lib.itoa n) = true ∧ numV (Lib.itoa n) = n := by
 have h := Ruy h1 (show n ≤ 99999 by omega)
 refine ⟨h.2.2.2, h.1, ?_⟩
 have ha := h.2.1
 by_cases h0 : 0 ≤ numV (Lib.itoa n)
 ·have := Roz ha h0
  injection this with _ this _
  exact this.symm
 ·have := (Rli ha h0).2
  injection this with this
  cases this
theorem Rgn {n : Int} (h1 : 0 ≤ n) (h2 : n < 4) : (vT n).length = 1 ∧ tvb (vT n) = true ∧ varV (vT n) = n := by
 have : n = 0 ∨ n = 1 ∨ n = 2 ∨ n = 3 := by omega
 rcases this with rfl | rfl | rfl | rfl <;> decide
theorem kws : kIf.length = 2 ∧ Rcq.length = 5 ∧ Rik.length = 4 ∧ Rjo.length = 4 ∧ Rgp.length = 5 ∧ Rga.length = 5 ∧ Rfo.length = 4 ∧ kBox.length = 3 ∧ Rjl.length = 4 ∧ kL.length = 1 ∧ kR.length = 1 ∧ kS.length = 1 ∧ kE.length = 1 := by decide
theorem kwt : tvb kIf = true ∧ tvb Rcq = true ∧ tvb Rik = true ∧ tvb Rjo = true ∧ tvb Rgp = true ∧ tvb Rga = true ∧ tvb Rfo = true ∧ tvb kBox = true ∧ tvb Rjl = true ∧ tvb kL = true ∧ tvb kR = true ∧ tvb kS = true ∧ tvb kE = true := by decide
theorem Rlk {d : Nat} (ih : ∀ s, sOk d s = true → wl (sT s) ≤ 300 * cS s) : ∀ l : List Stm, l.all (sOk d) = true → wl (bkT l) ≤ 300 * cSs l
 | [], _ => by simp [bkT, wl]
 | s :: r, h => by
  simp only [List.all_cons, Zw] at h
  have h1 := ih s h.1
  have h2 := Rlk ih r h.2
  simp only [bkT, cSs, Rec] at *; omega
theorem sT_wl : ∀ (d : Nat) (s : Stm), sOk d s = true → wl (sT s) ≤ 300 * cS s := by
 intro d
 induction d with
 | zero =>
  intro s h
  obtain ⟨q1, q2, q3, q4, q5, q6, q7, q8, q9, q10, q11, q12, q13⟩ := kws
  have hc := Rvg s
  rcases Riy (Rhx h) with ⟨k, a, b, _, c, _, _, e⟩ | ⟨k, _⟩ | ⟨k, _⟩ | ⟨k, _, a, b, c, _, _, e⟩ | ⟨k, a, b, a', b', _, _, _, e⟩ | ⟨k, _, _, _, _, _, e⟩ | ⟨k, _, _, c, _, _, e⟩
  ·have := Rnv c; have := (Rgn a b).1; rw [e]; simp only [Ret, Rec, Rgg, wl] at *; omega
  ·exact absurd (Rju h (Or.inl k)) (by rintro ⟨_, h, _⟩; cases h)
  ·exact absurd (Rju h (Or.inr k)) (by rintro ⟨_, h, _⟩; cases h)
  ·have := Rnv c; have := (Rgh a (by omega)).1; rw [e]; simp only [Ret, Rec, Rgg, wl] at *; omega
  ·have := (Rgn a b).1; have := (Rgh a' (by omega)).1; rw [e]; simp only [Ret, Rec, Rgg, wl] at *; omega
  ·rw [e]; simp only [Ret, Rec, Rgg, wl] at *; omega
  ·have := Rnv c; rw [e]; simp only [Ret, Rec, Rgg, wl] at *; omega
 | succ d ih =>
  intro s h
  obtain ⟨q1, q2, q3, q4, q5, q6, q7, q8, q9, q10, q11, q12, q13⟩ := kws
  have hc := Rvg s
  rcases Riy (Rhx h) with ⟨k, a, b, _, c, _, _, e⟩ | ⟨k, _, _, c, e⟩ | ⟨k, _, _, c, _, e⟩ | ⟨k, _, a, b, c, _, _, e⟩ | ⟨k, a, b, a', b', _, _, _, e⟩ | ⟨k, _, _, _, _, _, e⟩ | ⟨k, _, _, c, _, _, e⟩
  ·have := Rnv c; have := (Rgn a b).1; rw [e]; simp only [Ret, Rec, Rgg, wl] at *; omega
  ·obtain ⟨d', hd, hb, he⟩ := Rju h (Or.inl k)
   have hd : d = d' := by omega
   subst hd
   have := Rlk ih _ hb
   have := Rlk ih _ he
   have := Rnv c
   rw [e]
   split
   ·simp only [Ret, Rec, Rgg, wl] at *; omega
   ·simp only [Ret, Rec, Rgg, wl] at *; omega
  ·obtain ⟨d', hd, hb, he⟩ := Rju h (Or.inr k)
   have hd : d = d' := by omega
   subst hd
   have := Rlk ih _ hb
   have := Rnv c
   rw [e]
   simp only [Ret, Rec, Rgg, wl] at *; omega
  ·have := Rnv c; have := (Rgh a (by omega)).1; rw [e]; simp only [Ret, Rec, Rgg, wl] at *; omega
  ·have := (Rgn a b).1; have := (Rgh a' (by omega)).1; rw [e]; simp only [Ret, Rec, Rgg, wl] at *; omega
  ·rw [e]; simp only [Ret, Rec, Rgg, wl] at *; omega
  ·have := Rnv c; rw [e]; simp only [Ret, Rec, Rgg, wl] at *; omega
theorem bT_wl {d : Nat} {l : List Stm} (h : l.all (sOk d) = true) : wl (bkT l) ≤ 300 * cSs l := Rlk (sT_wl d) l h
theorem Rlj {d : Nat} (ih : ∀ s, sOk d s = true → ∀ t ∈ sT s, tvb t = true) : ∀ l : List Stm, l.all (sOk d) = true → ∀ t ∈ bkT l, tvb t = true
 | [], _ => by simp [bkT]
 | s :: r, h => by
  simp only [List.all_cons, Zw] at h
  intro t ht
  simp only [bkT, Zu] at ht
  rcases ht with ht | ht
  ·exact ih s h.1 t ht
  ·exact Rlj ih r h.2 t ht
theorem sT_tv : ∀ (d : Nat) (s : Stm), sOk d s = true → ∀ t ∈ sT s, tvb t = true := by
 intro d
 induction d with
 | zero =>
  intro s h t ht
  obtain ⟨q1, q2, q3, q4, q5, q6, q7, q8, q9, q10, q11, q12, q13⟩ := kwt
  rcases Riy (Rhx h) with ⟨k, a, b, _, c, _, _, e⟩ | ⟨k, _⟩ | ⟨k, _⟩ | ⟨k, _, a, b, c, _, _, e⟩ | ⟨k, a, b, a', b', _, _, _, e⟩ | ⟨k, _, _, _, _, _, e⟩ | ⟨k, _, _, c, _, _, e⟩
  ·rw [e] at ht
   simp only [Zo, Zu, List.not_mem_nil, or_false] at ht
   rcases ht with rfl | rfl | ht | rfl
   ·exact (Rgn a b).2.1
   ·exact q13
   ·exact (Rko 5 _ c t ht).1
   ·exact q12
  ·exact absurd (Rju h (Or.inl k)) (by rintro ⟨_, h, _⟩; cases h)
  ·exact absurd (Rju h (Or.inr k)) (by rintro ⟨_, h, _⟩; cases h)
  ·rw [e] at ht
   simp only [Zo, Zu, List.not_mem_nil, or_false] at ht
   rcases ht with rfl | rfl | ht | rfl
   ·exact q3
   ·exact (Rgh a (by omega)).2.1
   ·exact (Rko 5 _ c t ht).1
   ·exact q12
  ·rw [e] at ht
   simp only [Zo, List.not_mem_nil, or_false] at ht
   rcases ht with rfl | rfl | rfl | rfl
   ·exact q4
   ·exact (Rgh a' (by omega)).2.1
   ·exact (Rgn a b).2.1
   ·exact q12
  ·rw [e] at ht
   simp only [Zo, List.not_mem_nil, or_false] at ht
   rcases ht with rfl | rfl
   ·exact q5
   ·exact q12
  ·rw [e] at ht
   simp only [Zo, Zu, List.not_mem_nil, or_false] at ht
   rcases ht with rfl | ht | rfl
   ·exact q6
   ·exact (Rko 5 _ c t ht).1
   ·exact q12
 | succ d ih =>
  intro s h t ht
  obtain ⟨q1, q2, q3, q4, q5, q6, q7, q8, q9, q10, q11, q12, q13⟩ := kwt
  rcases Riy (Rhx h) with ⟨k, a, b, _, c, _, _, e⟩ | ⟨k, _, _, c, e⟩ | ⟨k, _, _, c, _, e⟩ | ⟨k, _, a, b, c, _, _, e⟩ | ⟨k, a, b, a', b', _, _, _, e⟩ | ⟨k, _, _, _, _, _, e⟩ | ⟨k, _, _, c, _, _, e⟩
  ·rw [e] at ht
   simp only [Zo, Zu, List.not_mem_nil, or_false] at ht
   rcases ht with rfl | rfl | ht | rfl
   ·exact (Rgn a b).2.1
   ·exact q13
   ·exact (Rko 5 _ c t ht).1
   ·exact q12
  ·obtain ⟨d', hd, hb, he⟩ := Rju h (Or.inl k)
   have hd : d = d' := by omega
   subst hd
   rw [e] at ht
   rcases List.mem_append.1 ht with ht | ht
   ·simp only [Zo, Zu, List.not_mem_nil, or_false] at ht
    rcases ht with rfl | ht | rfl | ht | rfl
    ·exact q1
    ·exact (Rko 5 _ c t ht).1
    ·exact q10
    ·exact Rlj ih _ hb t ht
    ·exact q11
   ·split at ht
    ·cases ht
    ·simp only [Zo, Zu, List.not_mem_nil, or_false] at ht
     rcases ht with rfl | rfl | ht | rfl
     ·exact q7
     ·exact q10
     ·exact Rlj ih _ he t ht
     ·exact q11
  ·obtain ⟨d', hd, hb, he⟩ := Rju h (Or.inr k)
   have hd : d = d' := by omega
   subst hd
   rw [e] at ht
   simp only [Zo, Zu, List.not_mem_nil, or_false] at ht
   rcases ht with rfl | ht | rfl | ht | rfl
   ·exact q2
   ·exact (Rko 5 _ c t ht).1
   ·exact q10
   ·exact Rlj ih _ hb t ht
   ·exact q11
  ·rw [e] at ht
   simp only [Zo, Zu, List.not_mem_nil, or_false] at ht
   rcases ht with rfl | rfl | ht | rfl
   ·exact q3
   ·exact (Rgh a (by omega)).2.1
   ·exact (Rko 5 _ c t ht).1
   ·exact q12
  ·rw [e] at ht
   simp only [Zo, List.not_mem_nil, or_false] at ht
   rcases ht with rfl | rfl | rfl | rfl
   ·exact q4
   ·exact (Rgh a' (by omega)).2.1
   ·exact (Rgn a b).2.1
   ·exact q12
  ·rw [e] at ht
   simp only [Zo, List.not_mem_nil, or_false] at ht
   rcases ht with rfl | rfl
   ·exact q5
   ·exact q12
  ·rw [e] at ht
   simp only [Zo, Zu, List.not_mem_nil, or_false] at ht
   rcases ht with rfl | ht | rfl
   ·exact q6
   ·exact (Rko 5 _ c t ht).1
   ·exact q12
theorem bT_tv {d : Nat} {l : List Stm} (h : l.all (sOk d) = true) : ∀ t ∈ bkT l, tvb t = true := Rlj (sT_tv d) l h
theorem Rvr {l : List Stm} {i : Nat} (hi : i < l.length) : bkT (l.drop i) = sT l[i] ++ bkT (l.drop (i + 1)) := by
 rw [List.drop_eq_getElem_cons hi]; simp only [bkT]
theorem sT_pos (s : Stm) : 1 ≤ (sT s).length := by
 rw [sT_eq]
 split
 ·simp
 ·split
  ·simp
  ·split
   ·simp
   ·split
    ·simp
    ·split
     ·simp
     ·split
      ·simp
      ·simp
theorem Rzr : ∀ l : List Stm, l.length ≤ (bkT l).length
 | [] => Nat.zero_le _
 | s :: r => by have := Rzr r; have := sT_pos s; simp only [bkT, Za, Zc]; omega
theorem Rnz {l : List Stm} (hln : l.length ≤ 1000000) (h : ∀ s ∈ l, (sT s).length ≤ 15000 → Rds s = some (sT s)) : ∀ (d i : Nat) (m : Bool) (o : List Tok), i + d = l.length → o.length + (bkT (l.drop i)).length ≤ 15000 →
  ∃ m', Rdf l m o i = some (m', o ++ bkT (l.drop i))
 | 0, i, m, o, hi, ho => by
  refine ⟨m, ?_⟩
  apply Rhm
  have h1 : ¬ ((i : Int) < l.length) := by omega
  simp only [h1, Zz, Zf]
  rw [List.drop_eq_nil_of_le (by omega)]; simp [bkT]
 | d + 1, i, m, o, hi, ho => by
  have h1 : ((i : Int) < l.length) := by omega
  have hl : i < l.length := by omega
  rw [Rvr hl, Za] at ho
  obtain ⟨m', h2⟩ := Rnz hln h d (i + 1) true (o ++ sT l[i]) (by omega) (by rw [Za]; omega)
  refine ⟨m', ?_⟩
  apply Rhm
  simp only [h1, Zy, Zt, Rdn hl, Qb, Rdl]
  rw [h _ (List.getElem_mem hl) (by omega), Qb, Rbq (by omega), Qb, w1n (by omega), h2, Rvr hl, List.append_assoc]
theorem Rmf {l : List Stm} (h : ∀ s ∈ l, (sT s).length ≤ 15000 → Rds s = some (sT s)) (ho : (bkT l).length + 2 ≤ 15000) : Rcj l = some (kL :: (bkT l ++ [kR])) := by
 apply Rot
 obtain ⟨m, h2⟩ := Rnz (by have := Rzr l; omega) h l.length 0 true ([[123]]) (by omega) (by simp only [Zc, Zn, List.drop_zero]; omega)
 rw [List.drop_zero] at h2
 rw [show Rdf l true ([[123]]) 0 = _ from h2, Qb]
 dsimp only
 rw [Rbq (by simp only [Za, Zc, Zn]; omega), Qb]
 simp [kL, kR]
theorem Rpn {e : Exp} (h : Ras 5 e = true) : Rcm ⟨e.op, e.n, e.args⟩ = some (eT 5 e) := by
 rw [Rw]; exact Rgl 5 e (Nat.le_refl _) h
theorem Rnc {e : Exp} (h : Ras 5 e = true) (o : List Tok) (ho : o.length + (eT 5 e).length ≤ 15000) : Rgc o ⟨e.op, e.n, e.args⟩ = some (o ++ eT 5 e ++ [kS]) := by
 apply Rpy
 dsimp only
 rw [Rpn h, Qb, Rbq (by omega), Qb, Rbq (by simp only [Za, Zc, Zn]; omega), Qb]; rfl
theorem vName {n : Int} (h1 : 0 ≤ n) (h2 : n < 4) : Rer n = some (vT n) := by
 have := Rlq (v := n.toNat) (by omega)
 rw [show ((n.toNat : Nat) : Int) = n by omega] at this
 exact this
theorem dec5 {n : Int} (h1 : 0 ≤ n) (h2 : n < 5) : Rdi n = some (Lib.itoa n) := Rmk (by unfold wfI; omega)
theorem Rzi : ∀ (d : Nat) (s : Stm), sOk d s = true → (sT s).length ≤ 15000 → Rds s = some (sT s) := by
  have main : ∀ (d : Nat), (∀ d', d = d' + 1 → ∀ s, sOk d' s = true → (sT s).length ≤ 15000 → Rds s = some (sT s)) → ∀ s, sOk d s = true → (sT s).length ≤ 15000 → Rds s = some (sT s) := by
    intro d ih s h ho
    have blk : ∀ (k : s.kind = 2 ∨ s.kind = 3) (l : List Stm), (l = s.body ∨ l = s.els) → (bkT l).length + 2 ≤ 15000 → Rcj l = some (kL :: (bkT l ++ [kR])) := by
      intro k l hl hlo
      obtain ⟨d', hd, hb, he⟩ := Rju h k
      rw [List.all_eq_true] at hb he
      refine Rmf (fun x hx ho => ih d' hd x ?_ ho) hlo
      rcases hl with rfl | rfl
      · exact hb x hx
      · exact he x hx
    apply Rpz
    rcases Riy (Rhx h) with ⟨k, a, b, _, c, _, _, e⟩ | ⟨k, _, _, c, e⟩ | ⟨k, _, _, c, _, e⟩ | ⟨k, _, a, b, c, _, _, e⟩ | ⟨k, a, b, a', b', _, _, _, e⟩ | ⟨k, _, _, _, _, _, e⟩ | ⟨k, _, _, c, _, _, e⟩
    · rw [e] at ho ⊢
      simp only [Zc, Za, Zn] at ho
      rw [Zp k, Zt, vName a b, Qb, Rnc c _ (by simp only [Zc, Zn]; omega), Qb]
      simp [kE]
    · rw [Zq (show ¬ s.kind = 1 by omega), Zf, Zq (show ¬ s.kind = 4 by omega), Zf, Zq (show ¬ s.kind = 7 by omega), Zf, Zq (show ¬ s.kind = 5 by omega), Zf, Zq (show ¬ s.kind = 6 by omega), Zf, Zq (show ¬ s.kind = 3 by omega), Zf]
      rw [e] at ho ⊢
      simp only [Zc, Za, Zn] at ho
      rw [Rpn c, Qb, Rbq (by simp only [Zc, Zn]; omega), Qb, blk (Or.inl k) s.body (Or.inl rfl) (by omega), Qb, Rbq (by simp only [Za, Zc, Zn]; omega), Qb]
      by_cases hz : s.els.length = 0
      · have hz' : (s.els.length : Int) = 0 := by omega
        rw [Zp hz', Zt, if_pos hz]
        simp [kIf]
      · have hz' : ¬ (s.els.length : Int) = 0 := by omega
        rw [if_neg hz] at ho
        simp only [Zc, Za, Zn] at ho
        rw [Zq hz', Zf, if_neg hz, Rbq (by simp only [Za, Zc, Zn]; omega), Qb,
          blk (Or.inl k) s.els (Or.inr rfl) (by omega), Qb, Rbq (by simp only [Za, Zc, Zn]; omega), Qb]
        simp [kIf, Rfo]
    · rw [Zq (show ¬ s.kind = 1 by omega), Zf, Zq (show ¬ s.kind = 4 by omega), Zf, Zq (show ¬ s.kind = 7 by omega), Zf, Zq (show ¬ s.kind = 5 by omega), Zf, Zq (show ¬ s.kind = 6 by omega), Zf, Zp k, Zt]
      rw [e] at ho ⊢
      simp only [Zc, Za, Zn] at ho
      rw [Rpn c, Qb, Rbq (by simp only [Zc, Zn]; omega), Qb, blk (Or.inr k) s.body (Or.inl rfl) (by omega), Qb, Rbq (by simp only [Za, Zc, Zn]; omega), Qb]
      simp [Rcq]
    · rw [Zq (show ¬ s.kind = 1 by omega), Zf, Zp k, Zt]
      rw [e] at ho ⊢
      simp only [Zc, Za, Zn] at ho
      rw [dec5 a (by omega), Qb, Rnc c _ (by simp only [Zc, Zn]; omega), Qb]
      simp [Rik]
    · rw [Zq (show ¬ s.kind = 1 by omega), Zf, Zq (show ¬ s.kind = 4 by omega), Zf, Zq (show ¬ s.kind = 7 by omega), Zf, Zp k, Zt]
      rw [e, dec5 a' (by omega), Qb, vName a b, Qb]; rfl
    · rw [Zq (show ¬ s.kind = 1 by omega), Zf, Zq (show ¬ s.kind = 4 by omega), Zf, Zq (show ¬ s.kind = 7 by omega), Zf, Zq (show ¬ s.kind = 5 by omega), Zf, Zp k, Zt]
      rw [e]; rfl
    · rw [Zq (show ¬ s.kind = 1 by omega), Zf, Zq (show ¬ s.kind = 4 by omega), Zf, Zp k, Zt]
      rw [e] at ho ⊢
      simp only [Zc, Za, Zn] at ho
      rw [Rnc c _ (by simp only [Zc, Zn]; omega), Qb]
      simp [Rga]
  intro d
  induction d with
  | zero => exact main 0 (fun d' h => by omega)
  | succ d ih => exact main (d + 1) (fun d' h => by have : d = d' := by omega
                                                    subst this; exact ih)
theorem spec_bT {d : Nat} {l : List Stm} (h : l.all (sOk d) = true) (ho : (bkT l).length + 2 ≤ 15000) : Rcj l = some (kL :: (bkT l ++ [kR])) :=
 Rmf (fun s hs => Rzi d s (List.all_eq_true.1 h s hs)) ho
def bxT : List Int → List Tok
 | [] => []
 | n :: r => kBox :: Lib.itoa n :: kS :: bxT r
def tsT : List (List Stm) → List Tok
 | [] => []
 | l :: r => Rjl :: kL :: (bkT l ++ kR :: tsT r)
def pT (p : Prg) : List Tok := bxT p.rooms ++ tsT p.tasks
theorem Rjt {p : Prg} (h : Rev p = true) : Rdy p.rooms = true ∧ p.rooms.length ≤ 3 ∧ 1 ≤ p.tasks.length ∧ p.tasks.length ≤ 3 ∧ ∀ l ∈ p.tasks, l.all (sOk 3) = true ∧ cSs l ≤ 16 ∧ bSs p.rooms.length l = true := by
 simp only [Rev, Zw, Ze] at h
 obtain ⟨⟨⟨a, b⟩, c, d⟩, e⟩ := h
 refine ⟨a, by omega, by omega, by omega, fun l hl => ?_⟩
 have := List.all_eq_true.1 e l hl
 simp only [stOk, Zw, Ze] at this
 exact ⟨this.1.1, by omega, this.2⟩
theorem Rlx {l : List Int} (h : Rdy l = true) {n : Int} (hn : n ∈ l) : 1 ≤ n ∧ n ≤ 4 := by
 have := List.all_eq_true.1 h n hn
 simpa using this
theorem Rvw : ∀ l : List Int, (∀ n ∈ l, 1 ≤ n ∧ n ≤ 4) → wl (bxT l) ≤ 12 * l.length ∧ (∀ t ∈ bxT l, tvb t = true)
 | [], _ => ⟨Nat.le_refl _, by simp [bxT]⟩
 | n :: r, h => by
  obtain ⟨i1, i2⟩ := Rvw r (fun m hm => h m (List.mem_cons_of_mem _ hm))
  obtain ⟨a, b⟩ := h n (List.mem_cons_self ..)
  obtain ⟨c, d, _⟩ := Rgh (n := n) (by omega) (by omega)
  obtain ⟨_, _, _, _, _, _, _, q8, _, _, _, q12, _⟩ := kws
  obtain ⟨_, _, _, _, _, _, _, t8, _, _, _, t12, _⟩ := kwt
  refine ⟨by simp only [bxT, wl, Zc] at *; omega, ?_⟩
  intro t ht
  simp only [bxT, Zo] at ht
  rcases ht with rfl | rfl | rfl | ht
  ·exact t8
  ·exact d
  ·exact t12
  ·exact i2 t ht
theorem Raae : ∀ l : List (List Stm), (∀ x ∈ l, x.all (sOk 3) = true ∧ cSs x ≤ 16) → wl (tsT l) ≤ 4820 * l.length ∧ (∀ t ∈ tsT l, tvb t = true)
 | [], _ => ⟨Nat.le_refl _, by simp [tsT]⟩
 | x :: r, h => by
  obtain ⟨i1, i2⟩ := Raae r (fun m hm => h m (List.mem_cons_of_mem _ hm))
  obtain ⟨a, b⟩ := h x (List.mem_cons_self ..)
  have c := bT_wl a
  obtain ⟨_, _, _, _, _, _, _, _, q9, q10, q11, _, _⟩ := kws
  obtain ⟨_, _, _, _, _, _, _, _, t9, t10, t11, _, _⟩ := kwt
  refine ⟨by simp only [tsT, Ret, Rec, Zc] at *; omega, ?_⟩
  intro t ht
  simp only [tsT, Zo, Zu] at ht
  rcases ht with rfl | rfl | ht | rfl | ht
  ·exact t9
  ·exact t10
  ·exact bT_tv a t ht
  ·exact t11
  ·exact i2 t ht
theorem pT_ok {p : Prg} (h : Rev p = true) : wl (pT p) ≤ 14600 ∧ ∀ t ∈ pT p, tvb t = true := by
 obtain ⟨a, b, _, c, d⟩ := Rjt h
 obtain ⟨e1, e2⟩ := Rvw p.rooms (fun n hn => Rlx a hn)
 obtain ⟨f1, f2⟩ := Raae p.tasks (fun x hx => ⟨(d x hx).1, (d x hx).2.1⟩)
 refine ⟨by unfold pT; rw [Rec]; omega, fun t ht => ?_⟩
 rcases List.mem_append.1 ht with ht | ht
 ·exact e2 t ht
 ·exact f2 t ht
theorem Ryt {l : List Int} {i : Nat} (hi : i < l.length) : bxT (l.drop i) = kBox :: Lib.itoa l[i] :: kS :: bxT (l.drop (i + 1)) := by
 rw [List.drop_eq_getElem_cons hi]; simp only [bxT]
theorem Rzn {l : List (List Stm)} {i : Nat} (hi : i < l.length) : tsT (l.drop i) = Rjl :: kL :: (bkT l[i] ++ kR :: tsT (l.drop (i + 1))) := by
 rw [List.drop_eq_getElem_cons hi]; simp only [tsT]
theorem Roa {l : List Int} {b1 : List (List Stm)} (hl : l.length ≤ 3) (hr : ∀ n ∈ l, 1 ≤ n ∧ n ≤ 4) : ∀ (d i : Nat) (m : Bool) (o : List Tok), i + d = l.length → o.length ≤ 100 + 3 * i →
  ∃ m', Rbt m o i l b1 = some ((m', o ++ bxT (l.drop i)), l, b1)
 | 0, i, m, o, hi, ho => by
  refine ⟨m, ?_⟩
  apply Rfm
  have h1 : ¬ ((i : Int) < l.length) := by omega
  simp only [h1, Zz, Zf]
  rw [List.drop_eq_nil_of_le (by omega)]; simp [bxT]
 | d + 1, i, m, o, hi, ho => by
  have h1 : ((i : Int) < l.length) := by omega
  have hlt : i < l.length := by omega
  obtain ⟨m', h2⟩ := Roa (b1 := b1) hl hr d (i + 1) true (o ++ [kBox, Lib.itoa l[i], kS]) (by omega) (by simp only [Za, Zc, Zn]; omega)
  refine ⟨m', ?_⟩
  apply Rfm
  obtain ⟨a, b⟩ := hr _ (List.getElem_mem hlt)
  simp only [h1, Zy, Zt, Rdn hlt, Qb]
  rw [dec5 (by omega) (by omega), Qb, Rbq (by simp only [Zc, Zn]; omega), Qb, w1n (by omega)]
  rw [show (o ++ [[98, 111, 120], Lib.itoa l[i], [59]] : List Tok) = o ++ [kBox, Lib.itoa l[i], kS] from rfl, h2, Ryt hlt]
  simp
theorem Rof {l : List (List Stm)} {b0 : List Int} (hl : l.length ≤ 3) (hr : ∀ x ∈ l, x.all (sOk 3) = true ∧ cSs x ≤ 16) : ∀ (d i : Nat) (m : Bool) (o : List Tok), i + d = l.length → o.length ≤ 100 + 4820 * i →
  ∃ m', Rbu m o i b0 l = some (m', o ++ tsT (l.drop i))
 | 0, i, m, o, hi, ho => by
  refine ⟨m, ?_⟩
  apply Rfn
  have h1 : ¬ ((i : Int) < l.length) := by omega
  simp only [h1, Zz, Zf]
  rw [List.drop_eq_nil_of_le (by omega)]; simp [tsT]
 | d + 1, i, m, o, hi, ho => by
  have h1 : ((i : Int) < l.length) := by omega
  have hlt : i < l.length := by omega
  obtain ⟨a, b⟩ := hr _ (List.getElem_mem hlt)
  have c := bT_wl a
  have c2 := Rvf (bkT l[i])
  obtain ⟨m', h2⟩ := Rof (b0 := b0) hl hr d (i + 1) true (o ++ [Rjl] ++ kL :: (bkT l[i] ++ [kR])) (by omega) (by simp only [Za, Zc, Zn]; omega)
  refine ⟨m', ?_⟩
  apply Rfn
  simp only [h1, Zy, Zt, Rdn hlt, Qb]
  rw [Rbq (by simp only [Zc, Zn]; omega), Qb, spec_bT a (by omega), Qb, Rbq (by simp only [Za, Zc, Zn]; omega), Qb, w1n (by omega)]
  rw [show (o ++ [[116, 97, 115, 107]] : List Tok) = o ++ [Rjl] from rfl, h2, Rzn hlt]
  simp
def pTxt (p : Prg) : List UInt8 := if Rev p = true then jn (pT p) else []
theorem Rlb {p : Prg} (hr : (p.rooms.length : Int) ≤ 4294967296) (hl : (p.tasks.length : Int) ≤ 4294967296) (hm : ∀ x ∈ p.tasks, mSs x ≤ 4294967296) : Rgj p = some (pTxt p) := by
 apply Rlc
 rw [Rgr hr hl hm, Qb]
 unfold pTxt
 cases h : Rev p with
 | false => rfl
 | true =>
  obtain ⟨a, b, _, c, d⟩ := Rjt h
  obtain ⟨e, f⟩ := pT_ok h
  obtain ⟨m1, h1⟩ := Roa (b1 := p.tasks) b (fun n hn => Rlx a hn) p.rooms.length 0 true [] (by omega) (by simp)
  have hb := (Rvw p.rooms (fun n hn => Rlx a hn)).1
  have hb2 := Rvf (bxT p.rooms)
  obtain ⟨m2, h2⟩ := Rof (b0 := p.rooms) c (fun x hx => ⟨(d x hx).1, (d x hx).2.1⟩) p.tasks.length 0 m1 (bxT p.rooms) (by omega) (by omega)
  rw [List.drop_zero, List.nil_append] at h1
  rw [List.drop_zero] at h2
  simp only [Zv, Zf, if_true]
  rw [show Rbt true [] 0 p.rooms p.tasks = _ from h1, Qb]
  dsimp only
  rw [show Rbu m1 (bxT p.rooms) 0 p.rooms p.tasks = _ from h2, Qb]
  dsimp only
  rw [show bxT p.rooms ++ tsT p.tasks = pT p from rfl, Rnl (by omega), Qb, if_pos (List.all_eq_true.mpr f)]
theorem Rre {e : Exp} (h : Ras 5 e = true) {u : List Tok} (hu : nlev u = 0) : ex1 (eT 5 e ++ u) = some (e, u) :=
 ex1_is (P_ext hu (Ryq h) e [] rfl)
theorem Rwp (u : List Tok) : nlev (kS :: u) = 0 := rfl
theorem Rwo (u : List Tok) : nlev (kL :: u) = 0 := rfl
theorem Rxw {s : Stm} (h : hdr s) : ∃ t r, sT s = t :: r ∧ t ≠ Rfo ∧ t ≠ kR := by
 rcases Riy h with ⟨k, a, b, _, c, _, _, e⟩ | ⟨k, _, _, c, e⟩ | ⟨k, _, _, c, _, e⟩ | ⟨k, _, a, b, c, _, _, e⟩ | ⟨k, a, b, a', b', _, _, _, e⟩ | ⟨k, _, _, _, _, _, e⟩ | ⟨k, _, _, c, _, _, e⟩
 ·refine ⟨_, _, e, fun hh => ?_, fun hh => ?_⟩
  ·have := (Rgn a b).2.2
   rw [hh] at this
   have h2 : varV Rfo = -1 := by decide
   omega
  ·have := (Rgn a b).2.2
   rw [hh] at this
   have h2 : varV kR = -1 := by decide
   omega
 ·exact ⟨_, _, e, by decide, by decide⟩
 ·exact ⟨_, _, e, by decide, by decide⟩
 ·exact ⟨_, _, e, by decide, by decide⟩
 ·exact ⟨_, _, e, by decide, by decide⟩
 ·exact ⟨_, _, e, by decide, by decide⟩
 ·exact ⟨_, _, e, by decide, by decide⟩
theorem Rwj {d : Nat} (ih : ∀ s, sOk d s = true → ∀ u, nd Rfo u = none → G .st (sT s ++ u) (some ([s], u))) : ∀ (l : List Stm), l.all (sOk d) = true → ∀ (a : List Stm) (u : List Tok), G (.lp a) (bkT l ++ kR :: u) (some (a ++ l, u))
 | [], _, a, u => by
  rw [show bkT [] ++ kR :: u = kR :: u from rfl, List.append_nil]
  exact .lpS
 | s :: r, h, a, u => by
  simp only [List.all_cons, Zw] at h
  have h2 := Rwj ih r h.2 (a ++ [s]) u
  have hn : nd Rfo (bkT r ++ kR :: u) = none := by
   cases r with
   | nil => exact ndN (by decide)
   | cons s2 r2 =>
    have h3 := h.2
    simp only [List.all_cons, Zw] at h3
    obtain ⟨t, q, e, hne, _⟩ := Rxw (Rhx h3.1)
    simp only [bkT]
    rw [e]
    exact ndN hne
  have h1 := ih s h.1 (bkT r ++ kR :: u) hn
  obtain ⟨t, q, e, _, hne⟩ := Rxw (Rhx h.1)
  simp only [bkT]
  rw [e] at h1
  rw [List.append_assoc, e]
  rw [show a ++ s :: r = a ++ [s] ++ r by simp]
  exact .lpC hne h1 h2
theorem Rpe {d : Nat} (ih : ∀ s, sOk d s = true → ∀ u, nd Rfo u = none → G .st (sT s ++ u) (some ([s], u))) {l : List Stm} (h : l.all (sOk d) = true) (u : List Tok) : G .bk (kL :: (bkT l ++ kR :: u)) (some (l, u)) :=
 .bk (Rwj ih l h [] u)
theorem st_back : ∀ (d : Nat) (s : Stm), sOk d s = true → ∀ u, nd Rfo u = none → G .st (sT s ++ u) (some ([s], u)) := by
  have main : ∀ (d : Nat), (∀ d', d = d' + 1 → ∀ s, sOk d' s = true → ∀ u, nd Rfo u = none → G .st (sT s ++ u) (some ([s], u))) → ∀ s, sOk d s = true → ∀ u, nd Rfo u = none → G .st (sT s ++ u) (some ([s], u)) := by
    intro d ih s h u hu
    have et := Rzj s
    rcases Riy (Rhx h) with ⟨k, a, b, x, c, y, z, e⟩ | ⟨k, x, y, c, e⟩ | ⟨k, x, y, c, z, e⟩ | ⟨k, x, a, b, c, y, z, e⟩ | ⟨k, a, b, a', b', x, y, z, e⟩ | ⟨k, x, y, w, z, v, e⟩ | ⟨k, x, y, c, z, v, e⟩
    · have hv := (Rgn a b).2.2
      rw [e, show vT s.var :: kE :: (eT 5 s.e ++ [kS]) ++ u = vT s.var :: kE :: (eT 5 s.e ++ kS :: u) by simp]
      refine .smp (fun hh => ?_) (fun hh => ?_) ?_
      · rw [hh] at hv; have h2 : varV kIf = -1 := by decide
        omega
      · rw [hh] at hv; have h2 : varV Rcq = -1 := by decide
        omega
      · rw [smp_set (by omega) (Rre c (Rwp u)), hv]
        rw [k, x, y, z] at et
        rw [et]
    · obtain ⟨d', hd, hb, he⟩ := Rju h (Or.inl k)
      have ih' := ih d' hd
      rw [k, x, y] at et
      rw [e]
      by_cases hz : s.els.length = 0
      · rw [if_pos hz, show kIf :: (eT 5 s.e ++ kL :: (bkT s.body ++ [kR])) ++ [] ++ u = kIf :: (eT 5 s.e ++ kL :: (bkT s.body ++ kR :: u)) by simp]
        have := G.if1 (Rre c (Rwo _)) (Rpe ih' hb u) hu
        rw [List.eq_nil_of_length_eq_zero hz] at et
        rw [et] at this
        exact this
      · rw [if_neg hz, show kIf :: (eT 5 s.e ++ kL :: (bkT s.body ++ [kR])) ++ Rfo :: kL :: (bkT s.els ++ [kR]) ++ u = kIf :: (eT 5 s.e ++ kL :: (bkT s.body ++ kR :: Rfo :: kL :: (bkT s.els ++ kR :: u))) by simp]
        have := G.if2 (Rre c (Rwo _)) (Rpe ih' hb _) (Rpe ih' he u)
        rw [et] at this
        exact this
    · obtain ⟨d', hd, hb, he⟩ := Rju h (Or.inr k)
      have ih' := ih d' hd
      rw [k, x, y, z] at et
      rw [e, show Rcq :: (eT 5 s.e ++ kL :: (bkT s.body ++ [kR])) ++ u = Rcq :: (eT 5 s.e ++ kL :: (bkT s.body ++ kR :: u)) by simp]
      have := G.wh (Rre c (Rwo _)) (Rpe ih' hb u)
      rw [et] at this
      exact this
    · obtain ⟨_, _, hv⟩ := Rgh a (show s.box < 5 by omega)
      rw [e, show Rik :: Lib.itoa s.box :: (eT 5 s.e ++ [kS]) ++ u = Rik :: Lib.itoa s.box :: (eT 5 s.e ++ kS :: u) by simp]
      refine .smp (by decide) (by decide) ?_
      rw [Rzh (by omega) (Rre c (Rwp u)), hv]
      rw [k, x, y, z] at et
      rw [et]
    · obtain ⟨_, _, hv⟩ := Rgh a' (show s.box < 5 by omega)
      have hw := (Rgn a b).2.2
      rw [e]
      refine .smp (by decide) (by decide) ?_
      show smp (Rjo :: Lib.itoa s.box :: vT s.var :: kS :: u) = _
      rw [Rzg u (by omega) (by omega), hv, hw]
      rw [k, x, y, z] at et
      rw [et]
    · rw [e]
      refine .smp (by decide) (by decide) ?_
      show smp (Rgp :: kS :: u) = _
      rw [Rxz]
      rw [k, x, y, w, z, v] at et
      rw [et]
    · rw [e, show Rga :: (eT 5 s.e ++ [kS]) ++ u = Rga :: (eT 5 s.e ++ kS :: u) by simp]
      refine .smp (by decide) (by decide) ?_
      rw [Rxy (Rre c (Rwp u))]
      rw [k, x, y, z, v] at et
      rw [et]
  intro d
  induction d with
  | zero => exact main 0 (fun d' h => by omega)
  | succ d ih => exact main (d + 1) (fun d' h => by have : d = d' := by omega
                                                    subst this; exact ih)
theorem Rvd : ∀ (l : List (List Stm)), (∀ x ∈ l, x.all (sOk 3) = true) → ∀ a, TR a (tsT l) (some (a ++ l, []))
 | [], _, a => by rw [List.append_nil]; exact .stop rfl
 | x :: r, h, a => by
  have h1 := Rpe (st_back 3) (h x (List.mem_cons_self ..)) (tsT r)
  have h2 := Rvd r (fun y hy => h y (List.mem_cons_of_mem _ hy)) (a ++ [x])
  rw [show a ++ x :: r = a ++ [x] ++ r by simp]
  exact .go h1 h2
theorem tsT_box : ∀ l : List (List Stm), nd kBox (tsT l) = none
 | [] => rfl
 | x :: r => ndN (by decide)
theorem Ruf {u : List Tok} (hu : nd kBox u = none) : ∀ (l : List Int), (∀ n ∈ l, 1 ≤ n ∧ n ≤ 4) → ∀ a, BR a (bxT l ++ u) (some (a ++ l, u))
 | [], _, a => by rw [List.append_nil]; exact .stop hu
 | n :: r, h, a => by
  obtain ⟨h1, h2⟩ := h n (List.mem_cons_self ..)
  obtain ⟨_, _, hv⟩ := Rgh (n := n) (by omega) (by omega)
  have h3 := Ruf hu r (fun m hm => h m (List.mem_cons_of_mem _ hm)) (a ++ [n])
  rw [show a ++ n :: r = a ++ [n] ++ r by simp]
  have hn : nu (Lib.itoa n :: kS :: (bxT r ++ u)) = some (n, kS :: (bxT r ++ u)) := by rw [Rnj (by omega), hv]
  exact .go hn h3
theorem pT_back {p : Prg} (h : Rev p = true) : PrF (pT p) p := by
 obtain ⟨a, b, _, c, d⟩ := Rjt h
 exact ⟨tsT p.tasks, Ruf (tsT_box _) p.rooms (fun n hn => Rlx a hn) [], Rvd p.tasks (fun x hx => (d x hx).1) []⟩
theorem Rze {p : Prg} (h : Rev p = true) : Prm (pTxt p) p ∧ (pTxt p).length ≤ 14600 := by
 obtain ⟨e, f⟩ := pT_ok h
 have hl := jn_wl (pT p)
 unfold pTxt
 rw [if_pos h]
 exact ⟨⟨by omega, ⟨_, Ryi _ f, pT_back h⟩, h⟩, by omega⟩
theorem Rzf (p : Prg) : (pTxt p).length ≤ 14600 := by
 by_cases h : Rev p = true
 ·exact (Rze h).2
 ·unfold pTxt; rw [if_neg h]; simp
theorem Rpp {n : Int} (hn : n ≤ 3) : ∀ (d : Nat) (i : Int) (f : Bool) (l : List Int) {b : List Int} {p m : Int}, n ≤ i + d → 0 ≤ i → i ≤ 10 - d → d ≤ 3 → (l.length : Int) ≤ i → Rd b p m → m + d ≤ 999990000 →
  Ok (Reh f l n i b p) fun r => Rd r.2.1 r.2.2 (m + d) ∧ r.1.2.length ≤ 10
 | 0, i, f, l, b, p, m, hd, h0, hi1, hd3, hl, hr, hm => by
  apply Ok.le (Rhq _ _ _ _ _ _)
  have : ¬ (i < n) := by omega
  simp only [this, Zz, Zf]
  exact Ok.of ⟨hr.mono (by omega), by dsimp only; omega⟩
 | d + 1, i, f, l, b, p, m, hd, h0, hi1, hd3, hl, hr, hm => by
  apply Ok.le (Rhq _ _ _ _ _ _)
  refine Ok.bif (fun hb => ?_) (fun hb => ?_)
  ·refine Ok.bnd (Rap hr (by omega) (by decide)) fun r1 h1 => ?_
   refine Ok.bnd (Rjs h1.2 (by omega) rfl) fun e he => ?_
   rw [Rce (by omega), Qb, wrap_id (n := i + 1) (by omega) (by omega)]
   exact (Rpp hn d (i + 1) true (l ++ [e]) (by omega) (by omega) (by omega) (by omega) (by simp; omega) h1.1 (by omega)).mono fun r hr => ⟨hr.1.mono (by omega), hr.2⟩
  ·exact Ok.of ⟨hr.mono (by omega), by dsimp only; omega⟩
theorem Rtb {b : List Int} {p m : Int} (h : Rd b p m) (hm : m ≤ 999900000) : Ok (Rjg b p) fun r => Rd r.2.1 r.2.2 (m + 4) ∧ r.1.length ≤ 10 := by
 apply Ok.le (Rox b p)
 refine Ok.bnd (Rap h (by omega) (by decide)) fun r1 h1 => ?_
 refine Ok.bnd (Rjs h1.2 (by omega) rfl) fun e he => ?_
 have he3 : e ≤ 3 := by
  simp only [Zo, List.not_mem_nil, or_false] at he; omega
 refine Ok.bnd (Rpp he3 3 0 true [] (by omega) (by omega) (by omega) (by omega) (by simp) h1.1 (by omega)) fun r hr => ?_
 exact Ok.of ⟨hr.1.mono (by omega), hr.2⟩
theorem Ryd {b : List Int} {p : Int} : ∀ (d : Nat) (m : Md) (l : List Stm), l.length ≤ d → mSs l ≤ 1000000000 →
  Ok (Rei m l b p) fun r => r.2.1 = b ∧ r.2.2 = p ∧ mSs r.1.2 ≤ mSs l
 | d, m, l, hd, hl => by
  apply Ok.le (Rlf _ _ _ _)
  have hc := Rsx l
  rw [Rji (by omega), Qb]
  refine Ok.bif (fun hb => ?_) (fun hb => ?_)
  ·simp only [Ze] at hb
   have hm := Ren l
   have hpos : 0 < l.length := by
    cases l with
    | nil => simp [cSs] at hb
    | cons s r => simp
   rw [show wrap64 ((l.length : Int) - 1) = ((l.length - 1 : Nat) : Int) by rw [wrap_id (by omega) (by omega)]; omega,
    show cutL l (0 : Int) ((l.length - 1 : Nat) : Int) = some ((l.take (l.length - 1)).drop 0) from Rig (Nat.zero_le _) (by omega), Qb, List.drop_zero]
   have ht := Ryy l (l.length - 1)
   match d, hd with
   | 0, hd => omega
   | d + 1, hd =>
    exact (Ryd d .share (l.take (l.length - 1)) (by rw [List.length_take]; omega) (by omega)).mono fun r hr => ⟨hr.1, hr.2.1, by have := hr.2.2; omega⟩
  ·exact Ok.of ⟨rfl, rfl, Nat.le_refl _⟩
theorem Rtc {b : List Int} {p m : Int} (a : Int) (ha : a ≤ 1000) (h : Rd b p m) (hm : m ≤ 999900000) : Ok (Rjh a b p) fun r => Rd r.2.1 r.2.2 (m + 23000) ∧ mSs r.1.2 ≤ 10000 := by
 apply Ok.le (Roy a b p)
 have hcs : cs 3 = 3820 := by decide
 have hms : ms 3 = 1590 := by decide
 refine Ok.bnd (Rap h (by omega) (by decide)) fun r1 h1 => ?_
 have hk := h1.2.2.1 (by omega)
 rw [wrap_id (n := 1 + r1.1) (by omega) (by omega)]
 refine Ok.bnd (Rks (Rss 3 (by omega)) 6 (by omega) (by rw [hms]; omega) a (1 + r1.1) true ha (by omega) h1.1 (by rw [hcs]; omega)) fun r2 h2 => ?_
 rw [hcs, hms] at h2
 refine Ok.bnd (Ryd (b := r2.2.1) (p := r2.2.2) r2.1.length (.own true) r2.1 (Nat.le_refl _) (by have := h2.2; omega)) fun r3 h3 => ?_
 obtain ⟨e1, e2, h3m⟩ := h3
 refine Ok.of ⟨?_, by have := h2.2; dsimp only; omega⟩
 dsimp only
 rw [e1, e2]; exact h2.1.mono (by omega)
theorem Rlr {n : Int} {x0 : Bool} {l0 : List Int} {x1 : Hd} {rs : List Int} (hrs : rs.length ≤ 10) : ∀ (d : Nat) (i : Int) (ht : Hd) (ls : List (List Stm)) (B : List Ent) {b : List Int} {p m : Int}, n ≤ i + d → 0 ≤ i → i ≤ 10 - d → d ≤ 3 → (ls.length : Int) = i → (∀ x ∈ ls, mSs x ≤ 10000) → Got .stms [] ls ht B → Rd b p m → m + 23000 * d ≤ 999800000 →
  Ok (Rdm n i b p x0 l0 x1 rs ht B) fun r => Rd r.1 r.2.1 (m + 23000 * d) ∧ r.2.2.2.2.1 = rs ∧ ∃ ls', (ls'.length : Int) ≤ i + d ∧ n ≤ (ls'.length : Int) ∧ (∀ x ∈ ls', mSs x ≤ 10000) ∧ Got .stms [] ls' r.2.2.2.2.2.1 r.2.2.2.2.2.2
 | 0, i, ht, ls, B, b, p, m, hd, h0, hi1, hd3, hl, hm, hg, hrd, hb => by
  apply Ok.le (Rge _ _ _ _ _ _ _ _ _ _)
  have : ¬ (i < n) := by omega
  simp only [this, Zz, Zf]
  exact Ok.of ⟨hrd.mono (by omega), rfl, ls, by omega, by omega, hm, hg⟩
 | d + 1, i, ht, ls, B, b, p, m, hd, h0, hi1, hd3, hl, hm, hg, hrd, hb => by
  apply Ok.le (Rge _ _ _ _ _ _ _ _ _ _)
  refine Ok.bif (fun hc => ?_) (fun hc => ?_)
  ·refine Ok.bnd (Rtc ((rs.length : Nat) : Int) (by omega) hrd (by omega)) fun r1 h1 => ?_
   have hc2 := hg.cnt
   refine Ok.bnd (hg.app (ys := [r1.1.2]) (by rw [hc2]; simp only [Zc, Zn]; omega)) fun B2 hB2 => ?_
   rw [wrap_id (n := i + 1) (by omega) (by omega)]
   exact (Rlr hrs d (i + 1) _ (ls ++ [r1.1.2]) B2 (by omega) (by omega) (by omega) (by omega) (by simp; omega) (mem_add hm h1.2) hB2.1 h1.1 (by omega)).mono fun r hr' => ⟨hr'.1.mono (by omega), hr'.2.1, (let ⟨ls', q1, q0, q2, q3⟩ := hr'.2.2; ⟨ls', by omega, q0, q2, q3⟩)⟩
  ·simp only [decide_eq_false_iff_not] at hc
   exact Ok.of ⟨hrd.mono (by omega), rfl, ls, by omega, by omega, hm, hg⟩
theorem Rqm {b : List Int} {p m : Int} (h : Rd b p m) (hm : m ≤ 999000000) : Ok (Rhp b p) fun r => Rd r.2.1 r.2.2 (m + 80000) ∧ r.1.rooms.length ≤ 10 ∧ r.1.tasks.length ≤ 10 ∧ ∀ x ∈ r.1.tasks, mSs x ≤ 10000 := by
 apply Ok.le (Rmm b p)
 refine Ok.bnd (Rtb h (by omega)) fun r1 h1 => ?_
 refine Ok.bnd (Rap h1.1 (by omega) (by decide)) fun r2 h2 => ?_
 have hk := h2.2.2.1 (by omega)
 rw [wrap_id (n := 1 + r2.1) (by omega) (by omega)]
 have hg : Got .stms [] [] ⟨some (List.length ([] : List Ent)), 0⟩ (Qao ([] : List Ent) .stms ([] : List (List Stm))) := Got.push (c := .stms) (l := ([] : List (List Stm))) (Ext.refl _ _)
 refine Ok.bnd (Rlr (x0 := false) (l0 := []) (x1 := ⟨none, 0⟩) h1.2 3 0 _ [] _ (by omega) (by omega) (by omega) (by omega) (by simp) (by simp) hg h2.1 (by omega)) fun r3 h3 => ?_
 obtain ⟨h3r, e3, ls, hl, hl1, hms, h3g⟩ := h3
 refine Ok.bnd (Rap h3r (by omega) (by decide)) fun r4 h4 => ?_
 refine Ok.bif (fun _ => ?_) (fun _ => ?_)
 ·refine Ok.bnd (Rsi h4.1 (by omega)) fun r5 h5 => ?_
  have hc := h3g.cnt
  obtain ⟨k, hk0⟩ : ∃ k, ls[0]? = some k := ⟨ls[0]'(by omega), List.getElem?_eq_getElem (by omega)⟩
  rw [idxN_eq (by omega) (by omega), Qb, h3g.row (i := (0 : Int).toNat) hk0, Qb]
  have hset := Got.set (i := (0 : Int).toNat) (x := ([⟨r5.1.kind, r5.1.var, r5.1.box, ⟨r5.1.e.op, r5.1.e.n, r5.1.e.args⟩, r5.1.body, r5.1.els⟩] : List Stm)) h3g
  rw [arView_stms, hset.get, Qb]
  have hsz := h5.2
  rw [Rsk, Rlm] at hsz
  refine Ok.of ⟨h5.1.mono (by omega), by dsimp only; rw [e3]; exact h1.2, by dsimp only; rw [List.length_set]; omega, ?_⟩
  dsimp only
  exact mem_set hms (by simp only [mSs, Rnh]; omega)
 ·rw [arView_stms, h3g.get, Qb]
  refine Ok.of ⟨h4.1.mono (by omega), by dsimp only; rw [e3]; exact h1.2, by dsimp only; omega, hms⟩
theorem Rlg {a : List Int} (h : wfBs a) : Ok (Rcs a) fun s => s.length ≤ 15000 := by
 apply Ok.le (Riz a)
 refine Ok.bnd (open_ok h) fun r1 h1 => ?_
 refine Ok.bnd (Rqm h1 (by omega)) fun r2 h2 => ?_
 obtain ⟨h2r, p1, p2, p3⟩ := h2
 rw [Rlb (by omega) (by omega) (fun x hx => by have := p3 x hx; omega), Qb]
 have hl := Rzf r2.1
 generalize pTxt r2.1 = w at hl
 refine Ok.bnd (Rap h2r (by omega) (by decide)) fun r4 h4 => ?_
 refine Ok.bif (fun _ => ?_) (fun _ => ?_)
 ·refine Ok.bnd (of_ok h4.1 (by omega) (by decide) (by decide)) fun r5 h5 => ?_
  have h6 : r5.1.length ≤ 30 := by
   have : ∀ x ∈ ([[32, 116, 97, 115, 107, 32, 123, 32, 125], [32, 125], [59], [32, 116, 97, 115, 107, 32, 123], [10], [32, 98, 111, 120, 32, 49, 32, 59]] : List (List UInt8)), x.length ≤ 30 := by decide
   exact this _ h5.2
  rw [Rez (by omega), Qb]
  exact Ok.of (by rw [Za]; omega)
 refine Ok.bif (fun _ => ?_) (fun _ => ?_)
 ·rw [wrap_id (n := (w.length : Int) + 1) (by omega) (by omega)]
  refine Ok.bnd (Rap h4.1 (by omega) (by unfold wfI; omega)) fun r7 h7 => ?_
  have hk := h7.2.2.1 (by omega)
  have h0 := h7.2.1
  rw [show cutL w 0 r7.1 = some ((w.take r7.1.toNat).drop 0) from by
   have := Rig (l := w) (lo := 0) (hi := r7.1.toNat) (Nat.zero_le _) (by omega)
   rw [show ((r7.1.toNat : Nat) : Int) = r7.1 by omega] at this
   exact this, Qb, List.drop_zero]
  exact Ok.of (by rw [List.length_take]; omega)
 refine Ok.bif (fun _ => ?_) (fun _ => ?_)
 ·refine Ok.bnd (of_ok h4.1 (by omega) (by decide) (by decide)) fun r9 h9 => ?_
  have h6 : r9.1.length ≤ 60 := by
   have : ∀ x ∈ ([[116, 97, 115, 107, 123, 125], [116, 97, 115, 107, 123, 121, 105, 101, 108, 100, 59, 121, 105, 101, 108, 100, 59, 125], [116, 97, 115, 107, 32, 123, 32, 115, 101, 110, 100, 32, 48, 32, 40, 97, 41, 32, 59, 32, 114, 101, 99, 118, 32, 48, 32, 98, 32, 59, 32, 125], [116, 97, 115, 107, 32, 123, 32, 105, 102, 32, 97, 32, 123, 32, 125, 32, 101, 108, 115, 101, 32, 123, 32, 125, 32, 125], [116, 97, 115, 107, 32, 123, 32, 112, 114, 105, 110, 116, 32, 51], [116, 97, 115, 107, 32, 123, 32, 114, 101, 99, 118, 32, 49, 32, 97, 32, 59, 32, 125], [116, 97, 115, 107, 32, 123, 32, 101, 32, 61, 32, 49, 32, 59, 32, 125]] : List (List UInt8)), x.length ≤ 60 := by decide
   exact this _ h9.2
  rw [Rez (by simp only [Zc, Zn]; omega), Qb]
  exact Ok.of (by simp only [Za, Zc, Zn]; omega)
 ·exact Ok.of (by omega)
theorem Rma {l : List (List Stm)} {r r2 : List Int} (hl : (l.length : Int) ≤ 4294967296) (hm : ∀ x ∈ l, mSs x ≤ 4294967296) : ∀ (d i : Nat), i + d = l.length → Rdb i r l r2 l = some (.inl ())
 | 0, i, hd => by
  apply Rfk
  have hi : ¬ ((i : Int) < l.length) := by omega
  simp [hi]
 | d + 1, i, hd => by
  apply Rfk
  have hi : i < l.length := by omega
  have hi' : (i : Int) < l.length := by omega
  have ht := hm _ (List.getElem_mem hi)
  simp only [hi', Zy, Zt, Rbe hi, Qb, Rkz ht, Zv, Zf, Rcz (show (i : Int) < 9223372036854775807 by omega)]
  exact Rma hl hm d (i + 1) (by omega)
def midP (p : Prg) : Prop := p.rooms.length ≤ 1000000 ∧ p.tasks.length ≤ 1000000 ∧ ∀ x ∈ p.tasks, mSs x ≤ 1000000
theorem Rdo {p : Prg} (h : midP p) : Rn p p = some true := by
 obtain ⟨h1, h2, h3⟩ := h
 apply Rky
 rw [Rlt (by omega), Qb]
 simp only [Zv, Zf, Zy]
 rw [show (0 : Int) = ((0 : Nat) : Int) by rfl, Rma (by omega) (fun x hx => by have := h3 x hx; omega) p.tasks.length 0 (by omega), Qb]
 rfl
theorem Rvp {s : List UInt8} {p : Prg} (h : Prm s p) : midP p := by
 obtain ⟨hl, ⟨t, ht, hp⟩, _⟩ := h
 have := Rsu ht
 obtain ⟨a, b, c⟩ := Rvo hp 40000 (by omega)
 exact ⟨by omega, by omega, fun x hx => by have := c x hx; omega⟩
theorem Prm_det {s : List UInt8} {p q : Prg} (h1 : Prm s p) (h2 : Prm s q) : p = q := by
 obtain ⟨_, ⟨t, ht, hp⟩, _⟩ := h1
 obtain ⟨_, ⟨t', ht', hq⟩, _⟩ := h2
 rw [ht] at ht'; injection ht' with ht'; subst ht'
 exact Rtn hp hq
theorem Rty {s : List UInt8} {p : Prg} (h : Prm s p) : Rk s = some (p, true) := by
 rcases impl_pf s with ⟨q, hq, h1⟩ | ⟨hn, _⟩
 ·rw [Prm_det h hq]; exact h1
 ·exact absurd h (hn p)
theorem Rxx : Rn (⟨[], []⟩ : Prg) (⟨[], []⟩ : Prg) = some true := Rdo ⟨by simp, by simp, by simp⟩
theorem Ryx {a : List Int} (h : wfBs a) {F : List UInt8 → Prg → Option Bool} (hF : ∀ s p, s.length ≤ 15000 → Prm s p → Ok (F s p) fun r => r = true) :
  Ok (bif (decide (1048576 < (a.length : Int))) then some true else
   bnd (Rcs a) fun r1 => bnd (Rk r1) fun r2 => bnd (Rbl r1) fun r3 =>
   (bif (!(r2.2 == r3.2)) then (bif (r2.2 == r3.2) then bnd (Rn r2.1 r3.1) fun r4 => some r4 else some false) else
   bnd (Rn r2.1 r3.1) fun r5 =>
   (bif (!r5) then (bif (r2.2 == r3.2) then bnd (Rn r2.1 r3.1) fun r6 => some r6 else some false) else
   (bif (!r2.2) then (bif (r2.2 == r3.2) then bnd (Rn r2.1 r3.1) fun r7 => some r7 else some false) else F r1 r2.1)))) fun r => r = true := by
 refine Ok.bif (fun _ => Ok.of rfl) (fun _ => ?_)
 refine Ok.bnd (Rlg h) fun s hs => ?_
 rcases pf_all s with ⟨p, hp, h1, h2⟩ | ⟨_, h1, h2⟩
 ·rw [h1, Qb, h2, Qb]
  simp only [beq_self_eq_true, Zv, Zf, Rdo (Rvp hp), Qb]
  exact hF s p hs hp
 ·rw [h1, Qb, h2, Qb]
  simp only [beq_self_eq_true, Zv, Zx, Zf, Zt, Rxx, Qb]
  exact Ok.of rfl
theorem tok_32 (c : UInt8) (r : List UInt8) (hc : c ≠ 32) : ∀ x ∈ (c :: r).take (Rg (c :: r)), x ≠ 32 := by
 intro x hx h40
 subst h40
 have all : ∀ p : UInt8 → Bool, p 32 = false → p c = true → Rg (c :: r) = 1 + (r.takeWhile p).length → False := by
  intro p hp hpc hl
  rw [hl, Nat.add_comm, List.take_succ_cons] at hx
  rcases List.mem_cons.mp hx with h | h
  ·exact hc h.symm
  ·rw [← List.prefix_iff_eq_take.mp (List.takeWhile_prefix p)] at h
   have := List.all_eq_true.mp List.all_takeWhile _ h
   rw [hp] at this; cases this
 by_cases h1 : dg c = true
 ·exact all dg (by decide) h1 (by simp only [Rg, h1, if_true])
 by_cases h2 : lt c = true
 ·exact all lt (by decide) h2 (by simp only [Rg, h1, h2, if_true, Bool.false_eq_true, if_false])
 by_cases h3 : twos.any (fun t => t.isPrefixOf (c :: r)) = true
 ·have hl : Rg (c :: r) = 2 := by simp only [Rg, h1, h2, h3, if_true, Bool.false_eq_true, if_false]
  cases r with
  | nil => rw [Rpb] at h3; cases h3
  | cons d r =>
   rw [Ric, List.contains_iff_mem] at h3
   rw [hl] at hx
   simp only [List.take_succ_cons, List.take_zero, Zo, List.not_mem_nil, or_false] at hx
   rcases hx with h | h
   ·exact hc h.symm
   ·subst h
    unfold twos at h3
    simp at h3
 ·have hl : Rg (c :: r) ≤ 1 := by
   simp only [Rg, h1, h2, h3, Bool.false_eq_true, if_false]
   split <;> omega
  have : ∀ n, n ≤ 1 → (32 : UInt8) ∈ (c :: r).take n → False := by
   intro n hn hm
   have : n = 0 ∨ n = 1 := by omega
   rcases this with rfl | rfl
   ·simp at hm
   ·simp only [List.take_succ_cons, List.take_zero, Zo, List.not_mem_nil, or_false] at hm
    exact hc hm.symm
  exact this _ hl hx
def nl (c : UInt8) : UInt8 := if c = 32 then 10 else c
theorem Rrh {c : UInt8} (h : c ≠ 32) : nl c = c := if_neg h
theorem Rwn {p : UInt8 → Bool} (h : p 32 = p 10) (c : UInt8) : p (nl c) = p c := by
 by_cases hc : c = 32
 ·subst hc; exact h.symm
 ·rw [Rrh hc]
theorem Rkd {p : UInt8 → Bool} (h : p 32 = p 10) : ∀ r : List UInt8, ((r.map nl).takeWhile p).length = (r.takeWhile p).length
 | [] => rfl
 | c :: r => by
  rw [List.map_cons, List.takeWhile_cons, List.takeWhile_cons, Rwn h]
  cases p c with
  | false => rfl
  | true => simp only [if_true, Zc, Rkd h r]
theorem Rqh (c : UInt8) (r : List UInt8) : Rg (c :: r.map nl) = Rg (c :: r) := by
 have h2 : twos.any (fun t => t.isPrefixOf (c :: r.map nl)) = twos.any (fun t => t.isPrefixOf (c :: r)) := by
  cases r with
  | nil => rfl
  | cons d r =>
   rw [List.map_cons, Ric, Ric]
   by_cases hd : d = 32
   ·subst hd
    unfold twos nl
    simp
   ·rw [Rrh hd]
 simp only [Rg, Rkd (p := dg) rfl, Rkd (p := lt) rfl, h2]
theorem Rtw : ∀ (n : Nat) (s : List UInt8), s.length ≤ n → toks (s.map nl) = toks s
 | _, [], _ => rfl
 | 0, c :: r, h => by simp at h
 | n + 1, c :: r, h => by
  simp only [Zc] at h
  rw [List.map_cons]
  cases hb : bl c with
  | true =>
   have hb2 : bl (nl c) = true := by rw [Rwn (p := bl) rfl]; exact hb
   rw [Rke _ hb, Rke _ hb2, Rtw n r (by omega)]
  | false =>
   have hc : c ≠ 32 := by intro e; subst e; cases hb
   rw [Rrh hc]
   by_cases h0 : Rg (c :: r) = 0
   ·rw [Rqi hb h0, Rqi hb (by rw [Rqh]; exact h0)]
   ·have h0' : Rg (c :: r.map nl) ≠ 0 := by rw [Rqh]; exact h0
    have hm : c :: r.map nl = (c :: r).map nl := by rw [List.map_cons, Rrh hc]
    rw [Rib hb h0, Rib hb h0', Rqh, hm, ← List.map_drop, ← List.map_take, Rtw n ((c :: r).drop (Rg (c :: r))) (by rw [List.length_drop, Zc]; omega)]
    have : ((c :: r).take (Rg (c :: r))).map nl = (c :: r).take (Rg (c :: r)) := by
     have h32 := tok_32 c r hc
     generalize (c :: r).take (Rg (c :: r)) = w at h32
     induction w with
     | nil => rfl
     | cons x w ih => rw [List.map_cons, Rrh (h32 x (List.mem_cons_self ..)), ih (fun y hy => h32 y (List.mem_cons_of_mem _ hy))]
    rw [this]
theorem Rrz (l : List UInt8) : Tv.bytes (Tv.Qrs l) = l := by
 induction l with
 | nil => rfl
 | cons c l ih =>
  unfold Tv.bytes Tv.Qrs at *
  simp only [List.map_cons]
  rw [ih]
  simp
theorem Rvt {s : List UInt8} {rs : List Int} {ts : List (List Stm)} (hs : s.length ≤ 1000000) : ∀ (d i : Nat), i + d = s.length →
  Raj s i rs ts (Tv.Qrs ((s.take i).map nl ++ s.drop i)) = some (s, rs, ts, Tv.Qrs (s.map nl))
 | 0, i, h => by
  apply Reu
  have hlen : (Tv.Qrs ((s.take i).map nl ++ s.drop i)).length = s.length := by
   unfold Tv.Qrs
   simp only [List.length_map, Za, List.length_take, List.length_drop]; omega
  have h1 : ¬ ((i : Int) < ((Tv.Qrs ((s.take i).map nl ++ s.drop i)).length : Int)) := by omega
  rw [Zq h1, Zf, List.take_of_length_le (by omega), List.drop_eq_nil_of_le (by omega), List.append_nil]
 | d + 1, i, h => by
  have hi : i < s.length := by omega
  have hlen : (Tv.Qrs ((s.take i).map nl ++ s.drop i)).length = s.length := by
   unfold Tv.Qrs
   simp only [List.length_map, Za, List.length_take, List.length_drop]; omega
  have h1 : ((i : Int) < ((Tv.Qrs ((s.take i).map nl ++ s.drop i)).length : Int)) := by omega
  have hP : ((s.take i).map nl).length = i := by rw [List.length_map, List.length_take]; omega
  have hget : (Tv.Qrs ((s.take i).map nl ++ s.drop i))[i]? = some (s[i].toNat : Int) := by
   unfold Tv.Qrs
   rw [List.getElem?_map, List.getElem?_append_right (by omega), hP, Nat.sub_self, List.drop_eq_getElem_cons hi]; rfl
  have hgi : geti (Tv.Qrs ((s.take i).map nl ++ s.drop i)) (i : Int) = some (s[i].toNat : Int) := by rw [geti_nat', hget]
  have hset : Tv.Qrs ((s.take (i + 1)).map nl ++ s.drop (i + 1)) = (Tv.Qrs ((s.take i).map nl ++ s.drop i)).set i ((nl s[i]).toNat : Int) := by
   unfold Tv.Qrs
   have e1 : (List.map (fun c : UInt8 => (c.toNat : Int)) ((s.take i).map nl ++ s.drop i)) = List.map (fun c : UInt8 => (c.toNat : Int)) ((s.take i).map nl) ++ (s[i].toNat : Int) :: List.map (fun c : UInt8 => (c.toNat : Int)) (s.drop (i + 1)) := by
    rw [List.map_append, List.drop_eq_getElem_cons hi, List.map_cons]
   rw [e1, List.set_append_right _ _ (by rw [List.length_map, hP]; omega), List.length_map, hP, Nat.sub_self, List.set_cons_zero, List.take_succ_eq_append_getElem hi]
   simp only [List.map_append, List.map_cons, List.map_nil, List.append_assoc, List.cons_append, List.nil_append]
  have ih := Rvt (rs := rs) (ts := ts) hs d (i + 1) (by omega)
  rw [hset] at ih
  apply Reu
  rw [Zp h1, Zt, hgi, Qb, Int.toNat_natCast, hget, Qb]
  by_cases hc : s[i] = 32
  ·have h32 : ((s[i].toNat : Int) = 32) := by rw [hc]; rfl
   rw [Zp h32, Zt, Qb, Qb, w1n (by omega), ← ih, hc]
   rfl
  ·have h32 : ¬ ((s[i].toNat : Int) = 32) := by
    intro e
    apply hc
    apply UInt8.toNat_inj.mp
    show s[i].toNat = 32
    omega
   have hsame : (Tv.Qrs ((s.take i).map nl ++ s.drop i)).set i ((nl s[i]).toNat : Int) = Tv.Qrs ((s.take i).map nl ++ s.drop i) := by
    rw [Rrh hc]
    apply List.ext_getElem?
    intro j
    rw [List.getElem?_set]
    by_cases hj : i = j
    ·subst hj
     rw [if_pos rfl, if_pos (by rw [hlen]; exact hi), hget]
    ·rw [if_neg hj]
   rw [hsame] at ih
   rw [Zq h32, Zf, w1n (by omega), ih]
theorem laws_FnSourceBlank_eq (a : List Int) (h : wfBs a) : laws_FnSourceBlank a = some true := by
 apply Rjp
 apply Ok.some
 refine Ryx h (F := fun r1 r2 => bnd (Raj r1 0 r2.rooms r2.tasks (Tv.Qrs r1)) fun r8 =>
  bnd (catS [32] r8.1) fun s9 =>
  bnd (catS s9 [10]) fun s10 =>
  bnd (Rk s10) fun r11 =>
  bnd (Rk (Tv.bytes r8.2.2.2)) fun r12 =>
  (bif (decide (19998 < (r8.1.length : Int))) then some true else
  (bif r11.2 then (bif r12.2 then
   bnd (Rn r11.1 (⟨r8.2.1, r8.2.2.1⟩ : Prg)) fun r13 =>
   (bif r13 then bnd (Rn r12.1 (⟨r8.2.1, r8.2.2.1⟩ : Prg)) fun r14 => some r14 else some false)
   else some false) else some false))) (fun s p hs hp => ?_)
 have hb := Rvt (s := s) (rs := p.rooms) (ts := p.tasks) (by omega) s.length 0 (by omega)
 rw [List.take_zero, List.map_nil, List.nil_append, List.drop_zero] at hb
 have hm := Rdo (Rvp hp)
 obtain ⟨_, ⟨t, ht, hpf⟩, ho⟩ := hp
 have p1 : Prm ([32] ++ s ++ [10]) p := by
  refine ⟨by simp only [Za, Zc, Zn]; omega, ⟨t, ?_, hpf⟩, ho⟩
  rw [show ([32] : List UInt8) ++ s ++ [10] = 32 :: (s ++ 10 :: []) by simp, Ryj, Rzk fin_nl [] s t ht, Rke _ (by decide), Rki, Qb, List.append_nil]
 have p2 : Prm (s.map nl) p := ⟨by rw [List.length_map]; omega, ⟨t, by rw [Rtw s.length s (Nat.le_refl _), ht], hpf⟩, ho⟩
 rw [show Raj s 0 p.rooms p.tasks (Tv.Qrs s) = _ from hb, Qb]
 dsimp only
 rw [Rez (by simp only [Zc, Zn]; omega), Qb, Rez (by simp only [Za, Zc, Zn]; omega), Qb, Rty p1, Qb, Rrz, Rty p2, Qb]
 have hc : ¬ (19998 < (s.length : Int)) := by omega
 rw [Zq hc]
 simp only [Zf, Zt]
 rw [show (⟨p.rooms, p.tasks⟩ : Prg) = p from prg_eta p, hm, Qb]
 simp only [Zt, Qb]
 exact Ok.of rfl
end Go.TFnSourceBlank