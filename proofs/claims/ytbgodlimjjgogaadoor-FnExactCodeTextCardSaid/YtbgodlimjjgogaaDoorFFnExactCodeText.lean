/- The plain law: what the functions answer. -/
import Derived.Test.YtbgodlimjjgogaaDoorDFnExactCodeTextE0
import Derived.Test.YtbgodlimjjgogaaDoorLkA
import Derived.Lib.ItoaLen
set_option linter.unusedVariables false
set_option linter.unusedSimpArgs false
namespace Go.TFnExactCodeText
open Go Go.RowKit Go.Vs Go.Tv
theorem Ru (a b c : Int) : Rt a b c = some (decide (b ≤ a ∧ a ≤ c)) := by
 apply Rda
 by_cases h : b ≤ a <;> simp [h]
theorem Rba (a : Int) : Raf a = some (decide (1 ≤ a ∧ a ≤ 12)) := by
 apply Rcg; simp [Ru]
theorem Rbp (a : Int) : Rai a = some (decide (-2147483648 ≤ a ∧ a ≤ 2147483647)) := by
 apply Rbq; simp [Ru]
theorem Raw (a : Int) : Rab a = some (decide (1 ≤ a ∧ a ≤ 12)) := by
 apply Rby
 by_cases h : 1 ≤ a <;> simp [h]
theorem Rbj (a : Int) : Rag a = some (decide (-2147483648 ≤ a ∧ a ≤ 2147483647)) := by
 apply Rbk
 by_cases h : -2147483648 ≤ a <;> simp [h]
theorem Rcu (a : Int) : Ral a = some (decide (0 ≤ a ∧ a < 12)) := by
 apply Rcv
 by_cases h : 0 ≤ a <;> simp [h]
theorem Rcr (a : Int) (u : Bool) : Raa a u = some (decide (if u then 0 ≤ a ∧ a < 12 else a = 0)) := by
 apply Rcs
 simp only [Ru, Qb, cond_some]
 apply some_dec
 cases u <;> simp; omega
theorem Rch (q : Quad) (x y z : Bool) : Rb q x y z = some (decide ((if x then 0 ≤ q.dst ∧ q.dst < 12 else q.dst = 0) ∧ (if y then 0 ≤ q.a ∧ q.a < 12 else q.a = 0) ∧ (if z then 0 ≤ q.b ∧ q.b < 12 else q.b = 0))) := by
 apply Rci
 simp only [Rcr, Qb, cond_some]
 apply some_dec
 simp only [cond_iff, Ze]
 cases x <;> cases y <;> cases z <;> simp
def Qzx (q : Quad) (many : Int) : Prop :=
 (q.op = 1 ∧ (0 ≤ q.dst ∧ q.dst < 12) ∧ q.a = 0 ∧ q.b = 0 ∧ -2147483648 ≤ q.n ∧ q.n ≤ 2147483647) ∨ (q.op = 2 ∧ (0 ≤ q.dst ∧ q.dst < 12) ∧ (0 ≤ q.a ∧ q.a < 12) ∧ q.b = 0 ∧ q.n = 0) ∨
 (q.op = 3 ∧ (0 ≤ q.dst ∧ q.dst < 12) ∧ (0 ≤ q.a ∧ q.a < 12) ∧ (0 ≤ q.b ∧ q.b < 12) ∧ 1 ≤ q.n ∧ q.n ≤ 12) ∨ (q.op = 4 ∧ q.dst = 0 ∧ q.a = 0 ∧ q.b = 0 ∧ 0 ≤ q.n ∧ q.n < many) ∨
 (q.op = 5 ∧ q.dst = 0 ∧ (0 ≤ q.a ∧ q.a < 12) ∧ q.b = 0 ∧ 0 ≤ q.n ∧ q.n < many) ∨ (q.op = 6 ∧ q.dst = 0 ∧ (0 ≤ q.a ∧ q.a < 12) ∧ q.b = 0 ∧ 0 ≤ q.n ∧ q.n ≤ 2) ∨
 (q.op = 7 ∧ (0 ≤ q.dst ∧ q.dst < 12) ∧ q.a = 0 ∧ q.b = 0 ∧ 0 ≤ q.n ∧ q.n ≤ 2) ∨ (q.op = 9 ∧ q.dst = 0 ∧ (0 ≤ q.a ∧ q.a < 12) ∧ q.b = 0 ∧ q.n = 0) ∨ ((q.op = 8 ∨ q.op = 10) ∧ q.dst = 0 ∧ q.a = 0 ∧ q.b = 0 ∧ q.n = 0)
instance (q : Quad) (many : Int) : Decidable (Qzx q many) := by unfold Qzx; infer_instance
theorem Ram (q : Quad) (many : Int) : Rp q many = some (decide (Qzx q many)) := by
 apply Rbo
 simp only [Rch, Rbp, Rba, Ru, Qb, cond_some]
 apply some_dec
 obtain ⟨op, dst, a, b, n⟩ := q
 simp only [Qzx, cond_iff, Ze, if_true, Bool.false_eq_true, if_false]
 by_cases h1 : op = 1
 ·subst h1; simp; try omega
 by_cases h2 : op = 2
 ·subst h2; simp; try omega
 by_cases h3 : op = 3
 ·subst h3; simp; try omega
 by_cases h4 : op = 4
 ·subst h4; simp; try omega
 by_cases h5 : op = 5
 ·subst h5; simp; try omega
 by_cases h6 : op = 6
 ·subst h6; simp; try omega
 by_cases h7 : op = 7
 ·subst h7; simp; try omega
 by_cases h9 : op = 9
 ·subst h9; simp; try omega
 by_cases h8 : op = 8
 ·subst h8; simp; try omega
 by_cases h10 : op = 10
 ·subst h10; simp; try omega
 simp [h1, h2, h3, h4, h5, h6, h7, h8, h9, h10]
theorem Rak (q : Quad) (many : Int) : Ro q many = some (decide (Qzx q many)) := by
 apply Rbi
 simp only [Rcu, Rbj, Raw, Qb, cond_some]
 apply some_dec
 obtain ⟨op, dst, a, b, n⟩ := q
 simp only [Qzx, cond_iff, Ze, if_true, Bool.false_eq_true, if_false, Zw, Bool.not_eq_true', decide_eq_false_iff_not, and_true]
 by_cases h1 : op = 1
 ·subst h1; simp; try omega
 by_cases h2 : op = 2
 ·subst h2; simp; try omega
 by_cases h3 : op = 3
 ·subst h3; simp; try omega
 by_cases h4 : op = 4
 ·subst h4; simp; try omega
 by_cases h5 : op = 5
 ·subst h5; simp; try omega
 by_cases h6 : op = 6
 ·subst h6; simp; try omega
 by_cases h7 : op = 7
 ·subst h7; simp; try omega
 by_cases h9 : op = 9
 ·subst h9; simp; try omega
 by_cases h8 : op = 8
 ·subst h8; simp; try omega
 by_cases h10 : op = 10
 ·subst h10; simp; try omega
 simp [h1, h2, h3, h4, h5, h6, h7, h8, h9, h10]
theorem Rcn (q : Quad) : Rbf q = some q := by
 apply Rco; rfl
theorem Rq {α : Type} {l : List α} {i : Nat} (h : i < l.length) : geti l (i : Int) = some l[i] := by
 rw [geti_nat', List.getElem?_eq_getElem h]
theorem Rbc {i : Nat} (h : (i : Int) < 9223372036854775807) : wrap64 ((i : Int) + 1) = ((i + 1 : Nat) : Int) := by
 rw [wrap_id (by omega) (by omega)]; omega
theorem Rdh {n : Nat} (h : (n : Int) ≤ 4294967296) : made (n : Int) = some n := by simp [made]; omega
theorem Qvp {α : Type} {a b : List α} {i : Nat} (hl : b.length = a.length) (hi : i < a.length) (h : b.take i = a.take i) : (b.set i a[i]).take (i + 1) = a.take (i + 1) := by
 rw [List.take_set]
 apply List.ext_getElem?
 intro j
 rw [List.getElem?_set]
 by_cases hj : i = j
 ·subst hj
  simp [hl, hi]; omega
 ·rw [if_neg hj]
  by_cases hlt : j < i
  ·have := congrArg (fun l : List α => l[j]?) h
   simp only [List.getElem?_take] at this ⊢
   rw [if_pos hlt, if_pos hlt] at this
   rw [if_pos (by omega), if_pos (by omega)]; exact this
  ·simp only [List.getElem?_take]
   rw [if_neg (by omega), if_neg (by omega)]
theorem Rdb {a : List Quad} (hl : (a.length : Int) ≤ 4294967296) : ∀ (d i : Nat) (b : List Quad), i + d = a.length → b.length = a.length → b.take i = a.take i → Rm a i b = some a
 | 0, i, b, hd, hb, ht => by
  apply Rae
  have hi : ¬ ((i : Int) < a.length) := by omega
  have : b = a := by rw [List.take_of_length_le (by omega), List.take_of_length_le (by omega)] at ht; exact ht
  simp [hi, this]
 | d + 1, i, b, hd, hb, ht => by
  apply Rae
  have hi : i < a.length := by omega
  have hi' : (i : Int) < a.length := by omega
  rw [Rq hi, Rq (l := b) (by omega), Rbc (by omega)]
  simp only [hi', Zy, Zt, Qb, Rcn, Int.toNat_natCast, List.getElem?_eq_getElem (show i < b.length by omega)]
  exact Rdb hl d (i + 1) _ (by omega) (by simpa using hb) (Qvp hb hi ht)
theorem Rcd {a : List Quad} (hl : (a.length : Int) ≤ 4294967296) : Rs a = some a := by
 apply Rce
 rw [Rdh hl, Qb, show (0 : Int) = ((0 : Nat) : Int) by rfl, Rdb hl a.length 0 _ (by omega) (by simp) (by simp)]
 rfl
theorem Rbt (q : Quad) : Rbe q q = some true := by
 apply Rcm; simp
theorem Rcx {a : List Quad} (hl : (a.length : Int) ≤ 4294967296) : ∀ (d i : Nat), i + d = a.length → Rl a a i = some (.inl ())
 | 0, i, hd => by
  apply Rad
  have hi : ¬ ((i : Int) < a.length) := by omega
  simp [hi]
 | d + 1, i, hd => by
  apply Rad
  have hi : i < a.length := by omega
  have hi' : (i : Int) < a.length := by omega
  rw [Rq hi, Rbc (by omega)]
  simp only [hi', Zy, Zt, Qb, Rbt, Zv, Zf]
  exact Rcx hl d (i + 1) (by omega)
theorem Rbl {a : List Quad} (hl : (a.length : Int) ≤ 4294967296) : Rax a a = some true := by
 apply Rcb
 rw [show (0 : Int) = ((0 : Nat) : Int) by rfl, Rcx hl a.length 0 (by omega)]
 simp [selm]
def Qsg (a : List Quad) : Prop := 1 ≤ a.length ∧ a.length ≤ 600 ∧ (∀ q ∈ a, Qzx q a.length) ∧ ∀ q, a.getLast? = some q → q.op = 10 ∨ q.op = 4
theorem Rde {α : Type} {a : List α} {P : α → Prop} {i : Nat} (hi : i < a.length) : (∀ q ∈ a.drop i, P q) ↔ P a[i] ∧ ∀ q ∈ a.drop (i + 1), P q := by
 rw [List.drop_eq_getElem_cons hi, List.forall_mem_cons]
open Classical in
theorem Rau {a : List Quad} (hl : a.length ≤ 600) : ∀ (d i : Nat), i + d = a.length → Rj a a.length i = some (if ∀ q ∈ a.drop i, Qzx q a.length then .inl (a, (a.length : Int)) else .inr (a, false, (a.length : Int)))
 | 0, i, hd => by
  apply Rw
  have hi : ¬ ((i : Int) < a.length) := by omega
  rw [List.drop_eq_nil_of_le (by omega)]
  simp [hi]
 | d + 1, i, hd => by
  apply Rw
  have hi : i < a.length := by omega
  have hi' : (i : Int) < a.length := by omega
  rw [Rq hi, Rbc (by omega), Rau hl d (i + 1) (by omega)]
  simp only [Rde hi]
  simp only [hi', Zy, Zt, Qb, Ram]
  by_cases hq : Qzx a[i] a.length <;> simp [hq]
open Classical in
theorem Rat {a : List Quad} (hl : a.length ≤ 600) : ∀ (d i : Nat), i + d = a.length → Ri a a a.length i = some (if ∀ q ∈ a.drop i, Qzx q a.length then .inl a else .inr (a, false))
 | 0, i, hd => by
  apply Rv
  have hi : ¬ ((i : Int) < a.length) := by omega
  rw [List.drop_eq_nil_of_le (by omega)]
  simp [hi]
 | d + 1, i, hd => by
  apply Rv
  have hi : i < a.length := by omega
  have hi' : (i : Int) < a.length := by omega
  rw [Rq hi, Rbc (by omega), Rat hl d (i + 1) (by omega)]
  simp only [Rde hi]
  simp only [hi', Zy, Zt, Qb, Rak]
  by_cases hq : Qzx a[i] a.length <;> simp [hq]
open Classical in
theorem Rbm (a : List Quad) (hl : (a.length : Int) ≤ 4294967296) : Rah a = some (decide (Qsg a)) := by
 apply Rbn
 simp only [Ru, Qb]
 unfold Qsg
 by_cases h1 : (1 : Int) ≤ a.length ∧ (a.length : Int) ≤ 600
 ·rw [show (0 : Int) = ((0 : Nat) : Int) by rfl, Rau (by omega) a.length 0 (by omega), List.drop_zero]
  have e : wrap64 ((a.length : Int) - 1) = ((a.length - 1 : Nat) : Int) := by rw [wrap_id (by omega) (by omega)]; omega
  have hi : a.length - 1 < a.length := by omega
  have hlast : a.getLast? = some a[a.length - 1] := by rw [List.getLast?_eq_getElem?, List.getElem?_eq_getElem hi]
  by_cases hq : ∀ q ∈ a, Qzx q a.length
  ·simp only [h1, Zy, Zv, Zf, Qb, if_pos hq, selm, e, Rq hi, and_self, hlast, Zi, forall_eq']
   have h2 : 1 ≤ a.length ∧ a.length ≤ 600 := by omega
   have hq' : (∀ q ∈ a, Qzx q a.length) = True := eq_true hq
   by_cases h3 : a[a.length - 1].op = 10 <;> simp [h2, hq', h3]
  ·have hq' : (∀ q ∈ a, Qzx q a.length) = False := eq_false hq
   simp only [h1, Zy, Zv, Zf, Qb, if_neg hq, selm, and_self, hq']
   simp
 ·have : ¬ (1 ≤ a.length ∧ a.length ≤ 600) := by omega
  have h2 : (1 ≤ a.length ∧ a.length ≤ 600 ∧ (∀ q ∈ a, Qzx q a.length) ∧ ∀ q, a.getLast? = some q → q.op = 10 ∨ q.op = 4) = False := eq_false fun h => this ⟨h.1, h.2.1⟩
  simp only [h1, h2]
  simp
open Classical in
theorem Raj (a : List Quad) (hl : (a.length : Int) ≤ 4294967296) : Rn a = some (decide (Qsg a)) := by
 apply Rbh
 unfold Qsg
 by_cases h1 : 1 ≤ a.length ∧ a.length ≤ 600
 ·rw [show (0 : Int) = ((0 : Nat) : Int) by rfl, Rat (by omega) a.length 0 (by omega), List.drop_zero]
  have e : wrap64 ((a.length : Int) - 1) = ((a.length - 1 : Nat) : Int) := by rw [wrap_id (by omega) (by omega)]; omega
  have hi : a.length - 1 < a.length := by omega
  have hlast : a.getLast? = some a[a.length - 1] := by rw [List.getLast?_eq_getElem?, List.getElem?_eq_getElem hi]
  have n1 : ¬ ((a.length : Int) < 1) := by omega
  have n2 : ¬ ((600 : Int) < a.length) := by omega
  by_cases hq : ∀ q ∈ a, Qzx q a.length
  ·simp only [n1, n2, Zz, Zf, Qb, if_pos hq, selm, e, Rq hi, hlast, Zi, forall_eq']
   have hq' : (∀ q ∈ a, Qzx q a.length) = True := eq_true hq
   by_cases h3 : a[a.length - 1].op = 10 <;> simp [h1, hq', h3]
  ·have hq' : (∀ q ∈ a, Qzx q a.length) = False := eq_false hq
   simp only [n1, n2, Zz, Zf, Qb, if_neg hq, selm, hq']
   simp
 ·have h2 : (1 ≤ a.length ∧ a.length ≤ 600 ∧ (∀ q ∈ a, Qzx q a.length) ∧ ∀ q, a.getLast? = some q → q.op = 10 ∨ q.op = 4) = False := eq_false fun h => h1 ⟨h.1, h.2.1⟩
  simp only [h2]
  by_cases n1 : (a.length : Int) < 1
  ·simp [n1]
  ·have n2 : (600 : Int) < a.length := by omega
   simp [n1, n2]
theorem Ra {a b : List UInt8} (h : a.length + b.length ≤ 1099511627776) : catS a b = some (a ++ b) := by
 unfold catS LIM; rw [if_pos h]
theorem Rdc {n : Int} (h : wfI n) : strconv_Itoa n = some (Lib.itoa n) := by
 apply Rcj
 rw [if_pos h]
theorem Rh : ∀ (k u : Nat), u < 10 ^ k → (Lib.decDigits u).length ≤ max k 1
 | 0, u, h => by
  unfold Lib.decDigits
  have : u < 10 := by omega
  rw [dif_pos this]; simp
 | k + 1, u, h => by
  unfold Lib.decDigits
  split
  ·show 1 ≤ _; omega
  ·rename_i h10
   have h2 : u / 10 < 10 ^ k := by rw [Nat.pow_succ] at h; omega
   have := Rh k (u / 10) h2
   rw [Za]
   have hk : 1 ≤ k := by
    cases k with
    | zero => simp at h; omega
    | succ k => omega
   simp only [Zc, Zn]; omega
theorem Rct {n : Nat} (h : n < 10) : Tv.bytes [wrap64 (48 + (n : Int)) % 256] = [UInt8.ofNat (48 + n)] := by
 rw [wrap_id (by omega) (by omega)]
 have : ((48 + (n : Int)) % 256) = ((48 + n : Nat) : Int) := by omega
 rw [this]; rfl
theorem Rca : ∀ (k u : Nat), u < 10 ^ k → k ≤ 19 → u ≤ 9223372036854775807 → Re (u : Int) = some (Lib.decDigits u)
 | 0, u, h, _, _ => by
  apply Ras
  have h0 : u < 10 := by omega
  have h1 : ¬ ((u : Int) < -9223372036854775807) := by omega
  have h2 : ¬ ((u : Int) < 0) := by omega
  have h3 : (u : Int) < 10 := by omega
  simp only [h1, h2, h3, Zz, Zy, Zf, Zt]
  rw [Rct h0]
  unfold Lib.decDigits
  rw [dif_pos h0]
 | k + 1, u, h, hk, hu => by
  apply Ras
  have h1 : ¬ ((u : Int) < -9223372036854775807) := by omega
  have h2 : ¬ ((u : Int) < 0) := by omega
  simp only [h1, h2, Zz, Zf]
  by_cases h3 : u < 10
  ·have h3' : (u : Int) < 10 := by omega
   simp only [h3', Zy, Zt]
   rw [Rct h3]
   unfold Lib.decDigits
   rw [dif_pos h3]
  ·have h3' : ¬ ((u : Int) < 10) := by omega
   simp only [h3', Zz, Zf]
   have hd : Int.tdiv (u : Int) 10 = ((u / 10 : Nat) : Int) := by
    rw [Int.tdiv_eq_ediv_of_nonneg (by omega)]; rfl
   have hm : Int.tmod (u : Int) 10 = ((u % 10 : Nat) : Int) := by
    rw [Int.tmod_eq_emod_of_nonneg (by omega)]; rfl
   have hlt : u / 10 < 10 ^ k := by rw [Nat.pow_succ] at h; omega
   rw [hd, hm, wrap_id (n := ((u / 10 : Nat) : Int)) (by omega) (by omega), Rca k (u / 10) hlt (by omega) (by omega), Qb, Rct (by omega)]
   have hl := Rh k (u / 10) hlt
   rw [Ra (by simp only [Zc, Zn]; omega), Qb]
   conv => rhs; unfold Lib.decDigits
   rw [dif_neg h3]
theorem Rar {n : Int} (h : wfI n) : Re n = some (Lib.itoa n) := by
 by_cases h0 : 0 ≤ n
 ·obtain ⟨u, rfl⟩ := Int.eq_ofNat_of_zero_le h0
  rw [Rca 19 u (by have := h.2; omega) (by omega) (by have := h.2; omega), Lib.itoa_nonneg]
 ·apply Ras
  by_cases hm : n < -9223372036854775807
  ·have : n = -9223372036854775808 := by have := h.1; omega
   subst this
   simp only [show ((-9223372036854775808 : Int) < -9223372036854775807) = True by simp, Zy, Zt]
   have e : Lib.itoa (-9223372036854775808) = [45, 57, 50, 50, 51, 51, 55, 50, 48, 51, 54, 56, 53, 52, 55, 55, 53, 56, 48, 56] := by
    decide +kernel
   rw [e]
  ·have h2 : n < 0 := by omega
   simp only [hm, h2, Zz, Zy, Zf, Zt]
   have e : wrap64 (0 - n) = ((n.natAbs : Nat) : Int) := by rw [wrap_id (by omega) (by omega)]; omega
   rw [e, Rca 19 n.natAbs (by omega) (by omega) (by omega), Qb]
   have hl := Rh 19 n.natAbs (by omega)
   rw [Ra (by simp only [Zc, Zn]; omega), Qb]
   unfold Lib.itoa
   rw [if_pos h2]; rfl
theorem Rac {n : Int} (h : wfI n) : (Lib.itoa n).length ≤ 20 := by
 unfold Lib.itoa
 split
 ·have := Rh 19 n.natAbs (by have := h.1; omega)
  simp only [Zc]; omega
 ·have := Rh 19 n.toNat (by have := h.2; omega)
  omega
def regT (x : Int) : List UInt8 := 114 :: Lib.itoa x
def opTs : List (List UInt8) := [[124], [94], [38], [61, 61], [60], [60, 60], [62, 62], [43], [45], [42], [47], [37]]
def opT (n : Int) : List UInt8 := if 1 ≤ n ∧ n ≤ 12 then opTs.getD (n - 1).toNat [] else []
theorem Rdf {n : Int} (h0 : 1 ≤ n) (h1 : n ≤ 12) : opTs[(n - 1).toNat]? = some (opT n) := by
 unfold opT
 rw [if_pos ⟨h0, h1⟩, List.getD_eq_getElem?_getD]
 have hl : (n - 1).toNat < opTs.length := by show (n - 1).toNat < 12; omega
 rw [List.getElem?_eq_getElem hl]; rfl
theorem Rdd (n : Int) : (opT n).length ≤ 2 := by
 unfold opT
 split
 ·have : ∀ i : Fin 12, (opTs.getD i.val []).length ≤ 2 := by decide
  exact this ⟨(n - 1).toNat, by omega⟩
 ·simp
theorem Rcp (n : Int) : Rbg n = some (opT n) := by
 apply Rcq
 rw [Rba, Qb]
 by_cases h : 1 ≤ n ∧ n ≤ 12
 ·simp only [h, and_self, Zy, Zv, Zf]
  rw [wrap_id (by omega) (by omega)]
  unfold geti
  rw [if_pos (by omega)]
  rw [show ([[124], [94], [38], [61, 61], [60], [60, 60], [62, 62], [43], [45], [42], [47], [37]] : List (List UInt8)) = opTs from rfl, Rdf h.1 h.2]; rfl
 ·simp only [h, Zz, Zx, Zt]
  unfold opT; rw [if_neg h]
theorem Rck (n : Int) : Rbd n = some (opT n) := by
 apply Rcl
 rw [Raw, Qb]
 by_cases h : 1 ≤ n ∧ n ≤ 12
 ·simp only [h, and_self, Zy, Zv, Zf]
  rw [wrap_id (by omega) (by omega)]
  unfold geti
  rw [if_pos (by omega)]
  rw [show ([[124], [94], [38], [61, 61], [60], [60, 60], [62, 62], [43], [45], [42], [47], [37]] : List (List UInt8)) = opTs from rfl, Rdf h.1 h.2]; rfl
 ·simp only [h, Zz, Zx, Zt]
  unfold opT; rw [if_neg h]
theorem Ry {x : Int} (h : wfI x) : Rr x = some (regT x) := by
 apply Rbz
 have := Rac h
 rw [Rdc h, Qb, Ra (by simp only [Zc, Zn]; omega)]; rfl
theorem Rbb {x : Int} (h : wfI x) : Rg x = some (regT x) := by
 apply Rcz
 have := Rac h
 rw [Rar h, Qb, Ra (by simp only [Zc, Zn]; omega)]; rfl
def Rdq (q : Quad) : List UInt8 :=
 if q.op = 1 then regT q.dst ++ [32, 61, 32] ++ Lib.itoa q.n
 else if q.op = 2 then regT q.dst ++ [32, 61, 32] ++ regT q.a
 else if q.op = 3 then regT q.dst ++ [32, 61, 32] ++ regT q.a ++ [32] ++ opT q.n ++ [32] ++ regT q.b
 else if q.op = 4 then [106, 117, 109, 112, 32] ++ Lib.itoa q.n
 else if q.op = 5 then [122, 101, 114, 111, 32] ++ regT q.a ++ [32] ++ Lib.itoa q.n
 else if q.op = 6 then [115, 101, 110, 100, 32] ++ Lib.itoa q.n ++ [32] ++ regT q.a
 else if q.op = 7 then regT q.dst ++ [32, 61, 32, 114, 101, 99, 118, 32] ++ Lib.itoa q.n
 else if q.op = 8 then [121, 105, 101, 108, 100]
 else if q.op = 9 then [112, 114, 105, 110, 116, 32] ++ regT q.a
 else [104, 97, 108, 116]
def Qyw (q : Quad) : List UInt8 := if Qzx q 600 then Rdq q else []
theorem Rcf {q : Quad} (h : Qzx q 600) : wfI q.dst ∧ wfI q.a ∧ wfI q.b ∧ wfI q.n := by
 unfold Qzx at h; unfold wfI; omega
theorem Rx {x : Int} (h : wfI x) : (regT x).length ≤ 21 := by
 have := Rac h
 unfold regT
 simp only [Zc]; omega
theorem Rbw (q : Quad) : Raq q = some (Qyw q) := by
 apply Rbx
 rw [Ram, Qb]
 unfold Qyw
 by_cases h : Qzx q 600
 ·obtain ⟨h1, h2, h3, h4⟩ := Rcf h
  have l1 := Rx h1
  have l2 := Rx h2
  have l3 := Rx h3
  have l4 := Rac h4
  have l5 := Rdd q.n
  simp only [h, Zy, Zv, Zf, if_true, Rbb h1, Rbb h2, Rbb h3, Rar h4, Rcp, Qb]
  unfold Rdq
  by_cases c1 : q.op = 1
  ·simp only [c1, Zy, Zz, Zt, Zf, if_true, if_false, reduceIte, Int.reduceEq]
   try (repeat rw [Ra (by simp only [Za, Zc, Zn]; omega), Qb])
  by_cases c2 : q.op = 2
  ·simp only [c1, c2, Zy, Zz, Zt, Zf, if_true, if_false, reduceIte, Int.reduceEq]
   try (repeat rw [Ra (by simp only [Za, Zc, Zn]; omega), Qb])
  by_cases c3 : q.op = 3
  ·simp only [c1, c2, c3, Zy, Zz, Zt, Zf, if_true, if_false, reduceIte, Int.reduceEq]
   try (repeat rw [Ra (by simp only [Za, Zc, Zn]; omega), Qb])
  by_cases c4 : q.op = 4
  ·simp only [c1, c2, c3, c4, Zy, Zz, Zt, Zf, if_true, if_false, reduceIte, Int.reduceEq]
   try (repeat rw [Ra (by simp only [Za, Zc, Zn]; omega), Qb])
  by_cases c5 : q.op = 5
  ·simp only [c1, c2, c3, c4, c5, Zy, Zz, Zt, Zf, if_true, if_false, reduceIte, Int.reduceEq]
   try (repeat rw [Ra (by simp only [Za, Zc, Zn]; omega), Qb])
  by_cases c6 : q.op = 6
  ·simp only [c1, c2, c3, c4, c5, c6, Zy, Zz, Zt, Zf, if_true, if_false, reduceIte, Int.reduceEq]
   try (repeat rw [Ra (by simp only [Za, Zc, Zn]; omega), Qb])
  by_cases c7 : q.op = 7
  ·simp only [c1, c2, c3, c4, c5, c6, c7, Zy, Zz, Zt, Zf, if_true, if_false, reduceIte, Int.reduceEq]
   try (repeat rw [Ra (by simp only [Za, Zc, Zn]; omega), Qb])
  by_cases c8 : q.op = 8
  ·simp only [c1, c2, c3, c4, c5, c6, c7, c8, Zy, Zz, Zt, Zf, if_true, if_false, reduceIte, Int.reduceEq]
   try (repeat rw [Ra (by simp only [Za, Zc, Zn]; omega), Qb])
  by_cases c9 : q.op = 9
  ·simp only [c1, c2, c3, c4, c5, c6, c7, c8, c9, Zy, Zz, Zt, Zf, if_true, if_false, reduceIte, Int.reduceEq]
   try (repeat rw [Ra (by simp only [Za, Zc, Zn]; omega), Qb])
  simp [c1, c2, c3, c4, c5, c6, c7, c8, c9]
 ·simp [h]
theorem Rbr (q : Quad) : Ran q = some (Qyw q) := by
 apply Rbs
 rw [Rak, Qb]
 unfold Qyw
 by_cases h : Qzx q 600
 ·obtain ⟨h1, h2, h3, h4⟩ := Rcf h
  have l1 := Rx h1
  have l2 := Rx h2
  have l3 := Rx h3
  have l4 := Rac h4
  have l5 := Rdd q.n
  simp only [h, Zy, Zv, Zf, if_true, Ry h1, Ry h2, Ry h3, Rdc h4, Rck, Qb]
  unfold Rdq
  by_cases c1 : q.op = 1
  ·simp only [c1, Zy, Zz, Zt, Zf, if_true, if_false, reduceIte, Int.reduceEq]
   try (repeat rw [Ra (by simp only [Za, Zc, Zn]; omega), Qb])
  by_cases c2 : q.op = 2
  ·simp only [c1, c2, Zy, Zz, Zt, Zf, if_true, if_false, reduceIte, Int.reduceEq]
   try (repeat rw [Ra (by simp only [Za, Zc, Zn]; omega), Qb])
  by_cases c3 : q.op = 3
  ·simp only [c1, c2, c3, Zy, Zz, Zt, Zf, if_true, if_false, reduceIte, Int.reduceEq]
   try (repeat rw [Ra (by simp only [Za, Zc, Zn]; omega), Qb])
  by_cases c4 : q.op = 4
  ·simp only [c1, c2, c3, c4, Zy, Zz, Zt, Zf, if_true, if_false, reduceIte, Int.reduceEq]
   try (repeat rw [Ra (by simp only [Za, Zc, Zn]; omega), Qb])
  by_cases c5 : q.op = 5
  ·simp only [c1, c2, c3, c4, c5, Zy, Zz, Zt, Zf, if_true, if_false, reduceIte, Int.reduceEq]
   try (repeat rw [Ra (by simp only [Za, Zc, Zn]; omega), Qb])
  by_cases c6 : q.op = 6
  ·simp only [c1, c2, c3, c4, c5, c6, Zy, Zz, Zt, Zf, if_true, if_false, reduceIte, Int.reduceEq]
   try (repeat rw [Ra (by simp only [Za, Zc, Zn]; omega), Qb])
  by_cases c7 : q.op = 7
  ·simp only [c1, c2, c3, c4, c5, c6, c7, Zy, Zz, Zt, Zf, if_true, if_false, reduceIte, Int.reduceEq]
   try (repeat rw [Ra (by simp only [Za, Zc, Zn]; omega), Qb])
  by_cases c8 : q.op = 8
  ·simp only [c1, c2, c3, c4, c5, c6, c7, c8, Zy, Zz, Zt, Zf, if_true, if_false, reduceIte, Int.reduceEq]
   try (repeat rw [Ra (by simp only [Za, Zc, Zn]; omega), Qb])
  by_cases c9 : q.op = 9
  ·simp only [c1, c2, c3, c4, c5, c6, c7, c8, c9, Zy, Zz, Zt, Zf, if_true, if_false, reduceIte, Int.reduceEq]
   try (repeat rw [Ra (by simp only [Za, Zc, Zn]; omega), Qb])
  simp [c1, c2, c3, c4, c5, c6, c7, c8, c9]
 ·simp [h]
theorem Rcw (q : Quad) : Go.Tx.Qyw q = Qyw q := by
 unfold Go.Tx.Qyw Qyw
 by_cases h : Qzx q 600
 ·rw [if_pos (show Go.Tx.Qzx q 600 from h), if_pos h]; rfl
 ·rw [if_neg (show ¬ Go.Tx.Qzx q 600 from h), if_neg h]
theorem Rcy (q : Quad) : (Qyw q).length ≤ 200 := by
 unfold Qyw
 by_cases h : Qzx q 600
 ·rw [if_pos h]
  obtain ⟨h1, h2, h3, h4⟩ := Rcf h
  have l1 := Rx h1
  have l2 := Rx h2
  have l3 := Rx h3
  have l4 := Rac h4
  have l5 := Rdd q.n
  unfold Rdq
  repeat' split
  all_goals simp only [Za, Zc, Zn]
  all_goals omega
 ·rw [if_neg h]; simp
theorem Raz {l : List Quad} (hl : l.length ≤ 600) : ∀ (d i : Nat) (acc : List UInt8), i + d = l.length → acc.length ≤ 300 * i → Rk l acc i = some (acc ++ Go.Tx.Qvf Lib.itoa Go.Tx.Qyw i (l.drop i))
 | 0, i, acc, hd, ha => by
  apply Rz
  have hi : ¬ ((i : Int) < l.length) := by omega
  simp only [hi, Zz, Zf]
  rw [List.drop_of_length_le (by omega)]
  simp [Go.Tx.Qvf]
 | d + 1, i, acc, hd, ha => by
  apply Rz
  have hi : i < l.length := by omega
  have hi' : (i : Int) < l.length := by omega
  have hw : wfI (i : Int) := by unfold wfI; omega
  have l1 := Rac hw
  have l2 := Rcy l[i]
  simp only [hi', Zy, Zt]
  rw [Rar hw, Qb, Ra (by omega), Qb, Ra (by simp only [Za, Zc, Zn]; omega), Qb, Rq hi, Qb, Rbw, Qb,
   Ra (by simp only [Za, Zc, Zn]; omega), Qb, Ra (by simp only [Za, Zc, Zn]; omega), Qb, Rbc (by omega),
   Raz hl d (i + 1) _ (by omega) (by simp only [Za, Zc, Zn]; omega), List.drop_eq_getElem_cons hi]
  simp only [Go.Tx.Qvf, Rcw, List.append_assoc]
theorem Rbu {a : List Quad} (hl : (a.length : Int) ≤ 4294967296) : Rap a = some (Go.Tx.Qtd a) := by
 apply Rbv
 rw [Rbm a hl, Qb]
 unfold Go.Tx.Qtd
 by_cases h : Qsg a
 ·rw [if_pos (show Go.Tx.Qsg a from h)]
  have h6 : a.length ≤ 600 := h.2.1
  have e := Raz h6 a.length 0 [] (by omega) (by simp)
  simp only [h, Zy, Zv, Zf]
  rw [show (0 : Int) = ((0 : Nat) : Int) from rfl, e, Qb, List.drop_zero, List.nil_append]
 ·rw [if_neg (show ¬ Go.Tx.Qsg a from h)]
  simp only [h, Zz, Zx, Zt]
theorem ct_parts : (∀ a : List Quad, (a.length : Int) ≤ 4294967296 → Go.Tx.Qsg a → Rn a = some true) ∧ (∀ a : List Quad, (a.length : Int) ≤ 4294967296 → ¬ Go.Tx.Qsg a → Rn a = some false) ∧
  (∀ q : Quad, Ran q = some (Go.Tx.Qyw q)) ∧ (∀ n : Nat, n < 600 → strconv_Itoa (n : Int) = some (Lib.itoa n) ∧ (Lib.itoa n).length ≤ 1000) ∧ ∀ q : Quad, (Go.Tx.Qyw q).length ≤ 1000 := by
 refine ⟨fun a hl h => ?_, fun a hl h => ?_, fun q => ?_, fun n hn => ?_, fun q => ?_⟩
 ·rw [Raj a hl]
  have : Qsg a := h
  simp only [this, Zy]
 ·rw [Raj a hl]
  have : ¬ Qsg a := h
  simp only [this, Zz]
 ·rw [Rbr, Rcw]
 ·have hw : wfI (n : Int) := by unfold wfI; omega
  have := Rac hw
  exact ⟨Rdc hw, by omega⟩
 ·have := Rcy q
  rw [Rcw]; omega
theorem laws_FnExactCodeText_eq (hct : ∀ l : List Quad, (l.length : Int) ≤ 4294967296 → impl_CodeText l = some (Go.Tx.Qtd l)) (a : List Quad) (hl : (a.length : Int) ≤ 9223372036854775807) (_ : ∀ q ∈ a, wfQ q) : laws_FnExactCodeText a = some true := by
 apply Rao
 have hs : Ray a 1048576 = some (if (a.length : Int) ≤ 1048576 then 1048576 - (a.length : Int) else -1) := by
  apply Rcc
  rw [wrap_id (by omega) (by omega)]
  by_cases h : (a.length : Int) ≤ 1048576
  ·rw [if_pos h]
   have : ¬ (1048576 - (a.length : Int) < 0) := by omega
   simp [this]
  ·rw [if_neg h]
   have : (1048576 - (a.length : Int) < 0) := by omega
   simp [this]
 rw [hs, Qb]
 by_cases h : (a.length : Int) ≤ 1048576
 ·have n : ¬ (1048576 - (a.length : Int) < 0) := by omega
  have hl' : (a.length : Int) ≤ 4294967296 := by omega
  simp [if_pos h, n, Rcd hl', Rbu hl', hct a hl', Rbl hl']
 ·simp [if_neg h]
end Go.TFnExactCodeText