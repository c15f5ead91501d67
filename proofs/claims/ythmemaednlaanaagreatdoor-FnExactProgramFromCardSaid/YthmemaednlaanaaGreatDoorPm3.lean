/- Functions of the library, by their contracts: numerals, prefixes, texts that are joined. -/
import Derived.Test.YthmemaednlaanaaGreatDoorPm1
import Derived.Lib.ItoaNum
import Derived.Lib.Atoi
import Derived.Lib.Join
import Derived.Lib.Strings
import Derived.Lib.Bytealg
import Derived.Lib.LaidTab
import Derived.Lib.ConvBytes
import Derived.Sort.Grow
set_option linter.unusedVariables false
namespace Go.Vs
open Go Go.RowKit
theorem below_bytes (w : World) (e : TypeId) (s : ByteArray) : Below w.heap.size w (Lib.bytesWorld w e s) :=
 ⟨by simp [Lib.bytesWorld, World.freeze, World.alloc, World.drew, -World.alloc_eq, -World.drew_eq], by simp [Lib.bytesWorld, World.freeze, World.alloc, World.drew, -World.alloc_eq, -World.drew_eq], by simp [Lib.bytesWorld, World.freeze, World.alloc, World.drew, -World.alloc_eq, -World.drew_eq], by rw [Lib.bytesWorld_size]; omega, fun k hk => Lib.bytesWorld_at_old w e s k hk⟩
section
variable {C : Ctx} {e : Env} {w w' : World}
theorem Qmg {tv : List AV} {args : Array Value} {c : AV} {v : Value} (h : Entry C e tv [] args w) (hsize : w.heap.size ≤ w'.heap.size) (hblk : ∀ B, B < w.heap.size → w'.heap[B]? = w.heap[B]?) (hos : w'.os = w.os) (htape : w'.tape = w.tape) (hout : w'.output = w.output)
  (hr : RepP C.fid e.σ0 c v) (hp : c.isP = false) (ht : c.tipSz = none) : Qor C e [c] [] 0 v w' := by
 have hr0 := Qtg h
 have hrel : RelX C.fid { e with n := args.size } e.σ0 (fun _ => none) (Qm [] []) ⟨args, []⟩ w' :=
  hr0.world (Mem.le_refl _) hr0.one (fun _ _ _ => rfl) (fun B i v hv => by
   have h1 := hr0.mem B i v hv
   have hlt := World.block_lt_of_cell? w _ h1
   rw [Qbc (hblk B hlt)]; exact h1) hblk hsize hos htape hout
 exact ⟨args.size, Qm [] [], ⟨args, []⟩, by simp, rfl, _, rfl, .inr ⟨hp, Qp.plain hrel hr ht⟩⟩
theorem Qdp {tv : List AV} {args : Array Value} {c : AV} {v : Value} (h : Entry C e tv [] args w) (hb : Below w.heap.size w w') (hr : RepP C.fid e.σ0 c v) (hp : c.isP = false) (ht : c.tipSz = none) : Qor C e [c] [] 0 v w' :=
 Qmg h hb.size (fun B hB => hb.block B hB) hb.os hb.tape hb.output hr hp ht
theorem Qmd {tv : List AV} {args : Array Value} (h : Entry C e tv [] args w) : tv.length = args.size ∧ ∀ (i : Nat) (c : AV) (v : Value), tv[i]? = some c → args[i]? = some v → RepT C.fid e.σ0 e.pbm (Qm tv []).b c v := by
 refine ⟨h.len, fun i c v hc hv => ?_⟩
 have h0 := h.rel.tmps i
 have e0 : (Qm tv []).t i = c := by simp [Qm, hc]
 have e1 : (⟨args, []⟩ : Act).tmps.getD i undef = v := by simp [Array.getD_eq_getD_getElem?, hv]
 rw [e0, e1] at h0
 exact h0
theorem Qpi {c : AV} {args : Array Value} (h : Entry C e [c] [] args w) : ∃ v, args = #[v] ∧ RepT C.fid e.σ0 e.pbm (Qm [c] []).b c v := by
 obtain ⟨hl, ha⟩ := Qmd h
 obtain ⟨v, rfl⟩ : ∃ v, args = #[v] := by
  match args, hl with
  | ⟨[v]⟩, _ => exact ⟨v, rfl⟩
 exact ⟨v, rfl, ha 0 c v rfl rfl⟩
theorem Qkl {c d : AV} {args : Array Value} (h : Entry C e [c, d] [] args w) : ∃ v u, args = #[v, u] ∧ RepT C.fid e.σ0 e.pbm (Qm [c, d] []).b c v ∧ RepT C.fid e.σ0 e.pbm (Qm [c, d] []).b d u := by
 obtain ⟨hl, ha⟩ := Qmd h
 obtain ⟨v, u, rfl⟩ : ∃ v u, args = #[v, u] := by
  match args, hl with
  | ⟨[v, u]⟩, _ => exact ⟨v, u, rfl⟩
 exact ⟨v, u, rfl, ha 0 c v rfl rfl, ha 1 d u rfl rfl⟩
def Qxt : List AV → Option AV
 | [.int .i64 n] => if -9223372036854775808 ≤ n ∧ n ≤ 9223372036854775807 then some (.str (Lib.itoa n)) else none
 | _ => none
def powFx (o : Obj) : Prop := ∃ t m, o = .cells (Lib.pow10Tab.map fun z => Value.int .u64 z).toArray t m
theorem itoa_prim {g gp : Nat} (hk : Known C g) (hn : C.P.globalNamed "internal/strconv.uint64pow10" = some gp) (hx : (gp, powFx) ∈ C.fx)
  (hc : ∀ (n : Int) (w : World), -9223372036854775808 ≤ n → n ≤ 9223372036854775807 → Lib.TabIs C.P w "internal/strconv.uint64pow10" .u64 Lib.pow10Tab → Calls C.P (C.fid g) #[.int .i64 n] w fun e w' => e = .returned (.string ⟨(Lib.itoa n).toArray⟩) ∧ w'.heap.size ≥ w.heap.size ∧ (∀ B, B < w.heap.size → w'.heap[B]? = w.heap[B]?) ∧ w'.os = w.os ∧ w'.tape = w.tape ∧ w'.output = w.output) :
  Qgv C g { kind := .prim, ins := [], bins := [], code := .skip, pf := Qxt } := by
 refine ⟨rfl, fun tv c hpf => ⟨hk, fun e args w hen => ?_⟩, fun tv es c es' hpa => by cases hpa⟩
 replace hpf : Qxt tv = some c := hpf
 unfold Qxt at hpf
 split at hpf
 rotate_left
 ·cases hpf
 rename_i n
 split at hpf
 rotate_left
 ·cases hpf
 rename_i hb
 injection hpf with hpf
 subst hpf
 obtain ⟨v, rfl, hv⟩ := Qpi hen
 have hv' : v = .int .i64 n := hv
 subst hv'
 have htab : Lib.TabIs C.P w "internal/strconv.uint64pow10" .u64 Lib.pow10Tab := by
  obtain ⟨_, _, o, h3, t, m, h4⟩ := hen.fix _ hx
  rw [hen.w0] at h3
  simp only [Lib.TabIs, World.var?, hn, Option.bind_some, h3, h4]
 refine (hc n w hb.1 hb.2 htab).mono ?_
 rintro ed w' ⟨rfl, h1, h2, h3, h4, h5⟩
 exact Qmg hen h1 h2 h3 h4 h5 (by simp [RepP]) rfl rfl
def Qxa : List AV → Option AV
 | [.str s] => if s.length ≤ 18 then bnd (Lib.atoi s) fun n => some (.tup [.int .i64 n, .undef]) else none
 | _ => none
theorem atoi_prim {g : Nat} (hk : Known C g)
  (hc : ∀ (s : ByteArray) (n : Int) (w : World), s.size ≤ 18 → Lib.atoi s.data.toList = some n → Calls C.P (C.fid g) #[.string s] w fun e w' => e = .returned (.tuple #[.int .i64 n, .nilIface]) ∧ Below w.heap.size w w') :
  Qgv C g { kind := .prim, ins := [], bins := [], code := .skip, pf := Qxa } := by
 refine ⟨rfl, fun tv c hpf => ⟨hk, fun e args w hen => ?_⟩, fun tv es c es' hpa => by cases hpa⟩
 replace hpf : Qxa tv = some c := hpf
 unfold Qxa at hpf
 split at hpf
 rotate_left
 ·cases hpf
 rename_i s
 split at hpf
 rotate_left
 ·cases hpf
 rename_i hb
 obtain ⟨n, hn, hpf⟩ := Qa.1 hpf
 injection hpf with hpf
 subst hpf
 obtain ⟨v, rfl, hv⟩ := Qpi hen
 have hv' : v = .string ⟨s.toArray⟩ := hv
 subst hv'
 refine (hc ⟨s.toArray⟩ n w (by rw [Quc]; exact hb) (by simpa using hn)).mono ?_
 rintro ed w' ⟨rfl, h1⟩
 refine Qdp hen h1 ⟨#[.int .i64 n, .nilIface], rfl, rfl, ?_⟩ rfl rfl
 simp [RepL, RepP]
def Qoj : List AV → Option AV
 | [.str s, .str p] => some (.bool (Lib.hasPrefix s p))
 | _ => none
theorem prefix_prim {g : Nat} (hk : Known C g) (hc : ∀ (s p : ByteArray) (w : World), Calls C.P (C.fid g) #[.string s, .string p] w fun e w' => e = .returned (.bool (Lib.hasPrefix s.data.toList p.data.toList)) ∧ w' = w) :
  Qgv C g { kind := .prim, ins := [], bins := [], code := .skip, pf := Qoj } := by
 refine ⟨rfl, fun tv c hpf => ⟨hk, fun e args w hen => ?_⟩, fun tv es c es' hpa => by cases hpa⟩
 replace hpf : Qoj tv = some c := hpf
 unfold Qoj at hpf
 split at hpf
 rotate_left
 ·cases hpf
 rename_i s p
 injection hpf with hpf
 subst hpf
 obtain ⟨v, u, rfl, hv, hu⟩ := Qkl hen
 have hv' : v = .string ⟨s.toArray⟩ := hv
 have hu' : u = .string ⟨p.toArray⟩ := hu
 subst hv' hu'
 refine (hc _ _ w).mono ?_
 rintro ed w' ⟨rfl, rfl⟩
 exact Qdp hen (Below.refl _ _) (by simp [RepP]) rfl rfl
def Qsj : List AV → Option AV
 | [.str s, .int .u8 c] => some (.int .i64 (Lib.indexByte s c.toNat.toUInt8))
 | _ => none
theorem index_prim {g : Nat} (hk : Known C g) (hc : ∀ (s : ByteArray) (c : Int) (w : World), Calls C.P (C.fid g) #[.string s, .int .u8 c] w fun e w' => e = .returned (.int .i64 (Lib.indexByte s.data.toList c.toNat.toUInt8)) ∧ w' = w) :
  Qgv C g { kind := .prim, ins := [], bins := [], code := .skip, pf := Qsj } := by
 refine ⟨rfl, fun tv c hpf => ⟨hk, fun e args w hen => ?_⟩, fun tv es c es' hpa => by cases hpa⟩
 replace hpf : Qsj tv = some c := hpf
 unfold Qsj at hpf
 split at hpf
 rotate_left
 ·cases hpf
 rename_i s n
 injection hpf with hpf
 subst hpf
 obtain ⟨v, u, rfl, hv, hu⟩ := Qkl hen
 have hv' : v = .string ⟨s.toArray⟩ := hv
 have hu' : u = .int .u8 n := hu
 subst hv' hu'
 refine (hc _ _ w).mono ?_
 rintro ed w' ⟨rfl, rfl⟩
 exact Qdp hen (Below.refl _ _) (by simp [RepP]) rfl rfl
def Qfd : List (List AV) → Option (List (List UInt8))
 | [] => some []
 | [.str s] :: r => bnd (Qfd r) fun l => some (s :: l)
 | _ => none
theorem Qmv : ∀ {xs : List (List AV)} {l : List (List UInt8)}, Qfd xs = some l → xs = l.map fun s => [.str s]
 | [], l, h => by simp only [Qfd, Zi] at h; subst h; rfl
 | x :: r, l, h => by
  unfold Qfd at h
  split at h
  ·cases ‹_ :: _ = []›
  ·rename_i n r' e
   injection e with e1 e2
   subst e1 e2
   obtain ⟨l', h1, h2⟩ := Qa.1 h
   injection h2 with h2
   subst h2
   simp [Qmv h1]
  ·cases h
def Qxu : List AV → Option AV
 | [.sl _ 1 xs, .str sep] => bnd (Qfd xs) fun l => if l.length ≤ LIM ∧ (Lib.join l sep).length ≤ LIM then some (.str (Lib.join l sep)) else none
 | _ => none
theorem join_prim {g : Nat} (hk : Known C g)
  (h0 : ∀ (a : Option Addr) (c : Nat) (sep : ByteArray) (w : World), Calls C.P (C.fid g) #[.slice a 0 c, .string sep] w fun e w' => e = .returned (.string ⟨#[]⟩) ∧ w' = w)
  (hc : ∀ (bk o c : Nat) (xs : List ByteArray) (sep : ByteArray) (w : World), (∀ (j : Nat) x, xs[j]? = some x → w.cell? ⟨bk, o + j, none⟩ = some (.string x)) → bk < w.heap.size → xs.length ≤ 140737488355328 → xs.length ≤ c → (Lib.join (xs.map (·.data.toList)) sep.data.toList).length ≤ 140737488355328 →
   Calls C.P (C.fid g) #[.slice (some ⟨bk, o, none⟩) xs.length c, .string sep] w fun e w' => e = .returned (.string ⟨(Lib.join (xs.map (·.data.toList)) sep.data.toList).toArray⟩) ∧ Below w.heap.size w w') :
  Qgv C g { kind := .prim, ins := [], bins := [], code := .skip, pf := Qxu } := by
 refine ⟨rfl, fun tv c hpf => ⟨hk, fun e args w hen => ?_⟩, fun tv es c es' hpa => by cases hpa⟩
 replace hpf : Qxu tv = some c := hpf
 unfold Qxu at hpf
 split at hpf
 rotate_left
 ·cases hpf
 rename_i m xs sep
 obtain ⟨l, hl, hpf⟩ := Qa.1 hpf
 split at hpf
 rotate_left
 ·cases hpf
 rename_i hb
 injection hpf with hpf
 subst hpf
 have hxs := Qmv hl
 subst hxs
 obtain ⟨v, u, rfl, hv, hu⟩ := Qkl hen
 have hu' : u = .string ⟨sep.toArray⟩ := hu
 subst hu'
 obtain ⟨a, n, cap, rfl, hn, hncap, _, hrow⟩ := (show RepP C.fid e.σ0 (.sl m 1 (l.map fun s => [.str s])) v from hv)
 rw [List.length_map] at hn
 subst hn
 by_cases hz : l.length = 0
 ·have hl0 : l = [] := List.eq_nil_of_length_eq_zero hz
  subst hl0
  refine (h0 a cap _ w).mono ?_
  rintro ed w' ⟨rfl, rfl⟩
  exact Qdp hen (Below.refl _ _) (by simp [RepP, Lib.join]) rfl rfl
 ·rcases hrow with h | ⟨B, o, h1, hrow⟩
  ·exact absurd h hz
  subst h1
  have hcell : ∀ (j : Nat) (s : List UInt8), l[j]? = some s → w.cell? ⟨B, o + j, none⟩ = some (.string ⟨s.toArray⟩) := by
   intro j s hs
   have := (Qn.1 hrow j [.str s] (by rw [List.getElem?_map, hs]; rfl)).2
   obtain ⟨u, hu, hrep⟩ := Qi.1 this 0 _ rfl
   simp only [RepP] at hrep
   subst hrep
   have := hen.rel.mem B _ _ hu
   simpa only [Nat.mul_one, Nat.add_zero] using this
  have hB : B < w.heap.size := by
   obtain ⟨s, hs⟩ : ∃ s, l[0]? = some s := ⟨l[0]'(by omega), List.getElem?_eq_getElem _⟩
   exact World.block_lt_of_cell? w _ (hcell 0 s hs)
  have hj : Lib.join ((l.map fun s => (⟨s.toArray⟩ : ByteArray)).map (·.data.toList)) (⟨sep.toArray⟩ : ByteArray).data.toList = Lib.join l sep := by
   rw [List.map_map]
   congr 1
   ·conv => rhs; rw [← List.map_id l]
    apply List.map_congr_left
    intro s _; simp
  have := hc B o cap (l.map fun s => ⟨s.toArray⟩) ⟨sep.toArray⟩ w (fun j x hx => by
   rw [List.getElem?_map, Option.map_eq_some_iff] at hx
   obtain ⟨s, hs, rfl⟩ := hx
   exact hcell j s hs) hB (by simp only [List.length_map]; unfold LIM at hb; omega) (by simpa using hncap) (by rw [hj]; unfold LIM at hb; omega)
  rw [hj, List.length_map] at this
  refine this.mono ?_
  rintro ed w' ⟨rfl, hbel⟩
  exact Qdp hen hbel (by simp [RepP]) rfl rfl
end
end Go.Vs