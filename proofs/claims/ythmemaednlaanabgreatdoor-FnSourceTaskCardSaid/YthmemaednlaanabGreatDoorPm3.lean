/- Functions of the library, by their contracts: numerals, prefixes, texts that are joined. -/
import Derived.Test.YthmemaednlaanabGreatDoorPm1
import Derived.Lib.ItoaNum
import Derived.Lib.Atoi
import Derived.Lib.Join
import Derived.Lib.Strings
import Derived.Lib.Bytealg
import Derived.Lib.LaidTab
import Derived.Lib.ConvBytes
import Derived.Sort.Grow
set_option linter.unusedVariables false
namespace Go.Vs
open Go Go.RowKit
theorem below_bytes (w : World) (e : TypeId) (s : ByteArray) : Below w.heap.size w (Lib.bytesWorld w e s) :=
 ⟨by simp [Lib.bytesWorld, World.freeze, World.alloc, World.drew, -World.alloc_eq, -World.drew_eq], by simp [Lib.bytesWorld, World.freeze, World.alloc, World.drew, -World.alloc_eq, -World.drew_eq], by simp [Lib.bytesWorld, World.freeze, World.alloc, World.drew, -World.alloc_eq, -World.drew_eq], by rw [Lib.bytesWorld_size]; omega, fun k hk => Lib.bytesWorld_at_old w e s k hk⟩
section
variable {C : Ctx} {e : Env} {w w' : World}
theorem Qtc {tv : List AV} {args : Array Value} {c : AV} {v : Value} (h : Entry C e tv [] args w) (hsize : w.heap.size ≤ w'.heap.size) (hblk : ∀ B, B < w.heap.size → w'.heap[B]? = w.heap[B]?) (hos : w'.os = w.os) (htape : w'.tape = w.tape) (hout : w'.output = w.output)
  (hr : RepP C.fid e.σ0 c v) (hp : c.isP = false) (ht : c.tipSz = none) : Qoi C e [c] [] 0 v w' := by
 have hr0 := Qsy h
 have hrel : RelX C.fid { e with n := args.size } e.σ0 (fun _ => none) (Qm [] []) ⟨args, []⟩ w' :=
  hr0.world (Mem.le_refl _) hr0.one (fun _ _ _ => rfl) (fun B i v hv => by
   have h1 := hr0.mem B i v hv
   have hlt := World.block_lt_of_cell? w _ h1
   rw [Qbb (hblk B hlt)]; exact h1) hblk hsize hos htape hout
 exact ⟨args.size, Qm [] [], ⟨args, []⟩, by simp, rfl, _, rfl, .inr ⟨hp, Qp.plain hrel hr ht⟩⟩
theorem Qhw {tv : List AV} {args : Array Value} {c : AV} {v : Value} (h : Entry C e tv [] args w) (hb : Below w.heap.size w w') (hr : RepP C.fid e.σ0 c v) (hp : c.isP = false) (ht : c.tipSz = none) : Qoi C e [c] [] 0 v w' :=
 Qtc h hb.size (fun B hB => hb.block B hB) hb.os hb.tape hb.output hr hp ht
theorem Qlw {tv : List AV} {args : Array Value} (h : Entry C e tv [] args w) : tv.length = args.size ∧ ∀ (i : Nat) (c : AV) (v : Value), tv[i]? = some c → args[i]? = some v → RepT C.fid e.σ0 e.pbm (Qm tv []).b c v := by
 refine ⟨h.len, fun i c v hc hv => ?_⟩
 have h0 := h.rel.tmps i
 have e0 : (Qm tv []).t i = c := by simp [Qm, hc]
 have e1 : (⟨args, []⟩ : Act).tmps.getD i undef = v := by simp [Array.getD_eq_getD_getElem?, hv]
 rw [e0, e1] at h0
 exact h0
theorem Qvc {c : AV} {args : Array Value} (h : Entry C e [c] [] args w) : ∃ v, args = #[v] ∧ RepT C.fid e.σ0 e.pbm (Qm [c] []).b c v := by
 obtain ⟨hl, ha⟩ := Qlw h
 obtain ⟨v, rfl⟩ : ∃ v, args = #[v] := by
  match args, hl with
  | ⟨[v]⟩, _ => exact ⟨v, rfl⟩
 exact ⟨v, rfl, ha 0 c v rfl rfl⟩
theorem Qoz {c d : AV} {args : Array Value} (h : Entry C e [c, d] [] args w) : ∃ v u, args = #[v, u] ∧ RepT C.fid e.σ0 e.pbm (Qm [c, d] []).b c v ∧ RepT C.fid e.σ0 e.pbm (Qm [c, d] []).b d u := by
 obtain ⟨hl, ha⟩ := Qlw h
 obtain ⟨v, u, rfl⟩ : ∃ v u, args = #[v, u] := by
  match args, hl with
  | ⟨[v, u]⟩, _ => exact ⟨v, u, rfl⟩
 exact ⟨v, u, rfl, ha 0 c v rfl rfl, ha 1 d u rfl rfl⟩
def itoaF : List AV → Option AV
 | [.int .i64 n] => if -9223372036854775808 ≤ n ∧ n ≤ 9223372036854775807 then some (.str (Lib.itoa n)) else none
 | _ => none
def powFx (o : Obj) : Prop := ∃ t m, o = .cells (Lib.pow10Tab.map fun z => Value.int .u64 z).toArray t m
def Qww : List AV → Option AV
 | [.str s] => if s.length ≤ 18 then bnd (Lib.atoi s) fun n => some (.tup [.int .i64 n, .undef]) else none
 | _ => none
theorem atoi_prim {g : Nat} (hk : Known C g)
  (hc : ∀ (s : ByteArray) (n : Int) (w : World), s.size ≤ 18 → Lib.atoi s.data.toList = some n → Calls C.P (C.fid g) #[.string s] w fun e w' => e = .returned (.tuple #[.int .i64 n, .nilIface]) ∧ Below w.heap.size w w') :
  Qji C g { kind := .prim, ins := [], bins := [], code := .skip, pf := Qww } := by
 refine ⟨rfl, fun tv c hpf => ⟨hk, fun e args w hen => ?_⟩, fun tv es c es' hpa => by cases hpa⟩
 replace hpf : Qww tv = some c := hpf
 unfold Qww at hpf
 split at hpf
 rotate_left
 ·cases hpf
 rename_i s
 split at hpf
 rotate_left
 ·cases hpf
 rename_i hb
 obtain ⟨n, hn, hpf⟩ := Qa.1 hpf
 injection hpf with hpf
 subst hpf
 obtain ⟨v, rfl, hv⟩ := Qvc hen
 have hv' : v = .string ⟨s.toArray⟩ := hv
 subst hv'
 refine (hc ⟨s.toArray⟩ n w (by rw [Qtv]; exact hb) (by simpa using hn)).mono ?_
 rintro ed w' ⟨rfl, h1⟩
 refine Qhw hen h1 ⟨#[.int .i64 n, .nilIface], rfl, rfl, ?_⟩ rfl rfl
 simp [RepL, RepP]
def Qob : List AV → Option AV
 | [.str s, .str p] => some (.bool (Lib.hasPrefix s p))
 | _ => none
theorem prefix_prim {g : Nat} (hk : Known C g) (hc : ∀ (s p : ByteArray) (w : World), Calls C.P (C.fid g) #[.string s, .string p] w fun e w' => e = .returned (.bool (Lib.hasPrefix s.data.toList p.data.toList)) ∧ w' = w) :
  Qji C g { kind := .prim, ins := [], bins := [], code := .skip, pf := Qob } := by
 refine ⟨rfl, fun tv c hpf => ⟨hk, fun e args w hen => ?_⟩, fun tv es c es' hpa => by cases hpa⟩
 replace hpf : Qob tv = some c := hpf
 unfold Qob at hpf
 split at hpf
 rotate_left
 ·cases hpf
 rename_i s p
 injection hpf with hpf
 subst hpf
 obtain ⟨v, u, rfl, hv, hu⟩ := Qoz hen
 have hv' : v = .string ⟨s.toArray⟩ := hv
 have hu' : u = .string ⟨p.toArray⟩ := hu
 subst hv' hu'
 refine (hc _ _ w).mono ?_
 rintro ed w' ⟨rfl, rfl⟩
 exact Qhw hen (Below.refl _ _) (by simp [RepP]) rfl rfl
def Qsb : List AV → Option AV
 | [.str s, .int .u8 c] => some (.int .i64 (Lib.indexByte s c.toNat.toUInt8))
 | _ => none
theorem index_prim {g : Nat} (hk : Known C g) (hc : ∀ (s : ByteArray) (c : Int) (w : World), Calls C.P (C.fid g) #[.string s, .int .u8 c] w fun e w' => e = .returned (.int .i64 (Lib.indexByte s.data.toList c.toNat.toUInt8)) ∧ w' = w) :
  Qji C g { kind := .prim, ins := [], bins := [], code := .skip, pf := Qsb } := by
 refine ⟨rfl, fun tv c hpf => ⟨hk, fun e args w hen => ?_⟩, fun tv es c es' hpa => by cases hpa⟩
 replace hpf : Qsb tv = some c := hpf
 unfold Qsb at hpf
 split at hpf
 rotate_left
 ·cases hpf
 rename_i s n
 injection hpf with hpf
 subst hpf
 obtain ⟨v, u, rfl, hv, hu⟩ := Qoz hen
 have hv' : v = .string ⟨s.toArray⟩ := hv
 have hu' : u = .int .u8 n := hu
 subst hv' hu'
 refine (hc _ _ w).mono ?_
 rintro ed w' ⟨rfl, rfl⟩
 exact Qhw hen (Below.refl _ _) (by simp [RepP]) rfl rfl
def Qwd : List (List AV) → Option (List (List UInt8))
 | [] => some []
 | [.str s] :: r => bnd (Qwd r) fun l => some (s :: l)
 | _ => none
def joinF : List AV → Option AV
 | [.sl _ 1 xs, .str sep] => bnd (Qwd xs) fun l => if l.length ≤ LIM ∧ (Lib.join l sep).length ≤ LIM then some (.str (Lib.join l sep)) else none
 | _ => none
end
end Go.Vs