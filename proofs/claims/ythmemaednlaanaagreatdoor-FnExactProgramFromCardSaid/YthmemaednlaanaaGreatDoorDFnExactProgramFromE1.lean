import Derived.Test.YthmemaednlaanaaGreatDoorDFnExactProgramFromP
import Derived.KernelRfl
set_option linter.unusedVariables false
namespace Go.TFnExactProgramFrom
open Go Go.RowKit Go.Vs Go.Tv
theorem Req (a0tokens : List (List UInt8)) (a0at : Int) (a0failed : Bool) : Tv.Le
 (bnd (Raq a0tokens a0at a0failed) fun r1 =>
(bif (r1.1 == []) then
some (r1.1, r1.2.1, (wrap64 (r1.2.2.1 + 1)), true)
else
some (r1.1, r1.2.1, (wrap64 (r1.2.2.1 + 1)), r1.2.2.2)) : Option (List UInt8 × List (List UInt8) × Int × Bool))
 (Rcl a0tokens a0at a0failed) := by
 rewrite [← Qze]
 exact fun r h => fE Rpp p33800 h
theorem Rnz (a0 : Int) : Tv.Le
 ((bif (decide (48 ≤ a0)) then
some (decide (a0 ≤ 57))
else
some false) : Option (Bool))
 (Rex a0) := by
 exact fun r h => fE Rk p33100 h
theorem Ron (a0 : List UInt8) : Tv.Le (if a0.length ≤ 18 then Lib.atoi a0 else none : Option (Int)) (strconv_Atoi a0) := fun r h => by
 exact prim_le (F := Tb) (G := GT) (sg := fun _ => Ruv) (g := 37700) (p := p37700) (x := r) (tv := [.str a0]) (v := .tup [.int .i64 r, .undef]) (by kernel_rfl) rfl (atoi_pf h) rfl
theorem Rs (a0tokens : List (List UInt8)) (a0at : Int) (a0failed : Bool) (A : List Ent) : Tv.Le
 (bnd (Rb ([105, 102]) a0tokens a0at a0failed) fun r1 =>
(bif r1.1 then
bnd (Ri 1 r1.2.1 r1.2.2.1 r1.2.2.2 A) fun r2 =>
bnd (Rax r2.2.1 r2.2.2.1 r2.2.2.2.1 r2.2.2.2.2) fun r3 =>
bnd (Rb ([101, 108, 115, 101]) r3.2.1 r3.2.2.1 r3.2.2.2.1) fun r4 =>
(bif r4.1 then
bnd (Rax r4.2.1 r4.2.2.1 r4.2.2.2 r3.2.2.2.2) fun r5 =>
some (⟨2, 0, 0, r2.1.op, r2.1.n, r2.1.args, r3.1, r5.1⟩, r5.2.1, r5.2.2.1, r5.2.2.2.1, r5.2.2.2.2)
else
some (⟨2, 0, 0, r2.1.op, r2.1.n, r2.1.args, r3.1, ⟨none, 0⟩⟩, r4.2.1, r4.2.2.1, r4.2.2.2, r3.2.2.2.2))
else
bnd (Rb ([119, 104, 105, 108, 101]) r1.2.1 r1.2.2.1 r1.2.2.2) fun r6 =>
(bif r6.1 then
bnd (Ri 1 r6.2.1 r6.2.2.1 r6.2.2.2 A) fun r7 =>
bnd (Rax r7.2.1 r7.2.2.1 r7.2.2.2.1 r7.2.2.2.2) fun r8 =>
some (⟨3, 0, 0, r7.1.op, r7.1.n, r7.1.args, r8.1, ⟨none, 0⟩⟩, r8.2.1, r8.2.2.1, r8.2.2.2.1, r8.2.2.2.2)
else
bnd (Rb ([115, 101, 110, 100]) r6.2.1 r6.2.2.1 r6.2.2.2) fun r9 =>
(bif r9.1 then
bnd (Rl r9.2.1 r9.2.2.1 r9.2.2.2) fun r10 =>
bnd (Ri 1 r10.2.1 r10.2.2.1 r10.2.2.2 A) fun r11 =>
bnd (Rc [59] r11.2.1 r11.2.2.1 r11.2.2.2.1) fun r12 =>
some (⟨4, 0, r10.1, r11.1.op, r11.1.n, r11.1.args, ⟨none, 0⟩, ⟨none, 0⟩⟩, r12.1, r12.2.1, r12.2.2, r11.2.2.2.2)
else
bnd (Rb ([114, 101, 99, 118]) r9.2.1 r9.2.2.1 r9.2.2.2) fun r13 =>
(bif r13.1 then
bnd (Rl r13.2.1 r13.2.2.1 r13.2.2.2) fun r14 =>
bnd (Re r14.2.1 r14.2.2.1 r14.2.2.2) fun r15 =>
bnd (Rc [59] r15.2.1 r15.2.2.1 r15.2.2.2) fun r16 =>
some (⟨5, r15.1, r14.1, 0, 0, ⟨none, 0⟩, ⟨none, 0⟩, ⟨none, 0⟩⟩, r16.1, r16.2.1, r16.2.2, A)
else
bnd (Rb ([121, 105, 101, 108, 100]) r13.2.1 r13.2.2.1 r13.2.2.2) fun r17 =>
(bif r17.1 then
bnd (Rc [59] r17.2.1 r17.2.2.1 r17.2.2.2) fun r18 =>
some (⟨6, 0, 0, 0, 0, ⟨none, 0⟩, ⟨none, 0⟩, ⟨none, 0⟩⟩, r18.1, r18.2.1, r18.2.2, A)
else
bnd (Rb ([112, 114, 105, 110, 116]) r17.2.1 r17.2.2.1 r17.2.2.2) fun r19 =>
(bif r19.1 then
bnd (Ri 1 r19.2.1 r19.2.2.1 r19.2.2.2 A) fun r20 =>
bnd (Rc [59] r20.2.1 r20.2.2.1 r20.2.2.2.1) fun r21 =>
some (⟨7, 0, 0, r20.1.op, r20.1.n, r20.1.args, ⟨none, 0⟩, ⟨none, 0⟩⟩, r21.1, r21.2.1, r21.2.2, r20.2.2.2.2)
else
bnd (Re r19.2.1 r19.2.2.1 r19.2.2.2) fun r22 =>
bnd (Rc [61] r22.2.1 r22.2.2.1 r22.2.2.2) fun r23 =>
bnd (Ri 1 r23.1 r23.2.1 r23.2.2 A) fun r24 =>
bnd (Rc [59] r24.2.1 r24.2.2.1 r24.2.2.2.1) fun r25 =>
some (⟨1, r22.1, 0, r24.1.op, r24.1.n, r24.1.args, ⟨none, 0⟩, ⟨none, 0⟩⟩, r25.1, r25.2.1, r25.2.2, r24.2.2.2.2))))))) : Option (StmH × List (List UInt8) × Int × Bool × List Ent))
 (Rbr a0tokens a0at a0failed A) := by
 exact fun r h => fE Rvl p46200 h
theorem Rau (t3 : Hd) (b0_0 : List (List UInt8)) (b0_1 : Int) (b0_2 : Bool) (b99 : List Ent) : Tv.Le
 ((bif (!b0_2) then
bnd (Rb [125] b0_0 b0_1 b0_2) fun r1 =>
(bif (!r1.1) then
bnd (Rbr r1.2.1 r1.2.2.1 r1.2.2.2 b99) fun r2 =>
bnd (Qju r2.2.2.2.2 .stmH t3.id t3.n ([r2.1] : List StmH)) fun B3 =>
Rai (⟨(some (List.length r2.2.2.2.2)), (t3.n + List.length ([r2.1] : List StmH))⟩ : Hd) r2.2.1 r2.2.2.1 r2.2.2.2.1 B3
else
some (t3, r1.2.1, r1.2.2.1, r1.2.2.2, b99))
else
some (t3, b0_0, b0_1, b0_2, b99)) : Option (Hd × List (List UInt8) × Int × Bool × List Ent))
 (Rai t3 b0_0 b0_1 b0_2 b99) := by
 exact fun r h => lE Rvj p45601 h
theorem Rla (a0 : List Int) : Tv.Le
 (bnd (Rcr a0 a0 (a0.length : Int) 0) fun r1 =>
selm r1 (fun y2 =>
some (decide ((y2.length : Int) ≤ 3))) (fun z3 =>
some z3.2) : Option (Bool))
 (Rgw a0) := by
 exact fun r h => fE Rk p22700 h
theorem Rlb (a0 : List Stm) (a1 : Int) : Tv.Le
 (bnd (Rbl a0 a1 0 0) fun r1 =>
some r1.1 : Option (Bool))
 (Rgx a0 a1) := by
 exact fun r h => fE Rk p5400 h
theorem Rfd (t22 : List (List Stm)) (t23 : Int) (t24 : Int) (b100_0 : List Int) (b100_1 : List (List Stm)) : Tv.Le
 ((bif (decide (t24 < t23)) then
bnd (geti t22 t24) fun e1 =>
bnd (Rgx e1 (b100_0.length : Int)) fun r2 =>
(bif (!r2) then
some (.inr false)
else
Rbu t22 t23 (wrap64 (t24 + 1)) b100_0 b100_1)
else
some (.inl ())) : Option (Unit ⊕ Bool))
 (Rbu t22 t23 t24 b100_0 b100_1) := by
 rewrite [← Qze]
 exact fun r h => lE Rgs p22801 h
theorem Ria (t0 : List Int) (t1 : List Int) (t5 : Int) : Tv.Le
 ((bif (decide (t5 < (t0.length : Int))) then
bnd (geti t0 t5) fun e1 =>
bnd (geti t1 t5) fun e2 =>
(bif (!decide (e1 = e2)) then
some (.inr false)
else
Rgb t0 t1 (wrap64 (t5 + 1)))
else
some (.inl ())) : Option (Unit ⊕ Bool))
 (Rgb t0 t1 t5) := by
 rewrite [← Qze]
 exact fun r h => lE Rgs p8401 h
theorem Rod (a0 : List Stm) (a1 : List Stm) : Tv.Le
 ((bif (!decide ((a0.length : Int) = (a1.length : Int))) then
some false
else
bnd (Rfg a0 a1 0) fun r1 =>
selm r1 (fun y2 =>
some true) (fun z3 =>
some z3)) : Option (Bool))
 (Rdf a0 a1) := by
 exact fun r h => fE Rk p8300 h
theorem Rgz (t0 : List (List Stm)) (t1 : List (List Stm)) (t5 : Int) : Tv.Le
 ((bif (decide (t5 < (t0.length : Int))) then
bnd (geti t0 t5) fun e1 =>
bnd (geti t1 t5) fun e2 =>
bnd (Rdf e1 e2) fun r3 =>
(bif (!r3) then
some (.inr false)
else
Rel t0 t1 (wrap64 (t5 + 1)))
else
some (.inl ())) : Option (Unit ⊕ Bool))
 (Rel t0 t1 t5) := by
 rewrite [← Qze]
 exact fun r h => lE Rgs p28801 h
theorem Rgi (t0 : Hd) (t1 : Int) (t5 : Int) (b99 : List Ent) : Tv.Le
 ((bif (decide (t5 < ((t0.n : Nat) : Int))) then
bnd (idxN t0.n t5) fun i1 =>
bnd (Qlr b99 .int t0.id i1) fun e2 =>
Rdu t0 (wrap64 (t1 + 1)) (wrap64 (t5 + 1)) (Qia b99 .int t0.id i1 t1)
else
some (t1, b99)) : Option (Int × List Ent))
 (Rdu t0 t1 t5 b99) := by
 rewrite [← Qze]
 exact fun r h => lE Rja p38701 h
theorem Rhd (a0 : Hd) (a1 : Int) (A : List Ent) : Tv.Le
 (bnd (Rdk a0 a1 0 A) fun r1 =>
some (r1.1, r1.2) : Option (Int × List Ent))
 (Rdn a0 a1 A) := by
 exact fun r h => fE Rhf p40900 h
theorem Rfk (t0 : Hd) (t1 : Int) (t5 : Int) (b99 : List Ent) : Tv.Le
 ((bif (decide (t5 < ((t0.n : Nat) : Int))) then
bnd (idxN t0.n t5) fun i1 =>
bnd (Qlr b99 .stmsHH t0.id i1) fun e2 =>
bnd (Rdn e2 t1 b99) fun r3 =>
Rcz t0 r3.1 (wrap64 (t5 + 1)) r3.2
else
some (t1, b99)) : Option (Int × List Ent))
 (Rcz t0 t1 t5 b99) := by
 rewrite [← Qze]
 exact fun r h => lE Rja p42901 h
theorem Rha (t0 : List Int) (t1 : Int) (t5 : Int) : Tv.Le
 ((bif (decide (t5 < (t0.length : Int))) then
bnd (geti t0 t5) fun e1 =>
(bif (!decide (e1 = t1)) then
some (.inr (t1, (-1)))
else
Rdl t0 (wrap64 (t1 + 1)) (wrap64 (t5 + 1)))
else
some (.inl t1)) : Option (Int ⊕ (Int × Int)))
 (Rdl t0 t1 t5) := by
 rewrite [← Qze]
 exact fun r h => lE Riz p10601 h
theorem Ric (a0 : List Stm) (a1 : Int) : Tv.Le
 (bnd (Rbz a0 a1 0) fun r1 =>
selm r1 (fun y2 =>
some y2) (fun z3 =>
some z3.2) : Option (Int))
 (Rei a0 a1) := by
 exact fun r h => fE Rbi p10800 h
theorem Rgh (t0 : List (List Stm)) (t1 : Int) (t5 : Int) : Tv.Le
 ((bif (decide (t5 < (t0.length : Int))) then
bnd (geti t0 t5) fun e1 =>
bnd (Rei e1 t1) fun r2 =>
(bif (decide (r2 < 0)) then
some (.inr (r2, (-1)))
else
Rcs t0 r2 (wrap64 (t5 + 1)))
else
some (.inl t1)) : Option (Int ⊕ (Int × Int)))
 (Rcs t0 t1 t5) := by
 rewrite [← Qze]
 exact fun r h => lE Riz p45701 h
theorem Raf (a0tokens : List (List UInt8)) (a0at : Int) (a0failed : Bool) : Tv.Le
 (bnd (Rb ([105, 102]) a0tokens a0at a0failed) fun r1 =>
(bif r1.1 then
bnd (Rg 1 r1.2.1 r1.2.2.1 r1.2.2.2) fun r2 =>
bnd (Rbb r2.2.1 r2.2.2.1 r2.2.2.2) fun r3 =>
bnd (Rb ([101, 108, 115, 101]) r3.2.1 r3.2.2.1 r3.2.2.2) fun r4 =>
(bif r4.1 then
bnd (Rbb r4.2.1 r4.2.2.1 r4.2.2.2) fun r5 =>
some (⟨2, 0, 0, ⟨r2.1.op, r2.1.n, r2.1.args⟩, r3.1, r5.1⟩, r5.2.1, r5.2.2.1, r5.2.2.2)
else
some (⟨2, 0, 0, ⟨r2.1.op, r2.1.n, r2.1.args⟩, r3.1, []⟩, r4.2.1, r4.2.2.1, r4.2.2.2))
else
bnd (Rb ([119, 104, 105, 108, 101]) r1.2.1 r1.2.2.1 r1.2.2.2) fun r6 =>
(bif r6.1 then
bnd (Rg 1 r6.2.1 r6.2.2.1 r6.2.2.2) fun r7 =>
bnd (Rbb r7.2.1 r7.2.2.1 r7.2.2.2) fun r8 =>
some (⟨3, 0, 0, ⟨r7.1.op, r7.1.n, r7.1.args⟩, r8.1, []⟩, r8.2.1, r8.2.2.1, r8.2.2.2)
else
bnd (Rb ([115, 101, 110, 100]) r6.2.1 r6.2.2.1 r6.2.2.2) fun r9 =>
(bif r9.1 then
bnd (Rl r9.2.1 r9.2.2.1 r9.2.2.2) fun r10 =>
bnd (Rg 1 r10.2.1 r10.2.2.1 r10.2.2.2) fun r11 =>
bnd (Rc [59] r11.2.1 r11.2.2.1 r11.2.2.2) fun r12 =>
some (⟨4, 0, r10.1, ⟨r11.1.op, r11.1.n, r11.1.args⟩, [], []⟩, r12.1, r12.2.1, r12.2.2)
else
bnd (Rb ([114, 101, 99, 118]) r9.2.1 r9.2.2.1 r9.2.2.2) fun r13 =>
(bif r13.1 then
bnd (Rl r13.2.1 r13.2.2.1 r13.2.2.2) fun r14 =>
bnd (Re r14.2.1 r14.2.2.1 r14.2.2.2) fun r15 =>
bnd (Rc [59] r15.2.1 r15.2.2.1 r15.2.2.2) fun r16 =>
some (⟨5, r15.1, r14.1, ⟨0, 0, []⟩, [], []⟩, r16.1, r16.2.1, r16.2.2)
else
bnd (Rb ([121, 105, 101, 108, 100]) r13.2.1 r13.2.2.1 r13.2.2.2) fun r17 =>
(bif r17.1 then
bnd (Rc [59] r17.2.1 r17.2.2.1 r17.2.2.2) fun r18 =>
some (⟨6, 0, 0, ⟨0, 0, []⟩, [], []⟩, r18.1, r18.2.1, r18.2.2)
else
bnd (Rb ([112, 114, 105, 110, 116]) r17.2.1 r17.2.2.1 r17.2.2.2) fun r19 =>
(bif r19.1 then
bnd (Rg 1 r19.2.1 r19.2.2.1 r19.2.2.2) fun r20 =>
bnd (Rc [59] r20.2.1 r20.2.2.1 r20.2.2.2) fun r21 =>
some (⟨7, 0, 0, ⟨r20.1.op, r20.1.n, r20.1.args⟩, [], []⟩, r21.1, r21.2.1, r21.2.2)
else
bnd (Re r19.2.1 r19.2.2.1 r19.2.2.2) fun r22 =>
bnd (Rc [61] r22.2.1 r22.2.2.1 r22.2.2.2) fun r23 =>
bnd (Rg 1 r23.1 r23.2.1 r23.2.2) fun r24 =>
bnd (Rc [59] r24.2.1 r24.2.2.1 r24.2.2.2) fun r25 =>
some (⟨1, r22.1, 0, ⟨r24.1.op, r24.1.n, r24.1.args⟩, [], []⟩, r25.1, r25.2.1, r25.2.2))))))) : Option (Stm × List (List UInt8) × Int × Bool))
 (Rck a0tokens a0at a0failed) := by
 exact fun r h => fE Rvk p46100 h
theorem Rbd (t3b : Bool) (t3 : List Stm) (b0_0 : List (List UInt8)) (b0_1 : Int) (b0_2 : Bool) : Tv.Le
 ((bif (!b0_2) then
bnd (Rb [125] b0_0 b0_1 b0_2) fun r1 =>
(bif (!r1.1) then
bnd (Rck r1.2.1 r1.2.2.1 r1.2.2.2) fun r2 =>
bnd (appL t3 ([⟨r2.1.kind, r2.1.var, r2.1.box, ⟨r2.1.e.op, r2.1.e.n, r2.1.e.args⟩, r2.1.body, r2.1.els⟩] : List Stm)) fun l3 =>
Rah true l3 r2.2.1 r2.2.2.1 r2.2.2.2
else
some ((t3b, t3), r1.2.1, r1.2.2.1, r1.2.2.2))
else
some ((t3b, t3), b0_0, b0_1, b0_2)) : Option ((Bool × List Stm) × List (List UInt8) × Int × Bool))
 (Rah t3b t3 b0_0 b0_1 b0_2) := by
 exact fun r h => lE Rvh p45501 h
theorem Rii (t0 : Int) (t3 : List UInt8) (t4 : Int) : Tv.Le
 ((bif (decide (t4 < (t3.length : Int))) then
bnd (geti t3 t4) fun c1 =>
(bif (decide ((c1.toNat : Int) = t0)) then
some (.inr 4)
else
Rbx t0 t3 (wrap64 (t4 + 1)))
else
some (.inl ())) : Option (Unit ⊕ Int))
 (Rbx t0 t3 t4) := by
 rewrite [← Qze]
 exact fun r h => lE Run p31801 h
theorem Rlq (a0 : List UInt8) (a1 : Int) : Tv.Le
 (bnd (Rgu a0 a1 a1) fun r1 =>
some r1 : Option (Int))
 (Rij a0 a1) := by
 exact fun r h => fE Rbi p31900 h
theorem Rqk (a0 : List UInt8) : Tv.Le
 ((bif (a0 == ([60, 60])) then
some true
else
(bif (a0 == ([62, 62])) then
some true
else
some (a0 == ([61, 61])))) : Option (Bool))
 (Rmn a0) := by
 exact fun r h => fE Rk p32000 h
theorem Rev (t0 : List UInt8) (t3 : Int) (t4 : Int) : Tv.Le
 ((bif (decide (t4 < (t0.length : Int))) then
bnd (geti t0 t4) fun c1 =>
(bif (decide ((c1.toNat : Int) < 48)) then
some (.inr ((-1), t3))
else
bnd (geti t0 t4) fun c2 =>
(bif (decide (57 < (c2.toNat : Int))) then
some (.inr ((-1), t3))
else
bnd (geti t0 t4) fun c3 =>
Rdp t0 (wrap64 ((wrap64 (10 * t3)) + (wrap64 ((((c3.toNat : Int) - 48) % 256))))) (wrap64 (t4 + 1))))
else
some (.inl t3)) : Option (Int ⊕ (Int × Int)))
 (Rdp t0 t3 t4) := by
 rewrite [← Qze]
 exact fun r h => lE Ruo p32301 h
theorem Rdd (a0 : List (List UInt8)) (a1 : Int) (a2 : Int) : Tv.Le
 (bnd (Rae a0 a1 1) fun r1 =>
(bif (decide (r1.2 < 0)) then
some (⟨0, 0, 0, ⟨0, 0, []⟩, [], []⟩, (-1))
else
bnd (Rbm a0 r1.2) fun r2 =>
(bif (decide (a2 = 2)) then
bnd (Ra a0 r2.2 ([101, 108, 115, 101])) fun r3 =>
(bif r3 then
bnd (Rbm a0 (wrap64 (r2.2 + 1))) fun r4 =>
some (⟨a2, 0, 0, ⟨r1.1.op, r1.1.n, r1.1.args⟩, r2.1, r4.1⟩, r4.2)
else
some (⟨a2, 0, 0, ⟨r1.1.op, r1.1.n, r1.1.args⟩, r2.1, ([] : List Stm)⟩, r2.2))
else
some (⟨a2, 0, 0, ⟨r1.1.op, r1.1.n, r1.1.args⟩, r2.1, ([] : List Stm)⟩, r2.2))) : Option (Stm × Int))
 (Ras a0 a1 a2) := by
 rewrite [← Qze]
 exact fun r h => fE Rpu p46500 h
theorem Rom (a0 : List (List UInt8)) (a1 : Int) : Tv.Le
 (bnd (Rae a0 a1 1) fun r1 =>
bnd (Ra a0 r1.2 [59]) fun r2 =>
(bif (!r2) then
some (⟨0, 0, []⟩, (-1))
else
some (⟨r1.1.op, r1.1.n, r1.1.args⟩, (wrap64 (r1.2 + 1)))) : Option (Exp × Int))
 (Rm a0 a1) := by
 rewrite [← Qze]
 exact fun r h => fE Rll p46600 h
theorem Rql (a0 : List UInt8) : Tv.Le
 (bnd (Rfp a0 0) fun r1 =>
selm r1 (fun y2 =>
some (-1)) (fun z3 =>
some z3) : Option (Int))
 (Rf a0) := by
 exact fun r h => fE Rbi p32500 h
theorem Rhk (t0 : List Int) (t3 : Int) : Tv.Le
 ((bif (decide (t3 < (t0.length : Int))) then
bnd (geti t0 t3) fun e1 =>
bnd (Rej e1 1 4) fun r2 =>
(bif (!r2) then
some (.inr (t0, false))
else
Rdo t0 (wrap64 (t3 + 1)))
else
some (.inl t0)) : Option (List Int ⊕ (List Int × Bool)))
 (Rdo t0 t3) := by
 rewrite [← Qze]
 exact fun r h => lE Rpm p23201 h
theorem Rml (a0 : List Stm) (a1 : Int) : Tv.Le
 (bnd (Rdz a0 a1 0) fun r1 =>
selm r1 (fun y2 =>
some true) (fun z3 =>
some z3) : Option (Bool))
 (Rab a0 a1) := by
 exact fun r h => fE Rk p6200 h
theorem Rnj (a0 : List Stm) : Tv.Le
 (bnd (Ren a0 0 0) fun r1 =>
some r1 : Option (Int))
 (Raw a0) := by
 exact fun r h => fE Rbi p4000 h
theorem Rhj (t0 : List Stm) (t1 : Int) (t5 : Int) : Tv.Le
 ((bif (decide (t5 < (t0.length : Int))) then
bnd (geti t0 t5) fun e1 =>
(bif (decide (e1.kind = 4)) then
(bif (decide (t1 ≤ e1.box)) then
some (.inr false)
else
bnd (Raa e1.body t1) fun r2 =>
(bif (!r2) then
some (.inr false)
else
bnd (Raa e1.els t1) fun r3 =>
(bif (!r3) then
some (.inr false)
else
Rcn t0 t1 (wrap64 (t5 + 1)))))
else
(bif (decide (e1.kind = 5)) then
(bif (decide (t1 ≤ e1.box)) then
some (.inr false)
else
bnd (Raa e1.body t1) fun r4 =>
(bif (!r4) then
some (.inr false)
else
bnd (Raa e1.els t1) fun r5 =>
(bif (!r5) then
some (.inr false)
else
Rcn t0 t1 (wrap64 (t5 + 1)))))
else
bnd (Raa e1.body t1) fun r6 =>
(bif (!r6) then
some (.inr false)
else
bnd (Raa e1.els t1) fun r7 =>
(bif (!r7) then
some (.inr false)
else
Rcn t0 t1 (wrap64 (t5 + 1))))))
else
some (.inl ())) : Option (Unit ⊕ Bool))
 (Rcn t0 t1 t5) := by
 rewrite [← Qze]
 exact fun r h => lE Rgs p23101 h
theorem Rda (t0 : List UInt8) (t5 : Int) (t9 : Int) (t10 : Int) : Tv.Le
 ((bif (decide (t5 < (t0.length : Int))) then
bnd (geti t0 t5) fun c1 =>
bnd (Rex (c1.toNat : Int)) fun r2 =>
(bif r2 then
Raj t0 (wrap64 (t5 + 1)) t9 t10
else
some (t0, t5, t9, t10))
else
some (t0, t5, t9, t10)) : Option (List UInt8 × Int × Int × Int))
 (Raj t0 t5 t9 t10) := by
 rewrite [← Qze]
 exact fun r h => lE Rrh p33302 h
theorem Rnb (a0 : Int) : Tv.Le
 ((bif (decide (97 ≤ a0)) then
some (decide (a0 ≤ 122))
else
some false) : Option (Bool))
 (Rio a0) := by
 exact fun r h => fE Rk p33200 h
theorem Rdb (t0 : List UInt8) (t5 : Int) (t9 : Int) (t10 : Int) : Tv.Le
 ((bif (decide (t5 < (t0.length : Int))) then
bnd (geti t0 t5) fun c1 =>
bnd (Rio (c1.toNat : Int)) fun r2 =>
(bif r2 then
Rak t0 (wrap64 (t5 + 1)) t9 t10
else
some (t0, t5, t9, t10))
else
some (t0, t5, t9, t10)) : Option (List UInt8 × Int × Int × Int))
 (Rak t0 t5 t9 t10) := by
 rewrite [← Qze]
 exact fun r h => lE Rrh p33302 h
theorem Rdq (t0 : List UInt8) (t9 : Int) (t10 : Int) : Tv.Le
 ((bif (decide (t10 < t9)) then
(bif (decide (t10 = 0)) then
bnd (Raj t0 0 t9 t10) fun r2 =>
(bif (decide (0 < r2.2.1)) then
some (.inr (r2.1, r2.2.1))
else
Rcb r2.1 r2.2.2.1 (wrap64 (r2.2.2.2 + 1)))
else
(bif (decide ((t10 - 1) = 0)) then
bnd (Rak t0 0 t9 t10) fun r3 =>
(bif (decide (0 < r3.2.1)) then
some (.inr (r3.1, r3.2.1))
else
Rcb r3.1 r3.2.2.1 (wrap64 (r3.2.2.2 + 1)))
else
none))
else
some (.inl t0)) : Option (List UInt8 ⊕ (List UInt8 × Int)))
 (Rcb t0 t9 t10) := by
 rewrite [← Qze]
 exact fun r h => lE Ruq p33301 h
theorem Rkd (a0 a1 : List UInt8) : Tv.Le (some (Lib.hasPrefix a0 a1) : Option (Bool)) (strings_HasPrefix a0 a1) := fun r h => by
 exact prim_le (F := Tb) (G := GT) (sg := fun _ => Rk) (g := 37500) (p := p37500) (x := r) (tv := [.str a0, .str a1]) (v := .bool r) (by kernel_rfl) rfl (prefix_pf h) rfl
theorem Rfq (t0 : List UInt8) (t31m : Md) (t31 : List (List UInt8)) (t32 : Int) (t33 : Int) : Tv.Le
 ((bif (decide (t33 < t32)) then
bnd (geti t31 t33) fun e1 =>
bnd (strings_HasPrefix t0 e1) fun r2 =>
(bif r2 then
some (.inr (t0, 2))
else
Rcc t0 t31m t31 t32 (wrap64 (t33 + 1)))
else
some (.inl t0)) : Option (List UInt8 ⊕ (List UInt8 × Int)))
 (Rcc t0 t31m t31 t32 t33) := by
 rewrite [← Qze]
 exact fun r h => lE Rur p33303 h
theorem Rke (a0 : List UInt8) (a1 : Int) : Tv.Le (some (Lib.indexByte a0 a1.toNat.toUInt8) : Option (Int)) (strings_IndexByte a0 a1) := fun r h => by
 exact prim_le (F := Tb) (G := GT) (sg := fun _ => Rbi) (g := 37600) (p := p37600) (x := r) (tv := [.str a0, .int .u8 a1]) (v := .int .i64 r) (by kernel_rfl) rfl (index_pf h) rfl
theorem Rco (a1 : Int) (a0tokens : List (List UInt8)) (a0at : Int) (a0failed : Bool) (A : List Ent) : Tv.Le
 (bnd (Rcq a0tokens a0at a0failed A) fun r1 =>
bnd (Rad a1 r1.2.1 r1.2.2.1 r1.2.2.2.1 0 0 (⟨none, 0⟩ : Hd) r1.1.op r1.1.n r1.1.args r1.2.2.2.2) fun r2 =>
some (⟨r2.2.2.2.2.2.2.1, r2.2.2.2.2.2.2.2.1, r2.2.2.2.2.2.2.2.2.1⟩, r2.1, r2.2.1, r2.2.2.1, r2.2.2.2.2.2.2.2.2.2) : Option (ExpH × List (List UInt8) × Int × Bool × List Ent))
 (Ri a1 a0tokens a0at a0failed A) := by
 exact fun r h => fE Rps p43800 h
theorem Rbe (a0tokens : List (List UInt8)) (a0at : Int) (a0failed : Bool) : Tv.Le
 (bnd (Rcl a0tokens a0at a0failed) fun r1 =>
(bif (!decide ((r1.1.length : Int) = 1)) then
some (0, r1.2.1, r1.2.2.1, true)
else
bnd (geti r1.1 0) fun c2 =>
(bif (decide ((c2.toNat : Int) < 97)) then
some (0, r1.2.1, r1.2.2.1, true)
else
bnd (geti r1.1 0) fun c3 =>
(bif (decide (101 ≤ (c3.toNat : Int))) then
some (0, r1.2.1, r1.2.2.1, true)
else
bnd (geti r1.1 0) fun c4 =>
some ((wrap64 ((((c4.toNat : Int) - 97) % 256))), r1.2.1, r1.2.2.1, r1.2.2.2)))) : Option (Int × List (List UInt8) × Int × Bool))
 (Re a0tokens a0at a0failed) := by
 rewrite [← Qze]
 exact fun r h => fE Rpq p34000 h
theorem Rgf (t0 : List Int) (t5 : List Int) (t6 : Int) (t7 : Int) : Tv.Le
 ((bif (decide (t7 < t6)) then
bnd (geti t5 t7) fun e1 =>
(bif (decide (e1 < 1)) then
some (.inr (t0, false))
else
(bif (decide (4 < e1)) then
some (.inr (t0, false))
else
Rcr t0 t5 t6 (wrap64 (t7 + 1))))
else
some (.inl t0)) : Option (List Int ⊕ (List Int × Bool)))
 (Rcr t0 t5 t6 t7) := by
 rewrite [← Qze]
 exact fun r h => lE Rpm p22701 h
theorem Rfe (a0 : List Stm) (a1 : Int) (a2 : Int) (a3 : Int) : Tv.Le
 ((bif (decide (16 < (wrap64 (a3 + (a0.length : Int))))) then
some (false, (wrap64 (a3 + (a0.length : Int))))
else
bnd (Rbq a0 a1 a2 (a0.length : Int) 0 (wrap64 (a3 + (a0.length : Int)))) fun r1 =>
selm r1 (fun y2 =>
some (true, y2)) (fun z3 =>
some (z3.1, z3.2))) : Option (Bool × Int))
 (Rbl a0 a1 a2 a3) := by
 rewrite [← Qze]
 exact fun r h => fE s5300 p5300 h
theorem Rot (a0 : Stm) (a1 : Stm) : Tv.Le
 ((bif (!decide (a0.kind = a1.kind)) then
some false
else
(bif (!decide (a0.var = a1.var)) then
some false
else
(bif (!decide (a0.box = a1.box)) then
some false
else
bnd (Rfu (⟨a0.e.op, a0.e.n, a0.e.args⟩ : Exp) (⟨a1.e.op, a1.e.n, a1.e.args⟩ : Exp)) fun r1 =>
(bif (!r1) then
some false
else
bnd (Rdf a0.body a1.body) fun r2 =>
(bif (!r2) then
some false
else
bnd (Rdf a0.els a1.els) fun r3 =>
(bif (!r3) then
some false
else
some true)))))) : Option (Bool))
 (Rgy a0 a1) := by
 exact fun r h => fE Rk p8200 h
theorem Rhp (t0 : List Stm) (t1 : List Stm) (t5 : Int) : Tv.Le
 ((bif (decide (t5 < (t0.length : Int))) then
bnd (geti t0 t5) fun e1 =>
bnd (geti t1 t5) fun e2 =>
bnd (Rgy (⟨e1.kind, e1.var, e1.box, ⟨e1.e.op, e1.e.n, e1.e.args⟩, e1.body, e1.els⟩ : Stm) (⟨e2.kind, e2.var, e2.box, ⟨e2.e.op, e2.e.n, e2.e.args⟩, e2.body, e2.els⟩ : Stm)) fun r3 =>
(bif (!r3) then
some (.inr false)
else
Rfg t0 t1 (wrap64 (t5 + 1)))
else
some (.inl ())) : Option (Unit ⊕ Bool))
 (Rfg t0 t1 t5) := by
 rewrite [← Qze]
 exact fun r h => lE Rgs p8301 h
theorem Rhc (a0 : Hd) (a1 : Int) (A : List Ent) : Tv.Le
 (bnd (Rdj a0 a1 0 A) fun r1 =>
some (r1.1, r1.2) : Option (Int × List Ent))
 (Rem a0 a1 A) := by
 exact fun r h => fE Rhf p41300 h
theorem Rfs (t0 : Hd) (t1 : Int) (t5 : Int) (b99 : List Ent) : Tv.Le
 ((bif (decide (t5 < ((t0.n : Nat) : Int))) then
bnd (idxN t0.n t5) fun i1 =>
bnd (Qlr b99 .stmH t0.id i1) fun e2 =>
bnd (idxN t0.n t5) fun i3 =>
bnd (Qlr (Qia b99 .stmH t0.id i1 (⟨t1, e2.var, e2.box, e2.eop, e2.en, e2.args, e2.body, e2.els⟩ : StmH)) .stmH t0.id i3) fun e4 =>
bnd (idxN t0.n t5) fun i5 =>
bnd (Qlr (Qia (Qia b99 .stmH t0.id i1 (⟨t1, e2.var, e2.box, e2.eop, e2.en, e2.args, e2.body, e2.els⟩ : StmH)) .stmH t0.id i3 (⟨e4.kind, (wrap64 (t1 + 1)), e4.box, e4.eop, e4.en, e4.args, e4.body, e4.els⟩ : StmH)) .stmH t0.id i5) fun e6 =>
bnd (idxN t0.n t5) fun i7 =>
bnd (Qlr (Qia (Qia (Qia b99 .stmH t0.id i1 (⟨t1, e2.var, e2.box, e2.eop, e2.en, e2.args, e2.body, e2.els⟩ : StmH)) .stmH t0.id i3 (⟨e4.kind, (wrap64 (t1 + 1)), e4.box, e4.eop, e4.en, e4.args, e4.body, e4.els⟩ : StmH)) .stmH t0.id i5 (⟨e6.kind, e6.var, (wrap64 ((wrap64 (t1 + 1)) + 1)), e6.eop, e6.en, e6.args, e6.body, e6.els⟩ : StmH)) .stmH t0.id i7) fun e8 =>
bnd (idxN t0.n t5) fun i9 =>
bnd (Qlr (Qia (Qia (Qia (Qia b99 .stmH t0.id i1 (⟨t1, e2.var, e2.box, e2.eop, e2.en, e2.args, e2.body, e2.els⟩ : StmH)) .stmH t0.id i3 (⟨e4.kind, (wrap64 (t1 + 1)), e4.box, e4.eop, e4.en, e4.args, e4.body, e4.els⟩ : StmH)) .stmH t0.id i5 (⟨e6.kind, e6.var, (wrap64 ((wrap64 (t1 + 1)) + 1)), e6.eop, e6.en, e6.args, e6.body, e6.els⟩ : StmH)) .stmH t0.id i7 (⟨e8.kind, e8.var, e8.box, (wrap64 ((wrap64 ((wrap64 (t1 + 1)) + 1)) + 1)), e8.en, e8.args, e8.body, e8.els⟩ : StmH)) .stmH t0.id i9) fun e10 =>
bnd (idxN t0.n t5) fun i11 =>
bnd (Qlr (Qia (Qia (Qia (Qia (Qia b99 .stmH t0.id i1 (⟨t1, e2.var, e2.box, e2.eop, e2.en, e2.args, e2.body, e2.els⟩ : StmH)) .stmH t0.id i3 (⟨e4.kind, (wrap64 (t1 + 1)), e4.box, e4.eop, e4.en, e4.args, e4.body, e4.els⟩ : StmH)) .stmH t0.id i5 (⟨e6.kind, e6.var, (wrap64 ((wrap64 (t1 + 1)) + 1)), e6.eop, e6.en, e6.args, e6.body, e6.els⟩ : StmH)) .stmH t0.id i7 (⟨e8.kind, e8.var, e8.box, (wrap64 ((wrap64 ((wrap64 (t1 + 1)) + 1)) + 1)), e8.en, e8.args, e8.body, e8.els⟩ : StmH)) .stmH t0.id i9 (⟨e10.kind, e10.var, e10.box, e10.eop, (wrap64 ((wrap64 ((wrap64 ((wrap64 (t1 + 1)) + 1)) + 1)) + 1)), e10.args, e10.body, e10.els⟩ : StmH)) .stmH t0.id i11) fun e12 =>
bnd (Rem e12.args (wrap64 ((wrap64 ((wrap64 ((wrap64 ((wrap64 (t1 + 1)) + 1)) + 1)) + 1)) + 1)) (Qia (Qia (Qia (Qia (Qia b99 .stmH t0.id i1 (⟨t1, e2.var, e2.box, e2.eop, e2.en, e2.args, e2.body, e2.els⟩ : StmH)) .stmH t0.id i3 (⟨e4.kind, (wrap64 (t1 + 1)), e4.box, e4.eop, e4.en, e4.args, e4.body, e4.els⟩ : StmH)) .stmH t0.id i5 (⟨e6.kind, e6.var, (wrap64 ((wrap64 (t1 + 1)) + 1)), e6.eop, e6.en, e6.args, e6.body, e6.els⟩ : StmH)) .stmH t0.id i7 (⟨e8.kind, e8.var, e8.box, (wrap64 ((wrap64 ((wrap64 (t1 + 1)) + 1)) + 1)), e8.en, e8.args, e8.body, e8.els⟩ : StmH)) .stmH t0.id i9 (⟨e10.kind, e10.var, e10.box, e10.eop, (wrap64 ((wrap64 ((wrap64 ((wrap64 (t1 + 1)) + 1)) + 1)) + 1)), e10.args, e10.body, e10.els⟩ : StmH))) fun r13 =>
bnd (idxN t0.n t5) fun i14 =>
bnd (Qlr r13.2 .stmH t0.id i14) fun e15 =>
bnd (Rdn e15.body r13.1 r13.2) fun r16 =>
bnd (idxN t0.n t5) fun i17 =>
bnd (Qlr r16.2 .stmH t0.id i17) fun e18 =>
bnd (Rdn e18.els r16.1 r16.2) fun r19 =>
Rdk t0 r19.1 (wrap64 (t5 + 1)) r19.2
else
some (t1, b99)) : Option (Int × List Ent))
 (Rdk t0 t1 t5 b99) := by
 rewrite [← Qze]
 exact fun r h => lE Rja p40901 h
end Go.TFnExactProgramFrom