import Derived.Test.YthmemaednlaanaaGreatDoorDFnSourceBackP
import Derived.KernelRfl
set_option linter.unusedVariables false
namespace Go.TFnSourceBack
open Go Go.RowKit Go.Vs Go.Tv
theorem Ree (t3 : Int) (b100_0 : List Int) (b100_1 : List (List Stm)) : Tv.Le
 ((bif (decide (t3 < (b100_1.length : Int))) then
bnd (geti b100_1 t3) fun e1 =>
bnd (Rgo e1) fun r2 =>
(bif (!r2) then
some (.inr false)
else
bnd (geti b100_1 t3) fun e3 =>
bnd (Ro e3 (b100_0.length : Int)) fun r4 =>
(bif (!r4) then
some (.inr false)
else
Ray (wrap64 (t3 + 1)) b100_0 b100_1))
else
some (.inl ())) : Option (Unit ⊕ Bool))
 (Ray t3 b100_0 b100_1) := by
 rewrite [← Qze]
 exact fun r h => lE Rfx p23301 h
theorem Rpf (a0 : Stm) : Tv.Le
 ((bif (decide (a0.kind = 1)) then
bnd (Reu a0.var) fun r1 =>
bnd (Rfg ([r1, [61]] : List (List UInt8)) (⟨a0.e.op, a0.e.n, a0.e.args⟩ : Exp)) fun r2 =>
some r2
else
(bif (decide (a0.kind = 4)) then
bnd (Rcs a0.box) fun r3 =>
bnd (Rfg ([[115, 101, 110, 100], r3] : List (List UInt8)) (⟨a0.e.op, a0.e.n, a0.e.args⟩ : Exp)) fun r4 =>
some r4
else
(bif (decide (a0.kind = 7)) then
bnd (Rfg ([[112, 114, 105, 110, 116]] : List (List UInt8)) (⟨a0.e.op, a0.e.n, a0.e.args⟩ : Exp)) fun r5 =>
some r5
else
(bif (decide (a0.kind = 5)) then
bnd (Rcs a0.box) fun r6 =>
bnd (Reu a0.var) fun r7 =>
some ([[114, 101, 99, 118], r6, r7, [59]] : List (List UInt8))
else
(bif (decide (a0.kind = 6)) then
some ([[121, 105, 101, 108, 100], [59]] : List (List UInt8))
else
(bif (decide (a0.kind = 3)) then
bnd (Rby (⟨a0.e.op, a0.e.n, a0.e.args⟩ : Exp)) fun r8 =>
bnd (appL ([[119, 104, 105, 108, 101]] : List (List UInt8)) r8) fun l9 =>
bnd (Rbx a0.body) fun r10 =>
bnd (appL l9 r10) fun l11 =>
some l11
else
bnd (Rby (⟨a0.e.op, a0.e.n, a0.e.args⟩ : Exp)) fun r12 =>
bnd (appL ([[105, 102]] : List (List UInt8)) r12) fun l13 =>
bnd (Rbx a0.body) fun r14 =>
bnd (appL l13 r14) fun l15 =>
(bif (decide ((a0.els.length : Int) = 0)) then
some l15
else
bnd (appL l15 ([[101, 108, 115, 101]] : List (List UInt8))) fun l16 =>
bnd (Rbx a0.els) fun r17 =>
bnd (appL l16 r17) fun l18 =>
some l18))))))) : Option (List (List UInt8)))
 (Rde a0) := by
 exact fun r h => fE Rcf p46400 h
theorem Rgu (t0 : List Stm) (t3b : Bool) (t3 : List (List UInt8)) (t4 : Int) : Tv.Le
 ((bif (decide (t4 < (t0.length : Int))) then
bnd (geti t0 t4) fun e1 =>
bnd (Rde (⟨e1.kind, e1.var, e1.box, ⟨e1.e.op, e1.e.n, e1.e.args⟩, e1.body, e1.els⟩ : Stm)) fun r2 =>
bnd (appL t3 r2) fun l3 =>
Rcr t0 true l3 (wrap64 (t4 + 1))
else
some (t3b, t3)) : Option ((Bool × List (List UInt8))))
 (Rcr t0 t3b t3 t4) := by
 rewrite [← Qze]
 exact fun r h => lE Rwi p45901 h
theorem Rlh (a0 : List UInt8) : Tv.Le
 ((bif (!(a0 == [])) then
bnd (Rgc a0 0) fun r1 =>
some (decide (r1 = (a0.length : Int)))
else
some false) : Option (Bool))
 (Rgp a0) := by
 exact fun r h => fE Rh p34900 h
theorem Rdd (t0 : List (List UInt8)) (t3 : List UInt8) (t4 : Int) : Tv.Le
 ((bif (decide (t4 < (t0.length : Int))) then
bnd (geti t0 t4) fun e1 =>
bnd (Rgp e1) fun r2 =>
(bif (!r2) then
some (.inr ([], t3))
else
(bif (decide (0 < t4)) then
bnd (catS t3 [32]) fun s3 =>
bnd (geti t0 t4) fun e4 =>
bnd (catS s3 e4) fun s5 =>
Rau t0 s5 (wrap64 (t4 + 1))
else
bnd (geti t0 t4) fun e6 =>
bnd (catS t3 e6) fun s7 =>
Rau t0 s7 (wrap64 (t4 + 1))))
else
some (.inl t3)) : Option (List UInt8 ⊕ (List UInt8 × List UInt8)))
 (Rau t0 t3 t4) := by
 rewrite [← Qze]
 exact fun r h => lE Rvu p35001 h
theorem Rjz (a0 : List UInt8) : Tv.Le
 (bnd (Rbf a0 (([33100, 33200] : List Nat).length : Int) 0) fun r1 =>
selm r1 (fun y2 =>
bnd (Rbg y2 .full ([[61, 61], [60, 60], [62, 62]] : List (List UInt8)) (([[61, 61], [60, 60], [62, 62]] : List (List UInt8)).length : Int) 0) fun r4 =>
selm r4 (fun y5 =>
(bif (!(y5 == [])) then
bnd (geti y5 0) fun c7 =>
bnd (strings_IndexByte ([124, 94, 38, 60, 43, 45, 42, 47, 37, 40, 41, 123, 125, 61, 59]) (c7.toNat : Int)) fun r8 =>
(bif (decide (0 ≤ r8)) then
some 1
else
some 0)
else
some 0)) (fun z6 =>
some z6.2)) (fun z3 =>
some z3.2) : Option (Int))
 (Rco a0) := by
 exact fun r h => fE Rdz p33300 h
theorem Rdf (t0 : List UInt8) (t4b : Bool) (t4 : List (List UInt8)) (t5 : Int) : Tv.Le
 ((bif (decide (t5 < (t0.length : Int))) then
bnd (geti t0 t5) fun c1 =>
(bif (decide ((c1.toNat : Int) = 32)) then
Rs t0 t4b t4 (wrap64 (t5 + 1))
else
bnd (geti t0 t5) fun c2 =>
(bif (decide ((c2.toNat : Int) = 10)) then
Rs t0 t4b t4 (wrap64 (t5 + 1))
else
bnd (cutL t0 t5 (t0.length : Int)) fun s3 =>
bnd (Rco s3) fun r4 =>
(bif (decide (r4 = 0)) then
some (.inr ((false, []), false, (t4b, t4)))
else
bnd (cutL t0 t5 (wrap64 (t5 + r4))) fun s5 =>
bnd (appL t4 ([s5] : List (List UInt8))) fun l6 =>
Rs t0 true l6 (wrap64 (t5 + r4)))))
else
some (.inl (t4b, t4))) : Option (((Bool × List (List UInt8))) ⊕ ((Bool × List (List UInt8)) × Bool × (Bool × List (List UInt8)))))
 (Rs t0 t4b t4 t5) := by
 rewrite [← Qze]
 exact fun r h => lE Rvp p33401 h
theorem Rds (a0tokens : List (List UInt8)) (a0at : Int) (a0failed : Bool) : Tv.Le
 ((bif (decide (a0at < (a0tokens.length : Int))) then
(bif (!a0failed) then
bnd (geti a0tokens a0at) fun e1 =>
some (e1, a0tokens, a0at, a0failed)
else
some ([], a0tokens, a0at, a0failed))
else
some ([], a0tokens, a0at, a0failed)) : Option (List UInt8 × List (List UInt8) × Int × Bool))
 (Ral a0tokens a0at a0failed) := by
 exact fun r h => fE Rqn p33500 h
theorem Rdt (a0tokens : List (List UInt8)) (a0at : Int) (a0failed : Bool) : Tv.Le
 (bnd (Ral a0tokens a0at a0failed) fun r1 =>
(bif (r1.1 == []) then
some (r1.1, r1.2.1, (wrap64 (r1.2.2.1 + 1)), true)
else
some (r1.1, r1.2.1, (wrap64 (r1.2.2.1 + 1)), r1.2.2.2)) : Option (List UInt8 × List (List UInt8) × Int × Bool))
 (Rbo a0tokens a0at a0failed) := by
 rewrite [← Qze]
 exact fun r h => fE Rqn p33800 h
theorem Ror (a0 : Int) : Tv.Le
 ((bif (decide (48 ≤ a0)) then
some (decide (a0 ≤ 57))
else
some false) : Option (Bool))
 (Rfa a0) := by
 exact fun r h => fE Rh p33100 h
theorem Rpl (a0 : List UInt8) : Tv.Le (if a0.length ≤ 18 then Lib.atoi a0 else none : Option (Int)) (strconv_Atoi a0) := fun r h => by
 exact prim_le (F := Tb) (G := GT) (sg := fun _ => Rvw) (g := 37700) (p := p37700) (x := r) (tv := [.str a0]) (v := .tup [.int .i64 r, .undef]) (by kernel_rfl) rfl (atoi_pf h) rfl
theorem Rr (a0tokens : List (List UInt8)) (a0at : Int) (a0failed : Bool) : Tv.Le
 (bnd (Rb ([105, 102]) a0tokens a0at a0failed) fun r1 =>
(bif r1.1 then
bnd (Rc 1 r1.2.1 r1.2.2.1 r1.2.2.2) fun r2 =>
bnd (Rai r2.2.1 r2.2.2.1 r2.2.2.2) fun r3 =>
bnd (Rb ([101, 108, 115, 101]) r3.2.1 r3.2.2.1 r3.2.2.2) fun r4 =>
(bif r4.1 then
bnd (Rai r4.2.1 r4.2.2.1 r4.2.2.2) fun r5 =>
some (⟨2, 0, 0, ⟨r2.1.op, r2.1.n, r2.1.args⟩, r3.1, r5.1⟩, r5.2.1, r5.2.2.1, r5.2.2.2)
else
some (⟨2, 0, 0, ⟨r2.1.op, r2.1.n, r2.1.args⟩, r3.1, []⟩, r4.2.1, r4.2.2.1, r4.2.2.2))
else
bnd (Rb ([119, 104, 105, 108, 101]) r1.2.1 r1.2.2.1 r1.2.2.2) fun r6 =>
(bif r6.1 then
bnd (Rc 1 r6.2.1 r6.2.2.1 r6.2.2.2) fun r7 =>
bnd (Rai r7.2.1 r7.2.2.1 r7.2.2.2) fun r8 =>
some (⟨3, 0, 0, ⟨r7.1.op, r7.1.n, r7.1.args⟩, r8.1, []⟩, r8.2.1, r8.2.2.1, r8.2.2.2)
else
bnd (Rb ([115, 101, 110, 100]) r6.2.1 r6.2.2.1 r6.2.2.2) fun r9 =>
(bif r9.1 then
bnd (Ru r9.2.1 r9.2.2.1 r9.2.2.2) fun r10 =>
bnd (Rc 1 r10.2.1 r10.2.2.1 r10.2.2.2) fun r11 =>
bnd (Re [59] r11.2.1 r11.2.2.1 r11.2.2.2) fun r12 =>
some (⟨4, 0, r10.1, ⟨r11.1.op, r11.1.n, r11.1.args⟩, [], []⟩, r12.1, r12.2.1, r12.2.2)
else
bnd (Rb ([114, 101, 99, 118]) r9.2.1 r9.2.2.1 r9.2.2.2) fun r13 =>
(bif r13.1 then
bnd (Ru r13.2.1 r13.2.2.1 r13.2.2.2) fun r14 =>
bnd (Rg r14.2.1 r14.2.2.1 r14.2.2.2) fun r15 =>
bnd (Re [59] r15.2.1 r15.2.2.1 r15.2.2.2) fun r16 =>
some (⟨5, r15.1, r14.1, ⟨0, 0, []⟩, [], []⟩, r16.1, r16.2.1, r16.2.2)
else
bnd (Rb ([121, 105, 101, 108, 100]) r13.2.1 r13.2.2.1 r13.2.2.2) fun r17 =>
(bif r17.1 then
bnd (Re [59] r17.2.1 r17.2.2.1 r17.2.2.2) fun r18 =>
some (⟨6, 0, 0, ⟨0, 0, []⟩, [], []⟩, r18.1, r18.2.1, r18.2.2)
else
bnd (Rb ([112, 114, 105, 110, 116]) r17.2.1 r17.2.2.1 r17.2.2.2) fun r19 =>
(bif r19.1 then
bnd (Rc 1 r19.2.1 r19.2.2.1 r19.2.2.2) fun r20 =>
bnd (Re [59] r20.2.1 r20.2.2.1 r20.2.2.2) fun r21 =>
some (⟨7, 0, 0, ⟨r20.1.op, r20.1.n, r20.1.args⟩, [], []⟩, r21.1, r21.2.1, r21.2.2)
else
bnd (Rg r19.2.1 r19.2.2.1 r19.2.2.2) fun r22 =>
bnd (Re [61] r22.2.1 r22.2.2.1 r22.2.2.2) fun r23 =>
bnd (Rc 1 r23.1 r23.2.1 r23.2.2) fun r24 =>
bnd (Re [59] r24.2.1 r24.2.2.1 r24.2.2.2) fun r25 =>
some (⟨1, r22.1, 0, ⟨r24.1.op, r24.1.n, r24.1.args⟩, [], []⟩, r25.1, r25.2.1, r25.2.2))))))) : Option (Stm × List (List UInt8) × Int × Bool))
 (Rbn a0tokens a0at a0failed) := by
 exact fun r h => fE Rwj p46100 h
theorem Raj (t3b : Bool) (t3 : List Stm) (b0_0 : List (List UInt8)) (b0_1 : Int) (b0_2 : Bool) : Tv.Le
 ((bif (!b0_2) then
bnd (Rb [125] b0_0 b0_1 b0_2) fun r1 =>
(bif (!r1.1) then
bnd (Rbn r1.2.1 r1.2.2.1 r1.2.2.2) fun r2 =>
bnd (appL t3 ([⟨r2.1.kind, r2.1.var, r2.1.box, ⟨r2.1.e.op, r2.1.e.n, r2.1.e.args⟩, r2.1.body, r2.1.els⟩] : List Stm)) fun l3 =>
Rt true l3 r2.2.1 r2.2.2.1 r2.2.2.2
else
some ((t3b, t3), r1.2.1, r1.2.2.1, r1.2.2.2))
else
some ((t3b, t3), b0_0, b0_1, b0_2)) : Option ((Bool × List Stm) × List (List UInt8) × Int × Bool))
 (Rt t3b t3 b0_0 b0_1 b0_2) := by
 exact fun r h => lE Rwg p45501 h
theorem Rgm (t0 : List Int) (t1 : List Int) (t5 : Int) : Tv.Le
 ((bif (decide (t5 < (t0.length : Int))) then
bnd (geti t0 t5) fun e1 =>
bnd (geti t1 t5) fun e2 =>
(bif (!decide (e1 = e2)) then
some (.inr false)
else
Rdo t0 t1 (wrap64 (t5 + 1)))
else
some (.inl ())) : Option (Unit ⊕ Bool))
 (Rdo t0 t1 t5) := by
 rewrite [← Qze]
 exact fun r h => lE Rfx p9701 h
theorem Rnp (a0 : Exp) (a1 : Exp) : Tv.Le
 ((bif (!decide (a0.op = a1.op)) then
some false
else
(bif (!decide (a0.n = a1.n)) then
some false
else
(bif (!decide ((a0.args.length : Int) = (a1.args.length : Int))) then
some false
else
bnd (Rcp 0 a0.op a0.n a0.args a1.op a1.n a1.args) fun r1 =>
selm r1 (fun y2 =>
some true) (fun z3 =>
some z3)))) : Option (Bool))
 (Rbv a0 a1) := by
 exact fun r h => fE Rh p9800 h
theorem Rft (t0 : List Stm) (t1 : List Stm) (t5 : Int) : Tv.Le
 ((bif (decide (t5 < (t0.length : Int))) then
bnd (geti t0 t5) fun e1 =>
bnd (geti t1 t5) fun e2 =>
(bif (!decide (e1.kind = e2.kind)) then
some (.inr false)
else
(bif (!decide (e1.var = e2.var)) then
some (.inr false)
else
(bif (!decide (e1.box = e2.box)) then
some (.inr false)
else
bnd (Rbv (⟨e1.e.op, e1.e.n, e1.e.args⟩ : Exp) (⟨e2.e.op, e2.e.n, e2.e.args⟩ : Exp)) fun r3 =>
(bif (!r3) then
some (.inr false)
else
bnd (Raa e1.body e2.body) fun r4 =>
(bif (!r4) then
some (.inr false)
else
bnd (Raa e1.els e2.els) fun r5 =>
(bif (!r5) then
some (.inr false)
else
Rce t0 t1 (wrap64 (t5 + 1))))))))
else
some (.inl ())) : Option (Unit ⊕ Bool))
 (Rce t0 t1 t5) := by
 rewrite [← Qze]
 exact fun r h => lE Rfx p9901 h
theorem Rlp (a0b : List Int) (a0p : Int) (A : List Ent) : Tv.Le
 (bnd (Ra 6 a0b a0p) fun r1 =>
bnd (geti ([0, 1, 1, 2, 2, 3] : List Int) r1.1) fun e2 =>
bnd (Rcy (⟨(some (List.length A)), 0⟩ : Hd) e2 0 r1.2.1 r1.2.2 (Qao A .int ([] : List Int))) fun r3 =>
some (r3.1, r3.2.1, r3.2.2.1, r3.2.2.2) : Option (Hd × List Int × Int × List Ent))
 (Rha a0b a0p A) := by
 exact fun r h => fE Rvz p40200 h
theorem Rlq (a1 : Int) (a0b : List Int) (a0p : Int) (A : List Ent) : Tv.Le
 (bnd (Ra 6 a0b a0p) fun r1 =>
bnd (Rgy a1 3 (wrap64 (1 + r1.1)) true r1.2.1 r1.2.2 A) fun r2 =>
bnd (Rcz r2.1 r2.2.1 r2.2.2.1 r2.2.2.2) fun r3 =>
some (r3.1, r3.2.1, r3.2.2.1, r3.2.2.2) : Option (Hd × List Int × Int × List Ent))
 (Rhc a1 a0b a0p A) := by
 rewrite [← Qze]
 exact fun r h => fE Rqq p38000 h
theorem Reh (t4 : Int) (t5 : Int) (b0_0 : List Int) (b0_1 : Int) (b100_0 : Hd) (b100_1 : Hd) (b101_0 : Hd) (b101_1 : Hd) (b99 : List Ent) : Tv.Le
 ((bif (decide (t5 < t4)) then
bnd (Rhc ((b101_0.n : Nat) : Int) b0_0 b0_1 b99) fun r1 =>
bnd (Qju r1.2.2.2 .stmsH b101_1.id b101_1.n ([r1.1] : List Hd)) fun B2 =>
Rca t4 (wrap64 (t5 + 1)) r1.2.1 r1.2.2.1 b100_0 b100_1 b101_0 (⟨(some (List.length r1.2.2.2)), (b101_1.n + List.length ([r1.1] : List Hd))⟩ : Hd) B2
else
some (b0_0, b0_1, b100_0, b100_1, b101_0, b101_1, b99)) : Option (List Int × Int × Hd × Hd × Hd × Hd × List Ent))
 (Rca t4 t5 b0_0 b0_1 b100_0 b100_1 b101_0 b101_1 b99) := by
 rewrite [← Qze]
 exact fun r h => lE Rvy p39901 h
theorem Rlo (a0b : List Int) (a0p : Int) : Tv.Le
 (bnd (Rbl 0 1) fun r1 =>
bnd (Ra 2 a0b a0p) fun r2 =>
bnd (Rcm 0 1 r2.1 false r2.2.1 r2.2.2) fun r3 =>
some (⟨3, 0, 0, ⟨r1.1, r1.2.1, r1.2.2.2⟩, r3.1, []⟩, r3.2.1, r3.2.2) : Option (Stm × List Int × Int))
 (Rgz a0b a0p) := by
 exact fun r h => fE Rnr p8700 h
theorem Rpz (a0 : Int) (a1 : Int) : Tv.Le
 (some (a0, a1, ((.own false), ([] : List Exp))) : Option (Int × Int × (Md × List Exp)))
 (Rbl a0 a1) := by
 exact fun r h => fE s300 p300 h
theorem Rfb (t0 : List Int) (t5 : List Int) (t6 : Int) (t7 : Int) : Tv.Le
 ((bif (decide (t7 < t6)) then
bnd (geti t5 t7) fun e1 =>
(bif (decide (e1 < 1)) then
some (.inr (t0, false))
else
(bif (decide (4 < e1)) then
some (.inr (t0, false))
else
Rbu t0 t5 t6 (wrap64 (t7 + 1))))
else
some (.inl t0)) : Option (List Int ⊕ (List Int × Bool)))
 (Rbu t0 t5 t6 t7) := by
 rewrite [← Qze]
 exact fun r h => lE Rqm p22701 h
theorem Rec (a0 : List Stm) (a1 : Int) (a2 : Int) (a3 : Int) : Tv.Le
 ((bif (decide (16 < (wrap64 (a3 + (a0.length : Int))))) then
some (false, (wrap64 (a3 + (a0.length : Int))))
else
bnd (Rat a0 a1 a2 (a0.length : Int) 0 (wrap64 (a3 + (a0.length : Int)))) fun r1 =>
selm r1 (fun y2 =>
some (true, y2)) (fun z3 =>
some (z3.1, z3.2))) : Option (Bool × Int))
 (Rar a0 a1 a2 a3) := by
 rewrite [← Qze]
 exact fun r h => fE s5300 p5300 h
theorem Rot (a0 : Int) : Tv.Le
 (bnd (rune (wrap32 ((wrap64 (97 + a0))))) fun s1 =>
some s1 : Option (List UInt8))
 (Rfc a0) := by
 rewrite [← Qze]
 exact fun r h => fE Rax p36400 h
theorem Rks (a0 : Exp) (a1 : List (List UInt8)) : Tv.Le
 ((bif (decide (a0.op = 0)) then
bnd (strconv_Itoa a0.n) fun r1 =>
bnd (appL a1 ([r1] : List (List UInt8))) fun l2 =>
some l2
else
(bif (decide (a0.op = 13)) then
bnd (Rfc a0.n) fun r3 =>
bnd (appL a1 ([r3] : List (List UInt8))) fun l4 =>
some l4
else
bnd (Rbr a0.op) fun r5 =>
bnd (geti a0.args 0) fun e6 =>
bnd (Rcw (⟨e6.op, e6.n, e6.args⟩ : Exp) r5 a1) fun r7 =>
bnd (Rjs a0.op) fun r8 =>
bnd (appL r7 ([r8] : List (List UInt8))) fun l9 =>
bnd (geti a0.args 1) fun e10 =>
bnd (Rcw (⟨e10.op, e10.n, e10.args⟩ : Exp) (wrap64 (r5 + 1)) l9) fun r11 =>
some r11)) : Option (List (List UInt8)))
 (Rm a0 a1) := by
 rewrite [← Qze]
 exact fun r h => fE Rcf p36600 h
theorem Rgt (t0 : List Int) (t3 : Int) : Tv.Le
 ((bif (decide (t3 < (t0.length : Int))) then
bnd (geti t0 t3) fun e1 =>
bnd (Reg e1 1 4) fun r2 =>
(bif (!r2) then
some (.inr (t0, false))
else
Rcq t0 (wrap64 (t3 + 1)))
else
some (.inl t0)) : Option (List Int ⊕ (List Int × Bool)))
 (Rcq t0 t3) := by
 rewrite [← Qze]
 exact fun r h => lE Rqm p23201 h
theorem Rmp (a0 : List Stm) (a1 : Int) : Tv.Le
 (bnd (Rdg a0 a1 0) fun r1 =>
selm r1 (fun y2 =>
some true) (fun z3 =>
some z3) : Option (Bool))
 (Rp a0 a1) := by
 exact fun r h => fE Rh p6200 h
theorem Rns (a0 : List Stm) : Tv.Le
 (bnd (Rdp a0 0 0) fun r1 =>
some r1 : Option (Int))
 (Rab a0) := by
 exact fun r h => fE Rdz p4000 h
theorem Rgs (t0 : List Stm) (t1 : Int) (t5 : Int) : Tv.Le
 ((bif (decide (t5 < (t0.length : Int))) then
bnd (geti t0 t5) fun e1 =>
(bif (decide (e1.kind = 4)) then
(bif (decide (t1 ≤ e1.box)) then
some (.inr false)
else
bnd (Ro e1.body t1) fun r2 =>
(bif (!r2) then
some (.inr false)
else
bnd (Ro e1.els t1) fun r3 =>
(bif (!r3) then
some (.inr false)
else
Rbq t0 t1 (wrap64 (t5 + 1)))))
else
(bif (decide (e1.kind = 5)) then
(bif (decide (t1 ≤ e1.box)) then
some (.inr false)
else
bnd (Ro e1.body t1) fun r4 =>
(bif (!r4) then
some (.inr false)
else
bnd (Ro e1.els t1) fun r5 =>
(bif (!r5) then
some (.inr false)
else
Rbq t0 t1 (wrap64 (t5 + 1)))))
else
bnd (Ro e1.body t1) fun r6 =>
(bif (!r6) then
some (.inr false)
else
bnd (Ro e1.els t1) fun r7 =>
(bif (!r7) then
some (.inr false)
else
Rbq t0 t1 (wrap64 (t5 + 1))))))
else
some (.inl ())) : Option (Unit ⊕ Bool))
 (Rbq t0 t1 t5) := by
 rewrite [← Qze]
 exact fun r h => lE Rfx p23101 h
theorem Rqa (a0 : Int) : Tv.Le
 (some (Tv.bytes ([(((wrap64 (97 + a0))) % 256)] : List Int)) : Option (List UInt8))
 (Reu a0) := by
 rewrite [← Qze]
 exact fun r h => fE Rax p32400 h
theorem Rpe (a0 : List (List UInt8)) (a1 : Exp) : Tv.Le
 (bnd (Rby (⟨a1.op, a1.n, a1.args⟩ : Exp)) fun r1 =>
bnd (appL a0 r1) fun l2 =>
bnd (appL l2 ([[59]] : List (List UInt8))) fun l3 =>
some l3 : Option (List (List UInt8)))
 (Rfg a0 a1) := by
 exact fun r h => fE Rcf p46700 h
theorem Roa (a0 : Exp) : Tv.Le
 ((bif (decide (a0.op = 0)) then
bnd (Rcs a0.n) fun r1 =>
some ([r1] : List (List UInt8))
else
(bif (decide (a0.op = 13)) then
bnd (Reu a0.n) fun r2 =>
some ([r2] : List (List UInt8))
else
bnd (Rfe a0.op) fun r3 =>
bnd (geti a0.args 0) fun e4 =>
bnd (Rby (⟨e4.op, e4.n, e4.args⟩ : Exp)) fun r5 =>
bnd (geti a0.args 0) fun e6 =>
bnd (Rhi (⟨e6.op, e6.n, e6.args⟩ : Exp)) fun r7 =>
bnd (Rii r5 (decide (r7 < r3))) fun r8 =>
bnd (Rke a0.op) fun r9 =>
bnd (appL r8 ([r9] : List (List UInt8))) fun l10 =>
bnd (geti a0.args 1) fun e11 =>
bnd (Rby (⟨e11.op, e11.n, e11.args⟩ : Exp)) fun r12 =>
bnd (geti a0.args 1) fun e13 =>
bnd (Rhi (⟨e13.op, e13.n, e13.args⟩ : Exp)) fun r14 =>
bnd (Rii r12 (decide (r14 ≤ r3))) fun r15 =>
bnd (appL l10 r15) fun l16 =>
some l16)) : Option (List (List UInt8)))
 (Rby a0) := by
 exact fun r h => fE Rcf p35300 h
theorem Rfz (a0 : List UInt8) (a1 : Int) : Tv.Le
 (bnd (geti a0 a1) fun c1 =>
bnd (Rgv (c1.toNat : Int)) fun r2 =>
(bif (decide (r2 = 1)) then
bnd (Rhw a0 a1) fun r3 =>
some r3
else
(bif (decide (r2 = 2)) then
bnd (Rhw a0 a1) fun r4 =>
some r4
else
(bif (!decide (r2 = 4)) then
some (-1)
else
(bif (decide ((wrap64 (a1 + 2)) ≤ (a0.length : Int))) then
bnd (cutL a0 a1 (wrap64 (a1 + 2))) fun s5 =>
bnd (Rmr s5) fun r6 =>
(bif r6 then
some (wrap64 (a1 + 2))
else
bnd (geti a0 a1) fun c7 =>
(bif (decide ((c7.toNat : Int) = 62)) then
some (-1)
else
some (wrap64 (a1 + 1))))
else
bnd (geti a0 a1) fun c8 =>
(bif (decide ((c8.toNat : Int) = 62)) then
some (-1)
else
some (wrap64 (a1 + 1))))))) : Option (Int))
 (Rgc a0 a1) := by
 rewrite [← Qze]
 exact fun r h => fE Rdz p32100 h
theorem Rcc (t0 : List UInt8) (t5 : Int) (t9 : Int) (t10 : Int) : Tv.Le
 ((bif (decide (t5 < (t0.length : Int))) then
bnd (geti t0 t5) fun c1 =>
bnd (Rfa (c1.toNat : Int)) fun r2 =>
(bif r2 then
Rv t0 (wrap64 (t5 + 1)) t9 t10
else
some (t0, t5, t9, t10))
else
some (t0, t5, t9, t10)) : Option (List UInt8 × Int × Int × Int))
 (Rv t0 t5 t9 t10) := by
 rewrite [← Qze]
 exact fun r h => lE Rsj p33302 h
theorem Rno (a0 : Int) : Tv.Le
 ((bif (decide (97 ≤ a0)) then
some (decide (a0 ≤ 122))
else
some false) : Option (Bool))
 (Rhz a0) := by
 exact fun r h => fE Rh p33200 h
theorem Rcd (t0 : List UInt8) (t5 : Int) (t9 : Int) (t10 : Int) : Tv.Le
 ((bif (decide (t5 < (t0.length : Int))) then
bnd (geti t0 t5) fun c1 =>
bnd (Rhz (c1.toNat : Int)) fun r2 =>
(bif r2 then
Rw t0 (wrap64 (t5 + 1)) t9 t10
else
some (t0, t5, t9, t10))
else
some (t0, t5, t9, t10)) : Option (List UInt8 × Int × Int × Int))
 (Rw t0 t5 t9 t10) := by
 rewrite [← Qze]
 exact fun r h => lE Rsj p33302 h
theorem Rct (t0 : List UInt8) (t9 : Int) (t10 : Int) : Tv.Le
 ((bif (decide (t10 < t9)) then
(bif (decide (t10 = 0)) then
bnd (Rv t0 0 t9 t10) fun r2 =>
(bif (decide (0 < r2.2.1)) then
some (.inr (r2.1, r2.2.1))
else
Rbf r2.1 r2.2.2.1 (wrap64 (r2.2.2.2 + 1)))
else
(bif (decide ((t10 - 1) = 0)) then
bnd (Rw t0 0 t9 t10) fun r3 =>
(bif (decide (0 < r3.2.1)) then
some (.inr (r3.1, r3.2.1))
else
Rbf r3.1 r3.2.2.1 (wrap64 (r3.2.2.2 + 1)))
else
none))
else
some (.inl t0)) : Option (List UInt8 ⊕ (List UInt8 × Int)))
 (Rbf t0 t9 t10) := by
 rewrite [← Qze]
 exact fun r h => lE Rvm p33301 h
theorem Rjm (a0 a1 : List UInt8) : Tv.Le (some (Lib.hasPrefix a0 a1) : Option (Bool)) (strings_HasPrefix a0 a1) := fun r h => by
 exact prim_le (F := Tb) (G := GT) (sg := fun _ => Rh) (g := 37500) (p := p37500) (x := r) (tv := [.str a0, .str a1]) (v := .bool r) (by kernel_rfl) rfl (prefix_pf h) rfl
theorem Rel (t0 : List UInt8) (t31m : Md) (t31 : List (List UInt8)) (t32 : Int) (t33 : Int) : Tv.Le
 ((bif (decide (t33 < t32)) then
bnd (geti t31 t33) fun e1 =>
bnd (strings_HasPrefix t0 e1) fun r2 =>
(bif r2 then
some (.inr (t0, 2))
else
Rbg t0 t31m t31 t32 (wrap64 (t33 + 1)))
else
some (.inl t0)) : Option (List UInt8 ⊕ (List UInt8 × Int)))
 (Rbg t0 t31m t31 t32 t33) := by
 rewrite [← Qze]
 exact fun r h => lE Rvn p33303 h
theorem Rjn (a0 : List UInt8) (a1 : Int) : Tv.Le (some (Lib.indexByte a0 a1.toNat.toUInt8) : Option (Int)) (strings_IndexByte a0 a1) := fun r h => by
 exact prim_le (F := Tb) (G := GT) (sg := fun _ => Rdz) (g := 37600) (p := p37600) (x := r) (tv := [.str a0, .int .u8 a1]) (v := .int .i64 r) (by kernel_rfl) rfl (index_pf h) rfl
theorem Rck (a1 : Int) (a0tokens : List (List UInt8)) (a0at : Int) (a0failed : Bool) : Tv.Le
 (bnd (Rz a0tokens a0at a0failed) fun r1 =>
bnd (Ry a1 r1.2.1 r1.2.2.1 r1.2.2.2 0 0 false [] r1.1.op r1.1.n .share r1.1.args) fun r2 =>
some (⟨r2.2.2.2.2.2.2.1, r2.2.2.2.2.2.2.2.1, r2.2.2.2.2.2.2.2.2.2⟩, r2.1, r2.2.1, r2.2.2.1) : Option (Exp × List (List UInt8) × Int × Bool))
 (Rc a1 a0tokens a0at a0failed) := by
 exact fun r h => fE Rqp p34400 h
theorem Raz (a0tokens : List (List UInt8)) (a0at : Int) (a0failed : Bool) : Tv.Le
 (bnd (Rbo a0tokens a0at a0failed) fun r1 =>
(bif (!decide ((r1.1.length : Int) = 1)) then
some (0, r1.2.1, r1.2.2.1, true)
else
bnd (geti r1.1 0) fun c2 =>
(bif (decide ((c2.toNat : Int) < 97)) then
some (0, r1.2.1, r1.2.2.1, true)
else
bnd (geti r1.1 0) fun c3 =>
(bif (decide (101 ≤ (c3.toNat : Int))) then
some (0, r1.2.1, r1.2.2.1, true)
else
bnd (geti r1.1 0) fun c4 =>
some ((wrap64 ((((c4.toNat : Int) - 97) % 256))), r1.2.1, r1.2.2.1, r1.2.2.2)))) : Option (Int × List (List UInt8) × Int × Bool))
 (Rg a0tokens a0at a0failed) := by
 rewrite [← Qze]
 exact fun r h => fE Rqo p34000 h
theorem Rgl (t5 : Int) (b100_0 : Int) (b100_1 : Int) (b100_2 : List Exp) (b101_0 : Int) (b101_1 : Int) (b101_2 : List Exp) : Tv.Le
 ((bif (decide (t5 < (b100_2.length : Int))) then
bnd (geti b100_2 t5) fun e1 =>
bnd (geti b101_2 t5) fun e2 =>
bnd (Rbv (⟨e1.op, e1.n, e1.args⟩ : Exp) (⟨e2.op, e2.n, e2.args⟩ : Exp)) fun r3 =>
(bif (!r3) then
some (.inr false)
else
Rcp (wrap64 (t5 + 1)) b100_0 b100_1 b100_2 b101_0 b101_1 b101_2)
else
some (.inl ())) : Option (Unit ⊕ Bool))
 (Rcp t5 b100_0 b100_1 b100_2 b101_0 b101_1 b101_2) := by
 rewrite [← Qze]
 exact fun r h => lE Rfx p9801 h
theorem Rfi (t3 : Hd) (t4 : Int) (t5 : Int) (b0_0 : List Int) (b0_1 : Int) (b99 : List Ent) : Tv.Le
 ((bif (decide (t5 < t4)) then
bnd (Ra 5 b0_0 b0_1) fun r1 =>
bnd (geti ([1, 1, 2, 3, 4] : List Int) r1.1) fun e2 =>
bnd (Qju b99 .int t3.id t3.n ([e2] : List Int)) fun B3 =>
Rcy (⟨(some (List.length b99)), (t3.n + List.length ([e2] : List Int))⟩ : Hd) t4 (wrap64 (t5 + 1)) r1.2.1 r1.2.2 B3
else
some (t3, b0_0, b0_1, b99)) : Option (Hd × List Int × Int × List Ent))
 (Rcy t3 t4 t5 b0_0 b0_1 b99) := by
 rewrite [← Qze]
 exact fun r h => lE Rwa p40201 h
theorem Rln (a1 : Int) (a2 : Int) (a3 : Int) (a4 : Bool) (a0b : List Int) (a0p : Int) (A : List Ent) : Tv.Le
 (bnd (Rcx a1 a2 a3 a4 (⟨(some (List.length A)), 0⟩ : Hd) 0 a0b a0p (Qao A .stm ([] : List Stm))) fun r1 =>
some (r1.1, r1.2.1, r1.2.2.1, r1.2.2.2) : Option (Hd × List Int × Int × List Ent))
 (Rgy a1 a2 a3 a4 a0b a0p A) := by
 exact fun r h => fE Rqq p38100 h
end Go.TFnSourceBack