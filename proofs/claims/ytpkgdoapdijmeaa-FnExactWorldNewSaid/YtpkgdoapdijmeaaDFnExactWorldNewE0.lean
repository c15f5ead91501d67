import Derived.Test.YtpkgdoapdijmeaaDFnExactWorldNewP
import Derived.KernelRfl
set_option linter.unusedVariables false
namespace Go.TFnExactWorldNew
open Go Go.RowKit Go.Vs Go.Tv
theorem Rhn (a0 : Prg) : Tv.Le
 (bnd (Rgv a0 1048576) fun r1 =>
(bif (decide (r1 < 0)) then
some true
else
bnd (Rbx a0) fun r2 =>
bnd (Rhu r2) fun r3 =>
bnd (Rep a0 ([] : List Ent)) fun r4 =>
bnd (Qlz r4.2 .int r4.1.rooms.id) fun l5 =>
bnd (Qlz r4.2 .stmsHH r4.1.tasks.id) fun l6 =>
bnd (Rfg (⟨l5, l6⟩ : Prg) (Go.Vs.Qdq r4.2)) fun r7 =>
bnd (Qly r4.2 r7.2.2) fun B8 =>
bnd (Qlz B8 .tkH r7.1.tasks.id) fun l9 =>
bnd (Qlz B8 .bxH r7.1.boxes.id) fun l10 =>
bnd (Qlz B8 .int r7.1.out.id) fun l11 =>
bnd (Rck (⟨l9, l10, r7.1.turn, r7.1.idle, l11⟩ : Wld) r3.1) fun r12 =>
(bif (!r12) then
some false
else
(bif (!(r7.2.1 == r3.2)) then
some false
else
bnd (Rbx a0) fun r13 =>
bnd (Qlz B8 .int r4.1.rooms.id) fun l14 =>
bnd (Qlz B8 .stmsHH r4.1.tasks.id) fun l15 =>
bnd (Rgt (⟨l14, l15⟩ : Prg) r13) fun r16 =>
(bif (!r16) then
some false
else
bnd (Rcu r4.1 1 B8) fun r17 =>
(bif (decide (r17.1 < 0)) then
some false
else
bnd (Qlz r17.2 .tkH r7.1.tasks.id) fun l18 =>
bnd (Qlz r17.2 .bxH r7.1.boxes.id) fun l19 =>
bnd (Qlz r17.2 .int r7.1.out.id) fun l20 =>
bnd (Rck (⟨l18, l19, r7.1.turn, r7.1.idle, l20⟩ : Wld) r3.1) fun r21 =>
(bif (!r21) then
some false
else
(bif (!(r7.2.1 == r3.2)) then
some false
else
bnd (Reo r7.1 1 r17.2) fun r22 =>
bnd (Qlz r22.2 .tkH r7.1.tasks.id) fun l23 =>
bnd (Qlz r22.2 .bxH r7.1.boxes.id) fun l24 =>
bnd (Qlz r22.2 .int r7.1.out.id) fun l25 =>
bnd (Reb (⟨l23, l24, r7.1.turn, r7.1.idle, l25⟩ : Wld) 1) fun r26 =>
(bif (decide (r26 < 0)) then
some false
else
(bif (!decide (r26 = r22.1)) then
some false
else
bnd (Rbx a0) fun r27 =>
bnd (Rhl r27) fun r28 =>
bnd (Rck r28.1 r3.1) fun r29 =>
(bif (!r29) then
some false
else
(bif (!(r28.2 == r3.2)) then
some false
else
bnd (Qlz r22.2 .tkH r7.1.tasks.id) fun l30 =>
bnd (Qlz r22.2 .bxH r7.1.boxes.id) fun l31 =>
bnd (Qlz r22.2 .int r7.1.out.id) fun l32 =>
bnd (Reb (⟨l30, l31, r7.1.turn, r7.1.idle, l32⟩ : Wld) 1) fun r33 =>
(bif (decide (r33 < 0)) then
some false
else
(bif (!decide (r33 = r22.1)) then
some false
else
some true))))))))))))) : Option (Bool))
 (laws_FnExactWorldNew a0) := by
 exact fun r h => fE Re p29800 h
theorem Rli (a0 : Prg) (a1 : Int) : Tv.Le
 (bnd (Rjm a0.rooms a1) fun r1 =>
(bif (decide (r1 < 0)) then
some (-1)
else
bnd (Rhq a0.tasks r1) fun r2 =>
(bif (decide (r2 < 0)) then
some (-1)
else
some r2)) : Option (Int))
 (Rgv a0 a1) := by
 exact fun r h => fE Rak p28500 h
theorem Rll (a0 : Prg) : Tv.Le
 (bnd (Rjn a0.rooms) fun r1 =>
bnd (Rhr a0.tasks) fun r2 =>
some (⟨r1, r2⟩) : Option (Prg))
 (Rbx a0) := by
 exact fun r h => fE Rtb p28700 h
theorem Rna (a0 : Prg) : Tv.Le
 (bnd (Rdu a0) fun r1 =>
(bif (!r1) then
some (⟨[], [], 0, 0, []⟩, false)
else
bnd (Rhx a0.rooms) fun r2 =>
bnd (Rba 0 a0.rooms a0.tasks false [] false [] 0 0 false [] false ([] : List Tk) r2 0 0 false ([] : List Int)) fun r3 =>
some (⟨r3.2.2.2.2.2.1.2, r3.2.2.2.2.2.2.1, r3.2.2.2.2.2.2.2.1, r3.2.2.2.2.2.2.2.2.1, r3.2.2.2.2.2.2.2.2.2.2⟩, true)) : Option (Wld × Bool))
 (Rhu a0) := by
 exact fun r h => fE Rpw p23500 h
theorem Rjo (a0 : Prg) (A : List Ent) : Tv.Le
 (bnd (Rfa a0.rooms A) fun r1 =>
bnd (Rfz a0.tasks r1.2) fun r2 =>
some (⟨r1.1, r2.1⟩, r2.2) : Option (PrgH × List Ent))
 (Rep a0 A) := by
 exact fun r h => fE Rtl p42000 h
theorem Rjt (a0 : Prg) (A : List Ent) : Tv.Le
 (bnd (Rbq a0) fun r1 =>
(bif (!r1) then
some (⟨⟨none, 0⟩, ⟨none, 0⟩, 0, 0, ⟨none, 0⟩⟩, false, A)
else
bnd (Rfi a0.rooms A) fun r2 =>
bnd (Rbd a0.tasks (a0.tasks.length : Int) 0 (⟨none, 0⟩ : Hd) (⟨none, 0⟩ : Hd) 0 0 (⟨none, 0⟩ : Hd) (⟨none, 0⟩ : Hd) r2.1 0 0 (⟨none, 0⟩ : Hd) r2.2) fun r3 =>
some (⟨r3.2.2.2.2.2.1, r3.2.2.2.2.2.2.1, r3.2.2.2.2.2.2.2.1, r3.2.2.2.2.2.2.2.2.1, r3.2.2.2.2.2.2.2.2.2.1⟩, true, r3.2.2.2.2.2.2.2.2.2.2)) : Option (WldH × Bool × List Ent))
 (Rfg a0 A) := by
 exact fun r h => fE Rtj p41800 h
theorem Rob (a0 : Wld) (a1 : Wld) : Tv.Le
 (bnd (Rij a0.tasks a1.tasks) fun r1 =>
(bif (!r1) then
some false
else
bnd (Rjf a0.boxes a1.boxes) fun r2 =>
(bif (!r2) then
some false
else
(bif (!decide (a0.turn = a1.turn)) then
some false
else
(bif (!decide (a0.idle = a1.idle)) then
some false
else
bnd (Rdo a0.out a1.out) fun r3 =>
(bif (!r3) then
some false
else
some true))))) : Option (Bool))
 (Rck a0 a1) := by
 exact fun r h => fE Re p25400 h
theorem Rky (a0 : Prg) (a1 : Prg) : Tv.Le
 (bnd (Rdo a0.rooms a1.rooms) fun r1 =>
(bif (!r1) then
some false
else
bnd (Rho a0.tasks a1.tasks) fun r2 =>
(bif (!r2) then
some false
else
some true)) : Option (Bool))
 (Rgt a0 a1) := by
 exact fun r h => fE Re p28900 h
theorem Rik (a0 : PrgH) (a1 : Int) (A : List Ent) : Tv.Le
 (bnd (Rv a0.rooms a1 A) fun r1 =>
bnd (Rdp a0.tasks r1.1 r1.2) fun r2 =>
some (r2.1, r2.2) : Option (Int × List Ent))
 (Rcu a0 a1 A) := by
 exact fun r h => fE Rbj p42100 h
theorem Rjk (a0 : WldH) (a1 : Int) (A : List Ent) : Tv.Le
 (bnd (Ren a0.tasks a1 A) fun r1 =>
bnd (Rfq a0.boxes r1.1 r1.2) fun r2 =>
bnd (Rv a0.out r2.1 r2.2) fun r3 =>
some (r3.1, r3.2) : Option (Int × List Ent))
 (Reo a0 a1 A) := by
 exact fun r h => fE Rbj p42200 h
theorem Rlg (a0 : Wld) (a1 : Int) : Tv.Le
 (bnd (Rgu a0.tasks a1) fun r1 =>
(bif (decide (r1 < 0)) then
some (-1)
else
bnd (Rhp a0.boxes r1) fun r2 =>
(bif (decide (r2 < 0)) then
some (-1)
else
bnd (Rct a0.out r2) fun r3 =>
(bif (decide (r3 < 0)) then
some (-1)
else
some r3))) : Option (Int))
 (Reb a0 a1) := by
 exact fun r h => fE Rak p29700 h
theorem Rmb (a0 : Prg) : Tv.Le
 (bnd (Rbq a0) fun r1 =>
(bif (!r1) then
some (⟨[], [], 0, 0, []⟩, false)
else
bnd (Rhm a0.rooms) fun r2 =>
bnd (Rau a0.tasks (a0.tasks.length : Int) 0 false [] false [] 0 0 false [] false [] r2 0 0 false []) fun r3 =>
some (⟨r3.2.2.2.2.2.1.2, r3.2.2.2.2.2.2.1, r3.2.2.2.2.2.2.2.1, r3.2.2.2.2.2.2.2.2.1, r3.2.2.2.2.2.2.2.2.2.2⟩, true)) : Option (Wld × Bool))
 (Rhl a0) := by
 exact fun r h => fE Rpw p23000 h
theorem Rpc (a0 : List Int) (a1 : Int) : Tv.Le
 ((bif (decide ((wrap64 (a1 - (a0.length : Int))) < 0)) then
some (-1)
else
some (wrap64 (a1 - (a0.length : Int)))) : Option (Int))
 (Rjm a0 a1) := by
 rewrite [← Qzb]
 exact fun r h => fE Rak p7200 h
theorem Rmp (a0 : List (List Stm)) (a1 : Int) : Tv.Le
 ((bif (decide ((wrap64 (a1 - (a0.length : Int))) < 0)) then
some (-1)
else
bnd (Rcc a0 (wrap64 (a1 - (a0.length : Int))) 0) fun r1 =>
selm r1 (fun y2 =>
some y2) (fun z3 =>
some z3.2)) : Option (Int))
 (Rhq a0 a1) := by
 rewrite [← Qzb]
 exact fun r h => fE Rak p28400 h
theorem Rpi (a0 : List Int) : Tv.Le
 (bnd (made (a0.length : Int)) fun n1 =>
bnd (Rec a0 0 (List.replicate n1 (Qhw .int))) fun r2 =>
some r2 : Option (List Int))
 (Rjn a0) := by
 exact fun r h => fE s7800 p7800 h
theorem Rmw (a0 : List (List Stm)) : Tv.Le
 (bnd (made (a0.length : Int)) fun n1 =>
bnd (Rce a0 0 (List.replicate n1 (Qhw .stms))) fun r2 =>
some r2 : Option (List (List Stm)))
 (Rhr a0) := by
 exact fun r h => fE Rsz p28600 h
theorem Rja (a0 : Prg) : Tv.Le
 (bnd (Rhw a0.rooms) fun r1 =>
(bif (!r1) then
some false
else
bnd (Rdg (a0.tasks.length : Int) 1 3) fun r2 =>
(bif (!r2) then
some false
else
bnd (Rq 0 a0.rooms a0.tasks) fun r3 =>
selm r3 (fun y4 =>
some true) (fun z5 =>
some z5))) : Option (Bool))
 (Rdu a0) := by
 exact fun r h => fE Re p23300 h
theorem Rnk (a0 : List Int) : Tv.Le
 (bnd (Rbc a0 true ([] : List Bx) 0) fun r1 =>
some r1.2 : Option (List Bx))
 (Rhx a0) := by
 exact fun r h => fE Rpu p23400 h
theorem Rop (a0 : List Stm) : Tv.Le
 (bnd (Rde a0) fun r1 =>
(bif (!r1) then
some (⟨[], []⟩, false)
else
bnd (Rm a0) fun r3 =>
some (⟨(List.replicate 4 (Qhw .int)), r3⟩, true)) : Option (Tk × Bool))
 (Rir a0) := by
 exact fun r h => fE Rsg p9600 h
theorem Rga (t5 : Int) (b100_0 : List Int) (b100_1 : List (List Stm)) (b101_0b : Bool) (b101_0 : List Tk) (b101_1b : Bool) (b101_1 : List Bx) (b101_2 : Int) (b101_3 : Int) (b101_4b : Bool) (b101_4 : List Int) (b102_0b : Bool) (b102_0 : List Tk) (b102_1 : List Bx) (b102_2 : Int) (b102_3 : Int) (b102_4b : Bool) (b102_4 : List Int) : Tv.Le
 ((bif (decide (t5 < (b100_1.length : Int))) then
bnd (geti b100_1 t5) fun e1 =>
bnd (Rir e1) fun r2 =>
bnd (appL b102_0 ([r2.1] : List Tk)) fun l3 =>
Rba (wrap64 (t5 + 1)) b100_0 b100_1 b101_0b b101_0 b101_1b b101_1 b101_2 b101_3 b101_4b b101_4 true l3 b102_1 b102_2 b102_3 b102_4b b102_4
else
some ((b101_0b, b101_0), (b101_1b, b101_1), b101_2, b101_3, (b101_4b, b101_4), (b102_0b, b102_0), b102_1, b102_2, b102_3, (b102_4b, b102_4))) : Option ((Bool × List Tk) × (Bool × List Bx) × Int × Int × (Bool × List Int) × (Bool × List Tk) × List Bx × Int × Int × (Bool × List Int)))
 (Rba t5 b100_0 b100_1 b101_0b b101_0 b101_1b b101_1 b101_2 b101_3 b101_4b b101_4 b102_0b b102_0 b102_1 b102_2 b102_3 b102_4b b102_4) := by
 rewrite [← Qzb]
 exact fun r h => lE Rpx p23501 h
theorem Rms (a0 : List Int) (A : List Ent) : Tv.Le
 (bnd (made (a0.length : Int)) fun n1 =>
bnd (Rcd a0 (⟨(some (List.length A)), n1⟩ : Hd) 0 (Qaj A .int (List.replicate n1 (Qhw .int)))) fun r2 =>
some (r2.1, r2.2) : Option (Hd × List Ent))
 (Rfa a0 A) := by
 exact fun r h => fE Rtc p39600 h
theorem Rkg (a0 : List (List Stm)) (A : List Ent) : Tv.Le
 (bnd (made (a0.length : Int)) fun n1 =>
bnd (Rbi a0 (⟨(some (List.length A)), n1⟩ : Hd) 0 (Qaj A .stmsHH (List.replicate n1 (Qhw .stmsHH)))) fun r2 =>
some (r2.1, r2.2) : Option (Hd × List Ent))
 (Rfz a0 A) := by
 exact fun r h => fE Rto p42800 h
theorem Riv (a0 : Prg) : Tv.Le
 (bnd (Rfk a0.rooms) fun r1 =>
(bif (!r1) then
some false
else
(bif (decide ((a0.tasks.length : Int) < 1)) then
some false
else
(bif (decide (3 < (a0.tasks.length : Int))) then
some false
else
bnd (Rp a0.tasks (a0.tasks.length : Int) 0 a0.rooms a0.tasks) fun r2 =>
selm r2 (fun y3 =>
some true) (fun z4 =>
some z4)))) : Option (Bool))
 (Rbq a0) := by
 exact fun r h => fE Re p22800 h
theorem Rjv (a0 : List Int) (A : List Ent) : Tv.Le
 (bnd (Rbe (⟨none, 0⟩ : Hd) a0 (a0.length : Int) 0 A) fun r1 =>
some (r1.1, r1.2) : Option (Hd × List Ent))
 (Rfi a0 A) := by
 exact fun r h => fE Rtm p42500 h
theorem Rkr (a0 : List Stm) (A : List Ent) : Tv.Le
 (bnd (Rbl a0) fun r1 =>
(bif (!r1) then
some (⟨⟨none, 0⟩, ⟨none, 0⟩⟩, false, A)
else
bnd (Rax a0 A) fun r3 =>
some (⟨⟨(some (List.length r3.2)), 4⟩, r3.1⟩, true, (Qaj r3.2 .int (List.replicate 4 (Qhw .int))))) : Option (TkH × Bool × List Ent))
 (Rgs a0 A) := by
 exact fun r h => fE Rte p40700 h
theorem Ref (t18 : List (List Stm)) (t19 : Int) (t20 : Int) (b101_0 : Hd) (b101_1 : Hd) (b101_2 : Int) (b101_3 : Int) (b101_4 : Hd) (b102_0 : Hd) (b102_1 : Hd) (b102_2 : Int) (b102_3 : Int) (b102_4 : Hd) (b99 : List Ent) : Tv.Le
 ((bif (decide (t20 < t19)) then
bnd (geti t18 t20) fun e1 =>
bnd (Rgs e1 b99) fun r2 =>
bnd (Qnf r2.2.2 .tkH b102_0.id b102_0.n ([r2.1] : List TkH)) fun B3 =>
Rbd t18 t19 (wrap64 (t20 + 1)) b101_0 b101_1 b101_2 b101_3 b101_4 (⟨(some (List.length r2.2.2)), (b102_0.n + List.length ([r2.1] : List TkH))⟩ : Hd) b102_1 b102_2 b102_3 b102_4 B3
else
some (b101_0, b101_1, b101_2, b101_3, b101_4, b102_0, b102_1, b102_2, b102_3, b102_4, b99)) : Option (Hd × Hd × Int × Int × Hd × Hd × Hd × Int × Int × Hd × List Ent))
 (Rbd t18 t19 t20 b101_0 b101_1 b101_2 b101_3 b101_4 b102_0 b102_1 b102_2 b102_3 b102_4 b99) := by
 rewrite [← Qzb]
 exact fun r h => lE Rtk p41801 h
theorem Roa (a0 : List Tk) (a1 : List Tk) : Tv.Le
 ((bif (!decide ((a0.length : Int) = (a1.length : Int))) then
some false
else
bnd (Rcs a0 a1 0) fun r1 =>
selm r1 (fun y2 =>
some true) (fun z3 =>
some z3)) : Option (Bool))
 (Rij a0 a1) := by
 exact fun r h => fE Re p25200 h
theorem Rou (a0 : List Bx) (a1 : List Bx) : Tv.Le
 ((bif (!decide ((a0.length : Int) = (a1.length : Int))) then
some false
else
bnd (Rdy a0 a1 0) fun r1 =>
selm r1 (fun y2 =>
some true) (fun z3 =>
some z3)) : Option (Bool))
 (Rjf a0 a1) := by
 exact fun r h => fE Re p25300 h
theorem Row (a0 : List Int) (a1 : List Int) : Tv.Le
 ((bif (!decide ((a0.length : Int) = (a1.length : Int))) then
some false
else
bnd (Rdz a0 a1 0) fun r1 =>
selm r1 (fun y2 =>
some true) (fun z3 =>
some z3)) : Option (Bool))
 (Rdo a0 a1) := by
 exact fun r h => fE Re p8400 h
theorem Rmi (a0 : List (List Stm)) (a1 : List (List Stm)) : Tv.Le
 ((bif (!decide ((a0.length : Int) = (a1.length : Int))) then
some false
else
bnd (Rca a0 a1 0) fun r1 =>
selm r1 (fun y2 =>
some true) (fun z3 =>
some z3)) : Option (Bool))
 (Rho a0 a1) := by
 exact fun r h => fE Re p28800 h
theorem Rke (a0 : Hd) (a1 : Int) (A : List Ent) : Tv.Le
 (bnd (Rbh a0 a1 0 A) fun r1 =>
some (r1.1, r1.2) : Option (Int × List Ent))
 (Rv a0 a1 A) := by
 exact fun r h => fE Rbj p38700 h
theorem Rix (a0 : Hd) (a1 : Int) (A : List Ent) : Tv.Le
 (bnd (Ral a0 a1 0 A) fun r1 =>
some (r1.1, r1.2) : Option (Int × List Ent))
 (Rdp a0 a1 A) := by
 exact fun r h => fE Rbj p42900 h
theorem Rji (a0 : Hd) (a1 : Int) (A : List Ent) : Tv.Le
 (bnd (Rat a0 a1 0 A) fun r1 =>
some (r1.1, r1.2) : Option (Int × List Ent))
 (Ren a0 a1 A) := by
 exact fun r h => fE Rbj p43000 h
theorem Rkc (a0 : Hd) (a1 : Int) (A : List Ent) : Tv.Le
 (bnd (Rbg a0 a1 0 A) fun r1 =>
some (r1.1, r1.2) : Option (Int × List Ent))
 (Rfq a0 a1 A) := by
 exact fun r h => fE Rbj p43100 h
theorem Rle (a0 : List Tk) (a1 : Int) : Tv.Le
 (bnd (Rao a0 a1 0) fun r1 =>
selm r1 (fun y2 =>
some y2) (fun z3 =>
some z3.2) : Option (Int))
 (Rgu a0 a1) := by
 exact fun r h => fE Rak p29500 h
theorem Rmm (a0 : List Bx) (a1 : Int) : Tv.Le
 (bnd (Ray a0 a1 0) fun r1 =>
selm r1 (fun y2 =>
some y2) (fun z3 =>
some z3.2) : Option (Int))
 (Rhp a0 a1) := by
 exact fun r h => fE Rak p29600 h
theorem Rmn (a0 : List Int) (a1 : Int) : Tv.Le
 (bnd (Raz a0 a1 0) fun r1 =>
selm r1 (fun y2 =>
some y2) (fun z3 =>
some z3.2) : Option (Int))
 (Rct a0 a1) := by
 exact fun r h => fE Rak p10600 h
theorem Rmd (a0 : List Int) : Tv.Le
 (bnd (Rav false [] a0 (a0.length : Int) 0) fun r1 =>
some r1.2 : Option (List Bx))
 (Rhm a0) := by
 exact fun r h => fE Rpu p22900 h
theorem Rnw (a0 : List Stm) : Tv.Le
 (bnd (Rbl a0) fun r1 =>
(bif (!r1) then
some (⟨[], []⟩, false)
else
bnd (Rh a0) fun r3 =>
some (⟨(List.replicate 4 (Qhw .int)), r3⟩, true)) : Option (Tk × Bool))
 (Rie a0) := by
 exact fun r h => fE Rsg p9300 h
theorem Rff (t18 : List (List Stm)) (t19 : Int) (t20 : Int) (b101_0b : Bool) (b101_0 : List Tk) (b101_1b : Bool) (b101_1 : List Bx) (b101_2 : Int) (b101_3 : Int) (b101_4b : Bool) (b101_4 : List Int) (b102_0b : Bool) (b102_0 : List Tk) (b102_1 : List Bx) (b102_2 : Int) (b102_3 : Int) (b102_4b : Bool) (b102_4 : List Int) : Tv.Le
 ((bif (decide (t20 < t19)) then
bnd (geti t18 t20) fun e1 =>
bnd (Rie e1) fun r2 =>
bnd (appL b102_0 ([r2.1] : List Tk)) fun l3 =>
Rau t18 t19 (wrap64 (t20 + 1)) b101_0b b101_0 b101_1b b101_1 b101_2 b101_3 b101_4b b101_4 true l3 b102_1 b102_2 b102_3 b102_4b b102_4
else
some ((b101_0b, b101_0), (b101_1b, b101_1), b101_2, b101_3, (b101_4b, b101_4), (b102_0b, b102_0), b102_1, b102_2, b102_3, (b102_4b, b102_4))) : Option ((Bool × List Tk) × (Bool × List Bx) × Int × Int × (Bool × List Int) × (Bool × List Tk) × List Bx × Int × Int × (Bool × List Int)))
 (Rau t18 t19 t20 b101_0b b101_0 b101_1b b101_1 b101_2 b101_3 b101_4b b101_4 b102_0b b102_0 b102_1 b102_2 b102_3 b102_4b b102_4) := by
 rewrite [← Qzb]
 exact fun r h => lE Rpx p23001 h
theorem Roe (a0 : List Stm) (a1 : Int) : Tv.Le
 ((bif (decide ((wrap64 (a1 - (a0.length : Int))) < 0)) then
some (-1)
else
bnd (Rcy a0 (wrap64 (a1 - (a0.length : Int))) 0) fun r1 =>
selm r1 (fun y2 =>
some y2) (fun z3 =>
some z3.2)) : Option (Int))
 (Rbn a0 a1) := by
 rewrite [← Qzb]
 exact fun r h => fE Rak p7100 h
theorem Rcj (t0 : List (List Stm)) (t1 : Int) (t5 : Int) : Tv.Le
 ((bif (decide (t5 < (t0.length : Int))) then
bnd (geti t0 t5) fun e1 =>
bnd (Rbn e1 t1) fun r2 =>
(bif (decide (r2 < 0)) then
some (.inr (r2, (-1)))
else
Rcc t0 r2 (wrap64 (t5 + 1)))
else
some (.inl t1)) : Option (Int ⊕ (Int × Int)))
 (Rcc t0 t1 t5) := by
 rewrite [← Qzb]
 exact fun r h => lE Rfb p28401 h
theorem Rhh (t0 : List Int) (t4 : Int) (b100 : List Int) : Tv.Le
 ((bif (decide (t4 < (t0.length : Int))) then
bnd (geti t0 t4) fun e1 =>
bnd (geti b100 t4) fun _ =>
bnd (b100[(Int.toNat t4)]?) fun e3 =>
Rec t0 (wrap64 (t4 + 1)) (b100.set (Int.toNat t4) e1)
else
some b100) : Option (List Int))
 (Rec t0 t4 b100) := by
 rewrite [← Qzb]
 exact fun r h => lE s7801 p7801 h
theorem Roi (a0 : List Stm) : Tv.Le
 (bnd (made (a0.length : Int)) fun n1 =>
bnd (Rdb a0 0 (List.replicate n1 (Qhw .stm))) fun r2 =>
some r2 : Option (List Stm))
 (Rap a0) := by
 exact fun r h => fE s7700 p7700 h
theorem Rfy (t0 : List (List Stm)) (t4 : Int) (b100 : List (List Stm)) : Tv.Le
 ((bif (decide (t4 < (t0.length : Int))) then
bnd (geti t0 t4) fun e1 =>
bnd (Rap e1) fun r2 =>
bnd (geti b100 t4) fun _ =>
bnd (b100[(Int.toNat t4)]?) fun e4 =>
Rce t0 (wrap64 (t4 + 1)) (b100.set (Int.toNat t4) r2)
else
some b100) : Option (List (List Stm)))
 (Rce t0 t4 b100) := by
 rewrite [← Qzb]
 exact fun r h => lE Rta p28601 h
theorem Rni (a0 : List Int) : Tv.Le
 (bnd (Rbb a0 0) fun r1 =>
selm r1 (fun y2 =>
some (decide ((y2.length : Int) ≤ 3))) (fun z3 =>
some z3.2) : Option (Bool))
 (Rhw a0) := by
 exact fun r h => fE Re p23200 h
end Go.TFnExactWorldNew