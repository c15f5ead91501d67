/- The statement FnExactTaskNew is proved: the law answers true whatever the input; under no condition. -/
import Derived.Test.YtbgodlimjjgogaaRows
import Derived.Test.YtbgodlimjjgogaaFFnExactTaskNew
import Derived.Test.YtbgodlimjjgogaaTvRow2
import Derived.KernelRfl
namespace Go.Proofs.Ytbgodlimjjgogaa.fnExactTaskNew
open Go Go.Vs Go.Tv Go.ChangeShapes Go.WideShapes Go.ChangeAt Go.RowKit Go.TFnExactTaskNew
open Go.ChangeMaps (open_string shut_string)
set_option linter.unusedVariables false
theorem own : ownKnob Try.prog.godebug = none := by kernel_rfl
theorem laidOut : laidOutB Try.prog = true := by kernel_rfl
def fids : List (Nat × Nat) := [(300, 72), (500, 70), (1000, 91), (1100, 73), (1200, 40), (1600, 44), (1700, 92), (1800, 74), (1900, 43), (4000, 81), (5200, 105), (5300, 98), (5400, 79), (5700, 107), (5800, 108), (5900, 113), (6000, 106), (6100, 99), (6200, 80), (6300, 51), (6800, 100), (6900, 87), (7000, 61), (7100, 31), (7400, 101), (7500, 88), (7600, 62), (7700, 32), (8000, 102), (8100, 89), (8200, 63), (8300, 33), (8400, 55), (8500, 24), (9000, 57), (9100, 85), (9200, 58), (9300, 26), (9400, 86), (9500, 59), (9600, 27), (10600, 66), (10700, 90), (10800, 67), (10900, 36), (11000, 10), (11100, 112), (38700, 65), (40700, 26), (40800, 32), (40900, 34), (41000, 35), (41100, 58), (41200, 62), (41300, 64), (41400, 85), (41500, 88), (41600, 101)]
noncomputable def ctx : Ctx := { P := Try.prog, fid := fun g => (Vs.look g fids).getD 0, gm := fun _ => 0, G := GA GT }
def oF (p : ProcT) (f : Func) : Prop := okFn ctx (FA Tb) 8 p.er f = true
theorem aL {g n : Nat} {f : Func} (e : ctx.fid g = n) (h : Try.prog.funcs[n]? = some f) : ctx.P.funcs[ctx.fid g]? = some f := by rw [e]; exact h
theorem ok300 : oF p300 Try.f72 := by unfold oF; kernel_rfl
theorem ok500 : oF p500 Try.f70 := by unfold oF; kernel_rfl
theorem ok1000 : oF p1000 Try.f91 := by unfold oF; kernel_rfl
theorem ok1100 : oF p1100 Try.f73 := by unfold oF; kernel_rfl
theorem ok1200 : oF p1200 Try.f40 := by unfold oF; kernel_rfl
theorem ok1600 : oF p1600 Try.f44 := by unfold oF; kernel_rfl
theorem ok1700 : oF p1700 Try.f92 := by unfold oF; kernel_rfl
theorem ok1800 : oF p1800 Try.f74 := by unfold oF; kernel_rfl
theorem ok1900 : oF p1900 Try.f43 := by unfold oF; kernel_rfl
theorem ok4000 : oF p4000 Try.f81 := by unfold oF; kernel_rfl
theorem ok5200 : oF p5200 Try.f105 := by unfold oF; kernel_rfl
theorem ok5300 : oF p5300 Try.f98 := by unfold oF; kernel_rfl
theorem ok5400 : oF p5400 Try.f79 := by unfold oF; kernel_rfl
theorem ok5700 : oF p5700 Try.f107 := by unfold oF; kernel_rfl
theorem ok5800 : oF p5800 Try.f108 := by unfold oF; kernel_rfl
theorem ok5900 : oF p5900 Try.f113 := by unfold oF; kernel_rfl
theorem ok6000 : oF p6000 Try.f106 := by unfold oF; kernel_rfl
theorem ok6100 : oF p6100 Try.f99 := by unfold oF; kernel_rfl
theorem ok6200 : oF p6200 Try.f80 := by unfold oF; kernel_rfl
theorem ok6300 : oF p6300 Try.f51 := by unfold oF; kernel_rfl
theorem ok6800 : oF p6800 Try.f100 := by unfold oF; kernel_rfl
theorem ok6900 : oF p6900 Try.f87 := by unfold oF; kernel_rfl
theorem ok7000 : oF p7000 Try.f61 := by unfold oF; kernel_rfl
theorem ok7100 : oF p7100 Try.f31 := by unfold oF; kernel_rfl
theorem ok7400 : oF p7400 Try.f101 := by unfold oF; kernel_rfl
theorem ok7500 : oF p7500 Try.f88 := by unfold oF; kernel_rfl
theorem ok7600 : oF p7600 Try.f62 := by unfold oF; kernel_rfl
theorem ok7700 : oF p7700 Try.f32 := by unfold oF; kernel_rfl
theorem ok8000 : oF p8000 Try.f102 := by unfold oF; kernel_rfl
theorem ok8100 : oF p8100 Try.f89 := by unfold oF; kernel_rfl
theorem ok8200 : oF p8200 Try.f63 := by unfold oF; kernel_rfl
theorem ok8300 : oF p8300 Try.f33 := by unfold oF; kernel_rfl
theorem ok8400 : oF p8400 Try.f55 := by unfold oF; kernel_rfl
theorem ok8500 : oF p8500 Try.f24 := by unfold oF; kernel_rfl
theorem ok9000 : oF p9000 Try.f57 := by unfold oF; kernel_rfl
theorem ok9100 : oF p9100 Try.f85 := by unfold oF; kernel_rfl
theorem ok9200 : oF p9200 Try.f58 := by unfold oF; kernel_rfl
theorem ok9300 : oF p9300 Try.f26 := by unfold oF; kernel_rfl
theorem ok9400 : oF p9400 Try.f86 := by unfold oF; kernel_rfl
theorem ok9500 : oF p9500 Try.f59 := by unfold oF; kernel_rfl
theorem ok9600 : oF p9600 Try.f27 := by unfold oF; kernel_rfl
theorem ok10600 : oF p10600 Try.f66 := by unfold oF; kernel_rfl
theorem ok10700 : oF p10700 Try.f90 := by unfold oF; kernel_rfl
theorem ok10800 : oF p10800 Try.f67 := by unfold oF; kernel_rfl
theorem ok10900 : oF p10900 Try.f36 := by unfold oF; kernel_rfl
theorem ok11000 : oF p11000 Try.f10 := by unfold oF; kernel_rfl
theorem ok11100 : oF p11100 Try.f112 := by unfold oF; kernel_rfl
theorem ok38700 : oF p38700 Try.f65 := by unfold oF; kernel_rfl
theorem ok40700 : oF p40700 Try.f26 := by unfold oF; kernel_rfl
theorem ok40800 : oF p40800 Try.f32 := by unfold oF; kernel_rfl
theorem ok40900 : oF p40900 Try.f34 := by unfold oF; kernel_rfl
theorem ok41000 : oF p41000 Try.f35 := by unfold oF; kernel_rfl
theorem ok41100 : oF p41100 Try.f58 := by unfold oF; kernel_rfl
theorem ok41200 : oF p41200 Try.f62 := by unfold oF; kernel_rfl
theorem ok41300 : oF p41300 Try.f64 := by unfold oF; kernel_rfl
theorem ok41400 : oF p41400 Try.f85 := by unfold oF; kernel_rfl
theorem ok41500 : oF p41500 Try.f88 := by unfold oF; kernel_rfl
theorem ok41600 : oF p41600 Try.f101 := by unfold oF; kernel_rfl
theorem laid : Laid ctx (FA Tb) := by
 refine laidT (l := tab) (by kernel_rfl) ?_
 have e : tab.map (fun x => (x.1, x.2.er)) = [(300, p300.er), (500, p500.er), (1000, p1000.er), (1100, p1100.er), (1200, p1200.er), (1600, p1600.er), (1700, p1700.er), (1800, p1800.er), (1900, p1900.er), (4000, p4000.er), (4001, p4001.er), (5200, p5200.er), (5300, p5300.er), (5301, p5301.er), (5400, p5400.er), (5700, p5700.er), (5800, p5800.er), (5900, p5900.er), (6000, p6000.er), (6100, p6100.er), (6200, p6200.er), (6201, p6201.er), (6300, p6300.er), (6800, p6800.er), (6801, p6801.er), (6900, p6900.er), (7000, p7000.er), (7100, p7100.er), (7101, p7101.er), (7400, p7400.er), (7401, p7401.er), (7500, p7500.er), (7600, p7600.er), (7700, p7700.er), (7701, p7701.er), (8000, p8000.er), (8001, p8001.er), (8100, p8100.er), (8200, p8200.er), (8300, p8300.er), (8301, p8301.er), (8400, p8400.er), (8401, p8401.er), (8500, p8500.er), (9000, p9000.er), (9100, p9100.er), (9101, p9101.er), (9200, p9200.er), (9201, p9201.er), (9300, p9300.er), (9400, p9400.er), (9500, p9500.er), (9501, p9501.er), (9600, p9600.er), (10600, p10600.er), (10601, p10601.er), (10700, p10700.er), (10701, p10701.er), (10800, p10800.er), (10801, p10801.er), (10900, p10900.er), (11000, p11000.er), (11100, p11100.er), (38700, p38700.er), (38701, p38701.er), (40700, p40700.er), (40800, p40800.er), (40801, p40801.er), (40900, p40900.er), (40901, p40901.er), (41000, p41000.er), (41100, p41100.er), (41101, p41101.er), (41200, p41200.er), (41300, p41300.er), (41301, p41301.er), (41400, p41400.er), (41401, p41401.er), (41500, p41500.er), (41600, p41600.er), (41601, p41601.er)] := by kernel_rfl
 rw [e]
 exact ⟨fun _ => okFn_spec (aL (by kernel_rfl) Try.func72) ok300, ⟨fun _ => okFn_spec (aL (by kernel_rfl) Try.func70) ok500, ⟨fun _ => okFn_spec (aL (by kernel_rfl) Try.func91) ok1000, ⟨fun _ => okFn_spec (aL (by kernel_rfl) Try.func73) ok1100, ⟨fun _ => okFn_spec (aL (by kernel_rfl) Try.func40) ok1200, ⟨fun _ => okFn_spec (aL (by kernel_rfl) Try.func44) ok1600, ⟨fun _ => okFn_spec (aL (by kernel_rfl) Try.func92) ok1700, ⟨fun _ => okFn_spec (aL (by kernel_rfl) Try.func74) ok1800, ⟨fun _ => okFn_spec (aL (by kernel_rfl) Try.func43) ok1900, ⟨fun _ => okFn_spec (aL (by kernel_rfl) Try.func81) ok4000, ⟨fun h => absurd h (by decide), ⟨fun _ => okFn_spec (aL (by kernel_rfl) Try.func105) ok5200, ⟨fun _ => okFn_spec (aL (by kernel_rfl) Try.func98) ok5300, ⟨fun h => absurd h (by decide), ⟨fun _ => okFn_spec (aL (by kernel_rfl) Try.func79) ok5400, ⟨fun _ => okFn_spec (aL (by kernel_rfl) Try.func107) ok5700, ⟨fun _ => okFn_spec (aL (by kernel_rfl) Try.func108) ok5800, ⟨fun _ => okFn_spec (aL (by kernel_rfl) Try.func113) ok5900, ⟨fun _ => okFn_spec (aL (by kernel_rfl) Try.func106) ok6000, ⟨fun _ => okFn_spec (aL (by kernel_rfl) Try.func99) ok6100, ⟨fun _ => okFn_spec (aL (by kernel_rfl) Try.func80) ok6200, ⟨fun h => absurd h (by decide), ⟨fun _ => okFn_spec (aL (by kernel_rfl) Try.func51) ok6300, ⟨fun _ => okFn_spec (aL (by kernel_rfl) Try.func100) ok6800, ⟨fun h => absurd h (by decide), ⟨fun _ => okFn_spec (aL (by kernel_rfl) Try.func87) ok6900, ⟨fun _ => okFn_spec (aL (by kernel_rfl) Try.func61) ok7000, ⟨fun _ => okFn_spec (aL (by kernel_rfl) Try.func31) ok7100, ⟨fun h => absurd h (by decide), ⟨fun _ => okFn_spec (aL (by kernel_rfl) Try.func101) ok7400, ⟨fun h => absurd h (by decide), ⟨fun _ => okFn_spec (aL (by kernel_rfl) Try.func88) ok7500, ⟨fun _ => okFn_spec (aL (by kernel_rfl) Try.func62) ok7600, ⟨fun _ => okFn_spec (aL (by kernel_rfl) Try.func32) ok7700, ⟨fun h => absurd h (by decide), ⟨fun _ => okFn_spec (aL (by kernel_rfl) Try.func102) ok8000, ⟨fun h => absurd h (by decide), ⟨fun _ => okFn_spec (aL (by kernel_rfl) Try.func89) ok8100, ⟨fun _ => okFn_spec (aL (by kernel_rfl) Try.func63) ok8200, ⟨fun _ => okFn_spec (aL (by kernel_rfl) Try.func33) ok8300, ⟨fun h => absurd h (by decide), ⟨fun _ => okFn_spec (aL (by kernel_rfl) Try.func55) ok8400, ⟨fun h => absurd h (by decide), ⟨fun _ => okFn_spec (aL (by kernel_rfl) Try.func24) ok8500, ⟨fun _ => okFn_spec (aL (by kernel_rfl) Try.func57) ok9000, ⟨fun _ => okFn_spec (aL (by kernel_rfl) Try.func85) ok9100, ⟨fun h => absurd h (by decide), ⟨fun _ => okFn_spec (aL (by kernel_rfl) Try.func58) ok9200, ⟨fun h => absurd h (by decide), ⟨fun _ => okFn_spec (aL (by kernel_rfl) Try.func26) ok9300, ⟨fun _ => okFn_spec (aL (by kernel_rfl) Try.func86) ok9400, ⟨fun _ => okFn_spec (aL (by kernel_rfl) Try.func59) ok9500, ⟨fun h => absurd h (by decide), ⟨fun _ => okFn_spec (aL (by kernel_rfl) Try.func27) ok9600, ⟨fun _ => okFn_spec (aL (by kernel_rfl) Try.func66) ok10600, ⟨fun h => absurd h (by decide), ⟨fun _ => okFn_spec (aL (by kernel_rfl) Try.func90) ok10700, ⟨fun h => absurd h (by decide), ⟨fun _ => okFn_spec (aL (by kernel_rfl) Try.func67) ok10800, ⟨fun h => absurd h (by decide), ⟨fun _ => okFn_spec (aL (by kernel_rfl) Try.func36) ok10900, ⟨fun _ => okFn_spec (aL (by kernel_rfl) Try.func10) ok11000, ⟨fun _ => okFn_spec (aL (by kernel_rfl) Try.func112) ok11100, ⟨fun _ => okFn_spec (aL (by kernel_rfl) Try.func65) ok38700, ⟨fun h => absurd h (by decide), ⟨fun _ => okFn_spec (aL (by kernel_rfl) Try.func26) ok40700, ⟨fun _ => okFn_spec (aL (by kernel_rfl) Try.func32) ok40800, ⟨fun h => absurd h (by decide), ⟨fun _ => okFn_spec (aL (by kernel_rfl) Try.func34) ok40900, ⟨fun h => absurd h (by decide), ⟨fun _ => okFn_spec (aL (by kernel_rfl) Try.func35) ok41000, ⟨fun _ => okFn_spec (aL (by kernel_rfl) Try.func58) ok41100, ⟨fun h => absurd h (by decide), ⟨fun _ => okFn_spec (aL (by kernel_rfl) Try.func62) ok41200, ⟨fun _ => okFn_spec (aL (by kernel_rfl) Try.func64) ok41300, ⟨fun h => absurd h (by decide), ⟨fun _ => okFn_spec (aL (by kernel_rfl) Try.func85) ok41400, ⟨fun h => absurd h (by decide), ⟨fun _ => okFn_spec (aL (by kernel_rfl) Try.func88) ok41500, ⟨fun _ => okFn_spec (aL (by kernel_rfl) Try.func101) ok41600, ⟨fun h => absurd h (by decide), trivial⟩⟩⟩⟩⟩⟩⟩⟩⟩⟩⟩⟩⟩⟩⟩⟩⟩⟩⟩⟩⟩⟩⟩⟩⟩⟩⟩⟩⟩⟩⟩⟩⟩⟩⟩⟩⟩⟩⟩⟩⟩⟩⟩⟩⟩⟩⟩⟩⟩⟩⟩⟩⟩⟩⟩⟩⟩⟩⟩⟩⟩⟩⟩⟩⟩⟩⟩⟩⟩⟩⟩⟩⟩⟩⟩⟩⟩⟩⟩⟩⟩
theorem gok {W : World} : GOk ctx (Qif W) := by
 intro i
 show RepL ctx.fid (Qif W) (GA GT i) _
 simp [GA, GT, Qbz, RepL]
set_option maxRecDepth 100000 in
theorem lifted (os : Os) (started : os.Started) (H : Type) (enc : TypeId × Value → H) :
  ReturnsInHanded {} Try.checked os 10 .any (Rows.fnExactTaskNewSpec.pre6 enc Try.prog Try.f10 Rows.fnExactTaskNewRow.domain false) (Rows.fnExactTaskNewSpec.post enc Try.prog Try.f10 false true false false) := by
 refine returnsInHanded_of_change_sized (C := Try.checked) own started (by kernel_rfl) Try.func10
  (ChangeSpec.witness6 (enc := enc) (C := Try.checked) false ⟨#[], #[.slice none 0 0], []⟩ 8 (by kernel_rfl) (by kernel_rfl) (by kernel_rfl) (by kernel_rfl)) ?_
 intro W base args ds gs before hval0 hW hcnd hsz0 _
 have hval : ∀ (j : Nat) t v, Try.f10.params[j]? = some t → args[j]? = some v → Value.okWide Try.prog W .any base t v := hval0
 have hW' := hW
 obtain ⟨p, q, hA0, hV, rfl, hfz, hnd⟩ := hW
 have hA : DataW.TrodAll enc Try.prog W 0 (fun _ => true) true Try.f10.params.toList args.toList ds p := hA0
 have hV' := hV
 rw [Try.params10] at hA hval
 obtain ⟨v0, vs0, d0, ds0, p0, q0, hargs, rfl, rfl, h0, r0⟩ := trodAll_cons hA
 obtain ⟨rfl, rfl, rfl⟩ := trodAll_nil r0
 obtain rfl : args = #[v0] := by cases args; simp_all
 obtain ⟨rfl, rfl⟩ := trodVars_none hV
 have k0 := h0
 have lt0 : ∀ x ∈ p0, x.block < W.heap.size := by obtain ⟨m, hm⟩ := k0; exact DataW.trod_lt m _ _ _ hm
 obtain ⟨a0, y0, l0, w0⟩ := arg_sl (c := .stm) (fid := ctx.fid) Try.underlying46 (by kernel_rfl) (by decide) (hval 0 46 v0 rfl rfl) (fun n cs x hx => open_stm (by kernel_rfl) hx) h0
 have hE : Qen Tb GT Qqi 11000 [.sl .share .stm a0] [] = some true := Go.TFnExactTaskNew.laws_FnExactTaskNew_eq a0 l0 w0
 have hrun := law_top (C := ctx) laid rfl (g := 11000) (by decide) (args := #[v0]) gok (fun _ h => by cases h) rfl (by
  intro i c v hc hv
  match i, hc, hv with
  | 0, hc, hv => simp at hc hv; subst hc hv; exact y0
  | i + 1, hc, _ => simp at hc) hE
 have efid : ctx.fid 11000 = 10 := by kernel_rfl
 rw [efid] at hrun
 refine hrun.mono fun e W' ⟨he, bel⟩ => ?_
 subst he
 exact ⟨_, rfl, _, _, _, [], _, [], hW', trodAll_mk1 (shut_bool Try.underlying4 _), (trodAll_cons_mk (Below.trod laidOut (by kernel_rfl) (of_decide_eq_true (by kernel_rfl)) k0 bel lt0) trodAll_mk0), rfl, bel.frame _, fun h => by cases h⟩
theorem over : Rows.fnExactTaskNewRow.holds Try.pinned (OpenSpec.ofChange Rows.fnExactTaskNewSpec) :=
 OpenClaim.holds_of_wide 10 Try.f10 rfl rfl rfl rfl rfl rfl rfl ⟨rfl, rfl, rfl, rfl, rfl⟩ rfl rfl rfl rfl rfl (by kernel_rfl) Try.func10 (by kernel_rfl)
  (of_decide_eq_true (by kernel_rfl)) (by unfold Func.isWrapper; first | (rw [if_pos (by decide +kernel)]; kernel_rfl) | (rw [if_neg (by decide +kernel)]; exact ⟨rfl, rfl⟩))
  (fun os started H enc _ => lifted os started H enc)
end Go.Proofs.Ytbgodlimjjgogaa.fnExactTaskNew
namespace Go.Proofs.Ytbgodlimjjgogaa
theorem fnExactTaskNew_holds : Rows.FnExactTaskNewSaid := fnExactTaskNew.over
#print axioms fnExactTaskNew_holds
end Go.Proofs.Ytbgodlimjjgogaa