/- The statement FnCompileExprFold is proved: the law answers true whatever the input; under no condition. -/
import Derived.Test.YtbgodlimjjgogaaRows
import Derived.Test.YtbgodlimjjgogaaFFnCompileExprFold
import Derived.Test.YtbgodlimjjgogaaTvRow
import Derived.KernelRfl
namespace Go.Proofs.Ytbgodlimjjgogaa.fnCompileExprFold
open Go Go.Vs Go.Tv Go.ChangeShapes Go.WideShapes Go.ChangeAt Go.RowKit Go.TFnCompileExprFold
open Go.ChangeMaps (open_string shut_string)
set_option linter.unusedVariables false
theorem own : ownKnob Try.prog.godebug = none := by kernel_rfl
theorem laidOut : laidOutB Try.prog = true := by kernel_rfl
def fids : List (Nat × Nat) := [(100, 37), (200, 39), (300, 72), (400, 69), (500, 70), (600, 71), (700, 68), (800, 38), (900, 11), (1000, 91), (1100, 73), (1200, 40), (1300, 41), (1400, 42), (1500, 12), (1600, 44), (1700, 92), (1800, 74), (1900, 43), (2000, 45), (2100, 46), (2200, 13), (2300, 14), (3100, 93), (3200, 94), (3300, 75), (3400, 48), (3500, 18), (3600, 6)]
noncomputable def ctx : Ctx := { P := Try.prog, fid := fun g => (Vs.look g fids).getD 0, gm := fun _ => 0, G := GA GT }
theorem ok100 : okFn ctx (FA Tb) 8 p100.er Try.f37 = true := by kernel_rfl
theorem ok200 : okFn ctx (FA Tb) 8 p200.er Try.f39 = true := by kernel_rfl
theorem ok300 : okFn ctx (FA Tb) 8 p300.er Try.f72 = true := by kernel_rfl
theorem ok400 : okFn ctx (FA Tb) 8 p400.er Try.f69 = true := by kernel_rfl
theorem ok500 : okFn ctx (FA Tb) 8 p500.er Try.f70 = true := by kernel_rfl
theorem ok600 : okFn ctx (FA Tb) 8 p600.er Try.f71 = true := by kernel_rfl
theorem ok700 : okFn ctx (FA Tb) 8 p700.er Try.f68 = true := by kernel_rfl
theorem ok800 : okFn ctx (FA Tb) 8 p800.er Try.f38 = true := by kernel_rfl
theorem ok900 : okFn ctx (FA Tb) 8 p900.er Try.f11 = true := by kernel_rfl
theorem ok1000 : okFn ctx (FA Tb) 8 p1000.er Try.f91 = true := by kernel_rfl
theorem ok1100 : okFn ctx (FA Tb) 8 p1100.er Try.f73 = true := by kernel_rfl
theorem ok1200 : okFn ctx (FA Tb) 8 p1200.er Try.f40 = true := by kernel_rfl
theorem ok1300 : okFn ctx (FA Tb) 8 p1300.er Try.f41 = true := by kernel_rfl
theorem ok1400 : okFn ctx (FA Tb) 8 p1400.er Try.f42 = true := by kernel_rfl
theorem ok1500 : okFn ctx (FA Tb) 8 p1500.er Try.f12 = true := by kernel_rfl
theorem ok1600 : okFn ctx (FA Tb) 8 p1600.er Try.f44 = true := by kernel_rfl
theorem ok1700 : okFn ctx (FA Tb) 8 p1700.er Try.f92 = true := by kernel_rfl
theorem ok1800 : okFn ctx (FA Tb) 8 p1800.er Try.f74 = true := by kernel_rfl
theorem ok1900 : okFn ctx (FA Tb) 8 p1900.er Try.f43 = true := by kernel_rfl
theorem ok2000 : okFn ctx (FA Tb) 8 p2000.er Try.f45 = true := by kernel_rfl
theorem ok2100 : okFn ctx (FA Tb) 8 p2100.er Try.f46 = true := by kernel_rfl
theorem ok2200 : okFn ctx (FA Tb) 8 p2200.er Try.f13 = true := by kernel_rfl
theorem ok2300 : okFn ctx (FA Tb) 8 p2300.er Try.f14 = true := by kernel_rfl
theorem ok3100 : okFn ctx (FA Tb) 8 p3100.er Try.f93 = true := by kernel_rfl
theorem ok3200 : okFn ctx (FA Tb) 8 p3200.er Try.f94 = true := by kernel_rfl
theorem ok3300 : okFn ctx (FA Tb) 8 p3300.er Try.f75 = true := by kernel_rfl
theorem ok3400 : okFn ctx (FA Tb) 8 p3400.er Try.f48 = true := by kernel_rfl
theorem ok3500 : okFn ctx (FA Tb) 8 p3500.er Try.f18 = true := by kernel_rfl
theorem ok3600 : okFn ctx (FA Tb) 8 p3600.er Try.f6 = true := by kernel_rfl
theorem at100 : ctx.P.funcs[ctx.fid 100]? = some Try.f37 := by
  have e : ctx.fid 100 = 37 := by kernel_rfl
  rw [e]; exact Try.func37
theorem at200 : ctx.P.funcs[ctx.fid 200]? = some Try.f39 := by
  have e : ctx.fid 200 = 39 := by kernel_rfl
  rw [e]; exact Try.func39
theorem at300 : ctx.P.funcs[ctx.fid 300]? = some Try.f72 := by
  have e : ctx.fid 300 = 72 := by kernel_rfl
  rw [e]; exact Try.func72
theorem at400 : ctx.P.funcs[ctx.fid 400]? = some Try.f69 := by
  have e : ctx.fid 400 = 69 := by kernel_rfl
  rw [e]; exact Try.func69
theorem at500 : ctx.P.funcs[ctx.fid 500]? = some Try.f70 := by
  have e : ctx.fid 500 = 70 := by kernel_rfl
  rw [e]; exact Try.func70
theorem at600 : ctx.P.funcs[ctx.fid 600]? = some Try.f71 := by
  have e : ctx.fid 600 = 71 := by kernel_rfl
  rw [e]; exact Try.func71
theorem at700 : ctx.P.funcs[ctx.fid 700]? = some Try.f68 := by
  have e : ctx.fid 700 = 68 := by kernel_rfl
  rw [e]; exact Try.func68
theorem at800 : ctx.P.funcs[ctx.fid 800]? = some Try.f38 := by
  have e : ctx.fid 800 = 38 := by kernel_rfl
  rw [e]; exact Try.func38
theorem at900 : ctx.P.funcs[ctx.fid 900]? = some Try.f11 := by
  have e : ctx.fid 900 = 11 := by kernel_rfl
  rw [e]; exact Try.func11
theorem at1000 : ctx.P.funcs[ctx.fid 1000]? = some Try.f91 := by
  have e : ctx.fid 1000 = 91 := by kernel_rfl
  rw [e]; exact Try.func91
theorem at1100 : ctx.P.funcs[ctx.fid 1100]? = some Try.f73 := by
  have e : ctx.fid 1100 = 73 := by kernel_rfl
  rw [e]; exact Try.func73
theorem at1200 : ctx.P.funcs[ctx.fid 1200]? = some Try.f40 := by
  have e : ctx.fid 1200 = 40 := by kernel_rfl
  rw [e]; exact Try.func40
theorem at1300 : ctx.P.funcs[ctx.fid 1300]? = some Try.f41 := by
  have e : ctx.fid 1300 = 41 := by kernel_rfl
  rw [e]; exact Try.func41
theorem at1400 : ctx.P.funcs[ctx.fid 1400]? = some Try.f42 := by
  have e : ctx.fid 1400 = 42 := by kernel_rfl
  rw [e]; exact Try.func42
theorem at1500 : ctx.P.funcs[ctx.fid 1500]? = some Try.f12 := by
  have e : ctx.fid 1500 = 12 := by kernel_rfl
  rw [e]; exact Try.func12
theorem at1600 : ctx.P.funcs[ctx.fid 1600]? = some Try.f44 := by
  have e : ctx.fid 1600 = 44 := by kernel_rfl
  rw [e]; exact Try.func44
theorem at1700 : ctx.P.funcs[ctx.fid 1700]? = some Try.f92 := by
  have e : ctx.fid 1700 = 92 := by kernel_rfl
  rw [e]; exact Try.func92
theorem at1800 : ctx.P.funcs[ctx.fid 1800]? = some Try.f74 := by
  have e : ctx.fid 1800 = 74 := by kernel_rfl
  rw [e]; exact Try.func74
theorem at1900 : ctx.P.funcs[ctx.fid 1900]? = some Try.f43 := by
  have e : ctx.fid 1900 = 43 := by kernel_rfl
  rw [e]; exact Try.func43
theorem at2000 : ctx.P.funcs[ctx.fid 2000]? = some Try.f45 := by
  have e : ctx.fid 2000 = 45 := by kernel_rfl
  rw [e]; exact Try.func45
theorem at2100 : ctx.P.funcs[ctx.fid 2100]? = some Try.f46 := by
  have e : ctx.fid 2100 = 46 := by kernel_rfl
  rw [e]; exact Try.func46
theorem at2200 : ctx.P.funcs[ctx.fid 2200]? = some Try.f13 := by
  have e : ctx.fid 2200 = 13 := by kernel_rfl
  rw [e]; exact Try.func13
theorem at2300 : ctx.P.funcs[ctx.fid 2300]? = some Try.f14 := by
  have e : ctx.fid 2300 = 14 := by kernel_rfl
  rw [e]; exact Try.func14
theorem at3100 : ctx.P.funcs[ctx.fid 3100]? = some Try.f93 := by
  have e : ctx.fid 3100 = 93 := by kernel_rfl
  rw [e]; exact Try.func93
theorem at3200 : ctx.P.funcs[ctx.fid 3200]? = some Try.f94 := by
  have e : ctx.fid 3200 = 94 := by kernel_rfl
  rw [e]; exact Try.func94
theorem at3300 : ctx.P.funcs[ctx.fid 3300]? = some Try.f75 := by
  have e : ctx.fid 3300 = 75 := by kernel_rfl
  rw [e]; exact Try.func75
theorem at3400 : ctx.P.funcs[ctx.fid 3400]? = some Try.f48 := by
  have e : ctx.fid 3400 = 48 := by kernel_rfl
  rw [e]; exact Try.func48
theorem at3500 : ctx.P.funcs[ctx.fid 3500]? = some Try.f18 := by
  have e : ctx.fid 3500 = 18 := by kernel_rfl
  rw [e]; exact Try.func18
theorem at3600 : ctx.P.funcs[ctx.fid 3600]? = some Try.f6 := by
  have e : ctx.fid 3600 = 6 := by kernel_rfl
  rw [e]; exact Try.func6
theorem laid : Laid ctx (FA Tb) := by
  refine laidT (l := tab) (by kernel_rfl) ?_
  have e : tab.map (fun x => (x.1, x.2.er)) = [(100, p100.er), (200, p200.er), (300, p300.er), (400, p400.er), (500, p500.er), (600, p600.er), (700, p700.er), (800, p800.er), (900, p900.er), (1000, p1000.er), (1100, p1100.er), (1200, p1200.er), (1300, p1300.er), (1301, p1301.er), (1400, p1400.er), (1500, p1500.er), (1600, p1600.er), (1700, p1700.er), (1800, p1800.er), (1900, p1900.er), (2000, p2000.er), (2100, p2100.er), (2200, p2200.er), (2300, p2300.er), (2301, p2301.er), (3100, p3100.er), (3200, p3200.er), (3300, p3300.er), (3400, p3400.er), (3500, p3500.er), (3600, p3600.er)] := by kernel_rfl
  rw [e]
  exact ⟨fun _ => okFn_spec at100 ok100, ⟨fun _ => okFn_spec at200 ok200, ⟨fun _ => okFn_spec at300 ok300, ⟨fun _ => okFn_spec at400 ok400, ⟨fun _ => okFn_spec at500 ok500, ⟨fun _ => okFn_spec at600 ok600, ⟨fun _ => okFn_spec at700 ok700, ⟨fun _ => okFn_spec at800 ok800, ⟨fun _ => okFn_spec at900 ok900, ⟨fun _ => okFn_spec at1000 ok1000, ⟨fun _ => okFn_spec at1100 ok1100, ⟨fun _ => okFn_spec at1200 ok1200, ⟨fun _ => okFn_spec at1300 ok1300, ⟨fun h => absurd h (by decide), ⟨fun _ => okFn_spec at1400 ok1400, ⟨fun _ => okFn_spec at1500 ok1500, ⟨fun _ => okFn_spec at1600 ok1600, ⟨fun _ => okFn_spec at1700 ok1700, ⟨fun _ => okFn_spec at1800 ok1800, ⟨fun _ => okFn_spec at1900 ok1900, ⟨fun _ => okFn_spec at2000 ok2000, ⟨fun _ => okFn_spec at2100 ok2100, ⟨fun _ => okFn_spec at2200 ok2200, ⟨fun _ => okFn_spec at2300 ok2300, ⟨fun h => absurd h (by decide), ⟨fun _ => okFn_spec at3100 ok3100, ⟨fun _ => okFn_spec at3200 ok3200, ⟨fun _ => okFn_spec at3300 ok3300, ⟨fun _ => okFn_spec at3400 ok3400, ⟨fun _ => okFn_spec at3500 ok3500, ⟨fun _ => okFn_spec at3600 ok3600, trivial⟩⟩⟩⟩⟩⟩⟩⟩⟩⟩⟩⟩⟩⟩⟩⟩⟩⟩⟩⟩⟩⟩⟩⟩⟩⟩⟩⟩⟩⟩⟩
theorem gok {W : World} : GOk ctx (memOf W) := by
  intro i
  show RepL ctx.fid (memOf W) (GA GT i) _
  simp [GA, GT, toAVs, RepL]
set_option maxRecDepth 100000 in
theorem lifted (os : Os) (started : os.Started) (H : Type) (enc : TypeId × Value → H) :
    ReturnsInHanded {} Try.checked os 6 .any (Rows.fnCompileExprFoldSpec.pre6 enc Try.prog Try.f6 Rows.fnCompileExprFoldRow.domain false) (Rows.fnCompileExprFoldSpec.post enc Try.prog Try.f6 false true false false) := by
  refine returnsInHanded_of_change_sized (C := Try.checked) own started (by kernel_rfl) Try.func6
    (ChangeSpec.witness6 (enc := enc) (C := Try.checked) false ⟨#[], #[.slice none 0 0], []⟩ 8 (by kernel_rfl) (by kernel_rfl) (by kernel_rfl) (by kernel_rfl)) ?_
  intro W base args ds gs before hval0 hW hcnd hsz0 _
  have hval : ∀ (j : Nat) t v, Try.f6.params[j]? = some t → args[j]? = some v → Value.okWide Try.prog W .any base t v := hval0
  have hW' := hW
  obtain ⟨p, q, hA0, hV, rfl, hfz, hnd⟩ := hW
  have hA : DataW.TrodAll enc Try.prog W 0 (fun _ => true) true Try.f6.params.toList args.toList ds p := hA0
  rw [Try.params6] at hA hval
  obtain ⟨v0, vs0, d0, ds0, p0, q0, hargs, rfl, rfl, h0, r0⟩ := trodAll_cons hA
  obtain ⟨rfl, rfl, rfl⟩ := trodAll_nil r0
  obtain rfl : args = #[v0] := by cases args; simp_all
  obtain ⟨rfl, rfl⟩ := trodVars_none hV
  have k0 := h0
  have lt0 : ∀ x ∈ p0, x.block < W.heap.size := by obtain ⟨m, hm⟩ := k0; exact DataW.trod_lt m _ _ _ hm
  obtain ⟨a0, y0, w0⟩ := arg_bytes (fid := ctx.fid) Try.underlying22 (by kernel_rfl) (hval 0 22 v0 rfl rfl) h0
  have hE : callTy Tb GT boolSig 3600 [.sl .share .u8 a0] [] = some true := Go.TFnCompileExprFold.laws_FnCompileExprFold_eq a0 w0
  have hrun := law_top (C := ctx) laid rfl (g := 3600) (by decide) (args := #[v0]) gok rfl (by
    intro i c v hc hv
    match i, hc, hv with
    | 0, hc, hv => simp at hc hv; subst hc hv; exact y0
    | i + 1, hc, _ => simp at hc) hE
  have efid : ctx.fid 3600 = 6 := by kernel_rfl
  rw [efid] at hrun
  refine hrun.mono fun e W' ⟨he, bel⟩ => ?_
  subst he
  exact ⟨_, rfl, _, _, _, [], _, [], hW', trodAll_mk1 (shut_bool Try.underlying4 _), (trodAll_cons_mk (Below.trod laidOut (by kernel_rfl) (of_decide_eq_true (by kernel_rfl)) k0 bel lt0) trodAll_mk0), rfl, bel.frame _, fun h => by cases h⟩
theorem over : Rows.fnCompileExprFoldRow.holds Try.pinned (OpenSpec.ofChange Rows.fnCompileExprFoldSpec) :=
  OpenClaim.holds_of_wide 6 Try.f6 rfl rfl rfl rfl rfl rfl rfl ⟨rfl, rfl, rfl, rfl, rfl⟩ rfl rfl rfl rfl rfl (by kernel_rfl) Try.func6 (by kernel_rfl)
    (of_decide_eq_true (by kernel_rfl)) (by unfold Func.isWrapper; first | (rw [if_pos (by decide +kernel)]; kernel_rfl) | (rw [if_neg (by decide +kernel)]; exact ⟨rfl, rfl⟩))
    (fun os started H enc _ => lifted os started H enc)
end Go.Proofs.Ytbgodlimjjgogaa.fnCompileExprFold
namespace Go.Proofs.Ytbgodlimjjgogaa
/-- The row. -/
theorem fnCompileExprFold_holds : Rows.FnCompileExprFoldSaid := fnCompileExprFold.over
#print axioms fnCompileExprFold_holds
end Go.Proofs.Ytbgodlimjjgogaa
