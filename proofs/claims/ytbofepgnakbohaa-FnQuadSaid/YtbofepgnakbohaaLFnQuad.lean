/- The statement FnQuad is proved: the law answers true whatever the input; under no condition. -/
import Derived.Test.YtbofepgnakbohaaRows
import Derived.Test.YtbofepgnakbohaaFFnQuad
import Derived.Test.YtbofepgnakbohaaTvRow
import Derived.KernelRfl
namespace Go.Proofs.Ytbofepgnakbohaa.fnQuad
open Go Go.Vs Go.Tv Go.ChangeShapes Go.WideShapes Go.ChangeAt Go.RowKit Go.TFnQuad
open Go.ChangeMaps (open_string shut_string)
set_option linter.unusedVariables false
theorem own : ownKnob Try.prog.godebug = none := by kernel_rfl
theorem laidOut : laidOutB Try.prog = true := by kernel_rfl
def fids : List (Nat × Nat) := [(100, 43), (200, 44), (600, 64), (1000, 50), (1600, 42), (1700, 47), (3700, 65), (3800, 63), (5000, 49), (6400, 46), (11800, 60), (11900, 45), (12000, 17), (12200, 48), (12300, 19), (15300, 62), (15400, 61), (15500, 59), (15600, 41), (15700, 12)]
noncomputable def ctx : Ctx := { P := Try.prog, fid := fun g => (Vs.look g fids).getD 0, gm := fun _ => 0, G := GA GT }
theorem ok100 : okFn ctx (FA Tb) 8 p100.er Try.f43 = true := by kernel_rfl
theorem ok200 : okFn ctx (FA Tb) 8 p200.er Try.f44 = true := by kernel_rfl
theorem ok600 : okFn ctx (FA Tb) 8 p600.er Try.f64 = true := by kernel_rfl
theorem ok1000 : okFn ctx (FA Tb) 8 p1000.er Try.f50 = true := by kernel_rfl
theorem ok1600 : okFn ctx (FA Tb) 8 p1600.er Try.f42 = true := by kernel_rfl
theorem ok1700 : okFn ctx (FA Tb) 8 p1700.er Try.f47 = true := by kernel_rfl
theorem ok3700 : okFn ctx (FA Tb) 8 p3700.er Try.f65 = true := by kernel_rfl
theorem ok3800 : okFn ctx (FA Tb) 8 p3800.er Try.f63 = true := by kernel_rfl
theorem ok5000 : okFn ctx (FA Tb) 8 p5000.er Try.f49 = true := by kernel_rfl
theorem ok6400 : okFn ctx (FA Tb) 8 p6400.er Try.f46 = true := by kernel_rfl
theorem ok11800 : okFn ctx (FA Tb) 8 p11800.er Try.f60 = true := by kernel_rfl
theorem ok11900 : okFn ctx (FA Tb) 8 p11900.er Try.f45 = true := by kernel_rfl
theorem ok12000 : okFn ctx (FA Tb) 8 p12000.er Try.f17 = true := by kernel_rfl
theorem ok12200 : okFn ctx (FA Tb) 8 p12200.er Try.f48 = true := by kernel_rfl
theorem ok12300 : okFn ctx (FA Tb) 8 p12300.er Try.f19 = true := by kernel_rfl
theorem ok15300 : okFn ctx (FA Tb) 8 p15300.er Try.f62 = true := by kernel_rfl
theorem ok15400 : okFn ctx (FA Tb) 8 p15400.er Try.f61 = true := by kernel_rfl
theorem ok15500 : okFn ctx (FA Tb) 8 p15500.er Try.f59 = true := by kernel_rfl
theorem ok15600 : okFn ctx (FA Tb) 8 p15600.er Try.f41 = true := by kernel_rfl
theorem ok15700 : okFn ctx (FA Tb) 8 p15700.er Try.f12 = true := by kernel_rfl
theorem at100 : ctx.P.funcs[ctx.fid 100]? = some Try.f43 := by
  have e : ctx.fid 100 = 43 := by kernel_rfl
  rw [e]; exact Try.func43
theorem at200 : ctx.P.funcs[ctx.fid 200]? = some Try.f44 := by
  have e : ctx.fid 200 = 44 := by kernel_rfl
  rw [e]; exact Try.func44
theorem at600 : ctx.P.funcs[ctx.fid 600]? = some Try.f64 := by
  have e : ctx.fid 600 = 64 := by kernel_rfl
  rw [e]; exact Try.func64
theorem at1000 : ctx.P.funcs[ctx.fid 1000]? = some Try.f50 := by
  have e : ctx.fid 1000 = 50 := by kernel_rfl
  rw [e]; exact Try.func50
theorem at1600 : ctx.P.funcs[ctx.fid 1600]? = some Try.f42 := by
  have e : ctx.fid 1600 = 42 := by kernel_rfl
  rw [e]; exact Try.func42
theorem at1700 : ctx.P.funcs[ctx.fid 1700]? = some Try.f47 := by
  have e : ctx.fid 1700 = 47 := by kernel_rfl
  rw [e]; exact Try.func47
theorem at3700 : ctx.P.funcs[ctx.fid 3700]? = some Try.f65 := by
  have e : ctx.fid 3700 = 65 := by kernel_rfl
  rw [e]; exact Try.func65
theorem at3800 : ctx.P.funcs[ctx.fid 3800]? = some Try.f63 := by
  have e : ctx.fid 3800 = 63 := by kernel_rfl
  rw [e]; exact Try.func63
theorem at5000 : ctx.P.funcs[ctx.fid 5000]? = some Try.f49 := by
  have e : ctx.fid 5000 = 49 := by kernel_rfl
  rw [e]; exact Try.func49
theorem at6400 : ctx.P.funcs[ctx.fid 6400]? = some Try.f46 := by
  have e : ctx.fid 6400 = 46 := by kernel_rfl
  rw [e]; exact Try.func46
theorem at11800 : ctx.P.funcs[ctx.fid 11800]? = some Try.f60 := by
  have e : ctx.fid 11800 = 60 := by kernel_rfl
  rw [e]; exact Try.func60
theorem at11900 : ctx.P.funcs[ctx.fid 11900]? = some Try.f45 := by
  have e : ctx.fid 11900 = 45 := by kernel_rfl
  rw [e]; exact Try.func45
theorem at12000 : ctx.P.funcs[ctx.fid 12000]? = some Try.f17 := by
  have e : ctx.fid 12000 = 17 := by kernel_rfl
  rw [e]; exact Try.func17
theorem at12200 : ctx.P.funcs[ctx.fid 12200]? = some Try.f48 := by
  have e : ctx.fid 12200 = 48 := by kernel_rfl
  rw [e]; exact Try.func48
theorem at12300 : ctx.P.funcs[ctx.fid 12300]? = some Try.f19 := by
  have e : ctx.fid 12300 = 19 := by kernel_rfl
  rw [e]; exact Try.func19
theorem at15300 : ctx.P.funcs[ctx.fid 15300]? = some Try.f62 := by
  have e : ctx.fid 15300 = 62 := by kernel_rfl
  rw [e]; exact Try.func62
theorem at15400 : ctx.P.funcs[ctx.fid 15400]? = some Try.f61 := by
  have e : ctx.fid 15400 = 61 := by kernel_rfl
  rw [e]; exact Try.func61
theorem at15500 : ctx.P.funcs[ctx.fid 15500]? = some Try.f59 := by
  have e : ctx.fid 15500 = 59 := by kernel_rfl
  rw [e]; exact Try.func59
theorem at15600 : ctx.P.funcs[ctx.fid 15600]? = some Try.f41 := by
  have e : ctx.fid 15600 = 41 := by kernel_rfl
  rw [e]; exact Try.func41
theorem at15700 : ctx.P.funcs[ctx.fid 15700]? = some Try.f12 := by
  have e : ctx.fid 15700 = 12 := by kernel_rfl
  rw [e]; exact Try.func12
theorem laid : Laid ctx (FA Tb) := by
  refine laidT (l := tab) (by kernel_rfl) ?_
  have e : tab.map (fun x => (x.1, x.2.er)) = [(100, p100.er), (200, p200.er), (600, p600.er), (1000, p1000.er), (1600, p1600.er), (1700, p1700.er), (3700, p3700.er), (3800, p3800.er), (5000, p5000.er), (6400, p6400.er), (11800, p11800.er), (11900, p11900.er), (12000, p12000.er), (12200, p12200.er), (12300, p12300.er), (15300, p15300.er), (15400, p15400.er), (15500, p15500.er), (15600, p15600.er), (15700, p15700.er)] := by kernel_rfl
  rw [e]
  exact ⟨fun _ => okFn_spec at100 ok100, ⟨fun _ => okFn_spec at200 ok200, ⟨fun _ => okFn_spec at600 ok600, ⟨fun _ => okFn_spec at1000 ok1000, ⟨fun _ => okFn_spec at1600 ok1600, ⟨fun _ => okFn_spec at1700 ok1700, ⟨fun _ => okFn_spec at3700 ok3700, ⟨fun _ => okFn_spec at3800 ok3800, ⟨fun _ => okFn_spec at5000 ok5000, ⟨fun _ => okFn_spec at6400 ok6400, ⟨fun _ => okFn_spec at11800 ok11800, ⟨fun _ => okFn_spec at11900 ok11900, ⟨fun _ => okFn_spec at12000 ok12000, ⟨fun _ => okFn_spec at12200 ok12200, ⟨fun _ => okFn_spec at12300 ok12300, ⟨fun _ => okFn_spec at15300 ok15300, ⟨fun _ => okFn_spec at15400 ok15400, ⟨fun _ => okFn_spec at15500 ok15500, ⟨fun _ => okFn_spec at15600 ok15600, ⟨fun _ => okFn_spec at15700 ok15700, trivial⟩⟩⟩⟩⟩⟩⟩⟩⟩⟩⟩⟩⟩⟩⟩⟩⟩⟩⟩⟩
theorem gok {W : World} : GOk ctx (memOf W) := by
  intro i
  show RepL ctx.fid (memOf W) (GA GT i) _
  simp [GA, GT, toAVs, RepL]
set_option maxRecDepth 100000 in
theorem lifted (os : Os) (started : os.Started) (H : Type) (enc : TypeId × Value → H) :
    ReturnsInHanded {} Try.checked os 12 .any (Rows.fnQuadSpec.pre6 enc Try.prog Try.f12 Rows.fnQuadRow.domain false) (Rows.fnQuadSpec.post enc Try.prog Try.f12 false true false false) := by
  refine returnsInHanded_of_change_sized (C := Try.checked) own started (by kernel_rfl) Try.func12
    (ChangeSpec.witness6 (enc := enc) (C := Try.checked) false ⟨#[], #[.slice none 0 0, .slice none 0 0], []⟩ 8 (by kernel_rfl) (by kernel_rfl) (by kernel_rfl) (by kernel_rfl)) ?_
  intro W base args ds gs before hval0 hW hcnd hsz0 _
  have hval : ∀ (j : Nat) t v, Try.f12.params[j]? = some t → args[j]? = some v → Value.okWide Try.prog W .any base t v := hval0
  have hW' := hW
  obtain ⟨p, q, hA0, hV, rfl, hfz, hnd⟩ := hW
  have hA : DataW.TrodAll enc Try.prog W 0 (fun _ => true) true Try.f12.params.toList args.toList ds p := hA0
  rw [Try.params12] at hA hval
  obtain ⟨v0, vs0, d0, ds0, p0, q0, hargs, rfl, rfl, h0, r0⟩ := trodAll_cons hA
  obtain ⟨v1, vs1, d1, ds1, p1, q1, rfl, rfl, rfl, h1, r1⟩ := trodAll_cons r0
  obtain ⟨rfl, rfl, rfl⟩ := trodAll_nil r1
  obtain rfl : args = #[v0, v1] := by cases args; simp_all
  obtain ⟨rfl, rfl⟩ := trodVars_none hV
  have k0 := h0
  have lt0 : ∀ x ∈ p0, x.block < W.heap.size := by obtain ⟨m, hm⟩ := k0; exact DataW.trod_lt m _ _ _ hm
  obtain ⟨a0, y0, w0⟩ := arg_bytes (fid := ctx.fid) Try.underlying25 (by kernel_rfl) (hval 0 25 v0 rfl rfl) h0
  have k1 := h1
  have lt1 : ∀ x ∈ p1, x.block < W.heap.size := by obtain ⟨m, hm⟩ := k1; exact DataW.trod_lt m _ _ _ hm
  obtain ⟨a1, y1, w1⟩ := arg_bytes (fid := ctx.fid) Try.underlying25 (by kernel_rfl) (hval 1 25 v1 rfl rfl) h1
  have hE : callTy Tb GT boolSig 15700 [.sl .share .u8 a0, .sl .share .u8 a1] [] = some true := Go.TFnQuad.laws_FnQuad_eq a0 w0 a1 w1
  have hrun := law_top (C := ctx) laid rfl (g := 15700) (by decide) (args := #[v0, v1]) gok rfl (by
    intro i c v hc hv
    match i, hc, hv with
    | 0, hc, hv => simp at hc hv; subst hc hv; exact y0
    | 1, hc, hv => simp at hc hv; subst hc hv; exact y1
    | i + 2, hc, _ => simp at hc) hE
  have efid : ctx.fid 15700 = 12 := by kernel_rfl
  rw [efid] at hrun
  refine hrun.mono fun e W' ⟨he, bel⟩ => ?_
  subst he
  exact ⟨_, rfl, _, _, _, [], _, [], hW', trodAll_mk1 (shut_bool Try.underlying4 _), (trodAll_cons_mk (Below.trod laidOut (by kernel_rfl) (of_decide_eq_true (by kernel_rfl)) k0 bel lt0) (trodAll_cons_mk (Below.trod laidOut (by kernel_rfl) (of_decide_eq_true (by kernel_rfl)) k1 bel lt1) trodAll_mk0)), rfl, bel.frame _, fun h => by cases h⟩
theorem over : Rows.fnQuadRow.holds Try.pinned (OpenSpec.ofChange Rows.fnQuadSpec) :=
  OpenClaim.holds_of_wide 12 Try.f12 rfl rfl rfl rfl rfl rfl rfl ⟨rfl, rfl, rfl, rfl, rfl⟩ rfl rfl rfl rfl rfl (by kernel_rfl) Try.func12 (by kernel_rfl)
    (of_decide_eq_true (by kernel_rfl)) (by unfold Func.isWrapper; first | (rw [if_pos (by decide +kernel)]; kernel_rfl) | (rw [if_neg (by decide +kernel)]; exact ⟨rfl, rfl⟩))
    (fun os started H enc _ => lifted os started H enc)
end Go.Proofs.Ytbofepgnakbohaa.fnQuad
namespace Go.Proofs.Ytbofepgnakbohaa
/-- The row. -/
theorem fnQuad_holds : Rows.FnQuadSaid := fnQuad.over
#print axioms fnQuad_holds
end Go.Proofs.Ytbofepgnakbohaa
