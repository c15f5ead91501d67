/- The statement FnExactCodeValid is proved: the law answers true whatever the input; under no condition. -/
import Derived.Test.YtbofepgnakbohaaRows
import Derived.Test.YtbofepgnakbohaaFFnExactCodeValid
import Derived.Test.YtbofepgnakbohaaTvRow
import Derived.KernelRfl
namespace Go.Proofs.Ytbofepgnakbohaa.fnExactCodeValid
open Go Go.Vs Go.Tv Go.ChangeShapes Go.WideShapes Go.ChangeAt Go.RowKit Go.TFnExactCodeValid
open Go.ChangeMaps (open_string shut_string)
set_option linter.unusedVariables false
theorem own : ownKnob Try.prog.godebug = none := by kernel_rfl
theorem laidOut : laidOutB Try.prog = true := by kernel_rfl
def fids : List (Nat × Nat) := [(1000, 50), (1600, 42), (1700, 47), (5000, 49), (6400, 46), (11800, 60), (11900, 45), (12000, 17), (12100, 18), (12200, 48), (12300, 19), (14600, 36), (14700, 37), (14800, 38), (14900, 39), (15000, 58), (15100, 40), (15200, 11)]
noncomputable def ctx : Ctx := { P := Try.prog, fid := fun g => (Vs.look g fids).getD 0, gm := fun _ => 0, G := GA GT }
theorem ok1000 : okFn ctx (FA Tb) 8 p1000.er Try.f50 = true := by kernel_rfl
theorem ok1600 : okFn ctx (FA Tb) 8 p1600.er Try.f42 = true := by kernel_rfl
theorem ok1700 : okFn ctx (FA Tb) 8 p1700.er Try.f47 = true := by kernel_rfl
theorem ok5000 : okFn ctx (FA Tb) 8 p5000.er Try.f49 = true := by kernel_rfl
theorem ok6400 : okFn ctx (FA Tb) 8 p6400.er Try.f46 = true := by kernel_rfl
theorem ok11800 : okFn ctx (FA Tb) 8 p11800.er Try.f60 = true := by kernel_rfl
theorem ok11900 : okFn ctx (FA Tb) 8 p11900.er Try.f45 = true := by kernel_rfl
theorem ok12000 : okFn ctx (FA Tb) 8 p12000.er Try.f17 = true := by kernel_rfl
theorem ok12100 : okFn ctx (FA Tb) 8 p12100.er Try.f18 = true := by kernel_rfl
theorem ok12200 : okFn ctx (FA Tb) 8 p12200.er Try.f48 = true := by kernel_rfl
theorem ok12300 : okFn ctx (FA Tb) 8 p12300.er Try.f19 = true := by kernel_rfl
theorem ok14600 : okFn ctx (FA Tb) 8 p14600.er Try.f36 = true := by kernel_rfl
theorem ok14700 : okFn ctx (FA Tb) 8 p14700.er Try.f37 = true := by kernel_rfl
theorem ok14800 : okFn ctx (FA Tb) 8 p14800.er Try.f38 = true := by kernel_rfl
theorem ok14900 : okFn ctx (FA Tb) 8 p14900.er Try.f39 = true := by kernel_rfl
theorem ok15000 : okFn ctx (FA Tb) 8 p15000.er Try.f58 = true := by kernel_rfl
theorem ok15100 : okFn ctx (FA Tb) 8 p15100.er Try.f40 = true := by kernel_rfl
theorem ok15200 : okFn ctx (FA Tb) 8 p15200.er Try.f11 = true := by kernel_rfl
theorem at1000 : ctx.P.funcs[ctx.fid 1000]? = some Try.f50 := by
  have e : ctx.fid 1000 = 50 := by kernel_rfl
  rw [e]; exact Try.func50
theorem at1600 : ctx.P.funcs[ctx.fid 1600]? = some Try.f42 := by
  have e : ctx.fid 1600 = 42 := by kernel_rfl
  rw [e]; exact Try.func42
theorem at1700 : ctx.P.funcs[ctx.fid 1700]? = some Try.f47 := by
  have e : ctx.fid 1700 = 47 := by kernel_rfl
  rw [e]; exact Try.func47
theorem at5000 : ctx.P.funcs[ctx.fid 5000]? = some Try.f49 := by
  have e : ctx.fid 5000 = 49 := by kernel_rfl
  rw [e]; exact Try.func49
theorem at6400 : ctx.P.funcs[ctx.fid 6400]? = some Try.f46 := by
  have e : ctx.fid 6400 = 46 := by kernel_rfl
  rw [e]; exact Try.func46
theorem at11800 : ctx.P.funcs[ctx.fid 11800]? = some Try.f60 := by
  have e : ctx.fid 11800 = 60 := by kernel_rfl
  rw [e]; exact Try.func60
theorem at11900 : ctx.P.funcs[ctx.fid 11900]? = some Try.f45 := by
  have e : ctx.fid 11900 = 45 := by kernel_rfl
  rw [e]; exact Try.func45
theorem at12000 : ctx.P.funcs[ctx.fid 12000]? = some Try.f17 := by
  have e : ctx.fid 12000 = 17 := by kernel_rfl
  rw [e]; exact Try.func17
theorem at12100 : ctx.P.funcs[ctx.fid 12100]? = some Try.f18 := by
  have e : ctx.fid 12100 = 18 := by kernel_rfl
  rw [e]; exact Try.func18
theorem at12200 : ctx.P.funcs[ctx.fid 12200]? = some Try.f48 := by
  have e : ctx.fid 12200 = 48 := by kernel_rfl
  rw [e]; exact Try.func48
theorem at12300 : ctx.P.funcs[ctx.fid 12300]? = some Try.f19 := by
  have e : ctx.fid 12300 = 19 := by kernel_rfl
  rw [e]; exact Try.func19
theorem at14600 : ctx.P.funcs[ctx.fid 14600]? = some Try.f36 := by
  have e : ctx.fid 14600 = 36 := by kernel_rfl
  rw [e]; exact Try.func36
theorem at14700 : ctx.P.funcs[ctx.fid 14700]? = some Try.f37 := by
  have e : ctx.fid 14700 = 37 := by kernel_rfl
  rw [e]; exact Try.func37
theorem at14800 : ctx.P.funcs[ctx.fid 14800]? = some Try.f38 := by
  have e : ctx.fid 14800 = 38 := by kernel_rfl
  rw [e]; exact Try.func38
theorem at14900 : ctx.P.funcs[ctx.fid 14900]? = some Try.f39 := by
  have e : ctx.fid 14900 = 39 := by kernel_rfl
  rw [e]; exact Try.func39
theorem at15000 : ctx.P.funcs[ctx.fid 15000]? = some Try.f58 := by
  have e : ctx.fid 15000 = 58 := by kernel_rfl
  rw [e]; exact Try.func58
theorem at15100 : ctx.P.funcs[ctx.fid 15100]? = some Try.f40 := by
  have e : ctx.fid 15100 = 40 := by kernel_rfl
  rw [e]; exact Try.func40
theorem at15200 : ctx.P.funcs[ctx.fid 15200]? = some Try.f11 := by
  have e : ctx.fid 15200 = 11 := by kernel_rfl
  rw [e]; exact Try.func11
theorem laid : Laid ctx (FA Tb) := by
  refine laidT (l := tab) (by kernel_rfl) ?_
  have e : tab.map (fun x => (x.1, x.2.er)) = [(1000, p1000.er), (1600, p1600.er), (1700, p1700.er), (5000, p5000.er), (6400, p6400.er), (11800, p11800.er), (11900, p11900.er), (12000, p12000.er), (12100, p12100.er), (12200, p12200.er), (12300, p12300.er), (14600, p14600.er), (14700, p14700.er), (14701, p14701.er), (14800, p14800.er), (14801, p14801.er), (14900, p14900.er), (14901, p14901.er), (15000, p15000.er), (15100, p15100.er), (15101, p15101.er), (15200, p15200.er)] := by kernel_rfl
  rw [e]
  exact ⟨fun _ => okFn_spec at1000 ok1000, ⟨fun _ => okFn_spec at1600 ok1600, ⟨fun _ => okFn_spec at1700 ok1700, ⟨fun _ => okFn_spec at5000 ok5000, ⟨fun _ => okFn_spec at6400 ok6400, ⟨fun _ => okFn_spec at11800 ok11800, ⟨fun _ => okFn_spec at11900 ok11900, ⟨fun _ => okFn_spec at12000 ok12000, ⟨fun _ => okFn_spec at12100 ok12100, ⟨fun _ => okFn_spec at12200 ok12200, ⟨fun _ => okFn_spec at12300 ok12300, ⟨fun _ => okFn_spec at14600 ok14600, ⟨fun _ => okFn_spec at14700 ok14700, ⟨fun h => absurd h (by decide), ⟨fun _ => okFn_spec at14800 ok14800, ⟨fun h => absurd h (by decide), ⟨fun _ => okFn_spec at14900 ok14900, ⟨fun h => absurd h (by decide), ⟨fun _ => okFn_spec at15000 ok15000, ⟨fun _ => okFn_spec at15100 ok15100, ⟨fun h => absurd h (by decide), ⟨fun _ => okFn_spec at15200 ok15200, trivial⟩⟩⟩⟩⟩⟩⟩⟩⟩⟩⟩⟩⟩⟩⟩⟩⟩⟩⟩⟩⟩⟩
theorem gok {W : World} : GOk ctx (memOf W) := by
  intro i
  show RepL ctx.fid (memOf W) (GA GT i) _
  simp [GA, GT, toAVs, RepL]
set_option maxRecDepth 100000 in
theorem lifted (os : Os) (started : os.Started) (H : Type) (enc : TypeId × Value → H) :
    ReturnsInHanded {} Try.checked os 11 .any (Rows.fnExactCodeValidSpec.pre6 enc Try.prog Try.f11 Rows.fnExactCodeValidRow.domain false) (Rows.fnExactCodeValidSpec.post enc Try.prog Try.f11 false true false false) := by
  refine returnsInHanded_of_change_sized (C := Try.checked) own started (by kernel_rfl) Try.func11
    (ChangeSpec.witness6 (enc := enc) (C := Try.checked) false ⟨#[], #[.slice none 0 0], []⟩ 8 (by kernel_rfl) (by kernel_rfl) (by kernel_rfl) (by kernel_rfl)) ?_
  intro W base args ds gs before hval0 hW hcnd hsz0 _
  have hval : ∀ (j : Nat) t v, Try.f11.params[j]? = some t → args[j]? = some v → Value.okWide Try.prog W .any base t v := hval0
  have hW' := hW
  obtain ⟨p, q, hA0, hV, rfl, hfz, hnd⟩ := hW
  have hA : DataW.TrodAll enc Try.prog W 0 (fun _ => true) true Try.f11.params.toList args.toList ds p := hA0
  rw [Try.params11] at hA hval
  obtain ⟨v0, vs0, d0, ds0, p0, q0, hargs, rfl, rfl, h0, r0⟩ := trodAll_cons hA
  obtain ⟨rfl, rfl, rfl⟩ := trodAll_nil r0
  obtain rfl : args = #[v0] := by cases args; simp_all
  obtain ⟨rfl, rfl⟩ := trodVars_none hV
  have k0 := h0
  have lt0 : ∀ x ∈ p0, x.block < W.heap.size := by obtain ⟨m, hm⟩ := k0; exact DataW.trod_lt m _ _ _ hm
  obtain ⟨a0, y0, l0, w0⟩ := arg_sl (c := .quad) (fid := ctx.fid) Try.underlying49 (by kernel_rfl) (by decide) (hval 0 49 v0 rfl rfl) (fun n cs x hx => open_quad (by kernel_rfl) hx) h0
  have hE : callTy Tb GT boolSig 15200 [.sl .share .quad a0] [] = some true := Go.TFnExactCodeValid.laws_FnExactCodeValid_eq a0 l0 w0
  have hrun := law_top (C := ctx) laid rfl (g := 15200) (by decide) (args := #[v0]) gok rfl (by
    intro i c v hc hv
    match i, hc, hv with
    | 0, hc, hv => simp at hc hv; subst hc hv; exact y0
    | i + 1, hc, _ => simp at hc) hE
  have efid : ctx.fid 15200 = 11 := by kernel_rfl
  rw [efid] at hrun
  refine hrun.mono fun e W' ⟨he, bel⟩ => ?_
  subst he
  exact ⟨_, rfl, _, _, _, [], _, [], hW', trodAll_mk1 (shut_bool Try.underlying4 _), (trodAll_cons_mk (Below.trod laidOut (by kernel_rfl) (of_decide_eq_true (by kernel_rfl)) k0 bel lt0) trodAll_mk0), rfl, bel.frame _, fun h => by cases h⟩
theorem over : Rows.fnExactCodeValidRow.holds Try.pinned (OpenSpec.ofChange Rows.fnExactCodeValidSpec) :=
  OpenClaim.holds_of_wide 11 Try.f11 rfl rfl rfl rfl rfl rfl rfl ⟨rfl, rfl, rfl, rfl, rfl⟩ rfl rfl rfl rfl rfl (by kernel_rfl) Try.func11 (by kernel_rfl)
    (of_decide_eq_true (by kernel_rfl)) (by unfold Func.isWrapper; first | (rw [if_pos (by decide +kernel)]; kernel_rfl) | (rw [if_neg (by decide +kernel)]; exact ⟨rfl, rfl⟩))
    (fun os started H enc _ => lifted os started H enc)
end Go.Proofs.Ytbofepgnakbohaa.fnExactCodeValid
namespace Go.Proofs.Ytbofepgnakbohaa
/-- The row. -/
theorem fnExactCodeValid_holds : Rows.FnExactCodeValidSaid := fnExactCodeValid.over
#print axioms fnExactCodeValid_holds
end Go.Proofs.Ytbofepgnakbohaa
