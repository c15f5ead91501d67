/- What is known of one function. -/
import Derived.Test.YthedbdlbibkpiaaGreatDoorTv5
namespace Go.Tv
open Go Go.RowKit Go.Vs
/-- What the left side answers, the right side answers. -/
def Le {α : Type} (x y : Option α) : Prop := ∀ r, x = some r → y = some r
variable {F : Nat → Option ProcT} {G : Nat → List TV} {sg : Nat → Sig}
theorem fn_le' {g : Nat} {p : ProcT} {sig : Sig} {tv : List TV} {bv : List BT} {x : SumT sig} (hs : sg g = sig) (hp : F g = some p) (hk : p.kind = .fn) (h1 : tv.length = p.ins.length) (h2 : bv.length = p.bins.length)
    (h : runC (phi F G sg) F G p.code (mkST p.ins tv p.bins bv) (finT p sig) = some x) : callTy F G sig g tv bv = some x := by
  subst hs; exact fn_le hp hk h1 h2 h
theorem loop_le' {g : Nat} {p : ProcT} {sig : Sig} {tv : List TV} {bv : List BT} {x : SumT sig} (hs : sg g = sig) (hp : F g = some p) (hk : p.kind = .loop) (h1 : tv.length = p.ins.length) (h2 : bv.length = p.bins.length)
    (h : runC (phi F G sg) F G p.code (mkST p.ins tv p.bins bv) (finL F G g p sig) = some x) : callTy F G sig g tv bv = some x := by
  subst hs; exact loop_le hp hk h1 h2 h
end Go.Tv
