/- A store and the drawing of numbers go past each other. -/
import Derived.Test.YtihmbddneapooaaWWords
import Derived.Laws.NewBlocks
namespace Go.Proofs.Ytihmbddneapooaa.HandPO
open Go.RowKit
theorem set_drewN (n : Nat) (w : World) (a : Addr) (v : Value) : (w.drewN n).setCell a v = (w.setCell a v).drewN n := by
  induction n generalizing w with
  | zero => rfl
  | succ n ih => first | exact ih w.drew | exact congrArg World.drew (ih w)
end Go.Proofs.Ytihmbddneapooaa.HandPO
