/- A word on two stores into one cell. Any world; no condition. -/
import Derived.Test.YtbafffcgmdmebaaWWords
import Derived.WalkKit
namespace Go.Proofs.Ytbafffcgmdmebaa
open Go.RowKit Go.Proofs.YtbafffcgmdmebaaW.PrintWords

/-- What a cell holds behind two stores into it. -/
theorem cell_set_set (w : World) (a : Addr) (u v : Value) (h : (w.cell? a).isSome = true) : ((w.setCell a u).setCell a v).cell? a = some v :=
  World.cell?_setCell_same' _ _ _ (by rw [World.cell?_setCell_same' _ _ _ h]; rfl)

end Go.Proofs.Ytbafffcgmdmebaa
