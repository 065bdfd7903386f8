/- The reference's rows right under one, and the one right ahead, answer as the plain words on places do. Conditions: rows as Go can hold them. -/
import Derived.Test.YtaajcbbbmpdcnaaDoorBaseTreeU
import Derived.Test.YtaajcbbbmpdcnaaDoorTreeT
namespace Go.Proofs.YtaajcbbbmpdcnaaDoor.P
open Go.RowKit Go.Proofs.YtaajcbbbmpdcnaaDoorW.PrintWords Go.Proofs.YtaajcbbbmpdcnaaDoorW.PrintLast
set_option linter.unusedVariables false
set_option linter.unusedSimpArgs false
theorem kidIds_valid {l : List S47} (hv : tok l [] 0 (-1) = true) (id : Int) : kidIds l id = treeKids l id := by
 unfold kidIds treeKids
 rw [if_pos hv]
 cases hp : placeOf l l.length id with
 | none => rfl
 | some u =>
  have hu := place_lt hp
  obtain ⟨a1, a2, _, _⟩ := Tree.endOf_spec (D := depthAt l) hu
  have hd := (rowB_bounds (valid_row hv hu)).2
  dsimp only
  unfold segIds
  rw [Tree.kids_seg (valid_steps hv) hu, wrap64_id (a := depthAt l u + 1) (by omega), ← range_cut _ (by omega) a2]
  rfl
end Go.Proofs.YtaajcbbbmpdcnaaDoor.P
