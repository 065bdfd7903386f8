/- Plain words on changes. No Go, no memory; no condition. -/
import Derived.Test.YtkoodlmedgfdjaaGreatDoorPlain
namespace Go.Proofs.YtkoodlmedgfdjaaGreatDoor
/-- Numbers that can be those of a parent and of a previous sibling. -/
def placeB (up at_ : Int) : Bool := (madeB up || rootB up) && (decide (at_ = 0) || madeB at_)
/-- A valid change. -/
def opB (kind id up at_ : Int) (text : ByteArray) : Bool :=
  if madeB id = true then (if kind = 1 then placeB up at_ && textB text else if kind = 2 then (decide (up = 0) && decide (at_ = 0)) && textB text else if kind = 3 then placeB up at_ && text.toList.isEmpty else false) else false
end Go.Proofs.YtkoodlmedgfdjaaGreatDoor
