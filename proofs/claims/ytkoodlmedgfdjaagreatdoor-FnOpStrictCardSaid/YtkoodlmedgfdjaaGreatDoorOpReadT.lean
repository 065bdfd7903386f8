/- What is read of a text, flat. No Go, no memory; no condition. -/
import Derived.Test.YtkoodlmedgfdjaaGreatDoorOpTxtP
namespace Go.Proofs.YtkoodlmedgfdjaaGreatDoor
/-- A change that is read, and whether it is one, flat. -/
def readT (r : (Int × Int × Int × Int × ByteArray) × Bool) : Int × Int × Int × Int × ByteArray × Bool := (r.1.1, r.1.2.1, r.1.2.2.1, r.1.2.2.2.1, r.1.2.2.2.2, r.2)
end Go.Proofs.YtkoodlmedgfdjaaGreatDoor
