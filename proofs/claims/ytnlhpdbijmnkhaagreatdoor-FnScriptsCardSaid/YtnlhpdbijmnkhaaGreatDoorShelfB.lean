/- ShelfB -/
import Derived.Test.YtnlhpdbijmnkhaaGreatDoorShelf
namespace Go.Proofs.YtnlhpdbijmnkhaaGreatDoor
end Go.Proofs.YtnlhpdbijmnkhaaGreatDoor
