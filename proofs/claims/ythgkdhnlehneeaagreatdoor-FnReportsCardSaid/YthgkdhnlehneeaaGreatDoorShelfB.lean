/- ShelfB -/
import Derived.Test.YthgkdhnlehneeaaGreatDoorShelf
set_option maxHeartbeats 8000000
namespace Go.Proofs.YthgkdhnlehneeaaGreatDoor
end Go.Proofs.YthgkdhnlehneeaaGreatDoor
