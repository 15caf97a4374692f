/- The tie: each variable that is listed is laid by the initialisers alone. Conditions: none. -/
import Derived.Test.YtcecnhanifikfaaGreatDoorTi
import Derived.LaidByTextLater
import Derived.SevenTiedAt
import Derived.LaidOnce
namespace Go.Proofs.YtcecnhanifikfaaGreatDoor
open Go
namespace Ti
theorem t6 : varsNamedLaterB Tryz.prog (varsId Tryz.prog) tl = true := by kernel_rfl
end Ti
end Go.Proofs.YtcecnhanifikfaaGreatDoor
