/- The tie: what the initialisers leave. Conditions: none. -/
import Derived.Test.YtcecnhanifikfaaGreatDoorTi
import Derived.LaidByTextLater
import Derived.SevenTiedAt
import Derived.LaidOnce
namespace Go.Proofs.YtcecnhanifikfaaGreatDoor
open Go
namespace Ti
theorem t7 : ∀ os tape, doorLeaves Tryz.prog 400 8 128 tl os tape = some (tl.filter fun x => x.2.handleName?.isNone, (funcsListed tl).map (·.2.funcsOut)) := fun _ _ => by kernel_rfl
end Ti
end Go.Proofs.YtcecnhanifikfaaGreatDoor
