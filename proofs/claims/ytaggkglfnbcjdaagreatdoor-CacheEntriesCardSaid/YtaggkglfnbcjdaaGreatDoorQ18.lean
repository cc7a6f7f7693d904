import Derived.Test.YtaggkglfnbcjdaaGreatDoorCards
import Derived.ProofKit
import Derived.Test.YtaggkglfnbcjdaaGreatDoorQ17
set_option linter.all false
set_option maxRecDepth 1000000
set_option maxHeartbeats 40000000
namespace Go.Dl.Ai
end Go.Dl.Ai
namespace Go.Proofs
end Go.Proofs
namespace Ty
end Ty
open Go Go.Dl Go.Dl.Ai
namespace Go.Proofs.YtaggkglfnbcjdaaGreatDoor
def aaJ:(Rows.cacheEntriesRow.inPlace==Tryz.pinned.checked.prog.inPlace 3)=true:=h
end Go.Proofs.YtaggkglfnbcjdaaGreatDoor
