import Derived.Test.YtaggkglfnbcjdaaGreatDoorQ21
set_option linter.all false
set_option maxRecDepth 1000000
set_option maxHeartbeats 40000000
namespace Go.Dl.Ai
end Go.Dl.Ai
namespace Go.Proofs
end Go.Proofs
namespace Ty
end Ty
open Go renaming joinedFacts->GU
open Go.OpenSpec renaming ofChange->sU
open Go Go.Dl Go.Dl.Ai
namespace Go.Proofs.YtaggkglfnbcjdaaGreatDoor
def akA:GU Tryz.pinned.checked.prog 3 Tryz.f3 (sU Rows.cacheEntriesSpec).bare Rows.cacheEntriesRow=true:=by unfold GU;rw[aaJ,TZ,Y5,Vm];kernel_rfl
end Go.Proofs.YtaggkglfnbcjdaaGreatDoor
