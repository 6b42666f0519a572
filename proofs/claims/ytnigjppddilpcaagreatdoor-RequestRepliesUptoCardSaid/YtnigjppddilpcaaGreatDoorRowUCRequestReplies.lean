/- The law RequestReplies: what the row of its second form tells of the program (few imports: the kernel wants nearly all of a process's memory here). -/
import Derived.Test.YtnigjppddilpcaaGreatDoorAl
import Derived.Test.YtnigjppddilpcaaGreatDoorCards
import Derived.JoinedOf
import Derived.KernelRfl
namespace Go.Proofs.YtnigjppddilpcaaGreatDoor.requestReplies
open Go
theorem closed:joinedFacts Tryz.pinned.checked.prog 14 Tryz.f14 (Rows.OpenSpec.upto Rows.requestRepliesSpec).bare Rows.requestRepliesUptoRow=true:=by kernel_rfl
