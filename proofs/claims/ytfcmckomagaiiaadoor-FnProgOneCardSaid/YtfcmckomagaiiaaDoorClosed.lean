/- Closed facts of the program itself, each by the kernel; written by wip/tools/row.py. -/
import Derived.Test.YtfcmckomagaiiaaDoorRows
import Derived.KernelRfl
import Derived.ProofKit
namespace Go.Proofs.YtfcmckomagaiiaaDoor.closed
theorem laidOut : (laidOutB Tryd.pinned.checked.prog) = true := by kernel_rfl
end Go.Proofs.YtfcmckomagaiiaaDoor.closed
