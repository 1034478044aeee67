/- Closed facts of the program itself, each by the kernel; written by wip/tools/row.py. -/
import Derived.Test.YtcndpbegmdcelaaRows
import Derived.KernelRfl
import Derived.ProofKit
import Derived.JoinedOf
namespace Go.Proofs.Ytcndpbegmdcelaa.closed
theorem laidOut : (laidOutB Try.pinned.checked.prog) = true := by kernel_rfl
theorem mapsRowed : (mapsRowed Try.pinned.checked.prog) = true := by kernel_rfl
theorem stops : ((Try.pinned.checked.prog.stops == [])) = true := by kernel_rfl
theorem stopKnobs : ((Try.pinned.checked.prog.stopKnobs == [])) = true := by kernel_rfl
theorem stopsHeard : (Try.pinned.checked.prog.stopsHeard) = true := by kernel_rfl
theorem mayEnter : (Try.pinned.checked.prog.mayEnter) = true := by kernel_rfl
theorem lifts : ((Rows.fnExactConstantsRow.lifted == Try.pinned.checked.prog.liftsFinal)) = true := by kernel_rfl
theorem make : ((Try.pinned.checked.prog.make == some Rows.fnExactConstantsRow.make)) = true := by kernel_rfl
theorem andT {a b : Bool} (ha : a = true) (hb : b = true) : (a && b) = true := by rw [ha, hb]; rfl
end Go.Proofs.Ytcndpbegmdcelaa.closed
