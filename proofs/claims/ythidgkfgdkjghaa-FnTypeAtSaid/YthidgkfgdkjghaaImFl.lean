/- Plain facts: LabelFlows of the program is one Boolean function of the four numbers. -/
import Derived.Test.YthidgkfgdkjghaaAx19
import Derived.Test.YthidgkfgdkjghaaAx38
import Derived.Test.YthidgkfgdkjghaaMB
-- uses SpFl
namespace Go.Proofs.Ythidgkfgdkjghaa.A
open Go.RowKit Go.Proofs.YthidgkfgdkjghaaW.PrintWords Go.Proofs.YthidgkfgdkjghaaW.PrintLast Go.Proofs.YthidgkfgdkjghaaW.PrintMore
theorem im_flows (a0 a1 b0 b1 : Int) : impl_LabelFlows.f a0 a1 b0 b1 = some (flowsB a0 a1 b0 b1) := by
 unfold impl_LabelFlows.f flowsB impl_Label_flows.f
 rw [im_ok, im_ok, im_within, im_within]
 cases okL a0 a1 <;> cases okL b0 b1 <;> cases wi b0 a0 <;> simp
end Go.Proofs.Ythidgkfgdkjghaa.A
