/- Plain facts: LabelFlows of the program is one Boolean function of the four numbers. -/
import Derived.Test.YtkkdeojbkfjlpaaAx30
import Derived.Test.YtkkdeojbkfjlpaaAx32
import Derived.Test.YtkkdeojbkfjlpaaMC
-- uses SpFl
namespace Go.Proofs.Ytkkdeojbkfjlpaa.A
open Go.RowKit Go.Proofs.YtkkdeojbkfjlpaaW.PrintWords Go.Proofs.YtkkdeojbkfjlpaaW.PrintLast Go.Proofs.YtkkdeojbkfjlpaaW.PrintMore
theorem im_flows (a0 a1 b0 b1 : Int) : impl_LabelFlows.f a0 a1 b0 b1 = some (flowsB a0 a1 b0 b1) := by
 unfold impl_LabelFlows.f flowsB impl_Label_flows.f
 rw [im_ok, im_ok, im_within, im_within]
 cases okL a0 a1 <;> cases okL b0 b1 <;> cases wi b0 a0 <;> simp
end Go.Proofs.Ytkkdeojbkfjlpaa.A
