/- Plain facts on lists of bools that are marked. -/
import Derived.Test.YtaflodibibbakaaKit
-- uses Kit
namespace Go.Proofs.Ytaflodibibbakaa.B
open Go.RowKit Go.Proofs.YtaflodibibbakaaW.PrintWords Go.Proofs.YtaflodibibbakaaW.PrintLast Go.Proofs.YtaflodibibbakaaW.PrintMore
def seqB (m : Int) : Nat → List Bool
 | 0 => []
 | c + 1 => (Int.tmod m 3 == 0) :: seqB (m + 1) c
theorem seqB_length (m : Int) (c : Nat) : (seqB m c).length = c := by
 induction c generalizing m with
 | zero => rfl
 | succ c ih => simp [seqB, ih]
end Go.Proofs.Ytaflodibibbakaa.B
