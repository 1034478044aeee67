/- Plain facts: LabelBoth of the program and of the reference is one function of the four numbers. -/
import Derived.Test.YtaflodibibbakaaLabOk
-- uses LabOk
namespace Go.Proofs.Ytaflodibibbakaa.B
open Go.RowKit Go.Proofs.YtaflodibibbakaaW.PrintWords Go.Proofs.YtaflodibibbakaaW.PrintLast Go.Proofs.YtaflodibibbakaaW.PrintMore
def bA (a b : Int) : Int := Go.bits .and .i64 a b
def bothL (a0 a1 b0 b1 : Int) : Int × Int := if okL a0 a1 && okL b0 b1 then (bA a0 b0, bA a1 b1) else (0, 0)
end Go.Proofs.Ytaflodibibbakaa.B
