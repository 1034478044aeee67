/- Plain facts: LabelFlows of the program and of the reference is one Boolean function of the four numbers. -/
import Derived.Test.YtaflodibibbakaaLabOk
-- uses LabOk
namespace Go.Proofs.Ytaflodibibbakaa.B
open Go.RowKit Go.Proofs.YtaflodibibbakaaW.PrintWords Go.Proofs.YtaflodibibbakaaW.PrintLast Go.Proofs.YtaflodibibbakaaW.PrintMore
/-- One set is within another one. -/
def wi (a b : Int) : Bool := Go.bits .andNot .i64 a b == 0
def flowsB (a0 a1 b0 b1 : Int) : Bool := okL a0 a1 && (okL b0 b1 && (wi b0 a0 && wi b1 a1))
end Go.Proofs.Ytaflodibibbakaa.B
