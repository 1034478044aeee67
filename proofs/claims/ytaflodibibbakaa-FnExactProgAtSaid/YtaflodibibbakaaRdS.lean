/- Plain facts on elements of rows of steps. -/
import Derived.Test.YtaflodibibbakaaBx0
import Derived.Test.YtaflodibibbakaaTree
-- uses Tree
namespace Go.Proofs.Ytaflodibibbakaa.B
open Go.RowKit Go.Proofs.YtaflodibibbakaaW.PrintWords Go.Proofs.YtaflodibibbakaaW.PrintLast Go.Proofs.YtaflodibibbakaaW.PrintMore
theorem rdS_mem {l : List S50} {n : Nat} (h : n < l.length) : rd_T50 l (n : Int) ∈ l := by
 simp only [rd_T50, Int.toNat_natCast, List.getD_eq_getElem?_getD, List.getElem?_eq_getElem h, Option.getD_some]
 exact List.getElem_mem h
theorem rdS_drop {l : List S50} {n : Nat} (h : n < l.length) : l.drop n = rd_T50 l (n : Int) :: l.drop (n + 1) := by
 simp only [rd_T50, Int.toNat_natCast]
 exact drop_cons l n _ h
end Go.Proofs.Ytaflodibibbakaa.B
