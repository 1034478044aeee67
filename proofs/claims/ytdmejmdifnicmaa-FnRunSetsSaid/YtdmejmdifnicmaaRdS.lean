/- Plain facts on elements of rows of steps. -/
import Derived.Test.YtdmejmdifnicmaaAx0
import Derived.Test.YtdmejmdifnicmaaTree
-- uses Tree
namespace Go.Proofs.Ytdmejmdifnicmaa.A
open Go.RowKit Go.Proofs.YtdmejmdifnicmaaW.PrintWords Go.Proofs.YtdmejmdifnicmaaW.PrintLast Go.Proofs.YtdmejmdifnicmaaW.PrintMore
theorem rdS_mem {l : List S66} {n : Nat} (h : n < l.length) : rd_T66 l (n : Int) ∈ l := by
  simp only [rd_T66, Int.toNat_natCast, List.getD_eq_getElem?_getD, List.getElem?_eq_getElem h, Option.getD_some]
  exact List.getElem_mem h
theorem rdS_drop {l : List S66} {n : Nat} (h : n < l.length) : l.drop n = rd_T66 l (n : Int) :: l.drop (n + 1) := by
  simp only [rd_T66, Int.toNat_natCast]
  exact drop_cons l n _ h
end Go.Proofs.Ytdmejmdifnicmaa.A
