/- Plain facts on elements of rows of steps. -/
import Derived.Test.YtfcmckomagaiiaaDoorAx0
import Derived.Test.YtfcmckomagaiiaaDoorTree
-- uses Tree
namespace Go.Proofs.YtfcmckomagaiiaaDoor.A
open Go.RowKit Go.Proofs.YtfcmckomagaiiaaDoorW.PrintWords Go.Proofs.YtfcmckomagaiiaaDoorW.PrintLast Go.Proofs.YtfcmckomagaiiaaDoorW.PrintMore
theorem rdS_mem {l : List S71} {n : Nat} (h : n < l.length) : rd_T71 l (n : Int) ∈ l := by
 simp only [rd_T71, Int.toNat_natCast, List.getD_eq_getElem?_getD, List.getElem?_eq_getElem h, Option.getD_some]
 exact List.getElem_mem h
theorem rdS_drop {l : List S71} {n : Nat} (h : n < l.length) : l.drop n = rd_T71 l (n : Int) :: l.drop (n + 1) := by
 simp only [rd_T71, Int.toNat_natCast]
 exact drop_cons l n _ h
end Go.Proofs.YtfcmckomagaiiaaDoor.A
