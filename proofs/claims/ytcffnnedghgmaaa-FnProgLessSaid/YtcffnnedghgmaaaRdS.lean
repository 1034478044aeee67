/- Plain facts on elements of rows of steps. -/
import Derived.Test.YtcffnnedghgmaaaAx0
import Derived.Test.YtcffnnedghgmaaaTree
-- uses Tree
namespace Go.Proofs.Ytcffnnedghgmaaa.A
open Go.RowKit Go.Proofs.YtcffnnedghgmaaaW.PrintWords Go.Proofs.YtcffnnedghgmaaaW.PrintLast Go.Proofs.YtcffnnedghgmaaaW.PrintMore
theorem rdS_mem {l : List S59} {n : Nat} (h : n < l.length) : rd_T59 l (n : Int) ∈ l := by
  simp only [rd_T59, Int.toNat_natCast, List.getD_eq_getElem?_getD, List.getElem?_eq_getElem h, Option.getD_some]
  exact List.getElem_mem h
theorem rdS_drop {l : List S59} {n : Nat} (h : n < l.length) : l.drop n = rd_T59 l (n : Int) :: l.drop (n + 1) := by
  simp only [rd_T59, Int.toNat_natCast]
  exact drop_cons l n _ h
end Go.Proofs.Ytcffnnedghgmaaa.A
