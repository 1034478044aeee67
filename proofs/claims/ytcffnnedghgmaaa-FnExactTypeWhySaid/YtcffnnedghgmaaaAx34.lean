/- What Go functions compute, as Lean functions, and for each its contract: for every input at which the Lean function answers the call returns that; written by wip/tools/pr.py over the kit's print. -/
import Derived.Test.YtcffnnedghgmaaaAx0
namespace Go.Proofs.Ytcffnnedghgmaaa.A
open Go.RowKit Go.Proofs.YtcffnnedghgmaaaW.PrintWords Go.Proofs.YtcffnnedghgmaaaW.PrintLast Go.Proofs.YtcffnnedghgmaaaW.PrintMore
attribute [local go_sem] max2_int min2_int max_two min_two max_three min_three max_four min_four   -- for this text's walks alone
set_option linter.unusedVariables false
set_option linter.unusedSimpArgs false

/-! ### impl_Label_both: function 143 -/
def impl_Label_both.f (a0_0 : Int) (a0_1 : Int) (a1_0 : Int) (a1_1 : Int) : Option (Int × Int) := some (Go.bits .and .i64 a0_0 a1_0, Go.bits .and .i64 a0_1 a1_1)
set_option maxHeartbeats 8000000 in
set_option maxRecDepth 100000 in
theorem impl_Label_both.calls (a0_0 : Int) (a0_1 : Int) (a1_0 : Int) (a1_1 : Int) (r1 : Int) (r2 : Int) (w : World) (h : impl_Label_both.f a0_0 a0_1 a1_0 a1_1 = some (r1, r2)) :
  Calls Try.prog 143 #[.agg #[.int .i64 a0_0, .int .i64 a0_1], .agg #[.int .i64 a1_0, .int .i64 a1_1]] w fun e w' => e = .returned (.agg #[.int .i64 r1, .int .i64 r2]) ∧ Below w.heap.size w w' := by
 have hu35 := Try.underlying35
 have HB := Aside0.mk (Below.refl w.heap.size w)
 have H : (some (Go.bits .and .i64 a0_0 a1_0, Go.bits .and .i64 a0_1 a1_1)) = some (r1, r2) := h
 clear h
 simp only [Option.some.injEq, Prod.mk.injEq] at H
 obtain ⟨rfl, rfl⟩ := H
 go_enter Try.func143, Try.ntmps143
 go_wp2_with (first | ((with_reducible refine gate_dst (N := 2) rfl ?_); refine ZX (N := 2) (cs := #[.int .i64 a0_0, .int .i64 a0_1]) (t := 35) ?_; intro gb488 hg w3 hbox hb; have BK488 := Aside0.mk (hbox); have GW488 : Aside0 (w.heap.size ≤ gb488) := ZS hg; have GE488 : Aside0 (w.heap.size ≤ gb488) := ZS hg; replace HB := ZT hb; clear hb hbox hg) | ((with_reducible refine gate_dst (N := 3) rfl ?_); refine ZX (N := 3) (cs := #[.int .i64 a1_0, .int .i64 a1_1]) (t := 35) ?_; intro gb489 hg w4 hbox hb; have BK489 := Aside0.mk (hbox); have GW489 : Aside0 (w.heap.size ≤ gb489) := ZS hg; have GE489 : Aside0 (w.heap.size ≤ gb489) := ZS hg; have NB488_489 : Aside0 (gb488 ≠ gb489) := ZN hg BK488; have NB489_488 : Aside0 (gb489 ≠ gb488) := ZM hg BK488; replace BK488 := ZW BK488 hb; replace HB := ZT hb; clear hb hbox hg) | ((with_reducible refine gate_dst (N := 4) rfl ?_); refine ZX (N := 4) (cs := #[.int .i64 0, .int .i64 0]) (t := 35) ?_; intro gb490 hg w5 hbox hb; have BK490 := Aside0.mk (hbox); have GW490 : Aside0 (w.heap.size ≤ gb490) := ZS hg; have GE490 : Aside0 (w.heap.size ≤ gb490) := ZS hg; have NB488_490 : Aside0 (gb488 ≠ gb490) := ZN hg BK488; have NB490_488 : Aside0 (gb490 ≠ gb488) := ZM hg BK488; have NB489_490 : Aside0 (gb489 ≠ gb490) := ZN hg BK489; have NB490_489 : Aside0 (gb490 ≠ gb489) := ZM hg BK489; replace BK488 := ZW BK488 hb; replace BK489 := ZW BK489 hb; replace HB := ZT hb; clear hb hbox hg; have hnb6 := NB488_489.out; have hnc6 := NB489_488.out; have hnb7 := NB488_490.out; have hnc7 := NB490_488.out; obtain ⟨hcz8_0, hcz8_1⟩ := ZC2 w5 BK488; obtain ⟨hfz8_0, hfz8_1⟩ := ZF2 BK488; have hnb9 := NB489_490.out; have hnc9 := NB490_489.out; obtain ⟨hcz10_0, hcz10_1⟩ := ZC2 w5 BK489; obtain ⟨hfz10_0, hfz10_1⟩ := ZF2 BK489; obtain ⟨hcz11_0, hcz11_1⟩ := ZC2 w5 BK490; obtain ⟨hfz11_0, hfz11_1⟩ := ZF2 BK490))
 refine bodyPost_ret (results_cell_row rfl _ _ gb490 35 #[.int .i64 (Go.bits .and .i64 a0_0 a1_0), .int .i64 (Go.bits .and .i64 a0_1 a1_1)] (0, 0) _ rfl (ZZ BK490.out) Try.underlying35 rfl (by kernel_rfl)) rfl ?_
 exact ⟨ZE, ZB⟩

end Go.Proofs.Ytcffnnedghgmaaa.A
