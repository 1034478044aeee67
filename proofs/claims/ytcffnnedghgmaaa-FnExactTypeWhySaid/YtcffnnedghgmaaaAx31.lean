/- What Go functions compute, as Lean functions, and for each its contract: for every input at which the Lean function answers the call returns that; written by wip/tools/pr.py over the kit's print. -/
import Derived.Test.YtcffnnedghgmaaaAx0
import Derived.Test.YtcffnnedghgmaaaAx9
import Derived.Test.YtcffnnedghgmaaaAx26
import Derived.Test.YtcffnnedghgmaaaAx27
import Derived.Test.YtcffnnedghgmaaaAx30
namespace Go.Proofs.Ytcffnnedghgmaaa.A
open Go.RowKit Go.Proofs.YtcffnnedghgmaaaW.PrintWords Go.Proofs.YtcffnnedghgmaaaW.PrintLast Go.Proofs.YtcffnnedghgmaaaW.PrintMore
attribute [local go_sem] max2_int min2_int max_two min_two max_three min_three max_four min_four   -- for this text's walks alone
set_option linter.unusedVariables false
set_option linter.unusedSimpArgs false

/-! ### spec_TypeWhy: function 74 -/
def spec_TypeWhy.l0 : Nat → List (S59) → List (S35) → Int → List (S35) → List (S59) → Option (Int × Bool)
 | 0, _, _, _, _, _ => none
 | k + 1, x4, x5, x6, x457000, x457001 => if x6 < (x4.length : Int) then (if 0 ≤ x6 then (if x6 < (x5.length : Int) then ((spec_l11Fine.f k x457000 x457001 ((rd_T59 x4 x6).f0) ((rd_T59 x4 x6).f1) ((rd_T59 x4 x6).f2.f0) ((rd_T59 x4 x6).f2.f1) ((rd_T59 x4 x6).f2.f2) ((rd_T59 x4 x6).f3) ((rd_T59 x4 x6).f4) ((rd_T59 x4 x6).f5) ((rd_T35 x5 x6).f0) ((rd_T35 x5 x6).f1)).bind fun t466 => (if t466 = true then (spec_TypeWhy.l0 k x4 x5 (wrap64 (x6 + 1)) x457000 x457001) else (some (x6, true)))) else (none)) else (none)) else (some (0, false))
def spec_TypeWhy.f (k : Nat) (l0_0 : List (S35)) (l0_1 : List (S59)) : Option (Int × Bool) := (spec_ProgOk.f k l0_0 l0_1).bind fun t457 => (if t457 = true then ((spec_l2All.f k l0_1).bind fun t458 => ((spec_TypeAt.f k l0_0 l0_1).bind fun t461 => (spec_TypeWhy.l0 k t458 t461 0 l0_0 l0_1))) else (some (0, false)))
def spec_TypeWhy.T8 : Bool × List (List Nat × List Nat) := (true, [([], []), ([], []), ([], []), ([1, 2], [1, 2]), ([3], [3]), ([], []), ([], []), ([5, 6], [5, 6]), ([7], [7]), ([0, 4, 8], [0, 4, 8]), ([9], [9])])
def spec_TypeWhy.B8 : List Nat := [0, 0, 0, 6, 14, 0, 0, 96, 224, 511, 1023]
theorem spec_TypeWhy.tab8 : rtab .any (opsOf Try.f74 8) = spec_TypeWhy.T8 := by kernel_rfl
theorem spec_TypeWhy.bits8 : waitsOk spec_TypeWhy.T8.2 spec_TypeWhy.B8 = true := by kernel_rfl
set_option maxHeartbeats 8000000 in
set_option maxRecDepth 100000 in
theorem spec_TypeWhy.calls (k : Nat) (A0_0 : Option Addr) (c0_0 : Nat) (l0_0 : List (S35)) (A0_1 : Option Addr) (c0_1 : Nat) (l0_1 : List (S59)) (r1 : Int) (r2 : Bool) (w : World) (hr0_0 : Kd.C k35 w A0_0 l0_0.length l0_0) (hc0_0 : l0_0.length ≤ c0_0) (hr0_1 : Kd.C k59 w A0_1 l0_1.length l0_1) (hc0_1 : l0_1.length ≤ c0_1) (h : spec_TypeWhy.f k l0_0 l0_1 = some (r1, r2)) :
  Calls Try.prog 74 #[.agg #[.slice A0_0 l0_0.length c0_0, .slice A0_1 l0_1.length c0_1]] w fun e w' => e = .returned (.tuple #[.int .i64 r1, .bool r2]) ∧ Below w.heap.size w w' := by
 have hu26 := Try.underlying26
 have hu59 := Try.underlying59
 have hu35 := Try.underlying35
 have HR0_0 := Aside0.mk hr0_0
 have HC0_0 := Aside0.mk hc0_0
 clear hr0_0 hc0_0
 have HR0_1 := Aside0.mk hr0_1
 have HC0_1 := Aside0.mk hc0_1
 clear hr0_1 hc0_1
 have HB := Aside0.mk (Below.refl w.heap.size w)
 have H : ((spec_ProgOk.f k l0_0 l0_1).bind fun t457 => (if t457 = true then ((spec_l2All.f k l0_1).bind fun t458 => ((spec_TypeAt.f k l0_0 l0_1).bind fun t461 => (spec_TypeWhy.l0 k t458 t461 0 l0_0 l0_1))) else (some (0, false)))) = some (r1, r2) := h
 clear h
 replace H := Option.bind_eq_some_iff.mp H
 obtain ⟨t457, A20, H⟩ := H
 replace H : (if t457 = true then ((spec_l2All.f k l0_1).bind fun t458 => ((spec_TypeAt.f k l0_0 l0_1).bind fun t461 => (spec_TypeWhy.l0 k t458 t461 0 l0_0 l0_1))) else (some (0, false))) = some (r1, r2) := H
 have A2 := Aside0.mk A20
 clear A20
 by_cases c3 : t457 = true
 ·subst c3
  have H1 : ((spec_l2All.f k l0_1).bind fun t458 => ((spec_TypeAt.f k l0_0 l0_1).bind fun t461 => (spec_TypeWhy.l0 k t458 t461 0 l0_0 l0_1))) = some (r1, r2) := by rw [if_pos rfl] at H; exact H
  clear H
  have H := H1
  clear H1
  replace H := Option.bind_eq_some_iff.mp H
  obtain ⟨t458, A40, H⟩ := H
  replace H : ((spec_TypeAt.f k l0_0 l0_1).bind fun t461 => (spec_TypeWhy.l0 k t458 t461 0 l0_0 l0_1)) = some (r1, r2) := H
  have A4 := Aside0.mk A40
  clear A40
  replace H := Option.bind_eq_some_iff.mp H
  obtain ⟨t461, A50, H⟩ := H
  replace H : (spec_TypeWhy.l0 k t458 t461 0 l0_0 l0_1) = some (r1, r2) := H
  have A5 := Aside0.mk A50
  clear A50
  have H' := Aside0.mk H
  clear H
  go_enter Try.func74, Try.ntmps74
  go_wp2_with (first | ((with_reducible refine gate_dst (N := 1) rfl ?_); refine ZX (N := 1) (cs := #[.slice A0_0 l0_0.length c0_0, .slice A0_1 l0_1.length c0_1]) (t := 26) ?_; intro gb456 hg w6 hbox hb; have BK456 := Aside0.mk (hbox); have GW456 : Aside0 (w.heap.size ≤ gb456) := ZS hg; have GE456 : Aside0 (w.heap.size ≤ gb456) := ZS hg; replace HB := ZT hb; clear hb hbox hg; obtain ⟨hcz7_0, hcz7_1⟩ := ZC2 w6 BK456; obtain ⟨hfz7_0, hfz7_1⟩ := ZF2 BK456) | ((with_reducible refine gate_callee (f := 36) rfl ?_); refine goesL_ (some 8) rfl rfl Try.func36 (by kernel_rfl) rfl #[.agg #[.slice A0_0 l0_0.length c0_0, .slice A0_1 l0_1.length c0_1]] rfl ZG ?_; (with_reducible refine (spec_ProgOk.calls k _ _ l0_0 _ _ l0_1 true _ ?side1 ?side2 ?side3 ?side4 A2.out).mono ?_); (case side1 => exact ZQ (Kd.C_below HR0_0.out HB.out)); (case side2 => exact HC0_0.out); (case side3 => exact ZQ (Kd.C_below HR0_1.out HB.out)); (case side4 => exact HC0_1.out); rintro e w8 ⟨rfl, hb⟩; refine ⟨_, rfl, ?_⟩; replace BK456 := ZW BK456 hb; replace HB := ZT hb; (try clear hb); (try clear hb2); (try clear hk); (try clear hi); obtain ⟨hcz9_0, hcz9_1⟩ := ZC2 w8 BK456; obtain ⟨hfz9_0, hfz9_1⟩ := ZF2 BK456) | ((with_reducible refine gate_callee (f := 81) rfl ?_); refine goesL_ (some 12) rfl rfl Try.func81 (by kernel_rfl) rfl #[.slice A0_1 l0_1.length c0_1] rfl ZG ?_; (with_reducible refine (spec_l2All.calls k (fun k_ => k_ < w.heap.size) _ _ l0_1 t458 _ ?side1 A4.out).mono ?_); (case side1 => exact Kd.V_mk HC0_1.out (Kd.F_below (Kd.C_F k59_heap HR0_1.out) (ZB))); rintro e w10 ⟨v459, rfl, ho0, hb⟩; refine ⟨_, rfl, ?_⟩; have HO460 := Aside0.mk (Kd.N_lower (Kd.N_mono (ok' := fun k_ => k_ ≠ gb456) ho0 (fun k_ hk_ => Or.elim hk_ (fun hs_ => fun e_ => Nat.not_le.2 hs_ (by rw [e_]; exact GW456.out)) (fun hn_ => (Kd.freshB (g := gb456) (o := .cells #[.slice A0_0 l0_0.length c0_0, .slice A0_1 l0_1.length c0_1] 26 (0, 0)) (ZK BK456.out) k_ hn_)))) (below_size (ZB))); replace BK456 := ZW BK456 hb; replace HB := ZT hb; (try clear hb); (try clear hb2); (try clear hk); (try clear hi); (try clear ho0); obtain ⟨hcz11_0, hcz11_1⟩ := ZC2 w10 BK456; obtain ⟨hfz11_0, hfz11_1⟩ := ZF2 BK456) | ((with_reducible refine gate_callee (f := 55) rfl ?_); refine goesL_ (some 14) rfl rfl Try.func55 (by kernel_rfl) rfl #[.agg #[.slice A0_0 l0_0.length c0_0, .slice A0_1 l0_1.length c0_1]] rfl ZG ?_; (with_reducible refine (spec_TypeAt.calls k _ _ l0_0 _ _ l0_1 t461 _ ?side1 ?side2 ?side3 ?side4 A5.out).mono ?_); (case side1 => exact ZQ (Kd.C_below HR0_0.out HB.out)); (case side2 => exact HC0_0.out); (case side3 => exact ZQ (Kd.C_below HR0_1.out HB.out)); (case side4 => exact HC0_1.out); rintro e w12 ⟨v462, rfl, ho0, hb⟩; refine ⟨_, rfl, ?_⟩; have HO463 := Aside0.mk (Kd.R_lower ho0 (below_size (ZB))); replace HO460 := Aside0.mk (Kd.N_elder' (ZRN HO460.out) (Kd.R_base ho0) hb); replace BK456 := ZW BK456 hb; replace HB := ZT hb; (try clear hb); (try clear hb2); (try clear hk); (try clear hi); (try clear ho0)))
  go_loopg [6] k (fun kq v6 w' => ∃ (x6_1 : Int), v6 = .int .i64 x6_1 ∧ Aside0 (spec_TypeWhy.l0 kq t458 t461 x6_1 l0_0 l0_1 = some (r1, r2)) ∧ Aside0 (kq ≤ k) ∧ Aside0 (Kd.N k59 59 w' w.heap.size (fun k_ => some k_ ≠ (v462 : Value).ownBlock ∧ k_ ≠ gb456) v459 t458) ∧ Aside0 (Kd.R k35 35 w' w.heap.size (fun _ => True) v462 t461) ∧ Aside0 (w'.heap[gb456]? = some (.cells #[(.slice A0_0 l0_0.length c0_0), (.slice A0_1 l0_1.length c0_1)] 26 (0, 0))) ∧ Aside0 (Below w.heap.size w w'))
  case atStart => exact ⟨(0), (by first | rfl | (simp; done) | (simp [*]; done)), H', ⟨Nat.le_refl _⟩, ⟨by (with_reducible repeat (first | apply Kd.N_alloc | apply Kd.N_drewN | apply Kd.N_drew)); exact Kd.N_mono HO460.out (fun _ hk => ⟨hk.2, hk.1⟩)⟩, ⟨ZR HO463.out⟩, ⟨ZK BK456.out⟩, ⟨ZB⟩⟩
  case round =>
   clear H'
   try clear p2
   try clear c3
   try clear c5
   try clear c7
   try clear c8
   try clear hcz11_0
   try clear hcz11_1
   try clear hcz7_0
   try clear hcz7_1
   try clear hcz9_0
   try clear hcz9_1
   try clear hfz11_0
   try clear hfz11_1
   try clear hfz7_0
   try clear hfz7_1
   try clear hfz9_0
   try clear hfz9_1
   obtain ⟨x6_1, rfl, HA, HK1, HO_4, HO_5, BK456, HB⟩ := hrel
   cases gk with
   | zero => exact absurd HA.out (by simp [spec_TypeWhy.l0])
   | succ k1 =>
    have H := HA.out
    clear HA
    simp only [spec_TypeWhy.l0] at H
    by_cases c13 : x6_1 < (t458.length : Int)
    focus
     rw [if_pos c13] at H
     have c13b0 : decide (x6_1 < (t458.length : Int)) = true := decide_eq_true c13
     clear c13
     by_cases c14 : 0 ≤ x6_1
     focus
      rw [if_pos c14] at H
      have c14b0 : decide (0 ≤ x6_1) = true := decide_eq_true c14
      clear c14
      by_cases c15 : x6_1 < (t461.length : Int)
      focus
       rw [if_pos c15] at H
       have c15b0 : decide (x6_1 < (t461.length : Int)) = true := decide_eq_true c15
       clear c15
       replace H := Option.bind_eq_some_iff.mp H
       obtain ⟨t466, A160, H⟩ := H
       replace H : (if t466 = true then (spec_TypeWhy.l0 k1 t458 t461 (wrap64 (x6_1 + 1)) l0_0 l0_1) else (some (x6_1, true))) = some (r1, r2) := H
       have A16 := Aside0.mk A160
       clear A160
       by_cases c17 : t466 = true
       focus
        subst c17
        have H1 : (spec_TypeWhy.l0 k1 t458 t461 (wrap64 (x6_1 + 1)) l0_0 l0_1) = some (r1, r2) := by rw [if_pos rfl] at H; exact H
        clear H
        have H := H1
        clear H1
        have H' := Aside0.mk H
        clear H
        obtain ⟨Ao18, co18, eo18⟩ := Kd.N_slice HO_4.out
        subst eo18
        have tag0_ : Aside0 True := ⟨trivial⟩
       rotate_left
       focus
        replace c17 := Bool.eq_false_iff.mpr c17
        subst c17
        have H1 : (some (x6_1, true)) = some (r1, r2) := by rw [if_neg (show ¬ (false = true) by decide)] at H; exact H
        clear H
        have H := H1
        clear H1
        simp only [Option.some.injEq, Prod.mk.injEq] at H
        obtain ⟨rfl, rfl⟩ := H
        obtain ⟨Ao22, co22, eo22⟩ := Kd.N_slice HO_4.out
        subst eo22
        have tag1_ : Aside0 True := ⟨trivial⟩
       rotate_left
      rotate_left 2
      focus
       rw [if_neg c15] at H
       exact absurd H (by simp)
     rotate_left 2
     focus
      rw [if_neg c14] at H
      exact absurd H (by simp)
    rotate_left 2
    focus
     rw [if_neg c13] at H
     have c13b0 : decide (x6_1 < (t458.length : Int)) = false := decide_eq_false c13
     clear c13
     simp only [Option.some.injEq, Prod.mk.injEq] at H
     obtain ⟨rfl, rfl⟩ := H
     obtain ⟨Ao26, co26, eo26⟩ := Kd.N_slice HO_4.out
     subst eo26
     have tag2_ : Aside0 True := ⟨trivial⟩
    rotate_left
    all_goals
     first
     | (
       (first | (have z_ := tag0_; clear z_) | (have z_ := tag1_; clear z_))
       try go_wp2
       have n0_ := Aside0.mk (Kd.N_drew HO_4.out)
       have n1_ := Aside0.mk (Kd.R_drew HO_5.out)
       have n2_ := Aside0.mk (blk_drew BK456.out)
       have n3_ := Aside0.mk (below_drew1 HB.out)
       clear HO_4
       clear HO_5
       clear BK456
       clear HB
       have HO_4 := n0_
       have HO_5 := n1_
       have BK456 := n2_
       have HB := n3_
       clear n0_ n1_ n2_ n3_
       have pq0 : 0 ≤ (x6_1 : Int) := ZD
       have qq0 : x6_1 < (t458.length : Int) := ZD
       obtain ⟨adq0, Aq0_6, cq0_6, Aq0_7, cq0_7, eq0, hxq0_0, hxq0_1, hxq0_2, hxq0_3, hxq0_4, hxq0_5, hxq0_6, hxq0_7, hlq0_6, hiq0_6, hlq0_7, hiq0_7⟩ := at_T59 (Kd.N_reads' HO_4.out).2.2 x6_1 pq0 qq0
       cases eq0
       obtain ⟨ceq0, hceq0, hMeq0, hccq0⟩ := Kd.N_get HO_4.out z59 x6_1 pq0 (by first | exact qq0 | exact ZD | (have e_ := (Kd.N_reads' HO_4.out).1; omega))
       obtain ⟨uaq0_6, ucq0_6, uaq0_7, ucq0_7, rfl, ulq0_6, geq0_6, ulq0_7, geq0_7⟩ := k59_openF hMeq0
       have hvq0_6 := hccq0 6 _ rfl
       rw [add_field _ _ 6 (by omega)] at hvq0_6
       replace hvq0_6 := Option.some.inj (hvq0_6.symm.trans hxq0_6)
       injection hvq0_6 with hva_ hvn_ hvc_
       rw [hva_] at geq0_6
       rw [hvc_] at ulq0_6
       have HLq0_6 := Aside0.mk (show Kd.V k59 59 _ w.heap.size _ _ ((rd_T59 t458 x6_1).f4) from Kd.V_mk ulq0_6 geq0_6)
       clear hva_ hvn_ hvc_ geq0_6 ulq0_6
       have hvq0_7 := hccq0 7 _ rfl
       rw [add_field _ _ 7 (by omega)] at hvq0_7
       replace hvq0_7 := Option.some.inj (hvq0_7.symm.trans hxq0_7)
       injection hvq0_7 with hva_ hvn_ hvc_
       rw [hva_] at geq0_7
       rw [hvc_] at ulq0_7
       have HLq0_7 := Aside0.mk (show Kd.V k59 59 _ w.heap.size _ _ ((rd_T59 t458 x6_1).f5) from Kd.V_mk ulq0_7 geq0_7)
       clear hva_ hvn_ hvc_ geq0_7 ulq0_7
       clear hccq0 hceq0
       have HRq0_6 := Aside0.mk hiq0_6
       have HCq0_6 := Aside0.mk hlq0_6
       clear hiq0_6 hlq0_6
       have HRq0_7 := Aside0.mk hiq0_7
       have HCq0_7 := Aside0.mk hlq0_7
       clear hiq0_7 hlq0_7
       replace pq0 := eq_true pq0
       replace qq0 := eq_true qq0
       obtain ⟨Aoq0, coq0, eoq0⟩ := Kd.R_slice HO_5.out
       (first | subst eoq0 | (injection eoq0 with f1_ f2_ f3_; have fq0_ := f1_.symm; have fq1_ := f3_.symm; clear f1_ f2_ f3_; subst fq0_; subst fq1_))
       have pq1 : 0 ≤ (x6_1 : Int) := ZD
       have qq1 : x6_1 < (t461.length : Int) := ZD
       obtain ⟨adq1, eq1, hxq1_0, hxq1_1⟩ := at_T35 (Kd.R_reads' HO_5.out).2.2 x6_1 pq1 qq1
       cases eq1
       replace pq1 := eq_true pq1
       replace qq1 := eq_true qq1
       refine start_ (n := 11) (S := fun w' => w'.cell? ⟨gb456, 0, none⟩ = some (.slice A0_0 l0_0.length c0_0) ∧ w'.cell? ⟨gb456, 1, none⟩ = some (.slice A0_1 l0_1.length c0_1) ∧ w'.cell? (adq0.add ((x6_1).toNat * 8)) = some (.int .i64 ((rd_T59 t458 x6_1).f0)) ∧ w'.cell? ⟨(adq0.add ((x6_1).toNat * 8)).block, (adq0.add ((x6_1).toNat * 8)).off + 1, none⟩ = some (.int .i64 ((rd_T59 t458 x6_1).f1)) ∧ w'.cell? ⟨(adq0.add ((x6_1).toNat * 8)).block, (adq0.add ((x6_1).toNat * 8)).off + 2, none⟩ = some (.int .i64 ((rd_T59 t458 x6_1).f2.f0)) ∧ w'.cell? ⟨(adq0.add ((x6_1).toNat * 8)).block, (adq0.add ((x6_1).toNat * 8)).off + 3, none⟩ = some (.int .i64 ((rd_T59 t458 x6_1).f2.f1)) ∧ w'.cell? ⟨(adq0.add ((x6_1).toNat * 8)).block, (adq0.add ((x6_1).toNat * 8)).off + 4, none⟩ = some (.int .i64 ((rd_T59 t458 x6_1).f2.f2)) ∧ w'.cell? ⟨(adq0.add ((x6_1).toNat * 8)).block, (adq0.add ((x6_1).toNat * 8)).off + 5, none⟩ = some (.int .i64 ((rd_T59 t458 x6_1).f3)) ∧ w'.cell? ⟨(adq0.add ((x6_1).toNat * 8)).block, (adq0.add ((x6_1).toNat * 8)).off + 6, none⟩ = some (.slice Aq0_6 ((rd_T59 t458 x6_1).f4).length cq0_6) ∧ w'.cell? ⟨(adq0.add ((x6_1).toNat * 8)).block, (adq0.add ((x6_1).toNat * 8)).off + 7, none⟩ = some (.slice Aq0_7 ((rd_T59 t458 x6_1).f5).length cq0_7) ∧ w'.cell? (adq1.add ((x6_1).toNat * 2)) = some (.int .i64 ((rd_T35 t461 x6_1).f0)) ∧ w'.cell? ⟨(adq1.add ((x6_1).toNat * 2)).block, (adq1.add ((x6_1).toNat * 2)).off + 1, none⟩ = some (.int .i64 ((rd_T35 t461 x6_1).f1))) (ds := []) #[false, false, false, false, false, false, false, false, false, false, false] (by kernel_rfl) rfl rfl ⟨(blk_cell BK456.out 0).trans rfl, (blk_cell BK456.out 1).trans rfl, hxq0_0, hxq0_1, hxq0_2, hxq0_3, hxq0_4, hxq0_5, hxq0_6, hxq0_7, hxq1_0, hxq1_1⟩ (fun hHeld => ?_); refine with_tabW spec_TypeWhy.tab8 spec_TypeWhy.bits8 (fun HT_ HW_ => ?_)
       generalize wr.drew = wq0 at HO_4 HO_5 BK456 HB HLq0_6 HLq0_7 HRq0_6 HRq0_7 hxq0_0 hxq0_1 hxq0_2 hxq0_3 hxq0_4 hxq0_5 hxq0_6 hxq0_7 hxq1_0 hxq1_1 hHeld ⊢
       refine pure_ (i := 1) (N := some 22) (v := ?_) (a' := ?_) #[false, true, false, false, false, false, false, false, false, false, false] rfl rfl (any_of HT_.out (by kernel_rfl)) (fun _ _ _ h => h) (Or.inl ⟨by rfl, ?_⟩) ?_ ?_
       rotate_left
       ·intro w'
        go_simp
        with_reducible rfl
       rotate_left
       ·simp only [Act.put, List.setIfInBounds_toArray, List.set_cons_zero, List.set_cons_succ, i64_w, i32_w]
        rfl
       refine pure_ (i := 2) (N := some 23) (v := ?_) (a' := ?_) #[false, true, true, false, false, false, false, false, false, false, false] rfl rfl (any_of HT_.out (by kernel_rfl)) (fun _ _ _ h => h) (Or.inl ⟨by rfl, ?_⟩) ?_ ?_
       rotate_left
       ·intro w'
        go_simp
        with_reducible rfl
       rotate_left
       ·simp only [Act.put, List.setIfInBounds_toArray, List.set_cons_zero, List.set_cons_succ, i64_w, i32_w]
        rfl
       refine pure_ (i := 3) (N := some 24) (v := ?_) (a' := ?_) #[false, true, true, true, false, false, false, false, false, false, false] rfl rfl (any_of HT_.out (by kernel_rfl)) (fun _ _ _ h => h) (Or.inl ⟨by rfl, ?_⟩) ?_ ?_
       rotate_left
       ·intro w'
        go_simp
        with_reducible rfl
       rotate_left
       ·simp only [Act.put, List.setIfInBounds_toArray, List.set_cons_zero, List.set_cons_succ, i64_w, i32_w]
        rfl
       refine pure_ (i := 5) (N := some 26) (v := ?_) (a' := ?_) #[false, true, true, true, false, true, false, false, false, false, false] rfl rfl (any_of HT_.out (by kernel_rfl)) (fun _ _ _ h => h) (Or.inl ⟨by rfl, ?_⟩) ?_ ?_
       rotate_left
       ·intro w'
        go_simp
        with_reducible rfl
       rotate_left
       ·simp only [Act.put, List.setIfInBounds_toArray, List.set_cons_zero, List.set_cons_succ, i64_w, i32_w]
        rfl
       refine pure_ (i := 6) (N := some 27) (v := ?_) (a' := ?_) #[false, true, true, true, false, true, true, false, false, false, false] rfl rfl (any_of HT_.out (by kernel_rfl)) (fun _ _ _ h => h) (Or.inl ⟨by rfl, ?_⟩) ?_ ?_
       rotate_left
       ·intro w'
        go_simp
        with_reducible rfl
       rotate_left
       ·simp only [Act.put, List.setIfInBounds_toArray, List.set_cons_zero, List.set_cons_succ, i64_w, i32_w]
        rfl
       refine pure_ (i := 7) (N := some 28) (v := ?_) (a' := ?_) #[false, true, true, true, false, true, true, true, false, false, false] rfl rfl (any_of HT_.out (by kernel_rfl)) (fun _ _ _ h => h) (Or.inl ⟨by rfl, ?_⟩) ?_ ?_
       rotate_left
       ·intro w'
        go_simp
        with_reducible rfl
       rotate_left
       ·simp only [Act.put, List.setIfInBounds_toArray, List.set_cons_zero, List.set_cons_succ, i64_w, i32_w]
        rfl
       refine take_ (i := 0) (N := some 21) (v := ?_) (a' := ?_) #[true, true, true, true, false, true, true, true, false, false, false] rfl rfl (take_ofW HT_.out HW_.out (by kernel_rfl)) (fun _ _ _ h => h) (Or.inl ⟨by rfl, ?_⟩) hHeld ?_ ?_
       rotate_left
       ·rintro w' ⟨sq0, sq1, sq2, sq3, sq4, sq5, sq6, sq7, sq8, sq9, sq10, sq11⟩
        go_simp
        with_reducible rfl
       rotate_left
       ·simp only [Act.put, List.setIfInBounds_toArray, List.set_cons_zero, List.set_cons_succ, i64_w, i32_w]
        rfl
       refine take_ (i := 4) (N := some 25) (v := ?_) (a' := ?_) #[true, true, true, true, true, true, true, true, false, false, false] rfl rfl (take_ofW HT_.out HW_.out (by kernel_rfl)) (fun _ _ _ h => h) (Or.inl ⟨by rfl, ?_⟩) hHeld ?_ ?_
       rotate_left
       ·rintro w' ⟨sq0, sq1, sq2, sq3, sq4, sq5, sq6, sq7, sq8, sq9, sq10, sq11⟩
        go_simp
        with_reducible rfl
       rotate_left
       ·simp only [Act.put, List.setIfInBounds_toArray, List.set_cons_zero, List.set_cons_succ, i64_w, i32_w]
        rfl
       refine take_ (i := 8) (N := some 29) (v := ?_) (a' := ?_) #[true, true, true, true, true, true, true, true, true, false, false] rfl rfl (take_ofW HT_.out HW_.out (by kernel_rfl)) (fun _ _ _ h => h) (Or.inl ⟨by rfl, ?_⟩) hHeld ?_ ?_
       rotate_left
       ·rintro w' ⟨sq0, sq1, sq2, sq3, sq4, sq5, sq6, sq7, sq8, sq9, sq10, sq11⟩
        go_simp
        with_reducible rfl
       rotate_left
       ·simp only [Act.put, List.setIfInBounds_toArray, List.set_cons_zero, List.set_cons_succ, i64_w, i32_w]
        rfl
       refine one_ (i := 9) (N := some 30) #[true, true, true, true, true, true, true, true, true, true, false] rfl rfl (one_of HT_.out (by kernel_rfl)) (by decide) (fun K hK => ?_)
       refine goes_ Try.func117 (by kernel_rfl) rfl #[.agg #[.slice A0_0 l0_0.length c0_0, .slice A0_1 l0_1.length c0_1], .agg #[.int .i64 ((rd_T59 t458 x6_1).f0), .int .i64 ((rd_T59 t458 x6_1).f1), .int .i64 ((rd_T59 t458 x6_1).f2.f0), .int .i64 ((rd_T59 t458 x6_1).f2.f1), .int .i64 ((rd_T59 t458 x6_1).f2.f2), .int .i64 ((rd_T59 t458 x6_1).f3), .slice Aq0_6 ((rd_T59 t458 x6_1).f4).length cq0_6, .slice Aq0_7 ((rd_T59 t458 x6_1).f5).length cq0_7], .agg #[.int .i64 ((rd_T35 t461 x6_1).f0), .int .i64 ((rd_T35 t461 x6_1).f1)]] (by rfl) rfl rfl ZG ?_
       first
       | (
         (have z_ := tag0_; clear z_)
         with_reducible refine (spec_l11Fine.calls k1 _ _ l0_0 _ _ l0_1 ((rd_T59 t458 x6_1).f0) ((rd_T59 t458 x6_1).f1) ((rd_T59 t458 x6_1).f2.f0) ((rd_T59 t458 x6_1).f2.f1) ((rd_T59 t458 x6_1).f2.f2) ((rd_T59 t458 x6_1).f3) _ _ ((rd_T59 t458 x6_1).f4) _ _ ((rd_T59 t458 x6_1).f5) ((rd_T35 t461 x6_1).f0) ((rd_T35 t461 x6_1).f1) true _ ?side1 ?side2 ?side3 ?side4 ?side5 ?side6 ?side7 ?side8 A16.out).mono ?_
         (case side1 => exact ZQ (Kd.C_below HR0_0.out HB.out))
         (case side2 => exact HC0_0.out)
         (case side3 => exact ZQ (Kd.C_below HR0_1.out HB.out))
         (case side4 => exact HC0_1.out)
         (case side5 => repeat (first | exact (ZQ HRq0_6.out) | (with_reducible refine Kd.C_alloc ?_ _) | (with_reducible refine Kd.C_drewN ?_ _) | (with_reducible refine Kd.C_drew ?_)))
         (case side6 => exact HCq0_6.out)
         (case side7 => repeat (first | exact (ZQ HRq0_7.out) | (with_reducible refine Kd.C_alloc ?_ _) | (with_reducible refine Kd.C_drewN ?_ _) | (with_reducible refine Kd.C_drew ?_)))
         (case side8 => exact HCq0_7.out)
         rintro e wq1 ⟨rfl, hb⟩
         have HSq0_ := (hb.cell (World.block_lt_of_cell? _ _ (hHeld.2.2.1))).trans (hHeld.2.2.1)
         have HSq1_ := (hb.cell (World.block_lt_of_cell? _ _ (hHeld.2.2.2.1))).trans (hHeld.2.2.2.1)
         have HSq2_ := (hb.cell (World.block_lt_of_cell? _ _ (hHeld.2.2.2.2.1))).trans (hHeld.2.2.2.2.1)
         have HSq3_ := (hb.cell (World.block_lt_of_cell? _ _ (hHeld.2.2.2.2.2.1))).trans (hHeld.2.2.2.2.2.1)
         have HSq4_ := (hb.cell (World.block_lt_of_cell? _ _ (hHeld.2.2.2.2.2.2.1))).trans (hHeld.2.2.2.2.2.2.1)
         have HSq5_ := (hb.cell (World.block_lt_of_cell? _ _ (hHeld.2.2.2.2.2.2.2.1))).trans (hHeld.2.2.2.2.2.2.2.1)
         have HSq6_ := (hb.cell (World.block_lt_of_cell? _ _ (hHeld.2.2.2.2.2.2.2.2.1))).trans (hHeld.2.2.2.2.2.2.2.2.1)
         have HSq7_ := (hb.cell (World.block_lt_of_cell? _ _ (hHeld.2.2.2.2.2.2.2.2.2.1))).trans (hHeld.2.2.2.2.2.2.2.2.2.1)
         have HSq8_ := (hb.cell (World.block_lt_of_cell? _ _ (hHeld.2.2.2.2.2.2.2.2.2.2.1))).trans (hHeld.2.2.2.2.2.2.2.2.2.2.1)
         have HSq9_ := (hb.cell (World.block_lt_of_cell? _ _ (hHeld.2.2.2.2.2.2.2.2.2.2.2))).trans (hHeld.2.2.2.2.2.2.2.2.2.2.2)
         refine ⟨_, rfl, ?_⟩
         have n0_ := Aside0.mk (Kd.N_below (ZRN HO_4.out) hb)
         have n1_ := Aside0.mk (Kd.R_below (ZR HO_5.out) hb)
         have n2_ := Aside0.mk (Kd.V_below (ZRV HLq0_6.out) hb)
         have n3_ := Aside0.mk (Kd.V_below (ZRV HLq0_7.out) hb)
         have nq0_ := ZW BK456 hb
         have nq1_ := Aside0.mk (Kd.C_below (ZQ HRq0_6.out) hb)
         have nq2_ := Aside0.mk (Kd.C_below (ZQ HRq0_7.out) hb)
         have nq3_ := ZT hb
         clear HO_4
         clear HO_5
         clear HLq0_6
         clear HLq0_7
         clear BK456
         clear HRq0_6
         clear HRq0_7
         clear HB
         have HO_4 := n0_
         have HO_5 := n1_
         have HLq0_6 := n2_
         have HLq0_7 := n3_
         have BK456 := nq0_
         have HRq0_6 := nq1_
         have HRq0_7 := nq2_
         have HB := nq3_
         clear n0_ n1_ n2_ n3_ nq0_ nq1_ nq2_ nq3_
         (try clear hb)
         (try clear hb2)
         (try clear hk)
         (try clear hi)
         refine hK.out _ _ ⟨(blk_cell BK456.out 0).trans rfl, (blk_cell BK456.out 1).trans rfl, HSq0_, HSq1_, HSq2_, HSq3_, HSq4_, HSq5_, HSq6_, HSq7_, HSq8_, HSq9_⟩ (fun hHeld => ?_)
         clear hK K
         refine ZNO 30 ?_
         refine pure_ (i := 10) (N := some 31) (v := ?_) (a' := ?_) #[true, true, true, true, true, true, true, true, true, true, true] rfl rfl (any_of HT_.out (by kernel_rfl)) (fun _ _ _ h => h) (Or.inl ⟨by rfl, ?_⟩) ?_ ?_
         rotate_left
         ·intro w'
          go_simp
          with_reducible rfl
         rotate_left
         ·simp only [Act.put, List.setIfInBounds_toArray, List.set_cons_zero, List.set_cons_succ, i64_w, i32_w]
          rfl
         refine done_ (done_of HT_.out (by kernel_rfl)) ?_
         try go_wp2
         go_roundg k1
         case measure => have := HK1.out; omega
         case rel => exact ⟨(wrap64 (x6_1 + 1)), (by first | rfl | (simp; done) | (simp [*]; done)), H', ⟨by have := HK1.out; omega⟩, ⟨ZRN HO_4.out⟩, ⟨ZR HO_5.out⟩, ⟨ZK BK456.out⟩, ⟨ZB⟩⟩)
       | (
         (have z_ := tag1_; clear z_)
         with_reducible refine (spec_l11Fine.calls k1 _ _ l0_0 _ _ l0_1 ((rd_T59 t458 x6_1).f0) ((rd_T59 t458 x6_1).f1) ((rd_T59 t458 x6_1).f2.f0) ((rd_T59 t458 x6_1).f2.f1) ((rd_T59 t458 x6_1).f2.f2) ((rd_T59 t458 x6_1).f3) _ _ ((rd_T59 t458 x6_1).f4) _ _ ((rd_T59 t458 x6_1).f5) ((rd_T35 t461 x6_1).f0) ((rd_T35 t461 x6_1).f1) false _ ?side1 ?side2 ?side3 ?side4 ?side5 ?side6 ?side7 ?side8 A16.out).mono ?_
         (case side1 => exact ZQ (Kd.C_below HR0_0.out HB.out))
         (case side2 => exact HC0_0.out)
         (case side3 => exact ZQ (Kd.C_below HR0_1.out HB.out))
         (case side4 => exact HC0_1.out)
         (case side5 => repeat (first | exact (ZQ HRq0_6.out) | (with_reducible refine Kd.C_alloc ?_ _) | (with_reducible refine Kd.C_drewN ?_ _) | (with_reducible refine Kd.C_drew ?_)))
         (case side6 => exact HCq0_6.out)
         (case side7 => repeat (first | exact (ZQ HRq0_7.out) | (with_reducible refine Kd.C_alloc ?_ _) | (with_reducible refine Kd.C_drewN ?_ _) | (with_reducible refine Kd.C_drew ?_)))
         (case side8 => exact HCq0_7.out)
         rintro e wq1 ⟨rfl, hb⟩
         have HSq0_ := (hb.cell (World.block_lt_of_cell? _ _ (hHeld.2.2.1))).trans (hHeld.2.2.1)
         have HSq1_ := (hb.cell (World.block_lt_of_cell? _ _ (hHeld.2.2.2.1))).trans (hHeld.2.2.2.1)
         have HSq2_ := (hb.cell (World.block_lt_of_cell? _ _ (hHeld.2.2.2.2.1))).trans (hHeld.2.2.2.2.1)
         have HSq3_ := (hb.cell (World.block_lt_of_cell? _ _ (hHeld.2.2.2.2.2.1))).trans (hHeld.2.2.2.2.2.1)
         have HSq4_ := (hb.cell (World.block_lt_of_cell? _ _ (hHeld.2.2.2.2.2.2.1))).trans (hHeld.2.2.2.2.2.2.1)
         have HSq5_ := (hb.cell (World.block_lt_of_cell? _ _ (hHeld.2.2.2.2.2.2.2.1))).trans (hHeld.2.2.2.2.2.2.2.1)
         have HSq6_ := (hb.cell (World.block_lt_of_cell? _ _ (hHeld.2.2.2.2.2.2.2.2.1))).trans (hHeld.2.2.2.2.2.2.2.2.1)
         have HSq7_ := (hb.cell (World.block_lt_of_cell? _ _ (hHeld.2.2.2.2.2.2.2.2.2.1))).trans (hHeld.2.2.2.2.2.2.2.2.2.1)
         have HSq8_ := (hb.cell (World.block_lt_of_cell? _ _ (hHeld.2.2.2.2.2.2.2.2.2.2.1))).trans (hHeld.2.2.2.2.2.2.2.2.2.2.1)
         have HSq9_ := (hb.cell (World.block_lt_of_cell? _ _ (hHeld.2.2.2.2.2.2.2.2.2.2.2))).trans (hHeld.2.2.2.2.2.2.2.2.2.2.2)
         refine ⟨_, rfl, ?_⟩
         have n0_ := Aside0.mk (Kd.N_below (ZRN HO_4.out) hb)
         have n1_ := Aside0.mk (Kd.R_below (ZR HO_5.out) hb)
         have n2_ := Aside0.mk (Kd.V_below (ZRV HLq0_6.out) hb)
         have n3_ := Aside0.mk (Kd.V_below (ZRV HLq0_7.out) hb)
         have nq0_ := ZW BK456 hb
         have nq1_ := Aside0.mk (Kd.C_below (ZQ HRq0_6.out) hb)
         have nq2_ := Aside0.mk (Kd.C_below (ZQ HRq0_7.out) hb)
         have nq3_ := ZT hb
         clear HO_4
         clear HO_5
         clear HLq0_6
         clear HLq0_7
         clear BK456
         clear HRq0_6
         clear HRq0_7
         clear HB
         have HO_4 := n0_
         have HO_5 := n1_
         have HLq0_6 := n2_
         have HLq0_7 := n3_
         have BK456 := nq0_
         have HRq0_6 := nq1_
         have HRq0_7 := nq2_
         have HB := nq3_
         clear n0_ n1_ n2_ n3_ nq0_ nq1_ nq2_ nq3_
         (try clear hb)
         (try clear hb2)
         (try clear hk)
         (try clear hi)
         refine hK.out _ _ ⟨(blk_cell BK456.out 0).trans rfl, (blk_cell BK456.out 1).trans rfl, HSq0_, HSq1_, HSq2_, HSq3_, HSq4_, HSq5_, HSq6_, HSq7_, HSq8_, HSq9_⟩ (fun hHeld => ?_)
         clear hK K
         refine ZNO 30 ?_
         refine pure_ (i := 10) (N := some 31) (v := ?_) (a' := ?_) #[true, true, true, true, true, true, true, true, true, true, true] rfl rfl (any_of HT_.out (by kernel_rfl)) (fun _ _ _ h => h) (Or.inl ⟨by rfl, ?_⟩) ?_ ?_
         rotate_left
         ·intro w'
          go_simp
          with_reducible rfl
         rotate_left
         ·simp only [Act.put, List.setIfInBounds_toArray, List.set_cons_zero, List.set_cons_succ, i64_w, i32_w]
          rfl
         refine done_ (done_of HT_.out (by kernel_rfl)) ?_
         try go_wp2
         go_ret2
         exact ⟨ZE, ZB⟩))
     | (
       (have z_ := tag2_; clear z_)
       go_wp2
       go_ret2
       exact ⟨ZE, ZB⟩)
 ·replace c3 := Bool.eq_false_iff.mpr c3
  subst c3
  have H1 : (some (0, false)) = some (r1, r2) := by rw [if_neg (show ¬ (false = true) by decide)] at H; exact H
  clear H
  have H := H1
  clear H1
  simp only [Option.some.injEq, Prod.mk.injEq] at H
  obtain ⟨rfl, rfl⟩ := H
  go_enter Try.func74, Try.ntmps74
  go_wp2_with (first | ((with_reducible refine gate_dst (N := 1) rfl ?_); refine ZX (N := 1) (cs := #[.slice A0_0 l0_0.length c0_0, .slice A0_1 l0_1.length c0_1]) (t := 26) ?_; intro gb456 hg w27 hbox hb; have BK456 := Aside0.mk (hbox); have GW456 : Aside0 (w.heap.size ≤ gb456) := ZS hg; have GE456 : Aside0 (w.heap.size ≤ gb456) := ZS hg; replace HB := ZT hb; clear hb hbox hg; obtain ⟨hcz28_0, hcz28_1⟩ := ZC2 w27 BK456; obtain ⟨hfz28_0, hfz28_1⟩ := ZF2 BK456) | ((with_reducible refine gate_callee (f := 36) rfl ?_); refine goesL_ (some 8) rfl rfl Try.func36 (by kernel_rfl) rfl #[.agg #[.slice A0_0 l0_0.length c0_0, .slice A0_1 l0_1.length c0_1]] rfl ZG ?_; (with_reducible refine (spec_ProgOk.calls k _ _ l0_0 _ _ l0_1 false _ ?side1 ?side2 ?side3 ?side4 A2.out).mono ?_); (case side1 => exact ZQ (Kd.C_below HR0_0.out HB.out)); (case side2 => exact HC0_0.out); (case side3 => exact ZQ (Kd.C_below HR0_1.out HB.out)); (case side4 => exact HC0_1.out); rintro e w29 ⟨rfl, hb⟩; refine ⟨_, rfl, ?_⟩; replace BK456 := ZW BK456 hb; replace HB := ZT hb; (try clear hb); (try clear hb2); (try clear hk); (try clear hi)))
  go_ret2
  exact ⟨ZE, ZB⟩

end Go.Proofs.Ytcffnnedghgmaaa.A
