/- Go functions as Lean functions, and for each its contract; written by wip/tools/pr.py over the kit's print. -/
import Derived.Test.YtfcmckomagaiiaaDoorAx0
import Derived.Test.YtfcmckomagaiiaaDoorAx5
import Derived.Test.YtfcmckomagaiiaaDoorAx18
import Derived.Test.YtfcmckomagaiiaaDoorAx21
import Derived.Test.YtfcmckomagaiiaaDoorAx23
namespace Go.Proofs.YtfcmckomagaiiaaDoor.A
open Go.RowKit Go.Proofs.YtfcmckomagaiiaaDoorW.PrintWords Go.Proofs.YtfcmckomagaiiaaDoorW.PrintLast Go.Proofs.YtfcmckomagaiiaaDoorW.PrintMore
attribute [local go_sem] max2_int min2_int max_two min_two max_three min_three max_four min_four
set_option linter.unusedVariables false
set_option linter.unusedSimpArgs false
set_option maxHeartbeats 8000000
set_option maxRecDepth 100000

/-! ### spec_TypeWhy: function 70 -/
def spec_TypeWhy.l0 : Nat → List (S71) → List (S43) → Int → List (S43) → List (S71) → Option (Int × Bool)
 | 0, _, _, _, _, _ => none
 | k + 1, x4, x5, x6, x450000, x450001 => if x6 < (x4.length : Int) then (if 0 ≤ x6 then (if x6 < (x5.length : Int) then ((spec_l11Fine.f k x450000 x450001 ((D71 x4 x6).f0) ((D71 x4 x6).f1) ((D71 x4 x6).f2.f0) ((D71 x4 x6).f2.f1) ((D71 x4 x6).f2.f2) ((D71 x4 x6).f3) ((D71 x4 x6).f4) ((D71 x4 x6).f5) ((D43 x5 x6).f0) ((D43 x5 x6).f1)).bind fun t459 => (if t459 = true then (spec_TypeWhy.l0 k x4 x5 (wrap64 (x6 + 1)) x450000 x450001) else (some (x6, true)))) else (none)) else (none)) else (some (0, false))
def spec_TypeWhy.f (k : Nat) (l0_0 : List (S43)) (l0_1 : List (S71)) : Option (Int × Bool) := (spec_ProgOk.f k l0_0 l0_1).bind fun t450 => (if t450 = true then ((spec_l2All.f k l0_1).bind fun t451 => ((spec_TypeAt.f k l0_0 l0_1).bind fun t454 => (spec_TypeWhy.l0 k t451 t454 0 l0_0 l0_1))) else (some (0, false)))
def spec_TypeWhy.T8 : Bool × List (List Nat × List Nat) := (true, [([], []), ([], []), ([], []), ([1, 2], [1, 2]), ([3], [3]), ([], []), ([], []), ([5, 6], [5, 6]), ([7], [7]), ([0, 4, 8], [0, 4, 8]), ([9], [9])])
def spec_TypeWhy.B8 : List Nat := [0, 0, 0, 6, 14, 0, 0, 96, 224, 511, 1023]
theorem spec_TypeWhy.tab8 : rtab .any (opsOf Tryd.f70 8) = spec_TypeWhy.T8 := by kernel_rfl
theorem spec_TypeWhy.bits8 : waitsOk spec_TypeWhy.T8.2 spec_TypeWhy.B8 = true := by kernel_rfl
theorem spec_TypeWhy.calls (k : Nat) (A0_0 : Option Addr) (c0_0 : Nat) (l0_0 : List (S43)) (A0_1 : Option Addr) (c0_1 : Nat) (l0_1 : List (S71)) (r1 : Int) (r2 : Bool) (w : World) (hr0_0 : Kd.C k43 w A0_0 l0_0.length l0_0) (hc0_0 : l0_0.length ≤ c0_0) (hr0_1 : Kd.C k71 w A0_1 l0_1.length l0_1) (hc0_1 : l0_1.length ≤ c0_1) (h : spec_TypeWhy.f k l0_0 l0_1 = some (r1, r2)) :
  Calls Tryd.prog 70 #[.agg #[.slice A0_0 l0_0.length c0_0, .slice A0_1 l0_1.length c0_1]] w fun e w' => e = .returned (.tuple #[.int .i64 r1, .bool r2]) ∧ Below w.heap.size w w' := by
 have hu31 := Tryd.underlying31
 have hu71 := Tryd.underlying71
 have hu43 := Tryd.underlying43
 have HR0_0 := AM hr0_0
 have HC0_0 := AM hc0_0
 clear hr0_0 hc0_0
 have HR0_1 := AM hr0_1
 have HC0_1 := AM hc0_1
 clear hr0_1 hc0_1
 have HB := AM (Below.refl w.heap.size w)
 have H := h
 unfold spec_TypeWhy.f at H
 clear h
 obtain ⟨t450, A2, H⟩ := ZOB H; try dsimp only at H
 by_cases c3 : t450 = true
 ·(
 subst c3
 have H1 := H; rw [if_pos rfl] at H1
 clear H
 have H := H1
 clear H1
 obtain ⟨t451, A4, H⟩ := ZOB H; try dsimp only at H
 obtain ⟨t454, A5, H⟩ := ZOB H; try dsimp only at H
 have H' := AM H
 clear H
 go_enter Tryd.func70, Tryd.ntmps70
 go_wp2_with (first | ((with_reducible refine gate_dst (N := 1) rfl ?_); refine ZXW w (N := 1) (cs := #[.slice A0_0 l0_0.length c0_0, .slice A0_1 l0_1.length c0_1]) (t := 31) ?_; intro gb449 hg w6 BK449 GW449 hb; replace HB := ZT HB hb; clear hb hg; have hcz7 := ZC2 w6 BK449) | ((with_reducible refine gate_callee (f := 11) rfl ?_); refine ZGL (some 8) Tryd.func11 #[.agg #[.slice A0_0 l0_0.length c0_0, .slice A0_1 l0_1.length c0_1]] ?_; (with_reducible refine (spec_ProgOk.calls k _ _ l0_0 _ _ l0_1 true _ (ZQ (Kd.C_below HR0_0.out HB.out)) HC0_0.out (ZQ (Kd.C_below HR0_1.out HB.out)) HC0_1.out A2.out).mono ?_); rintro e w8 ⟨rfl, hb⟩; refine ZV1 ?_; replace BK449 := ZW BK449 hb; replace HB := ZT HB hb; clear hb; have hcz9 := ZC2 w8 BK449) | ((with_reducible refine gate_callee (f := 81) rfl ?_); refine ZGL (some 12) Tryd.func81 #[.slice A0_1 l0_1.length c0_1] ?_; (with_reducible refine (spec_l2All.calls k (fun k_ => k_ < w.heap.size) _ _ l0_1 t451 _ ?side1 A4.out).mono ?_); (case side1 => exact Kd.V_mk HC0_1.out (Kd.F_below (Kd.C_F k71_heap HR0_1.out) (ZB))); rintro e w10 ⟨v452, rfl, ho0, hb⟩; refine ZV1 ?_; have HO453 := AM (Kd.N_lower (Kd.N_mono (ok' := fun k_ => k_ ≠ gb449) ho0 (fun k_ hk_ => Or.elim hk_ (fun hs_ => fun e_ => Nat.not_le.2 hs_ (by rw [e_]; exact GW449.out)) (fun hn_ => (Kd.freshB (g := gb449) (o := .cells #[.slice A0_0 l0_0.length c0_0, .slice A0_1 l0_1.length c0_1] 31 (0, 0)) (ZK BK449.out) k_ hn_)))) (below_size (ZB))); replace BK449 := ZW BK449 hb; replace HB := ZT HB hb; clear hb; (try clear ho0); have hcz11 := ZC2 w10 BK449) | ((with_reducible refine gate_callee (f := 82) rfl ?_); refine ZGL (some 14) Tryd.func82 #[.agg #[.slice A0_0 l0_0.length c0_0, .slice A0_1 l0_1.length c0_1]] ?_; (with_reducible refine (spec_TypeAt.calls k _ _ l0_0 _ _ l0_1 t454 _ (ZQ (Kd.C_below HR0_0.out HB.out)) HC0_0.out (ZQ (Kd.C_below HR0_1.out HB.out)) HC0_1.out A5.out).mono ?_); rintro e w12 ⟨v455, rfl, ho0, hb⟩; refine ZV1 ?_; have HO456 := AM (Kd.R_lower ho0 (below_size (ZB))); replace HO453 := AM (Kd.N_elder' (ZRN HO453.out) (Kd.R_base ho0) hb); replace BK449 := ZW BK449 hb; replace HB := ZT HB hb; clear hb; (try clear ho0)))
 go_loopg [6] k (fun kq v6 w' => ∃ (x6_1 : Int), v6 = .int .i64 x6_1 ∧ Za (spec_TypeWhy.l0 kq t451 t454 x6_1 l0_0 l0_1 = some (r1, r2)) ∧ Za (kq ≤ k) ∧ Za (Kd.N k71 71 w' w.heap.size (fun k_ => some k_ ≠ (v455 : Value).ownBlock ∧ k_ ≠ gb449) v452 t451) ∧ Za (Kd.R k43 43 w' w.heap.size (fun _ => True) v455 t454) ∧ Za (w'.heap[gb449]? = some (.cells #[(.slice A0_0 l0_0.length c0_0), (.slice A0_1 l0_1.length c0_1)] 31 (0, 0))) ∧ Za (Below w.heap.size w w'))
 case atStart => exact ⟨(0), ZSM, H', ⟨Nat.le_refl _⟩, ⟨ZNm HO453.out (fun _ hk => ⟨hk.2, hk.1⟩)⟩, ⟨ZR HO456.out⟩, ⟨ZK BK449.out⟩, ⟨ZB⟩⟩
 case round => (
 clear H'
 try clear c1
 try clear p2
 try clear c3
 try clear c7
 try clear c8
 try clear c11
 try clear hcz11
 try clear hcz7
 try clear hcz9
 obtain ⟨x6_1, rfl, HA, HK1, HO_4, HO_5, BK449, HB⟩ := hrel
 cases gk with
 | zero => exact absurd HA.out (by simp [spec_TypeWhy.l0])
 | succ k1 =>
  have H := HA.out
  clear HA
  simp only [spec_TypeWhy.l0] at H
  by_cases c13 : x6_1 < (t451.length : Int)
  focus (
  rw [if_pos c13] at H
  have c13b0 := decide_eq_true c13
  clear c13
  by_cases c14 : 0 ≤ x6_1
  focus (
  rw [if_pos c14] at H
  have c14b0 := decide_eq_true c14
  clear c14
  by_cases c15 : x6_1 < (t454.length : Int)
  focus (
  rw [if_pos c15] at H
  have c15b0 := decide_eq_true c15
  clear c15
  obtain ⟨t459, A16, H⟩ := ZOB H; try dsimp only at H
  by_cases c17 : t459 = true
  focus (
  subst c17
  have H1 := H; rw [if_pos rfl] at H1
  clear H
  have H := H1
  clear H1
  have H' := AM H
  clear H
  obtain ⟨Ao18, co18, eo18⟩ := Kd.N_slice HO_4.out
  subst eo18
  have tag0_ : Za True := ⟨trivial⟩)
  rotate_left
  focus (
  replace c17 := Bool.eq_false_iff.mpr c17
  subst c17
  have H1 := H; rw [if_neg ZFT] at H1
  clear H
  have H := H1
  clear H1
  simp only [Option.some.injEq, Prod.mk.injEq] at H
  obtain ⟨rfl, rfl⟩ := H
  obtain ⟨Ao22, co22, eo22⟩ := Kd.N_slice HO_4.out
  subst eo22
  have tag1_ : Za True := ⟨trivial⟩)
  rotate_left)
  rotate_left 2
  focus (
  exact ZNE H c15))
  rotate_left 2
  focus (
  exact ZNE H c14))
  rotate_left 2
  focus (
  rw [if_neg c13] at H
  have c13b0 := decide_eq_false c13
  clear c13
  simp only [Option.some.injEq, Prod.mk.injEq] at H
  obtain ⟨rfl, rfl⟩ := H
  obtain ⟨Ao26, co26, eo26⟩ := Kd.N_slice HO_4.out
  subst eo26
  have tag2_ : Za True := ⟨trivial⟩)
  rotate_left
  all_goals (
  first
  | (
  (first | (have z_ := tag0_; clear z_) | (have z_ := tag1_; clear z_))
  try go_wp2
  replace HO_4 := AM (Kd.N_drew HO_4.out)
  replace HO_5 := AM (Kd.R_drew HO_5.out)
  replace BK449 := AM (blk_drew BK449.out)
  replace HB := AM (below_drew1 HB.out)
  have pq0 : 0 ≤ (x6_1 : Int) := ZD
  have qq0 : x6_1 < (t451.length : Int) := ZD
  obtain ⟨adq0, Aq0_6, cq0_6, Aq0_7, cq0_7, eq0, hxq0_0, hxq0_1, hxq0_2, hxq0_3, hxq0_4, hxq0_5, hxq0_6, hxq0_7, hlq0_6, hiq0_6, hlq0_7, hiq0_7⟩ := at_T71 (Kd.N_reads' HO_4.out).2.2 x6_1 pq0 qq0
  cases eq0
  obtain ⟨ceq0, hceq0, hMeq0, hccq0⟩ := Kd.N_get HO_4.out z71 x6_1 pq0 (by first | exact qq0 | exact ZD | (have e_ := (Kd.N_reads' HO_4.out).1; omega))
  obtain ⟨uaq0_6, ucq0_6, uaq0_7, ucq0_7, rfl, ulq0_6, geq0_6, ulq0_7, geq0_7⟩ := k71_openF hMeq0
  have hvq0_6 := hccq0 6 _ rfl
  rw [add_field _ _ 6 (by omega)] at hvq0_6
  replace hvq0_6 := Option.some.inj (hvq0_6.symm.trans hxq0_6)
  injection hvq0_6 with hva_ hvn_ hvc_
  rw [hva_] at geq0_6
  rw [hvc_] at ulq0_6
  have HLq0_6 := AM (show Kd.V k71 71 _ w.heap.size _ _ ((D71 t451 x6_1).f4) from Kd.V_mk ulq0_6 geq0_6)
  clear hva_ hvn_ hvc_ geq0_6 ulq0_6
  have hvq0_7 := hccq0 7 _ rfl
  rw [add_field _ _ 7 (by omega)] at hvq0_7
  replace hvq0_7 := Option.some.inj (hvq0_7.symm.trans hxq0_7)
  injection hvq0_7 with hva_ hvn_ hvc_
  rw [hva_] at geq0_7
  rw [hvc_] at ulq0_7
  have HLq0_7 := AM (show Kd.V k71 71 _ w.heap.size _ _ ((D71 t451 x6_1).f5) from Kd.V_mk ulq0_7 geq0_7)
  clear hva_ hvn_ hvc_ geq0_7 ulq0_7 hccq0 hceq0
  have HRq0_6 := AM hiq0_6
  have HCq0_6 := AM hlq0_6
  clear hiq0_6 hlq0_6
  have HRq0_7 := AM hiq0_7
  have HCq0_7 := AM hlq0_7
  clear hiq0_7 hlq0_7
  replace pq0 := eq_true pq0
  replace qq0 := eq_true qq0
  obtain ⟨Aoq0, coq0, eoq0⟩ := Kd.R_slice HO_5.out
  (first | subst eoq0 | (injection eoq0 with f1_ f2_ f3_; have fq0_ := f1_.symm; have fq1_ := f3_.symm; clear f1_ f2_ f3_; subst fq0_; subst fq1_))
  have pq1 : 0 ≤ (x6_1 : Int) := ZD
  have qq1 : x6_1 < (t454.length : Int) := ZD
  obtain ⟨adq1, eq1, hxq1_0, hxq1_1⟩ := at_T43 (Kd.R_reads' HO_5.out).2.2 x6_1 pq1 qq1
  cases eq1
  replace pq1 := eq_true pq1
  replace qq1 := eq_true qq1
  refine start_ (n := 11) (S := fun w' => w'.cell? ⟨gb449, 0, none⟩ = some (.slice A0_0 l0_0.length c0_0) ∧ w'.cell? ⟨gb449, 1, none⟩ = some (.slice A0_1 l0_1.length c0_1) ∧ w'.cell? (adq0.add ((x6_1).toNat * 8)) = some (.int .i64 ((D71 t451 x6_1).f0)) ∧ w'.cell? ⟨(adq0.add ((x6_1).toNat * 8)).block, (adq0.add ((x6_1).toNat * 8)).off + 1, none⟩ = some (.int .i64 ((D71 t451 x6_1).f1)) ∧ w'.cell? ⟨(adq0.add ((x6_1).toNat * 8)).block, (adq0.add ((x6_1).toNat * 8)).off + 2, none⟩ = some (.int .i64 ((D71 t451 x6_1).f2.f0)) ∧ w'.cell? ⟨(adq0.add ((x6_1).toNat * 8)).block, (adq0.add ((x6_1).toNat * 8)).off + 3, none⟩ = some (.int .i64 ((D71 t451 x6_1).f2.f1)) ∧ w'.cell? ⟨(adq0.add ((x6_1).toNat * 8)).block, (adq0.add ((x6_1).toNat * 8)).off + 4, none⟩ = some (.int .i64 ((D71 t451 x6_1).f2.f2)) ∧ w'.cell? ⟨(adq0.add ((x6_1).toNat * 8)).block, (adq0.add ((x6_1).toNat * 8)).off + 5, none⟩ = some (.int .i64 ((D71 t451 x6_1).f3)) ∧ w'.cell? ⟨(adq0.add ((x6_1).toNat * 8)).block, (adq0.add ((x6_1).toNat * 8)).off + 6, none⟩ = some (.slice Aq0_6 ((D71 t451 x6_1).f4).length cq0_6) ∧ w'.cell? ⟨(adq0.add ((x6_1).toNat * 8)).block, (adq0.add ((x6_1).toNat * 8)).off + 7, none⟩ = some (.slice Aq0_7 ((D71 t451 x6_1).f5).length cq0_7) ∧ w'.cell? (adq1.add ((x6_1).toNat * 2)) = some (.int .i64 ((D43 t454 x6_1).f0)) ∧ w'.cell? ⟨(adq1.add ((x6_1).toNat * 2)).block, (adq1.add ((x6_1).toNat * 2)).off + 1, none⟩ = some (.int .i64 ((D43 t454 x6_1).f1))) (ds := []) #[F,F,F,F,F,F,F,F,F,F,F] (by kernel_rfl) rfl rfl ⟨ZA BK449 0, ZA BK449 1, hxq0_0, hxq0_1, hxq0_2, hxq0_3, hxq0_4, hxq0_5, hxq0_6, hxq0_7, hxq1_0, hxq1_1⟩ (fun hHeld => ?_); refine with_tabW spec_TypeWhy.tab8 spec_TypeWhy.bits8 (fun HT_ HW_ => ?_)
  generalize wr.drew = wq0 at HO_4 HO_5 BK449 HB HLq0_6 HLq0_7 HRq0_6 HRq0_7 hxq0_0 hxq0_1 hxq0_2 hxq0_3 hxq0_4 hxq0_5 hxq0_6 hxq0_7 hxq1_0 hxq1_1 hHeld ⊢
  refine ZU 1 22 #[F,T,F,F,F,F,F,F,F,F,F] ?_
  refine ZU 2 23 #[F,T,T,F,F,F,F,F,F,F,F] ?_
  refine ZU 3 24 #[F,T,T,T,F,F,F,F,F,F,F] ?_
  refine ZU 5 26 #[F,T,T,T,F,T,F,F,F,F,F] ?_
  refine ZU 6 27 #[F,T,T,T,F,T,T,F,F,F,F] ?_
  refine ZU 7 28 #[F,T,T,T,F,T,T,T,F,F,F] ?_
  refine ZTK 0 21 #[T,T,T,T,F,T,T,T,F,F,F] hHeld ?_
  refine ZTK 4 25 #[T,T,T,T,T,T,T,T,F,F,F] hHeld ?_
  refine ZTK 8 29 #[T,T,T,T,T,T,T,T,T,F,F] hHeld ?_
  refine one_ (i := 9) (N := some 30) #[T,T,T,T,T,T,T,T,T,T,F] rfl rfl (one_of HT_.out (by kernel_rfl)) (by decide) (fun K hK => ?_)
  refine ZGO Tryd.func83 #[.agg #[.slice A0_0 l0_0.length c0_0, .slice A0_1 l0_1.length c0_1], .agg #[.int .i64 ((D71 t451 x6_1).f0), .int .i64 ((D71 t451 x6_1).f1), .int .i64 ((D71 t451 x6_1).f2.f0), .int .i64 ((D71 t451 x6_1).f2.f1), .int .i64 ((D71 t451 x6_1).f2.f2), .int .i64 ((D71 t451 x6_1).f3), .slice Aq0_6 ((D71 t451 x6_1).f4).length cq0_6, .slice Aq0_7 ((D71 t451 x6_1).f5).length cq0_7], .agg #[.int .i64 ((D43 t454 x6_1).f0), .int .i64 ((D43 t454 x6_1).f1)]] ?_
  first
  | (
  (have z_ := tag0_; clear z_)
  with_reducible refine (spec_l11Fine.calls k1 _ _ l0_0 _ _ l0_1 ((D71 t451 x6_1).f0) ((D71 t451 x6_1).f1) ((D71 t451 x6_1).f2.f0) ((D71 t451 x6_1).f2.f1) ((D71 t451 x6_1).f2.f2) ((D71 t451 x6_1).f3) _ _ ((D71 t451 x6_1).f4) _ _ ((D71 t451 x6_1).f5) ((D43 t454 x6_1).f0) ((D43 t454 x6_1).f1) true _ ?side1 ?side2 ?side3 ?side4 ?side5 ?side6 ?side7 ?side8 A16.out).mono ?_
  (case side1 => exact ZQ (Kd.C_below HR0_0.out HB.out))
  (case side2 => exact HC0_0.out)
  (case side3 => exact ZQ (Kd.C_below HR0_1.out HB.out))
  (case side4 => exact HC0_1.out)
  (case side5 => repeat (first | exact (ZQ HRq0_6.out) | (with_reducible refine Kd.C_alloc ?_ _) | (with_reducible refine Kd.C_drewN ?_ _) | (with_reducible refine Kd.C_drew ?_)))
  (case side6 => exact HCq0_6.out)
  (case side7 => repeat (first | exact (ZQ HRq0_7.out) | (with_reducible refine Kd.C_alloc ?_ _) | (with_reducible refine Kd.C_drewN ?_ _) | (with_reducible refine Kd.C_drew ?_)))
  (case side8 => exact HCq0_7.out)
  rintro e wq1 ⟨rfl, hb⟩
  have HSq0_ := (hb.cell (World.block_lt_of_cell? _ _ (hHeld.2.2.1))).trans (hHeld.2.2.1)
  have HSq1_ := (hb.cell (World.block_lt_of_cell? _ _ (hHeld.2.2.2.1))).trans (hHeld.2.2.2.1)
  have HSq2_ := (hb.cell (World.block_lt_of_cell? _ _ (hHeld.2.2.2.2.1))).trans (hHeld.2.2.2.2.1)
  have HSq3_ := (hb.cell (World.block_lt_of_cell? _ _ (hHeld.2.2.2.2.2.1))).trans (hHeld.2.2.2.2.2.1)
  have HSq4_ := (hb.cell (World.block_lt_of_cell? _ _ (hHeld.2.2.2.2.2.2.1))).trans (hHeld.2.2.2.2.2.2.1)
  have HSq5_ := (hb.cell (World.block_lt_of_cell? _ _ (hHeld.2.2.2.2.2.2.2.1))).trans (hHeld.2.2.2.2.2.2.2.1)
  have HSq6_ := (hb.cell (World.block_lt_of_cell? _ _ (hHeld.2.2.2.2.2.2.2.2.1))).trans (hHeld.2.2.2.2.2.2.2.2.1)
  have HSq7_ := (hb.cell (World.block_lt_of_cell? _ _ (hHeld.2.2.2.2.2.2.2.2.2.1))).trans (hHeld.2.2.2.2.2.2.2.2.2.1)
  have HSq8_ := (hb.cell (World.block_lt_of_cell? _ _ (hHeld.2.2.2.2.2.2.2.2.2.2.1))).trans (hHeld.2.2.2.2.2.2.2.2.2.2.1)
  have HSq9_ := (hb.cell (World.block_lt_of_cell? _ _ (hHeld.2.2.2.2.2.2.2.2.2.2.2))).trans (hHeld.2.2.2.2.2.2.2.2.2.2.2)
  refine ZV1 ?_
  have n0_ := AM (Kd.N_below (ZRN HO_4.out) hb)
  have n1_ := AM (Kd.R_below (ZR HO_5.out) hb)
  have n2_ := AM (Kd.V_below (ZRV HLq0_6.out) hb)
  have n3_ := AM (Kd.V_below (ZRV HLq0_7.out) hb)
  have nq0_ := ZW BK449 hb
  have nq1_ := AM (Kd.C_below (ZQ HRq0_6.out) hb)
  have nq2_ := AM (Kd.C_below (ZQ HRq0_7.out) hb)
  have nq3_ := ZT HB hb
  clear HO_4 HO_5 HLq0_6 HLq0_7 BK449 HRq0_6 HRq0_7 HB
  have HO_4 := n0_
  have HO_5 := n1_
  have HLq0_6 := n2_
  have HLq0_7 := n3_
  have BK449 := nq0_
  have HRq0_6 := nq1_
  have HRq0_7 := nq2_
  have HB := nq3_
  clear n0_ n1_ n2_ n3_ nq0_ nq1_ nq2_ nq3_
  (try clear hb)
  (try clear hb2)
  (try clear hk)
  (try clear hi)
  refine hK.out _ _ ⟨ZA BK449 0, ZA BK449 1, HSq0_, HSq1_, HSq2_, HSq3_, HSq4_, HSq5_, HSq6_, HSq7_, HSq8_, HSq9_⟩ (fun hHeld => ?_)
  clear hK K
  refine ZNO 30 ?_
  refine ZU 10 31 #[T,T,T,T,T,T,T,T,T,T,T] ?_
  refine done_ (done_of HT_.out (by kernel_rfl)) ?_
  try go_wp2
  go_roundg k1
  case measure => have := HK1.out; omega
  case rel => exact ⟨(wrap64 (x6_1 + 1)), ZSM, H', ⟨by have := HK1.out; omega⟩, ⟨ZRN HO_4.out⟩, ⟨ZR HO_5.out⟩, ⟨ZK BK449.out⟩, ⟨ZB⟩⟩)
  | (
  (have z_ := tag1_; clear z_)
  with_reducible refine (spec_l11Fine.calls k1 _ _ l0_0 _ _ l0_1 ((D71 t451 x6_1).f0) ((D71 t451 x6_1).f1) ((D71 t451 x6_1).f2.f0) ((D71 t451 x6_1).f2.f1) ((D71 t451 x6_1).f2.f2) ((D71 t451 x6_1).f3) _ _ ((D71 t451 x6_1).f4) _ _ ((D71 t451 x6_1).f5) ((D43 t454 x6_1).f0) ((D43 t454 x6_1).f1) false _ ?side1 ?side2 ?side3 ?side4 ?side5 ?side6 ?side7 ?side8 A16.out).mono ?_
  (case side1 => exact ZQ (Kd.C_below HR0_0.out HB.out))
  (case side2 => exact HC0_0.out)
  (case side3 => exact ZQ (Kd.C_below HR0_1.out HB.out))
  (case side4 => exact HC0_1.out)
  (case side5 => repeat (first | exact (ZQ HRq0_6.out) | (with_reducible refine Kd.C_alloc ?_ _) | (with_reducible refine Kd.C_drewN ?_ _) | (with_reducible refine Kd.C_drew ?_)))
  (case side6 => exact HCq0_6.out)
  (case side7 => repeat (first | exact (ZQ HRq0_7.out) | (with_reducible refine Kd.C_alloc ?_ _) | (with_reducible refine Kd.C_drewN ?_ _) | (with_reducible refine Kd.C_drew ?_)))
  (case side8 => exact HCq0_7.out)
  rintro e wq1 ⟨rfl, hb⟩
  have HSq0_ := (hb.cell (World.block_lt_of_cell? _ _ (hHeld.2.2.1))).trans (hHeld.2.2.1)
  have HSq1_ := (hb.cell (World.block_lt_of_cell? _ _ (hHeld.2.2.2.1))).trans (hHeld.2.2.2.1)
  have HSq2_ := (hb.cell (World.block_lt_of_cell? _ _ (hHeld.2.2.2.2.1))).trans (hHeld.2.2.2.2.1)
  have HSq3_ := (hb.cell (World.block_lt_of_cell? _ _ (hHeld.2.2.2.2.2.1))).trans (hHeld.2.2.2.2.2.1)
  have HSq4_ := (hb.cell (World.block_lt_of_cell? _ _ (hHeld.2.2.2.2.2.2.1))).trans (hHeld.2.2.2.2.2.2.1)
  have HSq5_ := (hb.cell (World.block_lt_of_cell? _ _ (hHeld.2.2.2.2.2.2.2.1))).trans (hHeld.2.2.2.2.2.2.2.1)
  have HSq6_ := (hb.cell (World.block_lt_of_cell? _ _ (hHeld.2.2.2.2.2.2.2.2.1))).trans (hHeld.2.2.2.2.2.2.2.2.1)
  have HSq7_ := (hb.cell (World.block_lt_of_cell? _ _ (hHeld.2.2.2.2.2.2.2.2.2.1))).trans (hHeld.2.2.2.2.2.2.2.2.2.1)
  have HSq8_ := (hb.cell (World.block_lt_of_cell? _ _ (hHeld.2.2.2.2.2.2.2.2.2.2.1))).trans (hHeld.2.2.2.2.2.2.2.2.2.2.1)
  have HSq9_ := (hb.cell (World.block_lt_of_cell? _ _ (hHeld.2.2.2.2.2.2.2.2.2.2.2))).trans (hHeld.2.2.2.2.2.2.2.2.2.2.2)
  refine ZV1 ?_
  have n0_ := AM (Kd.N_below (ZRN HO_4.out) hb)
  have n1_ := AM (Kd.R_below (ZR HO_5.out) hb)
  have n2_ := AM (Kd.V_below (ZRV HLq0_6.out) hb)
  have n3_ := AM (Kd.V_below (ZRV HLq0_7.out) hb)
  have nq0_ := ZW BK449 hb
  have nq1_ := AM (Kd.C_below (ZQ HRq0_6.out) hb)
  have nq2_ := AM (Kd.C_below (ZQ HRq0_7.out) hb)
  have nq3_ := ZT HB hb
  clear HO_4 HO_5 HLq0_6 HLq0_7 BK449 HRq0_6 HRq0_7 HB
  have HO_4 := n0_
  have HO_5 := n1_
  have HLq0_6 := n2_
  have HLq0_7 := n3_
  have BK449 := nq0_
  have HRq0_6 := nq1_
  have HRq0_7 := nq2_
  have HB := nq3_
  clear n0_ n1_ n2_ n3_ nq0_ nq1_ nq2_ nq3_
  (try clear hb)
  (try clear hb2)
  (try clear hk)
  (try clear hi)
  refine hK.out _ _ ⟨ZA BK449 0, ZA BK449 1, HSq0_, HSq1_, HSq2_, HSq3_, HSq4_, HSq5_, HSq6_, HSq7_, HSq8_, HSq9_⟩ (fun hHeld => ?_)
  clear hK K
  refine ZNO 30 ?_
  refine ZU 10 31 #[T,T,T,T,T,T,T,T,T,T,T] ?_
  refine done_ (done_of HT_.out (by kernel_rfl)) ?_
  try go_wp2
  go_ret2
  exact ⟨ZE, ZB⟩))
  | (
  (have z_ := tag2_; clear z_)
  go_wp2
  go_ret2
  exact ⟨ZE, ZB⟩))))
 ·(
 replace c3 := Bool.eq_false_iff.mpr c3
 subst c3
 have H1 := H; rw [if_neg ZFT] at H1
 clear H
 have H := H1
 clear H1
 simp only [Option.some.injEq, Prod.mk.injEq] at H
 obtain ⟨rfl, rfl⟩ := H
 go_enter Tryd.func70, Tryd.ntmps70
 go_wp2_with (first | ((with_reducible refine gate_dst (N := 1) rfl ?_); refine ZXW w (N := 1) (cs := #[.slice A0_0 l0_0.length c0_0, .slice A0_1 l0_1.length c0_1]) (t := 31) ?_; intro gb449 hg w27 BK449 GW449 hb; replace HB := ZT HB hb; clear hb hg; have hcz28 := ZC2 w27 BK449) | ((with_reducible refine gate_callee (f := 11) rfl ?_); refine ZGL (some 8) Tryd.func11 #[.agg #[.slice A0_0 l0_0.length c0_0, .slice A0_1 l0_1.length c0_1]] ?_; (with_reducible refine (spec_ProgOk.calls k _ _ l0_0 _ _ l0_1 false _ (ZQ (Kd.C_below HR0_0.out HB.out)) HC0_0.out (ZQ (Kd.C_below HR0_1.out HB.out)) HC0_1.out A2.out).mono ?_); rintro e w29 ⟨rfl, hb⟩; refine ZV1 ?_; replace BK449 := ZW BK449 hb; replace HB := ZT HB hb; clear hb))
 go_ret2
 exact ⟨ZE, ZB⟩)

end Go.Proofs.YtfcmckomagaiiaaDoor.A
