/- By wip/tools/pr.py: Go functions as Lean functions, with contracts. -/
import Derived.Test.YtkkdeojbkfjlpaaAx0
import Derived.Test.YtkkdeojbkfjlpaaAx22
import Derived.Test.YtkkdeojbkfjlpaaAx28
import Derived.Test.YtkkdeojbkfjlpaaAx30
namespace Go.Proofs.Ytkkdeojbkfjlpaa.A
open Go.RowKit Go.Proofs.YtkkdeojbkfjlpaaW.PrintWords Go.Proofs.YtkkdeojbkfjlpaaW.PrintLast Go.Proofs.YtkkdeojbkfjlpaaW.PrintMore
attribute [local go_sem] max2_int min2_int max_two min_two max_three min_three max_four min_four
set_option linter.unusedVariables false
set_option linter.unusedSimpArgs false
set_option maxHeartbeats 8000000
set_option maxRecDepth 100000

/-! ### impl_Prog_why: function 32 -/
def impl_Prog_why.l0 : Nat → List (S35) → List (S40) → Int → Int → List (S35) → List (S40) → Option (Int × Bool)
 | 0, _, _, _, _, _, _ => none
 | k + 1, x4, x12, x13, x14, x721000, x721001 => if x14 < x13 then (if 0 ≤ x14 then (if x14 < (x12.length : Int) then (if 0 ≤ ((D40 x12 x14).f1) then (if ((D40 x12 x14).f1) < (x721000.length : Int) then (if ((D40 x12 x14).f0) = 1 then (if x14 < (x4.length : Int) then ((impl_Prog_source.f k x721000 x721001 ((D40 x12 x14).f0) ((D40 x12 x14).f1) ((D40 x12 x14).f2.f0) ((D40 x12 x14).f2.f1) ((D40 x12 x14).f2.f2) ((D40 x12 x14).f3) ((D40 x12 x14).f4) ((D40 x12 x14).f5) ((D35 x4 x14).f0) ((D35 x4 x14).f1)).bind fun bt732 => ((impl_Label_flows.f bt732.1 bt732.2 ((D35 x721000 ((D40 x12 x14).f1)).f0) ((D35 x721000 ((D40 x12 x14).f1)).f1)).bind fun t734 => (if t734 = true then (impl_Prog_why.l0 k x4 x12 x13 (wrap64 (x14 + 1)) x721000 x721001) else (some (x14, true))))) else (none)) else (if ((D40 x12 x14).f0) = 3 then (if x14 < (x4.length : Int) then ((impl_has.f ((D35 x4 x14).f0) ((D40 x12 x14).f3)).bind fun t736 => (if t736 = true then ((impl_has.f ((D35 x721000 ((D40 x12 x14).f1)).f0) ((D40 x12 x14).f3)).bind fun t737 => (if t737 = true then (impl_Prog_why.l0 k x4 x12 x13 (wrap64 (x14 + 1)) x721000 x721001) else (some (x14, true)))) else (some (x14, true)))) else (none)) else (impl_Prog_why.l0 k x4 x12 x13 (wrap64 (x14 + 1)) x721000 x721001))) else (none)) else (none)) else (none)) else (none)) else (some (0, false))
def impl_Prog_why.f (k : Nat) (l0_0 : List (S35)) (l0_1 : List (S40)) : Option (Int × Bool) := (impl_Prog_at.f k l0_0 l0_1).bind fun t721 => ((impl_all.f k l0_1).bind fun t724 => (impl_Prog_why.l0 k t721 t724 (t724.length : Int) 0 l0_0 l0_1))
def impl_Prog_why.T8 : Bool × List (List Nat × List Nat) := (true, [([], []), ([], []), ([], []), ([], []), ([2, 3], [2, 3]), ([4], [4]), ([0, 1, 5], [0, 1, 5]), ([], []), ([6, 7, 6], [6, 7]), ([8], [8])])
def impl_Prog_why.B8 : List Nat := [0, 0, 0, 0, 12, 28, 63, 0, 255, 511]
theorem impl_Prog_why.tab8 : rtab .any (opsOf Try.f32 8) = impl_Prog_why.T8 := by kernel_rfl
theorem impl_Prog_why.bits8 : waitsOk impl_Prog_why.T8.2 impl_Prog_why.B8 = true := by kernel_rfl
def impl_Prog_why.T11 : Bool × List (List Nat × List Nat) := (true, [([], []), ([], []), ([0, 1], [0, 1]), ([2], [2]), ([3], [3]), ([], []), ([5], [5]), ([4, 6], [4, 6]), ([7], [7]), ([8, 7], [8]), ([9], [9]), ([10, 9], [9, 10]), ([9], [9]), ([12, 9], [9, 12]), ([11, 13, 9, 9], [9, 11, 13]), ([14, 9], [9, 14]), ([9, 15], [9, 15])])
def impl_Prog_why.B11 : List Nat := [0, 0, 3, 7, 15, 0, 32, 127, 255, 511, 1023, 2047, 1023, 5119, 16383, 32767, 65535]
theorem impl_Prog_why.tab11 : rtab .any (opsOf Try.f32 11) = impl_Prog_why.T11 := by kernel_rfl
theorem impl_Prog_why.bits11 : waitsOk impl_Prog_why.T11.2 impl_Prog_why.B11 = true := by kernel_rfl
theorem impl_Prog_why.calls (k : Nat) (A0_0 : Option Addr) (c0_0 : Nat) (l0_0 : List (S35)) (A0_1 : Option Addr) (c0_1 : Nat) (l0_1 : List (S40)) (r1 : Int) (r2 : Bool) (w : World) (hr0_0 : Kd.C k35 w A0_0 l0_0.length l0_0) (hc0_0 : l0_0.length ≤ c0_0) (hr0_1 : Kd.C k40 w A0_1 l0_1.length l0_1) (hc0_1 : l0_1.length ≤ c0_1) (h : impl_Prog_why.f k l0_0 l0_1 = some (r1, r2)) :
  Calls Try.prog 32 #[.agg #[.slice A0_0 l0_0.length c0_0, .slice A0_1 l0_1.length c0_1]] w fun e w' => e = .returned (.tuple #[.int .i64 r1, .bool r2]) ∧ Below w.heap.size w w' := by
 have hu26 := Try.underlying26
 have hu40 := Try.underlying40
 have hu35 := Try.underlying35
 have HR0_0 := AM hr0_0
 have HC0_0 := AM hc0_0
 clear hr0_0 hc0_0
 have HR0_1 := AM hr0_1
 have HC0_1 := AM hc0_1
 clear hr0_1 hc0_1
 have HB := AM (Below.refl w.heap.size w)
 have H := h
 unfold impl_Prog_why.f at H
 clear h
 obtain ⟨t721, A2, H⟩ := ZOB H; try dsimp only at H
 obtain ⟨t724, A3, H⟩ := ZOB H; try dsimp only at H
 have H' := AM H
 clear H
 go_enter Try.func32, Try.ntmps32
 go_wp2_with (first | ((with_reducible refine gate_dst (N := 1) rfl ?_); refine ZX (N := 1) (cs := #[.slice A0_0 l0_0.length c0_0, .slice A0_1 l0_1.length c0_1]) (t := 26) ?_; intro gb720 hg w4 hbox hb; have BK720 := AM (hbox); have GW720 : Za (w.heap.size ≤ gb720) := ZS hg; have GE720 : Za (w.heap.size ≤ gb720) := ZS hg; replace HB := ZT HB hb; clear hb hbox hg; have hcz5 := ZC2 w4 BK720; have hfz5 := ZF2 BK720) | ((with_reducible refine gate_callee (f := 31) rfl ?_); refine ZGL (some 9) Try.func31 #[.agg #[.slice A0_0 l0_0.length c0_0, .slice A0_1 l0_1.length c0_1]] ?_; (with_reducible refine (impl_Prog_at.calls k _ _ l0_0 _ _ l0_1 t721 _ (ZQ (Kd.C_below HR0_0.out HB.out)) HC0_0.out (ZQ (Kd.C_below HR0_1.out HB.out)) HC0_1.out A2.out).mono ?_); rintro e w6 ⟨v722, rfl, ho0, hb⟩; refine ⟨_, rfl, ?_⟩; have HO723 := AM (Kd.R_lower ho0 (below_size (ZB))); replace BK720 := ZW BK720 hb; replace HB := ZT HB hb; clear hb; (try clear ho0); have hcz7 := ZC2 w6 BK720; have hfz7 := ZF2 BK720) | ((with_reducible refine gate_callee (f := 26) rfl ?_); refine ZGL (some 12) Try.func26 #[.slice A0_1 l0_1.length c0_1] ?_; (with_reducible refine (impl_all.calls k (fun k_ => k_ < w.heap.size) _ _ l0_1 t724 _ ?side1 A3.out).mono ?_); (case side1 => exact Kd.V_mk HC0_1.out (Kd.F_below (Kd.C_F k40_heap HR0_1.out) (ZB))); rintro e w8 ⟨v725, rfl, ho0, hb⟩; refine ⟨_, rfl, ?_⟩; have HO726 := AM (Kd.N_lower (Kd.N_mono (ok' := fun k_ => some k_ ≠ (v722 : Value).ownBlock ∧ k_ ≠ gb720) ho0 (fun k_ hk_ => ⟨Or.elim hk_ (fun hs_ => fun e_ => Nat.not_le.2 hs_ (Kd.R_base HO723.out k_ e_.symm)) (fun hn_ => (Kd.fresh' (Kd.R_lt (ZR HO723.out)) k_ hn_)), Or.elim hk_ (fun hs_ => fun e_ => Nat.not_le.2 hs_ (by rw [e_]; exact GW720.out)) (fun hn_ => (Kd.freshB (g := gb720) (o := .cells #[.slice A0_0 l0_0.length c0_0, .slice A0_1 l0_1.length c0_1] 26 (0, 0)) (ZK BK720.out) k_ hn_))⟩)) (below_size (ZB))); replace HO723 := AM (Kd.R_below (ZR HO723.out) hb); replace BK720 := ZW BK720 hb; replace HB := ZT HB hb; clear hb; (try clear ho0); obtain ⟨Ao9, co9, eo9⟩ := Kd.N_slice HO726.out; subst eo9))
 go_loopg [14] k (fun kq v14 w' => ∃ (x14_1 : Int), v14 = .int .i64 x14_1 ∧ Za (impl_Prog_why.l0 kq t721 t724 (t724.length : Int) x14_1 l0_0 l0_1 = some (r1, r2)) ∧ Za (kq ≤ k) ∧ Za (Kd.R k35 35 w' w.heap.size (fun _ => True) v722 t721) ∧ Za (Kd.N k40 40 w' w.heap.size (fun k_ => some k_ ≠ (v722 : Value).ownBlock ∧ k_ ≠ gb720) (.slice Ao9 t724.length co9) t724) ∧ Za (w'.heap[gb720]? = some (.cells #[(.slice A0_0 l0_0.length c0_0), (.slice A0_1 l0_1.length c0_1)] 26 (0, 0))) ∧ Za (Below w.heap.size w w'))
 case atStart => exact ⟨(0), (by first | rfl | (simp; done) | (simp [*]; done)), H', ⟨Nat.le_refl _⟩, ⟨ZR HO723.out⟩, ⟨ZRN HO726.out⟩, ⟨ZK BK720.out⟩, ⟨ZB⟩⟩
 case round => (
 clear H'
 try clear c2
 try clear p2
 try clear c3
 try clear hcz5
 try clear hcz7
 try clear hfz5
 try clear hfz7
 obtain ⟨x14_1, rfl, HA, HK1, HO_4, HO_12, BK720, HB⟩ := hrel
 cases gk with
 | zero => exact absurd HA.out (by simp [impl_Prog_why.l0])
 | succ k1 =>
  have H := HA.out
  clear HA
  simp only [impl_Prog_why.l0] at H
  by_cases c10 : x14_1 < (t724.length : Int)
  focus (
  rw [if_pos c10] at H
  have c10b0 := decide_eq_true c10
  clear c10
  by_cases c11 : 0 ≤ x14_1
  focus (
  rw [if_pos c11] at H
  have c11b0 := decide_eq_true c11
  clear c11
  by_cases c12 : x14_1 < (t724.length : Int)
  focus (
  rw [if_pos c12] at H
  have c12b0 := decide_eq_true c12
  clear c12
  by_cases c13 : 0 ≤ ((D40 t724 x14_1).f1)
  focus (
  rw [if_pos c13] at H
  have c13b0 := decide_eq_true c13
  clear c13
  by_cases c14 : ((D40 t724 x14_1).f1) < (l0_0.length : Int)
  focus (
  rw [if_pos c14] at H
  have c14b0 := decide_eq_true c14
  clear c14
  by_cases c15 : ((D40 t724 x14_1).f0) = 1
  focus (
  rw [if_pos c15] at H
  have c15b0 := beq_iff_eq.mpr c15
  have c15b1 := bne_eq_false_iff_eq.mpr c15
  clear c15
  by_cases c16 : x14_1 < (t721.length : Int)
  focus (
  rw [if_pos c16] at H
  have c16b0 := decide_eq_true c16
  clear c16
  obtain ⟨⟨t732, t733⟩, A17, H⟩ := ZOB H; try dsimp only at H
  obtain ⟨t734, A18, H⟩ := ZOB H; try dsimp only at H
  by_cases c19 : t734 = true
  focus (
  subst c19
  have H1 := H; rw [if_pos rfl] at H1
  clear H
  have H := H1
  clear H1
  have H' := AM H
  clear H
  have tag0_ : Za True := ⟨trivial⟩)
  rotate_left
  focus (
  replace c19 := Bool.eq_false_iff.mpr c19
  subst c19
  have H1 := H; rw [if_neg ZFT] at H1
  clear H
  have H := H1
  clear H1
  simp only [Option.some.injEq, Prod.mk.injEq] at H
  obtain ⟨rfl, rfl⟩ := H
  have tag1_ : Za True := ⟨trivial⟩)
  rotate_left)
  rotate_left 2
  focus (
  exact ZNE H c16))
  rotate_left 2
  focus (
  rw [if_neg c15] at H
  have c15b0 := beq_eq_false_iff_ne.mpr c15
  have c15b1 := bne_iff_ne.mpr c15
  by_cases c48 : ((D40 t724 x14_1).f0) = 3
  focus (
  rw [if_pos c48] at H
  have c48b0 := beq_iff_eq.mpr c48
  have c48b1 := bne_eq_false_iff_eq.mpr c48
  clear c48
  by_cases c49 : x14_1 < (t721.length : Int)
  focus (
  rw [if_pos c49] at H
  have c49b0 := decide_eq_true c49
  clear c49
  obtain ⟨t736, A50, H⟩ := ZOB H; try dsimp only at H
  by_cases c51 : t736 = true
  focus (
  subst c51
  have H1 := H; rw [if_pos rfl] at H1
  clear H
  have H := H1
  clear H1
  obtain ⟨t737, A52, H⟩ := ZOB H; try dsimp only at H
  by_cases c53 : t737 = true
  focus (
  subst c53
  have H1 := H; rw [if_pos rfl] at H1
  clear H
  have H := H1
  clear H1
  have H' := AM H
  clear H
  have tag2_ : Za True := ⟨trivial⟩)
  rotate_left
  focus (
  replace c53 := Bool.eq_false_iff.mpr c53
  subst c53
  have H1 := H; rw [if_neg ZFT] at H1
  clear H
  have H := H1
  clear H1
  simp only [Option.some.injEq, Prod.mk.injEq] at H
  obtain ⟨rfl, rfl⟩ := H
  have tag3_ : Za True := ⟨trivial⟩)
  rotate_left)
  rotate_left 2
  focus (
  replace c51 := Bool.eq_false_iff.mpr c51
  subst c51
  have H1 := H; rw [if_neg ZFT] at H1
  clear H
  have H := H1
  clear H1
  simp only [Option.some.injEq, Prod.mk.injEq] at H
  obtain ⟨rfl, rfl⟩ := H
  have tag4_ : Za True := ⟨trivial⟩)
  rotate_left)
  rotate_left 3
  focus (
  exact ZNE H c49))
  rotate_left 3
  focus (
  rw [if_neg c48] at H
  have c48b0 := beq_eq_false_iff_ne.mpr c48
  have c48b1 := bne_iff_ne.mpr c48
  have H' := AM H
  clear H
  have tag5_ : Za True := ⟨trivial⟩)
  rotate_left)
  rotate_left 4)
  rotate_left 6
  focus (
  exact ZNE H c14))
  rotate_left 6
  focus (
  exact ZNE H c13))
  rotate_left 6
  focus (
  exact ZNE H c12))
  rotate_left 6
  focus (
  exact ZNE H c11))
  rotate_left 6
  focus (
  rw [if_neg c10] at H
  have c10b0 := decide_eq_false c10
  clear c10
  simp only [Option.some.injEq, Prod.mk.injEq] at H
  obtain ⟨rfl, rfl⟩ := H
  have tag6_ : Za True := ⟨trivial⟩)
  rotate_left
  all_goals (
  first
  | (
  (first | (have z_ := tag0_; clear z_) | (have z_ := tag1_; clear z_) | (have z_ := tag2_; clear z_) | (have z_ := tag3_; clear z_) | (have z_ := tag4_; clear z_) | (have z_ := tag5_; clear z_))
  have pq0 : 0 ≤ (x14_1 : Int) := ZD
  have qq0 : x14_1 < (t724.length : Int) := ZD
  obtain ⟨adq0, Aq0_6, cq0_6, Aq0_7, cq0_7, eq0, hxq0_0, hxq0_1, hxq0_2, hxq0_3, hxq0_4, hxq0_5, hxq0_6, hxq0_7, hlq0_6, hiq0_6, hlq0_7, hiq0_7⟩ := at_T40 (Kd.N_reads' HO_12.out).2.2 x14_1 pq0 qq0
  cases eq0
  obtain ⟨ceq0, hceq0, hMeq0, hccq0⟩ := Kd.N_get HO_12.out z40 x14_1 pq0 (by first | exact qq0 | exact ZD | (have e_ := (Kd.N_reads' HO_12.out).1; omega))
  obtain ⟨uaq0_6, ucq0_6, uaq0_7, ucq0_7, rfl, ulq0_6, geq0_6, ulq0_7, geq0_7⟩ := k40_openF hMeq0
  have hvq0_6 := hccq0 6 _ rfl
  rw [add_field _ _ 6 (by omega)] at hvq0_6
  replace hvq0_6 := Option.some.inj (hvq0_6.symm.trans hxq0_6)
  injection hvq0_6 with hva_ hvn_ hvc_
  rw [hva_] at geq0_6
  rw [hvc_] at ulq0_6
  have HLq0_6 := AM (show Kd.V k40 40 _ w.heap.size _ _ ((D40 t724 x14_1).f4) from Kd.V_mk ulq0_6 geq0_6)
  clear hva_ hvn_ hvc_ geq0_6 ulq0_6
  have hvq0_7 := hccq0 7 _ rfl
  rw [add_field _ _ 7 (by omega)] at hvq0_7
  replace hvq0_7 := Option.some.inj (hvq0_7.symm.trans hxq0_7)
  injection hvq0_7 with hva_ hvn_ hvc_
  rw [hva_] at geq0_7
  rw [hvc_] at ulq0_7
  have HLq0_7 := AM (show Kd.V k40 40 _ w.heap.size _ _ ((D40 t724 x14_1).f5) from Kd.V_mk ulq0_7 geq0_7)
  clear hva_ hvn_ hvc_ geq0_7 ulq0_7 hccq0 hceq0
  have HRq0_6 := AM hiq0_6
  have HCq0_6 := AM hlq0_6
  clear hiq0_6 hlq0_6
  have HRq0_7 := AM hiq0_7
  have HCq0_7 := AM hlq0_7
  clear hiq0_7 hlq0_7
  replace pq0 := eq_true pq0
  replace qq0 := eq_true qq0
  first
  | (
  (first | (have z_ := tag0_; clear z_) | (have z_ := tag1_; clear z_) | (have z_ := tag2_; clear z_) | (have z_ := tag3_; clear z_) | (have z_ := tag4_; clear z_))
  try go_wp2_with (first | ((with_reducible refine gate_dst (N := 6) rfl ?_); refine ZX (N := 6) (cs := #[.int .i64 0, .int .i64 0, .int .i64 0, .int .i64 0, .int .i64 0, .int .i64 0, .slice none 0 0, .slice none 0 0]) (t := 40) ?_; intro gbq0 hg wq0 hbox hb; have n0_ := AM (Kd.R_below (ZR HO_4.out) hb); have n1_ := AM (Kd.N_below (Kd.N_elderB (ZRN HO_12.out) gbq0 (Nat.le_of_eq hg.symm)) hb); have n2_ := AM (Kd.V_below (Kd.V_elderB (ZRV HLq0_6.out) gbq0 (Nat.le_of_eq hg.symm)) hb); have n3_ := AM (Kd.V_below (Kd.V_elderB (ZRV HLq0_7.out) gbq0 (Nat.le_of_eq hg.symm)) hb); have nq0_ := ZW BK720 hb; have nq1_ := AM (Kd.C_below (ZQ HRq0_6.out) hb); have nq2_ := AM (Kd.C_below (ZQ HRq0_7.out) hb); have nq3_ := ZT HB hb; have nq4_ := AM (hbox); have nq5_ : Za (w.heap.size ≤ gbq0) := ZS hg; have nq6_ : Za (w.heap.size ≤ gbq0) := ZS hg; have nq7_ : Za (gb720 ≠ gbq0) := ZN hg BK720; have nq8_ : Za (gbq0 ≠ gb720) := ZM hg BK720; clear HO_4 HO_12 HLq0_6 HLq0_7 BK720 HRq0_6 HRq0_7 HB; have HO_4 := n0_; have HO_12 := n1_; have HLq0_6 := n2_; have HLq0_7 := n3_; have BK720 := nq0_; have HRq0_6 := nq1_; have HRq0_7 := nq2_; have HB := nq3_; have BKq0 := nq4_; have GWq0 := nq5_; have GEq0 := nq6_; have NBq0_728 := nq7_; have NBq1_720 := nq8_; clear n0_ n1_ n2_ n3_ nq0_ nq1_ nq2_ nq3_ nq4_ nq5_ nq6_ nq7_ nq8_ hb hbox hg; have hnbq0 := NBq1_720.out; have hncq0 := NBq0_728.out; have hczq0 := ZC8 wq0 BKq0; have hfzq0 := ZF8 BKq0; have hczq1 := ZC2 wq0 BK720; have hfzq1 := ZF2 BK720; have pq1 : 0 ≤ (((D40 t724 x14_1).f1) : Int) := ZD; have qq1 : ((D40 t724 x14_1).f1) < (l0_0.length : Int) := ZD; obtain ⟨adq1, eq1, hxq1_0, hxq1_1⟩ := at_T35 HR0_0.out ((D40 t724 x14_1).f1) pq1 qq1; cases eq1; have hnq0_0 : adq1.block ≠ gbq0 := ZO hxq1_0 GWq0; have hnq0_1 : adq1.block ≠ gbq0 := ZO hxq1_0 GWq0; have hnq0_2 : adq1.block ≠ gbq0 := ZO hxq1_0 GWq0; have hnq0_3 : adq1.block ≠ gbq0 := ZO hxq1_0 GWq0; have hnq0_4 : adq1.block ≠ gbq0 := ZO hxq1_0 GWq0; have hnq0_5 : adq1.block ≠ gbq0 := ZO hxq1_0 GWq0; have hnq0_6 : adq1.block ≠ gbq0 := ZO hxq1_0 GWq0; have hnq0_7 : adq1.block ≠ gbq0 := ZO hxq1_0 GWq0; replace hxq1_0 := ZHX HB hxq1_0; replace hxq1_1 := ZHX HB hxq1_1; replace hxq1_0 := (cell_far (p := ⟨gbq0, 0, none⟩) (ZY hnq0_0) (.int .i64 ((D40 t724 x14_1).f0))).trans hxq1_0; replace hxq1_1 := (cell_far (p := ⟨gbq0, 0, none⟩) (ZY hnq0_0) (.int .i64 ((D40 t724 x14_1).f0))).trans hxq1_1; replace hxq1_0 := (cell_far (p := ⟨gbq0, 1, none⟩) (ZY hnq0_1) (.int .i64 ((D40 t724 x14_1).f1))).trans hxq1_0; replace hxq1_1 := (cell_far (p := ⟨gbq0, 1, none⟩) (ZY hnq0_1) (.int .i64 ((D40 t724 x14_1).f1))).trans hxq1_1; replace hxq1_0 := (cell_far (p := ⟨gbq0, 2, none⟩) (ZY hnq0_2) (.int .i64 ((D40 t724 x14_1).f2.f0))).trans hxq1_0; replace hxq1_1 := (cell_far (p := ⟨gbq0, 2, none⟩) (ZY hnq0_2) (.int .i64 ((D40 t724 x14_1).f2.f0))).trans hxq1_1; replace hxq1_0 := (cell_far (p := ⟨gbq0, 3, none⟩) (ZY hnq0_3) (.int .i64 ((D40 t724 x14_1).f2.f1))).trans hxq1_0; replace hxq1_1 := (cell_far (p := ⟨gbq0, 3, none⟩) (ZY hnq0_3) (.int .i64 ((D40 t724 x14_1).f2.f1))).trans hxq1_1; replace hxq1_0 := (cell_far (p := ⟨gbq0, 4, none⟩) (ZY hnq0_4) (.int .i64 ((D40 t724 x14_1).f2.f2))).trans hxq1_0; replace hxq1_1 := (cell_far (p := ⟨gbq0, 4, none⟩) (ZY hnq0_4) (.int .i64 ((D40 t724 x14_1).f2.f2))).trans hxq1_1; replace hxq1_0 := (cell_far (p := ⟨gbq0, 5, none⟩) (ZY hnq0_5) (.int .i64 ((D40 t724 x14_1).f3))).trans hxq1_0; replace hxq1_1 := (cell_far (p := ⟨gbq0, 5, none⟩) (ZY hnq0_5) (.int .i64 ((D40 t724 x14_1).f3))).trans hxq1_1; replace hxq1_0 := (cell_far (p := ⟨gbq0, 6, none⟩) (ZY hnq0_6) (.slice Aq0_6 ((D40 t724 x14_1).f4).length cq0_6)).trans hxq1_0; replace hxq1_1 := (cell_far (p := ⟨gbq0, 6, none⟩) (ZY hnq0_6) (.slice Aq0_6 ((D40 t724 x14_1).f4).length cq0_6)).trans hxq1_1; replace hxq1_0 := (cell_far (p := ⟨gbq0, 7, none⟩) (ZY hnq0_7) (.slice Aq0_7 ((D40 t724 x14_1).f5).length cq0_7)).trans hxq1_0; replace hxq1_1 := (cell_far (p := ⟨gbq0, 7, none⟩) (ZY hnq0_7) (.slice Aq0_7 ((D40 t724 x14_1).f5).length cq0_7)).trans hxq1_1; clear hnq0_0 hnq0_1 hnq0_2 hnq0_3 hnq0_4 hnq0_5 hnq0_6 hnq0_7; replace pq1 := eq_true pq1; replace qq1 := eq_true qq1) | ((with_reducible refine gate_dst (N := 7) rfl ?_); refine ZX (N := 7) (cs := #[.int .i64 0, .int .i64 0]) (t := 35) ?_; intro gbq1 hg wq1 hbox hb; have n0_ := AM (Kd.R_below (Kd.R_elderB (ZR ((Kd.R_mono (Kd.R_far (p := ⟨gbq0, 7, none⟩) (Kd.R_far (p := ⟨gbq0, 6, none⟩) (Kd.R_far (p := ⟨gbq0, 5, none⟩) (Kd.R_far (p := ⟨gbq0, 4, none⟩) (Kd.R_far (p := ⟨gbq0, 3, none⟩) (Kd.R_far (p := ⟨gbq0, 2, none⟩) (Kd.R_far (p := ⟨gbq0, 1, none⟩) (Kd.R_far (p := ⟨gbq0, 0, none⟩) (Kd.R_types HO_4.out BKq0.out (by decide)) (fun _ hk => hk.2) (.int .i64 ((D40 t724 x14_1).f0))) (fun _ hk => hk.2) (.int .i64 ((D40 t724 x14_1).f1))) (fun _ hk => hk.2) (.int .i64 ((D40 t724 x14_1).f2.f0))) (fun _ hk => hk.2) (.int .i64 ((D40 t724 x14_1).f2.f1))) (fun _ hk => hk.2) (.int .i64 ((D40 t724 x14_1).f2.f2))) (fun _ hk => hk.2) (.int .i64 ((D40 t724 x14_1).f3))) (fun _ hk => hk.2) (.slice Aq0_6 ((D40 t724 x14_1).f4).length cq0_6)) (fun _ hk => hk.2) (.slice Aq0_7 ((D40 t724 x14_1).f5).length cq0_7)) (fun _ h_ => h_.1)))) gbq1 (Nat.le_of_eq hg.symm)) hb); have n1_ := AM (Kd.N_below (Kd.N_elderB (by (with_reducible repeat (first | apply Kd.N_alloc | apply Kd.N_drewN | apply Kd.N_drew)); exact (Kd.N_mono (Kd.N_far (p := ⟨gbq0, 7, none⟩) (Kd.N_far (p := ⟨gbq0, 6, none⟩) (Kd.N_far (p := ⟨gbq0, 5, none⟩) (Kd.N_far (p := ⟨gbq0, 4, none⟩) (Kd.N_far (p := ⟨gbq0, 3, none⟩) (Kd.N_far (p := ⟨gbq0, 2, none⟩) (Kd.N_far (p := ⟨gbq0, 1, none⟩) (Kd.N_far (p := ⟨gbq0, 0, none⟩) (Kd.N_mono HO_12.out (fun k_ hk => (⟨hk, hk.2⟩ : _ ∧ k_ ≠ gbq0))) (fun _ hk => hk.2) (.int .i64 ((D40 t724 x14_1).f0))) (fun _ hk => hk.2) (.int .i64 ((D40 t724 x14_1).f1))) (fun _ hk => hk.2) (.int .i64 ((D40 t724 x14_1).f2.f0))) (fun _ hk => hk.2) (.int .i64 ((D40 t724 x14_1).f2.f1))) (fun _ hk => hk.2) (.int .i64 ((D40 t724 x14_1).f2.f2))) (fun _ hk => hk.2) (.int .i64 ((D40 t724 x14_1).f3))) (fun _ hk => hk.2) (.slice Aq0_6 ((D40 t724 x14_1).f4).length cq0_6)) (fun _ hk => hk.2) (.slice Aq0_7 ((D40 t724 x14_1).f5).length cq0_7)) (fun _ h_ => h_.1))) gbq1 (Nat.le_of_eq hg.symm)) hb); have n2_ := AM (Kd.V_below (Kd.V_elderB (by (with_reducible repeat (first | apply Kd.V_alloc | apply Kd.V_drewN | apply Kd.V_drew)); exact (Kd.V_mono (Kd.V_far (p := ⟨gbq0, 7, none⟩) (Kd.V_far (p := ⟨gbq0, 6, none⟩) (Kd.V_far (p := ⟨gbq0, 5, none⟩) (Kd.V_far (p := ⟨gbq0, 4, none⟩) (Kd.V_far (p := ⟨gbq0, 3, none⟩) (Kd.V_far (p := ⟨gbq0, 2, none⟩) (Kd.V_far (p := ⟨gbq0, 1, none⟩) (Kd.V_far (p := ⟨gbq0, 0, none⟩) (Kd.V_mono HLq0_6.out (fun k_ hk => (⟨hk, hk.2⟩ : _ ∧ k_ ≠ gbq0))) (fun _ hk => hk.2) (.int .i64 ((D40 t724 x14_1).f0))) (fun _ hk => hk.2) (.int .i64 ((D40 t724 x14_1).f1))) (fun _ hk => hk.2) (.int .i64 ((D40 t724 x14_1).f2.f0))) (fun _ hk => hk.2) (.int .i64 ((D40 t724 x14_1).f2.f1))) (fun _ hk => hk.2) (.int .i64 ((D40 t724 x14_1).f2.f2))) (fun _ hk => hk.2) (.int .i64 ((D40 t724 x14_1).f3))) (fun _ hk => hk.2) (.slice Aq0_6 ((D40 t724 x14_1).f4).length cq0_6)) (fun _ hk => hk.2) (.slice Aq0_7 ((D40 t724 x14_1).f5).length cq0_7)) (fun _ h_ => h_.1))) gbq1 (Nat.le_of_eq hg.symm)) hb); have n3_ := AM (Kd.V_below (Kd.V_elderB (by (with_reducible repeat (first | apply Kd.V_alloc | apply Kd.V_drewN | apply Kd.V_drew)); exact (Kd.V_mono (Kd.V_far (p := ⟨gbq0, 7, none⟩) (Kd.V_far (p := ⟨gbq0, 6, none⟩) (Kd.V_far (p := ⟨gbq0, 5, none⟩) (Kd.V_far (p := ⟨gbq0, 4, none⟩) (Kd.V_far (p := ⟨gbq0, 3, none⟩) (Kd.V_far (p := ⟨gbq0, 2, none⟩) (Kd.V_far (p := ⟨gbq0, 1, none⟩) (Kd.V_far (p := ⟨gbq0, 0, none⟩) (Kd.V_mono HLq0_7.out (fun k_ hk => (⟨hk, hk.2⟩ : _ ∧ k_ ≠ gbq0))) (fun _ hk => hk.2) (.int .i64 ((D40 t724 x14_1).f0))) (fun _ hk => hk.2) (.int .i64 ((D40 t724 x14_1).f1))) (fun _ hk => hk.2) (.int .i64 ((D40 t724 x14_1).f2.f0))) (fun _ hk => hk.2) (.int .i64 ((D40 t724 x14_1).f2.f1))) (fun _ hk => hk.2) (.int .i64 ((D40 t724 x14_1).f2.f2))) (fun _ hk => hk.2) (.int .i64 ((D40 t724 x14_1).f3))) (fun _ hk => hk.2) (.slice Aq0_6 ((D40 t724 x14_1).f4).length cq0_6)) (fun _ hk => hk.2) (.slice Aq0_7 ((D40 t724 x14_1).f5).length cq0_7)) (fun _ h_ => h_.1))) gbq1 (Nat.le_of_eq hg.symm)) hb); have nq0_ := ZV #[.slice (some adq1) l0_0.length c0_0, .slice A0_1 l0_1.length c0_1] BK720 hb; have nq1_ := AM (Kd.C_below ((Kd.V_reads' (by (with_reducible repeat (first | apply Kd.V_alloc | apply Kd.V_drewN | apply Kd.V_drew)); exact (Kd.V_mono (Kd.V_far (p := ⟨gbq0, 7, none⟩) (Kd.V_far (p := ⟨gbq0, 6, none⟩) (Kd.V_far (p := ⟨gbq0, 5, none⟩) (Kd.V_far (p := ⟨gbq0, 4, none⟩) (Kd.V_far (p := ⟨gbq0, 3, none⟩) (Kd.V_far (p := ⟨gbq0, 2, none⟩) (Kd.V_far (p := ⟨gbq0, 1, none⟩) (Kd.V_far (p := ⟨gbq0, 0, none⟩) (Kd.V_mono HLq0_6.out (fun k_ hk => (⟨hk, hk.2⟩ : _ ∧ k_ ≠ gbq0))) (fun _ hk => hk.2) (.int .i64 ((D40 t724 x14_1).f0))) (fun _ hk => hk.2) (.int .i64 ((D40 t724 x14_1).f1))) (fun _ hk => hk.2) (.int .i64 ((D40 t724 x14_1).f2.f0))) (fun _ hk => hk.2) (.int .i64 ((D40 t724 x14_1).f2.f1))) (fun _ hk => hk.2) (.int .i64 ((D40 t724 x14_1).f2.f2))) (fun _ hk => hk.2) (.int .i64 ((D40 t724 x14_1).f3))) (fun _ hk => hk.2) (.slice Aq0_6 ((D40 t724 x14_1).f4).length cq0_6)) (fun _ hk => hk.2) (.slice Aq0_7 ((D40 t724 x14_1).f5).length cq0_7)) (fun _ h_ => h_.1)))).2.2) hb); have nq2_ := AM (Kd.C_below ((Kd.V_reads' (by (with_reducible repeat (first | apply Kd.V_alloc | apply Kd.V_drewN | apply Kd.V_drew)); exact (Kd.V_mono (Kd.V_far (p := ⟨gbq0, 7, none⟩) (Kd.V_far (p := ⟨gbq0, 6, none⟩) (Kd.V_far (p := ⟨gbq0, 5, none⟩) (Kd.V_far (p := ⟨gbq0, 4, none⟩) (Kd.V_far (p := ⟨gbq0, 3, none⟩) (Kd.V_far (p := ⟨gbq0, 2, none⟩) (Kd.V_far (p := ⟨gbq0, 1, none⟩) (Kd.V_far (p := ⟨gbq0, 0, none⟩) (Kd.V_mono HLq0_7.out (fun k_ hk => (⟨hk, hk.2⟩ : _ ∧ k_ ≠ gbq0))) (fun _ hk => hk.2) (.int .i64 ((D40 t724 x14_1).f0))) (fun _ hk => hk.2) (.int .i64 ((D40 t724 x14_1).f1))) (fun _ hk => hk.2) (.int .i64 ((D40 t724 x14_1).f2.f0))) (fun _ hk => hk.2) (.int .i64 ((D40 t724 x14_1).f2.f1))) (fun _ hk => hk.2) (.int .i64 ((D40 t724 x14_1).f2.f2))) (fun _ hk => hk.2) (.int .i64 ((D40 t724 x14_1).f3))) (fun _ hk => hk.2) (.slice Aq0_6 ((D40 t724 x14_1).f4).length cq0_6)) (fun _ hk => hk.2) (.slice Aq0_7 ((D40 t724 x14_1).f5).length cq0_7)) (fun _ h_ => h_.1)))).2.2) hb); have nq3_ := ZV #[.int .i64 ((D40 t724 x14_1).f0), .int .i64 ((D40 t724 x14_1).f1), .int .i64 ((D40 t724 x14_1).f2.f0), .int .i64 ((D40 t724 x14_1).f2.f1), .int .i64 ((D40 t724 x14_1).f2.f2), .int .i64 ((D40 t724 x14_1).f3), .slice Aq0_6 ((D40 t724 x14_1).f4).length cq0_6, .slice Aq0_7 ((D40 t724 x14_1).f5).length cq0_7] BKq0 hb; have nq4_ := ZT HB hb; have nq5_ := AM (hbox); have nq6_ : Za (w.heap.size ≤ gbq1) := ZS hg; have nq7_ : Za (w.heap.size ≤ gbq1) := ZS hg; have nq8_ := AM ((by rw [hg]; exact Nat.ne_of_lt (blk_lt (g := gb720) (o := .cells #[.slice (some adq1) l0_0.length c0_0, .slice A0_1 l0_1.length c0_1] 26 (0, 0)) (ZZ BK720.out)) : gb720 ≠ gbq1)); have nq9_ := AM ((by rw [hg]; exact Nat.ne_of_gt (blk_lt (g := gb720) (o := .cells #[.slice (some adq1) l0_0.length c0_0, .slice A0_1 l0_1.length c0_1] 26 (0, 0)) (ZZ BK720.out)) : gbq1 ≠ gb720)); have nq10_ := AM ((by rw [hg]; exact Nat.ne_of_lt (blk_lt (g := gbq0) (o := .cells #[.int .i64 ((D40 t724 x14_1).f0), .int .i64 ((D40 t724 x14_1).f1), .int .i64 ((D40 t724 x14_1).f2.f0), .int .i64 ((D40 t724 x14_1).f2.f1), .int .i64 ((D40 t724 x14_1).f2.f2), .int .i64 ((D40 t724 x14_1).f3), .slice Aq0_6 ((D40 t724 x14_1).f4).length cq0_6, .slice Aq0_7 ((D40 t724 x14_1).f5).length cq0_7] 40 (0, 0)) (ZZ BKq0.out)) : gbq0 ≠ gbq1)); have nq11_ := AM ((by rw [hg]; exact Nat.ne_of_gt (blk_lt (g := gbq0) (o := .cells #[.int .i64 ((D40 t724 x14_1).f0), .int .i64 ((D40 t724 x14_1).f1), .int .i64 ((D40 t724 x14_1).f2.f0), .int .i64 ((D40 t724 x14_1).f2.f1), .int .i64 ((D40 t724 x14_1).f2.f2), .int .i64 ((D40 t724 x14_1).f3), .slice Aq0_6 ((D40 t724 x14_1).f4).length cq0_6, .slice Aq0_7 ((D40 t724 x14_1).f5).length cq0_7] 40 (0, 0)) (ZZ BKq0.out)) : gbq1 ≠ gbq0)); clear HO_4 HO_12 HLq0_6 HLq0_7 BK720 HRq0_6 HRq0_7 BKq0 HB; have HO_4 := n0_; have HO_12 := n1_; have HLq0_6 := n2_; have HLq0_7 := n3_; have BK720 := nq0_; have HRq0_6 := nq1_; have HRq0_7 := nq2_; have BKq0 := nq3_; have HB := nq4_; have BKq1 := nq5_; have GWq1 := nq6_; have GEq1 := nq7_; have NBq0_730 := nq8_; have NBq2_720 := nq9_; have NBq1_730 := nq10_; have NBq2_728 := nq11_; clear n0_ n1_ n2_ n3_ nq0_ nq1_ nq2_ nq3_ nq4_ nq5_ nq6_ nq7_ nq8_ nq9_ nq10_ nq11_ hb hbox hg; have hnbq1 := NBq2_720.out; have hncq1 := NBq0_730.out; have hnbq2 := NBq2_728.out; have hncq2 := NBq1_730.out; have hczq2 := ZC2 wq1 BKq1; have hfzq2 := ZF2 BKq1; have hczq3 := ZC8 wq1 BKq0; have hfzq3 := ZF8 BKq0))
  have n0_ : Za (Kd.R k35 35 ((wq1.setCell ⟨gbq1, 0, none⟩ (.int .i64 ((D35 l0_0 ((D40 t724 x14_1).f1)).f0))).setCell ⟨gbq1, 1, none⟩ (.int .i64 ((D35 l0_0 ((D40 t724 x14_1).f1)).f1))) w.heap.size (fun k_ => k_ ≠ gbq1) v722 t721) := ⟨by (with_reducible repeat (first | apply Kd.R_alloc | apply Kd.R_drewN | apply Kd.R_drew)); exact Kd.R_mono (Kd.R_far (p := ⟨gbq1, 1, none⟩) (Kd.R_far (p := ⟨gbq1, 0, none⟩) (Kd.R_mono HO_4.out (fun k_ hk => (⟨hk, hk.2⟩ : _ ∧ k_ ≠ gbq1))) (fun _ hk => hk.2) (.int .i64 ((D35 l0_0 ((D40 t724 x14_1).f1)).f0))) (fun _ hk => hk.2) (.int .i64 ((D35 l0_0 ((D40 t724 x14_1).f1)).f1))) (fun _ hk => hk.1.2)⟩
  have n1_ : Za (Kd.N k40 40 ((wq1.setCell ⟨gbq1, 0, none⟩ (.int .i64 ((D35 l0_0 ((D40 t724 x14_1).f1)).f0))).setCell ⟨gbq1, 1, none⟩ (.int .i64 ((D35 l0_0 ((D40 t724 x14_1).f1)).f1))) w.heap.size (fun k_ => some k_ ≠ (v722 : Value).ownBlock ∧ k_ ≠ gb720 ∧ k_ ≠ gbq0 ∧ k_ ≠ gbq1) (.slice (some adq0) t724.length co9) t724) := ⟨by (with_reducible repeat (first | apply Kd.N_alloc | apply Kd.N_drewN | apply Kd.N_drew)); exact Kd.N_mono (Kd.N_far (p := ⟨gbq1, 1, none⟩) (Kd.N_far (p := ⟨gbq1, 0, none⟩) (Kd.N_mono HO_12.out (fun k_ hk => (⟨hk, hk.2⟩ : _ ∧ k_ ≠ gbq1))) (fun _ hk => hk.2) (.int .i64 ((D35 l0_0 ((D40 t724 x14_1).f1)).f0))) (fun _ hk => hk.2) (.int .i64 ((D35 l0_0 ((D40 t724 x14_1).f1)).f1))) (fun _ hk => ⟨hk.1.1.1.1, ⟨hk.1.1.1.2, ⟨hk.1.1.2, hk.1.2⟩⟩⟩)⟩
  have n2_ : Za (Kd.V k40 40 ((wq1.setCell ⟨gbq1, 0, none⟩ (.int .i64 ((D35 l0_0 ((D40 t724 x14_1).f1)).f0))).setCell ⟨gbq1, 1, none⟩ (.int .i64 ((D35 l0_0 ((D40 t724 x14_1).f1)).f1))) w.heap.size (fun k_ => some k_ ≠ (v722 : Value).ownBlock ∧ some k_ ≠ (.slice (some adq0) t724.length co9 : Value).ownBlock ∧ k_ ≠ gb720 ∧ k_ ≠ gbq0 ∧ k_ ≠ gbq1) (.slice Aq0_6 ((D40 t724 x14_1).f4).length cq0_6) ((D40 t724 x14_1).f4)) := ⟨by (with_reducible repeat (first | apply Kd.V_alloc | apply Kd.V_drewN | apply Kd.V_drew)); exact Kd.V_mono (Kd.V_far (p := ⟨gbq1, 1, none⟩) (Kd.V_far (p := ⟨gbq1, 0, none⟩) (Kd.V_mono HLq0_6.out (fun k_ hk => (⟨hk, hk.2⟩ : _ ∧ k_ ≠ gbq1))) (fun _ hk => hk.2) (.int .i64 ((D35 l0_0 ((D40 t724 x14_1).f1)).f0))) (fun _ hk => hk.2) (.int .i64 ((D35 l0_0 ((D40 t724 x14_1).f1)).f1))) (fun _ hk => ⟨hk.1.1.1.1.1, ⟨hk.1.1.1.2, ⟨hk.1.1.1.1.2, ⟨hk.1.1.2, hk.1.2⟩⟩⟩⟩)⟩
  have n3_ : Za (Kd.V k40 40 ((wq1.setCell ⟨gbq1, 0, none⟩ (.int .i64 ((D35 l0_0 ((D40 t724 x14_1).f1)).f0))).setCell ⟨gbq1, 1, none⟩ (.int .i64 ((D35 l0_0 ((D40 t724 x14_1).f1)).f1))) w.heap.size (fun k_ => some k_ ≠ (v722 : Value).ownBlock ∧ some k_ ≠ (.slice (some adq0) t724.length co9 : Value).ownBlock ∧ k_ ≠ gb720 ∧ k_ ≠ gbq0 ∧ k_ ≠ gbq1) (.slice Aq0_7 ((D40 t724 x14_1).f5).length cq0_7) ((D40 t724 x14_1).f5)) := ⟨by (with_reducible repeat (first | apply Kd.V_alloc | apply Kd.V_drewN | apply Kd.V_drew)); exact Kd.V_mono (Kd.V_far (p := ⟨gbq1, 1, none⟩) (Kd.V_far (p := ⟨gbq1, 0, none⟩) (Kd.V_mono HLq0_7.out (fun k_ hk => (⟨hk, hk.2⟩ : _ ∧ k_ ≠ gbq1))) (fun _ hk => hk.2) (.int .i64 ((D35 l0_0 ((D40 t724 x14_1).f1)).f0))) (fun _ hk => hk.2) (.int .i64 ((D35 l0_0 ((D40 t724 x14_1).f1)).f1))) (fun _ hk => ⟨hk.1.1.1.1.1, ⟨hk.1.1.1.2, ⟨hk.1.1.1.1.2, ⟨hk.1.1.2, hk.1.2⟩⟩⟩⟩)⟩
  have nq0_ : Za (((wq1.setCell ⟨gbq1, 0, none⟩ (.int .i64 ((D35 l0_0 ((D40 t724 x14_1).f1)).f0))).setCell ⟨gbq1, 1, none⟩ (.int .i64 ((D35 l0_0 ((D40 t724 x14_1).f1)).f1))).heap[gb720]? = some (.cells #[.slice (some adq1) l0_0.length c0_0, .slice A0_1 l0_1.length c0_1] 26 (0, 0))) := ⟨ZZ BK720.out⟩
  have nq1_ : Za (((wq1.setCell ⟨gbq1, 0, none⟩ (.int .i64 ((D35 l0_0 ((D40 t724 x14_1).f1)).f0))).setCell ⟨gbq1, 1, none⟩ (.int .i64 ((D35 l0_0 ((D40 t724 x14_1).f1)).f1))).heap[gbq0]? = some (.cells #[.int .i64 ((D40 t724 x14_1).f0), .int .i64 ((D40 t724 x14_1).f1), .int .i64 ((D40 t724 x14_1).f2.f0), .int .i64 ((D40 t724 x14_1).f2.f1), .int .i64 ((D40 t724 x14_1).f2.f2), .int .i64 ((D40 t724 x14_1).f3), .slice Aq0_6 ((D40 t724 x14_1).f4).length cq0_6, .slice Aq0_7 ((D40 t724 x14_1).f5).length cq0_7] 40 (0, 0))) := ⟨ZZ BKq0.out⟩
  have nq2_ : Za (((wq1.setCell ⟨gbq1, 0, none⟩ (.int .i64 ((D35 l0_0 ((D40 t724 x14_1).f1)).f0))).setCell ⟨gbq1, 1, none⟩ (.int .i64 ((D35 l0_0 ((D40 t724 x14_1).f1)).f1))).heap[gbq1]? = some (.cells #[.int .i64 ((D35 l0_0 ((D40 t724 x14_1).f1)).f0), .int .i64 ((D35 l0_0 ((D40 t724 x14_1).f1)).f1)] 35 (0, 0))) := ⟨ZZ BKq1.out⟩
  have nq3_ : Za (Below w.heap.size w ((wq1.setCell ⟨gbq1, 0, none⟩ (.int .i64 ((D35 l0_0 ((D40 t724 x14_1).f1)).f0))).setCell ⟨gbq1, 1, none⟩ (.int .i64 ((D35 l0_0 ((D40 t724 x14_1).f1)).f1)))) := ⟨ZB⟩
  (try clear HO_4)
  (try clear HO_12)
  (try clear HLq0_6)
  (try clear HLq0_7)
  (try clear BK720)
  (try clear BKq0)
  (try clear BKq1)
  (try clear HB)
  generalize ((wq1.setCell ⟨gbq1, 0, none⟩ (.int .i64 ((D35 l0_0 ((D40 t724 x14_1).f1)).f0))).setCell ⟨gbq1, 1, none⟩ (.int .i64 ((D35 l0_0 ((D40 t724 x14_1).f1)).f1))) = wq2 at n0_ n1_ n2_ n3_ nq0_ nq1_ nq2_ nq3_ ⊢
  have HO_4 := n0_
  have HO_12 := n1_
  have HLq0_6 := n2_
  have HLq0_7 := n3_
  have BK720 := nq0_
  have BKq0 := nq1_
  have BKq1 := nq2_
  have HB := nq3_
  clear n0_ n1_ n2_ n3_ nq0_ nq1_ nq2_ nq3_
  have n0_ := AM (Kd.R_drew HO_4.out)
  have n1_ := AM (Kd.N_drew HO_12.out)
  have n2_ := AM (Kd.V_drew HLq0_6.out)
  have n3_ := AM (Kd.V_drew HLq0_7.out)
  have nq0_ := AM (blk_drew BK720.out)
  have nq1_ := AM (blk_drew BKq0.out)
  have nq2_ := AM (blk_drew BKq1.out)
  have nq3_ := AM (below_drew1 HB.out)
  clear HO_4 HO_12 HLq0_6 HLq0_7 BK720 BKq0 BKq1 HB
  have HO_4 := n0_
  have HO_12 := n1_
  have HLq0_6 := n2_
  have HLq0_7 := n3_
  have BK720 := nq0_
  have BKq0 := nq1_
  have BKq1 := nq2_
  have HB := nq3_
  clear n0_ n1_ n2_ n3_ nq0_ nq1_ nq2_ nq3_
  obtain ⟨Aoq0, coq0, eoq0⟩ := Kd.R_slice HO_4.out
  (first | subst eoq0 | (injection eoq0 with f1_ f2_ f3_; have fq0_ := f1_.symm; have fq1_ := f3_.symm; clear f1_ f2_ f3_; subst fq0_; subst fq1_))
  have pq2 : 0 ≤ (x14_1 : Int) := ZD
  have qq2 : x14_1 < (t721.length : Int) := ZD
  obtain ⟨adq2, eq2, hxq2_0, hxq2_1⟩ := at_T35 (Kd.R_reads' HO_4.out).2.2 x14_1 pq2 qq2
  cases eq2
  replace pq2 := eq_true pq2
  replace qq2 := eq_true qq2
  first
  | (
  (first | (have z_ := tag0_; clear z_) | (have z_ := tag1_; clear z_))
  refine start_ (n := 10) (S := fun w' => w'.cell? ⟨gb720, 0, none⟩ = some (.slice (some adq1) l0_0.length c0_0) ∧ w'.cell? ⟨gb720, 1, none⟩ = some (.slice A0_1 l0_1.length c0_1) ∧ w'.cell? ⟨gbq0, 0, none⟩ = some (.int .i64 ((D40 t724 x14_1).f0)) ∧ w'.cell? ⟨gbq0, 1, none⟩ = some (.int .i64 ((D40 t724 x14_1).f1)) ∧ w'.cell? ⟨gbq0, 2, none⟩ = some (.int .i64 ((D40 t724 x14_1).f2.f0)) ∧ w'.cell? ⟨gbq0, 3, none⟩ = some (.int .i64 ((D40 t724 x14_1).f2.f1)) ∧ w'.cell? ⟨gbq0, 4, none⟩ = some (.int .i64 ((D40 t724 x14_1).f2.f2)) ∧ w'.cell? ⟨gbq0, 5, none⟩ = some (.int .i64 ((D40 t724 x14_1).f3)) ∧ w'.cell? ⟨gbq0, 6, none⟩ = some (.slice Aq0_6 ((D40 t724 x14_1).f4).length cq0_6) ∧ w'.cell? ⟨gbq0, 7, none⟩ = some (.slice Aq0_7 ((D40 t724 x14_1).f5).length cq0_7) ∧ w'.cell? ⟨gbq1, 0, none⟩ = some (.int .i64 ((D35 l0_0 ((D40 t724 x14_1).f1)).f0)) ∧ w'.cell? ⟨gbq1, 1, none⟩ = some (.int .i64 ((D35 l0_0 ((D40 t724 x14_1).f1)).f1)) ∧ w'.cell? (adq2.add ((x14_1).toNat * 2)) = some (.int .i64 ((D35 t721 x14_1).f0)) ∧ w'.cell? ⟨(adq2.add ((x14_1).toNat * 2)).block, (adq2.add ((x14_1).toNat * 2)).off + 1, none⟩ = some (.int .i64 ((D35 t721 x14_1).f1))) (ds := []) #[F,F,F,F,F,F,F,F,F,F] (by kernel_rfl) rfl rfl ⟨ZA BK720 0, ZA BK720 1, ZA BKq0 0, ZA BKq0 1, ZA BKq0 2, ZA BKq0 3, ZA BKq0 4, ZA BKq0 5, ZA BKq0 6, ZA BKq0 7, ZA BKq1 0, ZA BKq1 1, hxq2_0, hxq2_1⟩ (fun hHeld => ?_); refine with_tabW impl_Prog_why.tab8 impl_Prog_why.bits8 (fun HT_ HW_ => ?_)
  generalize wq2.drew = wq3 at HO_4 HO_12 HLq0_6 HLq0_7 BK720 BKq0 BKq1 HB hxq2_0 hxq2_1 hHeld ⊢
  refine ZU 2 31 #[F,F,T,F,F,F,F,F,F,F] ?_
  refine ZU 3 32 #[F,F,T,T,F,F,F,F,F,F] ?_
  refine ZU 4 33 #[F,F,T,T,T,F,F,F,F,F] ?_
  refine ZTK 0 29 #[T,F,T,T,T,F,F,F,F,F] hHeld ?_
  refine ZTK 1 30 #[T,T,T,T,T,F,F,F,F,F] hHeld ?_
  refine ZTK 5 34 #[T,T,T,T,T,T,F,F,F,F] hHeld ?_
  refine ZTK 7 36 #[T,T,T,T,T,T,F,T,F,F] hHeld ?_
  refine one_ (i := 6) (N := some 35) #[T,T,T,T,T,T,T,T,F,F] rfl rfl (one_of HT_.out (by kernel_rfl)) (by decide) (fun K hK => ?_)
  refine ZGO Try.func56 #[.agg #[.slice (some adq1) l0_0.length c0_0, .slice A0_1 l0_1.length c0_1], .agg #[.int .i64 ((D40 t724 x14_1).f0), .int .i64 ((D40 t724 x14_1).f1), .int .i64 ((D40 t724 x14_1).f2.f0), .int .i64 ((D40 t724 x14_1).f2.f1), .int .i64 ((D40 t724 x14_1).f2.f2), .int .i64 ((D40 t724 x14_1).f3), .slice Aq0_6 ((D40 t724 x14_1).f4).length cq0_6, .slice Aq0_7 ((D40 t724 x14_1).f5).length cq0_7], .agg #[.int .i64 ((D35 t721 x14_1).f0), .int .i64 ((D35 t721 x14_1).f1)]] ?_
  with_reducible refine (impl_Prog_source.calls k1 _ _ l0_0 _ _ l0_1 ((D40 t724 x14_1).f0) ((D40 t724 x14_1).f1) ((D40 t724 x14_1).f2.f0) ((D40 t724 x14_1).f2.f1) ((D40 t724 x14_1).f2.f2) ((D40 t724 x14_1).f3) _ _ ((D40 t724 x14_1).f4) _ _ ((D40 t724 x14_1).f5) ((D35 t721 x14_1).f0) ((D35 t721 x14_1).f1) t732 t733 _ ?side1 ?side2 ?side3 ?side4 ?side5 ?side6 ?side7 ?side8 A17.out).mono ?_
  (case side1 => exact ZQ (Kd.C_below HR0_0.out HB.out))
  (case side2 => exact HC0_0.out)
  (case side3 => exact ZQ (Kd.C_below HR0_1.out HB.out))
  (case side4 => exact HC0_1.out)
  (case side5 => repeat (first | exact ((Kd.V_reads' (ZRV HLq0_6.out)).2.2) | (with_reducible refine Kd.C_alloc ?_ _) | (with_reducible refine Kd.C_drewN ?_ _) | (with_reducible refine Kd.C_drew ?_)))
  (case side6 => exact HCq0_6.out)
  (case side7 => repeat (first | exact ((Kd.V_reads' (ZRV HLq0_7.out)).2.2) | (with_reducible refine Kd.C_alloc ?_ _) | (with_reducible refine Kd.C_drewN ?_ _) | (with_reducible refine Kd.C_drew ?_)))
  (case side8 => exact HCq0_7.out)
  rintro e wq4 ⟨rfl, hb⟩
  have HSq0_ := (hb.cell (World.block_lt_of_cell? _ _ (hHeld.2.2.2.2.2.2.2.2.2.2.2.2.1))).trans (hHeld.2.2.2.2.2.2.2.2.2.2.2.2.1)
  have HSq1_ := (hb.cell (World.block_lt_of_cell? _ _ (hHeld.2.2.2.2.2.2.2.2.2.2.2.2.2))).trans (hHeld.2.2.2.2.2.2.2.2.2.2.2.2.2)
  refine ⟨_, rfl, ?_⟩
  have n0_ := AM (Kd.R_below (ZR HO_4.out) hb)
  have n1_ := AM (Kd.N_below (ZRN HO_12.out) hb)
  have n2_ := AM (Kd.V_below (ZRV HLq0_6.out) hb)
  have n3_ := AM (Kd.V_below (ZRV HLq0_7.out) hb)
  have nq0_ := ZW BK720 hb
  have nq1_ := ZW BKq0 hb
  have nq2_ := ZW BKq1 hb
  have nq3_ := ZT HB hb
  clear HO_4 HO_12 HLq0_6 HLq0_7 BK720 BKq0 BKq1 HB
  have HO_4 := n0_
  have HO_12 := n1_
  have HLq0_6 := n2_
  have HLq0_7 := n3_
  have BK720 := nq0_
  have BKq0 := nq1_
  have BKq1 := nq2_
  have HB := nq3_
  clear n0_ n1_ n2_ n3_ nq0_ nq1_ nq2_ nq3_
  (try clear hb)
  (try clear hb2)
  (try clear hk)
  (try clear hi)
  refine hK.out _ _ ⟨ZA BK720 0, ZA BK720 1, ZA BKq0 0, ZA BKq0 1, ZA BKq0 2, ZA BKq0 3, ZA BKq0 4, ZA BKq0 5, ZA BKq0 6, ZA BKq0 7, ZA BKq1 0, ZA BKq1 1, HSq0_, HSq1_⟩ (fun hHeld => ?_)
  clear hK K
  refine ZNO 35 ?_
  refine one_ (i := 8) (N := some 37) #[T,T,T,T,T,T,T,T,T,F] rfl rfl (one_of HT_.out (by kernel_rfl)) (by decide) (fun K hK => ?_)
  refine ZGO Try.func37 #[.agg #[.int .i64 t732, .int .i64 t733], .agg #[.int .i64 ((D35 l0_0 ((D40 t724 x14_1).f1)).f0), .int .i64 ((D35 l0_0 ((D40 t724 x14_1).f1)).f1)]] ?_
  first
  | (
  (have z_ := tag0_; clear z_)
  with_reducible refine (impl_Label_flows.calls t732 t733 ((D35 l0_0 ((D40 t724 x14_1).f1)).f0) ((D35 l0_0 ((D40 t724 x14_1).f1)).f1) true _ A18.out).mono ?_
  rintro e wq5 ⟨rfl, hb⟩
  have HSq0_ := (hb.cell (World.block_lt_of_cell? _ _ (hHeld.2.2.2.2.2.2.2.2.2.2.2.2.1))).trans (hHeld.2.2.2.2.2.2.2.2.2.2.2.2.1)
  have HSq1_ := (hb.cell (World.block_lt_of_cell? _ _ (hHeld.2.2.2.2.2.2.2.2.2.2.2.2.2))).trans (hHeld.2.2.2.2.2.2.2.2.2.2.2.2.2)
  refine ⟨_, rfl, ?_⟩
  have n0_ := AM (Kd.R_below (ZR HO_4.out) hb)
  have n1_ := AM (Kd.N_below (ZRN HO_12.out) hb)
  have n2_ := AM (Kd.V_below (ZRV HLq0_6.out) hb)
  have n3_ := AM (Kd.V_below (ZRV HLq0_7.out) hb)
  have nq0_ := ZW BK720 hb
  have nq1_ := ZW BKq0 hb
  have nq2_ := ZW BKq1 hb
  have nq3_ := ZT HB hb
  clear HO_4 HO_12 HLq0_6 HLq0_7 BK720 BKq0 BKq1 HB
  have HO_4 := n0_
  have HO_12 := n1_
  have HLq0_6 := n2_
  have HLq0_7 := n3_
  have BK720 := nq0_
  have BKq0 := nq1_
  have BKq1 := nq2_
  have HB := nq3_
  clear n0_ n1_ n2_ n3_ nq0_ nq1_ nq2_ nq3_
  (try clear hb)
  (try clear hb2)
  (try clear hk)
  (try clear hi)
  refine hK.out _ _ ⟨ZA BK720 0, ZA BK720 1, ZA BKq0 0, ZA BKq0 1, ZA BKq0 2, ZA BKq0 3, ZA BKq0 4, ZA BKq0 5, ZA BKq0 6, ZA BKq0 7, ZA BKq1 0, ZA BKq1 1, HSq0_, HSq1_⟩ (fun hHeld => ?_)
  clear hK K
  refine ZNO 37 ?_
  refine ZU 9 38 #[T,T,T,T,T,T,T,T,T,T] ?_
  refine done_ (done_of HT_.out (by kernel_rfl)) ?_
  try go_wp2
  go_roundg k1
  case measure => have := HK1.out; omega
  case rel => exact ⟨(wrap64 (x14_1 + 1)), (by first | rfl | (simp; done) | (simp [*]; done)), H', ⟨by have := HK1.out; omega⟩, ⟨ZR (Kd.R_mono HO_4.out (fun _ hk => trivial))⟩, ⟨by (with_reducible repeat (first | apply Kd.N_alloc | apply Kd.N_drewN | apply Kd.N_drew)); exact Kd.N_mono HO_12.out (fun _ hk => ⟨hk.1, hk.2.1⟩)⟩, ⟨ZK BK720.out⟩, ⟨ZB⟩⟩)
  | (
  (have z_ := tag1_; clear z_)
  with_reducible refine (impl_Label_flows.calls t732 t733 ((D35 l0_0 ((D40 t724 x14_1).f1)).f0) ((D35 l0_0 ((D40 t724 x14_1).f1)).f1) false _ A18.out).mono ?_
  rintro e wq5 ⟨rfl, hb⟩
  have HSq0_ := (hb.cell (World.block_lt_of_cell? _ _ (hHeld.2.2.2.2.2.2.2.2.2.2.2.2.1))).trans (hHeld.2.2.2.2.2.2.2.2.2.2.2.2.1)
  have HSq1_ := (hb.cell (World.block_lt_of_cell? _ _ (hHeld.2.2.2.2.2.2.2.2.2.2.2.2.2))).trans (hHeld.2.2.2.2.2.2.2.2.2.2.2.2.2)
  refine ⟨_, rfl, ?_⟩
  have n0_ := AM (Kd.R_below (ZR HO_4.out) hb)
  have n1_ := AM (Kd.N_below (ZRN HO_12.out) hb)
  have n2_ := AM (Kd.V_below (ZRV HLq0_6.out) hb)
  have n3_ := AM (Kd.V_below (ZRV HLq0_7.out) hb)
  have nq0_ := ZW BK720 hb
  have nq1_ := ZW BKq0 hb
  have nq2_ := ZW BKq1 hb
  have nq3_ := ZT HB hb
  clear HO_4 HO_12 HLq0_6 HLq0_7 BK720 BKq0 BKq1 HB
  have HO_4 := n0_
  have HO_12 := n1_
  have HLq0_6 := n2_
  have HLq0_7 := n3_
  have BK720 := nq0_
  have BKq0 := nq1_
  have BKq1 := nq2_
  have HB := nq3_
  clear n0_ n1_ n2_ n3_ nq0_ nq1_ nq2_ nq3_
  (try clear hb)
  (try clear hb2)
  (try clear hk)
  (try clear hi)
  refine hK.out _ _ ⟨ZA BK720 0, ZA BK720 1, ZA BKq0 0, ZA BKq0 1, ZA BKq0 2, ZA BKq0 3, ZA BKq0 4, ZA BKq0 5, ZA BKq0 6, ZA BKq0 7, ZA BKq1 0, ZA BKq1 1, HSq0_, HSq1_⟩ (fun hHeld => ?_)
  clear hK K
  refine ZNO 37 ?_
  refine ZU 9 38 #[T,T,T,T,T,T,T,T,T,T] ?_
  refine done_ (done_of HT_.out (by kernel_rfl)) ?_
  try go_wp2
  go_ret2
  exact ⟨ZE, ZB⟩))
  | (
  (first | (have z_ := tag2_; clear z_) | (have z_ := tag3_; clear z_))
  refine start_ (n := 17) (S := fun w' => w'.cell? ⟨gbq0, 0, none⟩ = some (.int .i64 ((D40 t724 x14_1).f0)) ∧ w'.cell? ⟨gbq0, 1, none⟩ = some (.int .i64 ((D40 t724 x14_1).f1)) ∧ w'.cell? ⟨gbq0, 2, none⟩ = some (.int .i64 ((D40 t724 x14_1).f2.f0)) ∧ w'.cell? ⟨gbq0, 3, none⟩ = some (.int .i64 ((D40 t724 x14_1).f2.f1)) ∧ w'.cell? ⟨gbq0, 4, none⟩ = some (.int .i64 ((D40 t724 x14_1).f2.f2)) ∧ w'.cell? ⟨gbq0, 5, none⟩ = some (.int .i64 ((D40 t724 x14_1).f3)) ∧ w'.cell? ⟨gbq0, 6, none⟩ = some (.slice Aq0_6 ((D40 t724 x14_1).f4).length cq0_6) ∧ w'.cell? ⟨gbq0, 7, none⟩ = some (.slice Aq0_7 ((D40 t724 x14_1).f5).length cq0_7) ∧ w'.cell? ⟨gbq1, 0, none⟩ = some (.int .i64 ((D35 l0_0 ((D40 t724 x14_1).f1)).f0)) ∧ w'.cell? ⟨gbq1, 1, none⟩ = some (.int .i64 ((D35 l0_0 ((D40 t724 x14_1).f1)).f1)) ∧ w'.cell? (adq2.add ((x14_1).toNat * 2)) = some (.int .i64 ((D35 t721 x14_1).f0)) ∧ w'.cell? ⟨(adq2.add ((x14_1).toNat * 2)).block, (adq2.add ((x14_1).toNat * 2)).off + 1, none⟩ = some (.int .i64 ((D35 t721 x14_1).f1))) (ds := []) #[F,F,F,F,F,F,F,F,F,F,F,F,F,F,F,F,F] (by kernel_rfl) rfl rfl ⟨ZA BKq0 0, ZA BKq0 1, ZA BKq0 2, ZA BKq0 3, ZA BKq0 4, ZA BKq0 5, ZA BKq0 6, ZA BKq0 7, ZA BKq1 0, ZA BKq1 1, hxq2_0, hxq2_1⟩ (fun hHeld => ?_); refine with_tabW impl_Prog_why.tab11 impl_Prog_why.bits11 (fun HT_ HW_ => ?_)
  generalize wq2.drew = wq3 at HO_4 HO_12 HLq0_6 HLq0_7 BK720 BKq0 BKq1 HB hxq2_0 hxq2_1 hHeld ⊢
  refine ZU 0 42 #[T,F,F,F,F,F,F,F,F,F,F,F,F,F,F,F,F] ?_
  refine ZU 1 43 #[T,T,F,F,F,F,F,F,F,F,F,F,F,F,F,F,F] ?_
  refine ZU 2 44 #[T,T,T,F,F,F,F,F,F,F,F,F,F,F,F,F,F] ?_
  refine ZU 3 45 #[T,T,T,T,F,F,F,F,F,F,F,F,F,F,F,F,F] ?_
  refine ZU 5 47 #[T,T,T,T,F,T,F,F,F,F,F,F,F,F,F,F,F] ?_
  refine ZTK 4 46 #[T,T,T,T,T,T,F,F,F,F,F,F,F,F,F,F,F] hHeld ?_
  refine ZTK 6 48 #[T,T,T,T,T,T,T,F,F,F,F,F,F,F,F,F,F] hHeld ?_
  refine one_ (i := 7) (N := some 49) #[T,T,T,T,T,T,T,T,F,F,F,F,F,F,F,F,F] rfl rfl (one_of HT_.out (by kernel_rfl)) (by decide) (fun K hK => ?_)
  refine ZGO Try.func57 #[.int .i64 ((D35 t721 x14_1).f0), .int .i64 ((D40 t724 x14_1).f3)] ?_
  with_reducible refine (impl_has.calls ((D35 t721 x14_1).f0) ((D40 t724 x14_1).f3) true _ A50.out).mono ?_
  rintro e w' ⟨rfl, ⟨nd, rfl⟩⟩
  refine ⟨_, rfl, ?_⟩
  refine hK.out _ _ ⟨ZA BKq0 0, ZA BKq0 1, ZA BKq0 2, ZA BKq0 3, ZA BKq0 4, ZA BKq0 5, ZA BKq0 6, ZA BKq0 7, ZA BKq1 0, ZA BKq1 1, hHeld.2.2.2.2.2.2.2.2.2.2.1, hHeld.2.2.2.2.2.2.2.2.2.2.2⟩ (fun hHeld => ?_)
  clear hK K
  refine ZNO 49 ?_
  refine ZU 8 50 #[T,T,T,T,T,T,T,T,T,F,F,F,F,F,F,F,F] ?_
  refine ZU 9 51 #[T,T,T,T,T,T,T,T,T,T,F,F,F,F,F,F,F] ?_
  refine ZU 10 52 #[T,T,T,T,T,T,T,T,T,T,T,F,F,F,F,F,F] ?_
  refine ZU 12 54 #[T,T,T,T,T,T,T,T,T,T,T,F,T,F,F,F,F] ?_
  refine ZTK 11 53 #[T,T,T,T,T,T,T,T,T,T,T,T,T,F,F,F,F] hHeld ?_
  refine ZTK 13 55 #[T,T,T,T,T,T,T,T,T,T,T,T,T,T,F,F,F] hHeld ?_
  refine one_ (i := 14) (N := some 56) #[T,T,T,T,T,T,T,T,T,T,T,T,T,T,T,F,F] rfl rfl (one_of HT_.out (by kernel_rfl)) (by decide) (fun K hK => ?_)
  refine ZGO Try.func57 #[.int .i64 ((D35 l0_0 ((D40 t724 x14_1).f1)).f0), .int .i64 ((D40 t724 x14_1).f3)] ?_
  first
  | (
  (have z_ := tag2_; clear z_)
  with_reducible refine (impl_has.calls ((D35 l0_0 ((D40 t724 x14_1).f1)).f0) ((D40 t724 x14_1).f3) true _ A52.out).mono ?_
  rintro e w' ⟨rfl, ⟨nd, rfl⟩⟩
  refine ⟨_, rfl, ?_⟩
  refine hK.out _ _ ⟨ZA BKq0 0, ZA BKq0 1, ZA BKq0 2, ZA BKq0 3, ZA BKq0 4, ZA BKq0 5, ZA BKq0 6, ZA BKq0 7, ZA BKq1 0, ZA BKq1 1, hHeld.2.2.2.2.2.2.2.2.2.2.1, hHeld.2.2.2.2.2.2.2.2.2.2.2⟩ (fun hHeld => ?_)
  clear hK K
  refine ZNO 56 ?_
  refine ZU 15 57 #[T,T,T,T,T,T,T,T,T,T,T,T,T,T,T,T,F] ?_
  refine ZU 16 58 #[T,T,T,T,T,T,T,T,T,T,T,T,T,T,T,T,T] ?_
  refine done_ (done_of HT_.out (by kernel_rfl)) ?_
  try go_wp2
  go_roundg k1
  case measure => have := HK1.out; omega
  case rel => exact ⟨(wrap64 (x14_1 + 1)), (by first | rfl | (simp; done) | (simp [*]; done)), H', ⟨by have := HK1.out; omega⟩, ⟨ZR (Kd.R_mono HO_4.out (fun _ hk => trivial))⟩, ⟨by (with_reducible repeat (first | apply Kd.N_alloc | apply Kd.N_drewN | apply Kd.N_drew)); exact Kd.N_mono HO_12.out (fun _ hk => ⟨hk.1, hk.2.1⟩)⟩, ⟨ZK BK720.out⟩, ⟨ZB⟩⟩)
  | (
  (have z_ := tag3_; clear z_)
  with_reducible refine (impl_has.calls ((D35 l0_0 ((D40 t724 x14_1).f1)).f0) ((D40 t724 x14_1).f3) false _ A52.out).mono ?_
  rintro e w' ⟨rfl, ⟨nd, rfl⟩⟩
  refine ⟨_, rfl, ?_⟩
  refine hK.out _ _ ⟨ZA BKq0 0, ZA BKq0 1, ZA BKq0 2, ZA BKq0 3, ZA BKq0 4, ZA BKq0 5, ZA BKq0 6, ZA BKq0 7, ZA BKq1 0, ZA BKq1 1, hHeld.2.2.2.2.2.2.2.2.2.2.1, hHeld.2.2.2.2.2.2.2.2.2.2.2⟩ (fun hHeld => ?_)
  clear hK K
  refine ZNO 56 ?_
  refine ZU 15 57 #[T,T,T,T,T,T,T,T,T,T,T,T,T,T,T,T,F] ?_
  refine ZU 16 58 #[T,T,T,T,T,T,T,T,T,T,T,T,T,T,T,T,T] ?_
  refine done_ (done_of HT_.out (by kernel_rfl)) ?_
  try go_wp2
  go_ret2
  exact ⟨ZE, ZB⟩))
  | (
  (have z_ := tag4_; clear z_)
  refine start_ (n := 17) (S := fun w' => w'.cell? ⟨gbq0, 0, none⟩ = some (.int .i64 ((D40 t724 x14_1).f0)) ∧ w'.cell? ⟨gbq0, 1, none⟩ = some (.int .i64 ((D40 t724 x14_1).f1)) ∧ w'.cell? ⟨gbq0, 2, none⟩ = some (.int .i64 ((D40 t724 x14_1).f2.f0)) ∧ w'.cell? ⟨gbq0, 3, none⟩ = some (.int .i64 ((D40 t724 x14_1).f2.f1)) ∧ w'.cell? ⟨gbq0, 4, none⟩ = some (.int .i64 ((D40 t724 x14_1).f2.f2)) ∧ w'.cell? ⟨gbq0, 5, none⟩ = some (.int .i64 ((D40 t724 x14_1).f3)) ∧ w'.cell? ⟨gbq0, 6, none⟩ = some (.slice Aq0_6 ((D40 t724 x14_1).f4).length cq0_6) ∧ w'.cell? ⟨gbq0, 7, none⟩ = some (.slice Aq0_7 ((D40 t724 x14_1).f5).length cq0_7) ∧ w'.cell? (adq2.add ((x14_1).toNat * 2)) = some (.int .i64 ((D35 t721 x14_1).f0)) ∧ w'.cell? ⟨(adq2.add ((x14_1).toNat * 2)).block, (adq2.add ((x14_1).toNat * 2)).off + 1, none⟩ = some (.int .i64 ((D35 t721 x14_1).f1))) (ds := []) #[F,F,F,F,F,F,F,F,F,F,F,F,F,F,F,F,F] (by kernel_rfl) rfl rfl ⟨ZA BKq0 0, ZA BKq0 1, ZA BKq0 2, ZA BKq0 3, ZA BKq0 4, ZA BKq0 5, ZA BKq0 6, ZA BKq0 7, hxq2_0, hxq2_1⟩ (fun hHeld => ?_); refine with_tabW impl_Prog_why.tab11 impl_Prog_why.bits11 (fun HT_ HW_ => ?_)
  generalize wq2.drew = wq3 at HO_4 HO_12 HLq0_6 HLq0_7 BK720 BKq0 BKq1 HB hxq2_0 hxq2_1 hHeld ⊢
  refine ZU 0 42 #[T,F,F,F,F,F,F,F,F,F,F,F,F,F,F,F,F] ?_
  refine ZU 1 43 #[T,T,F,F,F,F,F,F,F,F,F,F,F,F,F,F,F] ?_
  refine ZU 2 44 #[T,T,T,F,F,F,F,F,F,F,F,F,F,F,F,F,F] ?_
  refine ZU 3 45 #[T,T,T,T,F,F,F,F,F,F,F,F,F,F,F,F,F] ?_
  refine ZU 5 47 #[T,T,T,T,F,T,F,F,F,F,F,F,F,F,F,F,F] ?_
  refine ZTK 4 46 #[T,T,T,T,T,T,F,F,F,F,F,F,F,F,F,F,F] hHeld ?_
  refine ZTK 6 48 #[T,T,T,T,T,T,T,F,F,F,F,F,F,F,F,F,F] hHeld ?_
  refine one_ (i := 7) (N := some 49) #[T,T,T,T,T,T,T,T,F,F,F,F,F,F,F,F,F] rfl rfl (one_of HT_.out (by kernel_rfl)) (by decide) (fun K hK => ?_)
  refine ZGO Try.func57 #[.int .i64 ((D35 t721 x14_1).f0), .int .i64 ((D40 t724 x14_1).f3)] ?_
  with_reducible refine (impl_has.calls ((D35 t721 x14_1).f0) ((D40 t724 x14_1).f3) false _ A50.out).mono ?_
  rintro e w' ⟨rfl, ⟨nd, rfl⟩⟩
  refine ⟨_, rfl, ?_⟩
  refine hK.out _ _ ⟨ZA BKq0 0, ZA BKq0 1, ZA BKq0 2, ZA BKq0 3, ZA BKq0 4, ZA BKq0 5, ZA BKq0 6, ZA BKq0 7, hHeld.2.2.2.2.2.2.2.2.1, hHeld.2.2.2.2.2.2.2.2.2⟩ (fun hHeld => ?_)
  clear hK K
  refine ZNO 49 ?_
  refine ZU 8 50 #[T,T,T,T,T,T,T,T,T,F,F,F,F,F,F,F,F] ?_
  refine ZU 9 51 #[T,T,T,T,T,T,T,T,T,T,F,F,F,F,F,F,F] ?_
  refine ZUU 10 52 #[T,T,T,T,T,T,T,T,T,T,T,F,F,F,F,F,F] ?_
  refine ZUU 11 53 #[T,T,T,T,T,T,T,T,T,T,T,T,F,F,F,F,F] ?_
  refine ZUU 12 54 #[T,T,T,T,T,T,T,T,T,T,T,T,T,F,F,F,F] ?_
  refine ZUU 13 55 #[T,T,T,T,T,T,T,T,T,T,T,T,T,T,F,F,F] ?_
  refine ZUU 14 56 #[T,T,T,T,T,T,T,T,T,T,T,T,T,T,T,F,F] ?_
  refine ZUU 15 57 #[T,T,T,T,T,T,T,T,T,T,T,T,T,T,T,T,F] ?_
  refine ZU 16 58 #[T,T,T,T,T,T,T,T,T,T,T,T,T,T,T,T,T] ?_
  refine done_ (done_of HT_.out (by kernel_rfl)) ?_
  try go_wp2
  go_ret2
  exact ⟨ZE, ZB⟩))
  | (
  (have z_ := tag5_; clear z_)
  go_wp2_with (first | ((with_reducible refine gate_dst (N := 6) rfl ?_); refine ZX (N := 6) (cs := #[.int .i64 0, .int .i64 0, .int .i64 0, .int .i64 0, .int .i64 0, .int .i64 0, .slice none 0 0, .slice none 0 0]) (t := 40) ?_; intro gbq0 hg wq0 hbox hb; have n0_ := AM (Kd.R_below (ZR HO_4.out) hb); have n1_ := AM (Kd.N_below (Kd.N_elderB (ZRN HO_12.out) gbq0 (Nat.le_of_eq hg.symm)) hb); have n2_ := AM (Kd.V_below (Kd.V_elderB (ZRV HLq0_6.out) gbq0 (Nat.le_of_eq hg.symm)) hb); have n3_ := AM (Kd.V_below (Kd.V_elderB (ZRV HLq0_7.out) gbq0 (Nat.le_of_eq hg.symm)) hb); have nq0_ := ZW BK720 hb; have nq1_ := AM (Kd.C_below (ZQ HRq0_6.out) hb); have nq2_ := AM (Kd.C_below (ZQ HRq0_7.out) hb); have nq3_ := ZT HB hb; have nq4_ := AM (hbox); have nq5_ : Za (w.heap.size ≤ gbq0) := ZS hg; have nq6_ : Za (w.heap.size ≤ gbq0) := ZS hg; have nq7_ : Za (gb720 ≠ gbq0) := ZN hg BK720; have nq8_ : Za (gbq0 ≠ gb720) := ZM hg BK720; clear HO_4 HO_12 HLq0_6 HLq0_7 BK720 HRq0_6 HRq0_7 HB; have HO_4 := n0_; have HO_12 := n1_; have HLq0_6 := n2_; have HLq0_7 := n3_; have BK720 := nq0_; have HRq0_6 := nq1_; have HRq0_7 := nq2_; have HB := nq3_; have BKq0 := nq4_; have GWq0 := nq5_; have GEq0 := nq6_; have NBq0_728 := nq7_; have NBq1_720 := nq8_; clear n0_ n1_ n2_ n3_ nq0_ nq1_ nq2_ nq3_ nq4_ nq5_ nq6_ nq7_ nq8_ hb hbox hg; have hnbq0 := NBq1_720.out; have hncq0 := NBq0_728.out; have hczq0 := ZC8 wq0 BKq0; have hfzq0 := ZF8 BKq0; have hczq1 := ZC2 wq0 BK720; have hfzq1 := ZF2 BK720; have pq1 : 0 ≤ (((D40 t724 x14_1).f1) : Int) := ZD; have qq1 : ((D40 t724 x14_1).f1) < (l0_0.length : Int) := ZD; obtain ⟨adq1, eq1, hxq1_0, hxq1_1⟩ := at_T35 HR0_0.out ((D40 t724 x14_1).f1) pq1 qq1; cases eq1; have hnq0_0 : adq1.block ≠ gbq0 := ZO hxq1_0 GWq0; have hnq0_1 : adq1.block ≠ gbq0 := ZO hxq1_0 GWq0; have hnq0_2 : adq1.block ≠ gbq0 := ZO hxq1_0 GWq0; have hnq0_3 : adq1.block ≠ gbq0 := ZO hxq1_0 GWq0; have hnq0_4 : adq1.block ≠ gbq0 := ZO hxq1_0 GWq0; have hnq0_5 : adq1.block ≠ gbq0 := ZO hxq1_0 GWq0; have hnq0_6 : adq1.block ≠ gbq0 := ZO hxq1_0 GWq0; have hnq0_7 : adq1.block ≠ gbq0 := ZO hxq1_0 GWq0; replace hxq1_0 := ZHX HB hxq1_0; replace hxq1_1 := ZHX HB hxq1_1; replace hxq1_0 := (cell_far (p := ⟨gbq0, 0, none⟩) (ZY hnq0_0) (.int .i64 ((D40 t724 x14_1).f0))).trans hxq1_0; replace hxq1_1 := (cell_far (p := ⟨gbq0, 0, none⟩) (ZY hnq0_0) (.int .i64 ((D40 t724 x14_1).f0))).trans hxq1_1; replace hxq1_0 := (cell_far (p := ⟨gbq0, 1, none⟩) (ZY hnq0_1) (.int .i64 ((D40 t724 x14_1).f1))).trans hxq1_0; replace hxq1_1 := (cell_far (p := ⟨gbq0, 1, none⟩) (ZY hnq0_1) (.int .i64 ((D40 t724 x14_1).f1))).trans hxq1_1; replace hxq1_0 := (cell_far (p := ⟨gbq0, 2, none⟩) (ZY hnq0_2) (.int .i64 ((D40 t724 x14_1).f2.f0))).trans hxq1_0; replace hxq1_1 := (cell_far (p := ⟨gbq0, 2, none⟩) (ZY hnq0_2) (.int .i64 ((D40 t724 x14_1).f2.f0))).trans hxq1_1; replace hxq1_0 := (cell_far (p := ⟨gbq0, 3, none⟩) (ZY hnq0_3) (.int .i64 ((D40 t724 x14_1).f2.f1))).trans hxq1_0; replace hxq1_1 := (cell_far (p := ⟨gbq0, 3, none⟩) (ZY hnq0_3) (.int .i64 ((D40 t724 x14_1).f2.f1))).trans hxq1_1; replace hxq1_0 := (cell_far (p := ⟨gbq0, 4, none⟩) (ZY hnq0_4) (.int .i64 ((D40 t724 x14_1).f2.f2))).trans hxq1_0; replace hxq1_1 := (cell_far (p := ⟨gbq0, 4, none⟩) (ZY hnq0_4) (.int .i64 ((D40 t724 x14_1).f2.f2))).trans hxq1_1; replace hxq1_0 := (cell_far (p := ⟨gbq0, 5, none⟩) (ZY hnq0_5) (.int .i64 ((D40 t724 x14_1).f3))).trans hxq1_0; replace hxq1_1 := (cell_far (p := ⟨gbq0, 5, none⟩) (ZY hnq0_5) (.int .i64 ((D40 t724 x14_1).f3))).trans hxq1_1; replace hxq1_0 := (cell_far (p := ⟨gbq0, 6, none⟩) (ZY hnq0_6) (.slice Aq0_6 ((D40 t724 x14_1).f4).length cq0_6)).trans hxq1_0; replace hxq1_1 := (cell_far (p := ⟨gbq0, 6, none⟩) (ZY hnq0_6) (.slice Aq0_6 ((D40 t724 x14_1).f4).length cq0_6)).trans hxq1_1; replace hxq1_0 := (cell_far (p := ⟨gbq0, 7, none⟩) (ZY hnq0_7) (.slice Aq0_7 ((D40 t724 x14_1).f5).length cq0_7)).trans hxq1_0; replace hxq1_1 := (cell_far (p := ⟨gbq0, 7, none⟩) (ZY hnq0_7) (.slice Aq0_7 ((D40 t724 x14_1).f5).length cq0_7)).trans hxq1_1; clear hnq0_0 hnq0_1 hnq0_2 hnq0_3 hnq0_4 hnq0_5 hnq0_6 hnq0_7; replace pq1 := eq_true pq1; replace qq1 := eq_true qq1) | ((with_reducible refine gate_dst (N := 7) rfl ?_); refine ZX (N := 7) (cs := #[.int .i64 0, .int .i64 0]) (t := 35) ?_; intro gbq1 hg wq1 hbox hb; have n0_ := AM (Kd.R_below (Kd.R_elderB (ZR ((Kd.R_mono (Kd.R_far (p := ⟨gbq0, 7, none⟩) (Kd.R_far (p := ⟨gbq0, 6, none⟩) (Kd.R_far (p := ⟨gbq0, 5, none⟩) (Kd.R_far (p := ⟨gbq0, 4, none⟩) (Kd.R_far (p := ⟨gbq0, 3, none⟩) (Kd.R_far (p := ⟨gbq0, 2, none⟩) (Kd.R_far (p := ⟨gbq0, 1, none⟩) (Kd.R_far (p := ⟨gbq0, 0, none⟩) (Kd.R_types HO_4.out BKq0.out (by decide)) (fun _ hk => hk.2) (.int .i64 ((D40 t724 x14_1).f0))) (fun _ hk => hk.2) (.int .i64 ((D40 t724 x14_1).f1))) (fun _ hk => hk.2) (.int .i64 ((D40 t724 x14_1).f2.f0))) (fun _ hk => hk.2) (.int .i64 ((D40 t724 x14_1).f2.f1))) (fun _ hk => hk.2) (.int .i64 ((D40 t724 x14_1).f2.f2))) (fun _ hk => hk.2) (.int .i64 ((D40 t724 x14_1).f3))) (fun _ hk => hk.2) (.slice Aq0_6 ((D40 t724 x14_1).f4).length cq0_6)) (fun _ hk => hk.2) (.slice Aq0_7 ((D40 t724 x14_1).f5).length cq0_7)) (fun _ h_ => h_.1)))) gbq1 (Nat.le_of_eq hg.symm)) hb); have n1_ := AM (Kd.N_below (Kd.N_elderB (by (with_reducible repeat (first | apply Kd.N_alloc | apply Kd.N_drewN | apply Kd.N_drew)); exact (Kd.N_mono (Kd.N_far (p := ⟨gbq0, 7, none⟩) (Kd.N_far (p := ⟨gbq0, 6, none⟩) (Kd.N_far (p := ⟨gbq0, 5, none⟩) (Kd.N_far (p := ⟨gbq0, 4, none⟩) (Kd.N_far (p := ⟨gbq0, 3, none⟩) (Kd.N_far (p := ⟨gbq0, 2, none⟩) (Kd.N_far (p := ⟨gbq0, 1, none⟩) (Kd.N_far (p := ⟨gbq0, 0, none⟩) (Kd.N_mono HO_12.out (fun k_ hk => (⟨hk, hk.2⟩ : _ ∧ k_ ≠ gbq0))) (fun _ hk => hk.2) (.int .i64 ((D40 t724 x14_1).f0))) (fun _ hk => hk.2) (.int .i64 ((D40 t724 x14_1).f1))) (fun _ hk => hk.2) (.int .i64 ((D40 t724 x14_1).f2.f0))) (fun _ hk => hk.2) (.int .i64 ((D40 t724 x14_1).f2.f1))) (fun _ hk => hk.2) (.int .i64 ((D40 t724 x14_1).f2.f2))) (fun _ hk => hk.2) (.int .i64 ((D40 t724 x14_1).f3))) (fun _ hk => hk.2) (.slice Aq0_6 ((D40 t724 x14_1).f4).length cq0_6)) (fun _ hk => hk.2) (.slice Aq0_7 ((D40 t724 x14_1).f5).length cq0_7)) (fun _ h_ => h_.1))) gbq1 (Nat.le_of_eq hg.symm)) hb); have n2_ := AM (Kd.V_below (Kd.V_elderB (by (with_reducible repeat (first | apply Kd.V_alloc | apply Kd.V_drewN | apply Kd.V_drew)); exact (Kd.V_mono (Kd.V_far (p := ⟨gbq0, 7, none⟩) (Kd.V_far (p := ⟨gbq0, 6, none⟩) (Kd.V_far (p := ⟨gbq0, 5, none⟩) (Kd.V_far (p := ⟨gbq0, 4, none⟩) (Kd.V_far (p := ⟨gbq0, 3, none⟩) (Kd.V_far (p := ⟨gbq0, 2, none⟩) (Kd.V_far (p := ⟨gbq0, 1, none⟩) (Kd.V_far (p := ⟨gbq0, 0, none⟩) (Kd.V_mono HLq0_6.out (fun k_ hk => (⟨hk, hk.2⟩ : _ ∧ k_ ≠ gbq0))) (fun _ hk => hk.2) (.int .i64 ((D40 t724 x14_1).f0))) (fun _ hk => hk.2) (.int .i64 ((D40 t724 x14_1).f1))) (fun _ hk => hk.2) (.int .i64 ((D40 t724 x14_1).f2.f0))) (fun _ hk => hk.2) (.int .i64 ((D40 t724 x14_1).f2.f1))) (fun _ hk => hk.2) (.int .i64 ((D40 t724 x14_1).f2.f2))) (fun _ hk => hk.2) (.int .i64 ((D40 t724 x14_1).f3))) (fun _ hk => hk.2) (.slice Aq0_6 ((D40 t724 x14_1).f4).length cq0_6)) (fun _ hk => hk.2) (.slice Aq0_7 ((D40 t724 x14_1).f5).length cq0_7)) (fun _ h_ => h_.1))) gbq1 (Nat.le_of_eq hg.symm)) hb); have n3_ := AM (Kd.V_below (Kd.V_elderB (by (with_reducible repeat (first | apply Kd.V_alloc | apply Kd.V_drewN | apply Kd.V_drew)); exact (Kd.V_mono (Kd.V_far (p := ⟨gbq0, 7, none⟩) (Kd.V_far (p := ⟨gbq0, 6, none⟩) (Kd.V_far (p := ⟨gbq0, 5, none⟩) (Kd.V_far (p := ⟨gbq0, 4, none⟩) (Kd.V_far (p := ⟨gbq0, 3, none⟩) (Kd.V_far (p := ⟨gbq0, 2, none⟩) (Kd.V_far (p := ⟨gbq0, 1, none⟩) (Kd.V_far (p := ⟨gbq0, 0, none⟩) (Kd.V_mono HLq0_7.out (fun k_ hk => (⟨hk, hk.2⟩ : _ ∧ k_ ≠ gbq0))) (fun _ hk => hk.2) (.int .i64 ((D40 t724 x14_1).f0))) (fun _ hk => hk.2) (.int .i64 ((D40 t724 x14_1).f1))) (fun _ hk => hk.2) (.int .i64 ((D40 t724 x14_1).f2.f0))) (fun _ hk => hk.2) (.int .i64 ((D40 t724 x14_1).f2.f1))) (fun _ hk => hk.2) (.int .i64 ((D40 t724 x14_1).f2.f2))) (fun _ hk => hk.2) (.int .i64 ((D40 t724 x14_1).f3))) (fun _ hk => hk.2) (.slice Aq0_6 ((D40 t724 x14_1).f4).length cq0_6)) (fun _ hk => hk.2) (.slice Aq0_7 ((D40 t724 x14_1).f5).length cq0_7)) (fun _ h_ => h_.1))) gbq1 (Nat.le_of_eq hg.symm)) hb); have nq0_ := ZV #[.slice (some adq1) l0_0.length c0_0, .slice A0_1 l0_1.length c0_1] BK720 hb; have nq1_ := AM (Kd.C_below ((Kd.V_reads' (by (with_reducible repeat (first | apply Kd.V_alloc | apply Kd.V_drewN | apply Kd.V_drew)); exact (Kd.V_mono (Kd.V_far (p := ⟨gbq0, 7, none⟩) (Kd.V_far (p := ⟨gbq0, 6, none⟩) (Kd.V_far (p := ⟨gbq0, 5, none⟩) (Kd.V_far (p := ⟨gbq0, 4, none⟩) (Kd.V_far (p := ⟨gbq0, 3, none⟩) (Kd.V_far (p := ⟨gbq0, 2, none⟩) (Kd.V_far (p := ⟨gbq0, 1, none⟩) (Kd.V_far (p := ⟨gbq0, 0, none⟩) (Kd.V_mono HLq0_6.out (fun k_ hk => (⟨hk, hk.2⟩ : _ ∧ k_ ≠ gbq0))) (fun _ hk => hk.2) (.int .i64 ((D40 t724 x14_1).f0))) (fun _ hk => hk.2) (.int .i64 ((D40 t724 x14_1).f1))) (fun _ hk => hk.2) (.int .i64 ((D40 t724 x14_1).f2.f0))) (fun _ hk => hk.2) (.int .i64 ((D40 t724 x14_1).f2.f1))) (fun _ hk => hk.2) (.int .i64 ((D40 t724 x14_1).f2.f2))) (fun _ hk => hk.2) (.int .i64 ((D40 t724 x14_1).f3))) (fun _ hk => hk.2) (.slice Aq0_6 ((D40 t724 x14_1).f4).length cq0_6)) (fun _ hk => hk.2) (.slice Aq0_7 ((D40 t724 x14_1).f5).length cq0_7)) (fun _ h_ => h_.1)))).2.2) hb); have nq2_ := AM (Kd.C_below ((Kd.V_reads' (by (with_reducible repeat (first | apply Kd.V_alloc | apply Kd.V_drewN | apply Kd.V_drew)); exact (Kd.V_mono (Kd.V_far (p := ⟨gbq0, 7, none⟩) (Kd.V_far (p := ⟨gbq0, 6, none⟩) (Kd.V_far (p := ⟨gbq0, 5, none⟩) (Kd.V_far (p := ⟨gbq0, 4, none⟩) (Kd.V_far (p := ⟨gbq0, 3, none⟩) (Kd.V_far (p := ⟨gbq0, 2, none⟩) (Kd.V_far (p := ⟨gbq0, 1, none⟩) (Kd.V_far (p := ⟨gbq0, 0, none⟩) (Kd.V_mono HLq0_7.out (fun k_ hk => (⟨hk, hk.2⟩ : _ ∧ k_ ≠ gbq0))) (fun _ hk => hk.2) (.int .i64 ((D40 t724 x14_1).f0))) (fun _ hk => hk.2) (.int .i64 ((D40 t724 x14_1).f1))) (fun _ hk => hk.2) (.int .i64 ((D40 t724 x14_1).f2.f0))) (fun _ hk => hk.2) (.int .i64 ((D40 t724 x14_1).f2.f1))) (fun _ hk => hk.2) (.int .i64 ((D40 t724 x14_1).f2.f2))) (fun _ hk => hk.2) (.int .i64 ((D40 t724 x14_1).f3))) (fun _ hk => hk.2) (.slice Aq0_6 ((D40 t724 x14_1).f4).length cq0_6)) (fun _ hk => hk.2) (.slice Aq0_7 ((D40 t724 x14_1).f5).length cq0_7)) (fun _ h_ => h_.1)))).2.2) hb); have nq3_ := ZV #[.int .i64 ((D40 t724 x14_1).f0), .int .i64 ((D40 t724 x14_1).f1), .int .i64 ((D40 t724 x14_1).f2.f0), .int .i64 ((D40 t724 x14_1).f2.f1), .int .i64 ((D40 t724 x14_1).f2.f2), .int .i64 ((D40 t724 x14_1).f3), .slice Aq0_6 ((D40 t724 x14_1).f4).length cq0_6, .slice Aq0_7 ((D40 t724 x14_1).f5).length cq0_7] BKq0 hb; have nq4_ := ZT HB hb; have nq5_ := AM (hbox); have nq6_ : Za (w.heap.size ≤ gbq1) := ZS hg; have nq7_ : Za (w.heap.size ≤ gbq1) := ZS hg; have nq8_ := AM ((by rw [hg]; exact Nat.ne_of_lt (blk_lt (g := gb720) (o := .cells #[.slice (some adq1) l0_0.length c0_0, .slice A0_1 l0_1.length c0_1] 26 (0, 0)) (ZZ BK720.out)) : gb720 ≠ gbq1)); have nq9_ := AM ((by rw [hg]; exact Nat.ne_of_gt (blk_lt (g := gb720) (o := .cells #[.slice (some adq1) l0_0.length c0_0, .slice A0_1 l0_1.length c0_1] 26 (0, 0)) (ZZ BK720.out)) : gbq1 ≠ gb720)); have nq10_ := AM ((by rw [hg]; exact Nat.ne_of_lt (blk_lt (g := gbq0) (o := .cells #[.int .i64 ((D40 t724 x14_1).f0), .int .i64 ((D40 t724 x14_1).f1), .int .i64 ((D40 t724 x14_1).f2.f0), .int .i64 ((D40 t724 x14_1).f2.f1), .int .i64 ((D40 t724 x14_1).f2.f2), .int .i64 ((D40 t724 x14_1).f3), .slice Aq0_6 ((D40 t724 x14_1).f4).length cq0_6, .slice Aq0_7 ((D40 t724 x14_1).f5).length cq0_7] 40 (0, 0)) (ZZ BKq0.out)) : gbq0 ≠ gbq1)); have nq11_ := AM ((by rw [hg]; exact Nat.ne_of_gt (blk_lt (g := gbq0) (o := .cells #[.int .i64 ((D40 t724 x14_1).f0), .int .i64 ((D40 t724 x14_1).f1), .int .i64 ((D40 t724 x14_1).f2.f0), .int .i64 ((D40 t724 x14_1).f2.f1), .int .i64 ((D40 t724 x14_1).f2.f2), .int .i64 ((D40 t724 x14_1).f3), .slice Aq0_6 ((D40 t724 x14_1).f4).length cq0_6, .slice Aq0_7 ((D40 t724 x14_1).f5).length cq0_7] 40 (0, 0)) (ZZ BKq0.out)) : gbq1 ≠ gbq0)); clear HO_4 HO_12 HLq0_6 HLq0_7 BK720 HRq0_6 HRq0_7 BKq0 HB; have HO_4 := n0_; have HO_12 := n1_; have HLq0_6 := n2_; have HLq0_7 := n3_; have BK720 := nq0_; have HRq0_6 := nq1_; have HRq0_7 := nq2_; have BKq0 := nq3_; have HB := nq4_; have BKq1 := nq5_; have GWq1 := nq6_; have GEq1 := nq7_; have NBq0_730 := nq8_; have NBq2_720 := nq9_; have NBq1_730 := nq10_; have NBq2_728 := nq11_; clear n0_ n1_ n2_ n3_ nq0_ nq1_ nq2_ nq3_ nq4_ nq5_ nq6_ nq7_ nq8_ nq9_ nq10_ nq11_ hb hbox hg; have hnbq1 := NBq2_720.out; have hncq1 := NBq0_730.out; have hnbq2 := NBq2_728.out; have hncq2 := NBq1_730.out; have hczq2 := ZC2 wq1 BKq1; have hfzq2 := ZF2 BKq1; have hczq3 := ZC8 wq1 BKq0; have hfzq3 := ZF8 BKq0))
  go_roundg k1
  case measure => have := HK1.out; omega
  case rel => exact ⟨(wrap64 (x14_1 + 1)), (by first | rfl | (simp; done) | (simp [*]; done)), H', ⟨by have := HK1.out; omega⟩, ⟨by (with_reducible repeat (first | apply Kd.R_alloc | apply Kd.R_drewN | apply Kd.R_drew)); exact Kd.R_mono (Kd.R_far (p := ⟨gbq1, 1, none⟩) (Kd.R_far (p := ⟨gbq1, 0, none⟩) (Kd.R_mono HO_4.out (fun k_ hk => (⟨hk, hk.2⟩ : _ ∧ k_ ≠ gbq1))) (fun _ hk => hk.2) (.int .i64 ((D35 l0_0 ((D40 t724 x14_1).f1)).f0))) (fun _ hk => hk.2) (.int .i64 ((D35 l0_0 ((D40 t724 x14_1).f1)).f1))) (fun _ hk => trivial)⟩, ⟨by (with_reducible repeat (first | apply Kd.N_alloc | apply Kd.N_drewN | apply Kd.N_drew)); exact Kd.N_mono (Kd.N_far (p := ⟨gbq1, 1, none⟩) (Kd.N_far (p := ⟨gbq1, 0, none⟩) (Kd.N_mono HO_12.out (fun k_ hk => (⟨hk, hk.2⟩ : _ ∧ k_ ≠ gbq1))) (fun _ hk => hk.2) (.int .i64 ((D35 l0_0 ((D40 t724 x14_1).f1)).f0))) (fun _ hk => hk.2) (.int .i64 ((D35 l0_0 ((D40 t724 x14_1).f1)).f1))) (fun _ hk => ⟨hk.1.1.1.1, hk.1.1.1.2⟩)⟩, ⟨ZZ BK720.out⟩, ⟨ZB⟩⟩))
  | (
  (have z_ := tag6_; clear z_)
  go_wp2
  go_ret2
  exact ⟨ZE, ZB⟩
  )))
end Go.Proofs.Ytkkdeojbkfjlpaa.A
