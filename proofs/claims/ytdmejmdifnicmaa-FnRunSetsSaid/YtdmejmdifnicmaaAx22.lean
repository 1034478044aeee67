/- What Go functions compute, as Lean functions, and for each its contract: for every input at which the Lean function answers the call returns that; written by wip/tools/pr.py over the kit's print. -/
import Derived.Test.YtdmejmdifnicmaaAx0
import Derived.Test.YtdmejmdifnicmaaAx7
namespace Go.Proofs.Ytdmejmdifnicmaa.A
open Go.RowKit Go.Proofs.YtdmejmdifnicmaaW.PrintWords Go.Proofs.YtdmejmdifnicmaaW.PrintLast Go.Proofs.YtdmejmdifnicmaaW.PrintMore
attribute [local go_sem] max2_int min2_int max_two min_two max_three min_three max_four min_four   -- for this text's walks alone
set_option linter.unusedVariables false
set_option linter.unusedSimpArgs false

/-! ### spec_RunSets: function 12 -/
def spec_RunSets.l0 : Nat → List Bool → List (S52) → Int → List Int → List (S52) → List (S50) → Option ((List (S52)))
 | 0, _, _, _, _, _, _ => none
 | k + 1, x1, x5, x6, x456000, x456001, x456002 => if x6 < (x456001.length : Int) then (if 0 ≤ x6 then ((spec_l6In.f ((rd_T52 x456001 x6).f0) 0 (wrap64 ((x1.length : Int) - 1))).bind fun t460 => (if t460 = true then (if 0 ≤ ((rd_T52 x456001 x6).f0) then (if ((rd_T52 x456001 x6).f0) < (x1.length : Int) then (if rdOf false x1 ((rd_T52 x456001 x6).f0) = true then (if x5.length < 8796093022208 then (spec_RunSets.l0 k x1 (x5 ++ [(⟨(rd_T52 x456001 x6).f0, (rd_T52 x456001 x6).f1⟩ : S52)]) (wrap64 (x6 + 1)) x456000 x456001 x456002) else (none)) else (spec_RunSets.l0 k x1 x5 (wrap64 (x6 + 1)) x456000 x456001 x456002)) else (none)) else (none)) else (spec_RunSets.l0 k x1 x5 (wrap64 (x6 + 1)) x456000 x456001 x456002))) else (none)) else (some x5)
def spec_RunSets.f (k : Nat) (l0_0 : List Int) (l0_1 : List (S52)) (l0_2 : List (S50)) (l1 : List Bool) : Option ((List (S52))) := spec_RunSets.l0 k l1 (([] : List (S52))) 0 l0_0 l0_1 l0_2
set_option maxHeartbeats 8000000 in
set_option maxRecDepth 100000 in
theorem spec_RunSets.calls (k : Nat) (A0_0 : Option Addr) (c0_0 : Nat) (l0_0 : List Int) (A0_1 : Option Addr) (c0_1 : Nat) (l0_1 : List (S52)) (A0_2 : Option Addr) (c0_2 : Nat) (l0_2 : List (S50)) (A1 : Option Addr) (c1 : Nat) (l1 : List Bool) (r : List (S52)) (w : World) (hr0_0 : Kd.C (Kd.int .i64) w A0_0 l0_0.length l0_0) (hc0_0 : l0_0.length ≤ c0_0) (hr0_1 : Kd.C k52 w A0_1 l0_1.length l0_1) (hc0_1 : l0_1.length ≤ c0_1) (hr0_2 : Kd.C k50 w A0_2 l0_2.length l0_2) (hc0_2 : l0_2.length ≤ c0_2) (hr1 : Kd.C Kd.bool w A1 l1.length l1) (hc1 : l1.length ≤ c1) (h : spec_RunSets.f k l0_0 l0_1 l0_2 l1 = some r) :
  Calls Try.prog 12 #[.agg #[.slice A0_0 l0_0.length c0_0, .slice A0_1 l0_1.length c0_1, .slice A0_2 l0_2.length c0_2], .slice A1 l1.length c1] w fun e w' => ∃ v0_ : Value, e = .returned (v0_) ∧ Kd.R k52 52 w' w.heap.size (fun _ => True) v0_ r ∧ Below w.heap.size w w' := by
 have hu27 := Try.underlying27
 have hu52 := Try.underlying52
 have HR0_0 := Aside0.mk hr0_0
 have HC0_0 := Aside0.mk hc0_0
 clear hr0_0 hc0_0
 have HR0_1 := Aside0.mk hr0_1
 have HC0_1 := Aside0.mk hc0_1
 clear hr0_1 hc0_1
 have HR0_2 := Aside0.mk hr0_2
 have HC0_2 := Aside0.mk hc0_2
 clear hr0_2 hc0_2
 have HR1 := Aside0.mk hr1
 have HC1 := Aside0.mk hc1
 clear hr1 hc1
 have HB := Aside0.mk (Below.refl w.heap.size w)
 have H : (spec_RunSets.l0 k l1 (([] : List (S52))) 0 l0_0 l0_1 l0_2) = some r := h
 clear h
 obtain ⟨y456, hy456⟩ : ∃ y_ : List (S52), y_ = (([] : List (S52))) := ⟨_, rfl⟩
 replace H : (spec_RunSets.l0 k l1 y456 0 l0_0 l0_1 l0_2) = some r := by first | (rw [hy456]; with_reducible exact H) | (have H2_ := (Option.bind_some _ _).symm.trans H; rw [hy456]; with_reducible exact H2_) | (have H2_ := (Option.bind_some _ _).symm.trans H; with_reducible exact H2_) | with_reducible exact H | (rw [hy456]; exact H) | exact H
 have Ny456 := Aside0.mk hy456
 clear hy456
 have H' := Aside0.mk H
 clear H
 go_enter Try.func12, Try.ntmps12
 go_wp2_with (first | ((with_reducible refine gate_dst (N := 2) rfl ?_); refine ZX (N := 2) (cs := #[.slice A0_0 l0_0.length c0_0, .slice A0_1 l0_1.length c0_1, .slice A0_2 l0_2.length c0_2]) (t := 27) ?_; intro gb455 hg w3 hbox hb; have BK455 := Aside0.mk (hbox); have GW455 : Aside0 (w.heap.size ≤ gb455) := ZS hg; have GE455 : Aside0 (w.heap.size ≤ gb455) := ZS hg; replace HB := ZT HB hb; clear hb hbox hg) | ((with_reducible refine gate_dst (N := 8) rfl ?_); refine Kd.R_lit k52 _ 52 ?hg (N := 8) ?hd (xs := ([] : List (S52))) (inner := []) (ok := fun _ => True) (okp := fun _ => True) ?hr ?hp (fun _ hk => hk) trivial (Below.refl _ _) (Nat.le_refl _) (by simp) ?_; (case hd => rfl); (case hg => rfl); (case hr => first | (go_simp; done) | (go_simp; rfl)); (case hp => exact (Reps.none _ _)); intro v457 w4 ho5 hb hg_ hnew_; clear hg_ hnew_; (first | rw [← Ny456.out] at ho5 | (simp only [Int.reduceToNat] at ho5; rw [← Ny456.out] at ho5)); have HO458 := Aside0.mk (Kd.R_lower ho5 (below_size (ZB))); replace BK455 := ZW BK455 hb; replace HB := ZT HB hb; clear hb ho5))
 go_loopg [5, 6] k (fun kq v5 v6 w' => ∃ (x5_1 : List (S52)) (x6_1 : Int), v6 = .int .i64 x6_1 ∧ Aside0 (spec_RunSets.l0 kq l1 x5_1 x6_1 l0_0 l0_1 l0_2 = some r) ∧ Aside0 (kq ≤ k) ∧ Aside0 (Kd.R k52 52 w' w.heap.size (fun _ => True) v5 x5_1) ∧ Aside0 (w'.heap[gb455]? = some (.cells #[(.slice A0_0 l0_0.length c0_0), (.slice A0_1 l0_1.length c0_1), (.slice A0_2 l0_2.length c0_2)] 27 (0, 0))) ∧ Aside0 (Below w.heap.size w w'))
 case atStart => exact ⟨(y456), (0), (by first | rfl | (simp; done) | (simp [*]; done)), H', ⟨Nat.le_refl _⟩, ⟨ZR HO458.out⟩, ⟨ZK BK455.out⟩, ⟨ZB⟩⟩
 case round =>
  clear H'
  try clear c1
  try clear p2
  obtain ⟨x5_1, x6_1, rfl, HA, HK1, HO_5, BK455, HB⟩ := hrel
  cases gk with
  | zero => exact absurd HA.out (by simp [spec_RunSets.l0])
  | succ k1 =>
   have H := HA.out
   clear HA
   simp only [spec_RunSets.l0] at H
   by_cases c6 : x6_1 < (l0_1.length : Int)
   ·rw [if_pos c6] at H
    have c6b0 : decide (x6_1 < (l0_1.length : Int)) = true := decide_eq_true c6
    clear c6
    by_cases c7 : 0 ≤ x6_1
    ·rw [if_pos c7] at H
     have c7b0 : decide (0 ≤ x6_1) = true := decide_eq_true c7
     clear c7
     replace H := Option.bind_eq_some_iff.mp H
     obtain ⟨t460, A80, H⟩ := H
     replace H : (if t460 = true then (if 0 ≤ ((rd_T52 l0_1 x6_1).f0) then (if ((rd_T52 l0_1 x6_1).f0) < (l1.length : Int) then (if rdOf false l1 ((rd_T52 l0_1 x6_1).f0) = true then (if x5_1.length < 8796093022208 then (spec_RunSets.l0 k1 l1 (x5_1 ++ [(⟨(rd_T52 l0_1 x6_1).f0, (rd_T52 l0_1 x6_1).f1⟩ : S52)]) (wrap64 (x6_1 + 1)) l0_0 l0_1 l0_2) else (none)) else (spec_RunSets.l0 k1 l1 x5_1 (wrap64 (x6_1 + 1)) l0_0 l0_1 l0_2)) else (none)) else (none)) else (spec_RunSets.l0 k1 l1 x5_1 (wrap64 (x6_1 + 1)) l0_0 l0_1 l0_2)) = some r := H
     have A8 := Aside0.mk A80
     clear A80
     by_cases c9 : t460 = true
     ·subst c9
      have H1 : (if 0 ≤ ((rd_T52 l0_1 x6_1).f0) then (if ((rd_T52 l0_1 x6_1).f0) < (l1.length : Int) then (if rdOf false l1 ((rd_T52 l0_1 x6_1).f0) = true then (if x5_1.length < 8796093022208 then (spec_RunSets.l0 k1 l1 (x5_1 ++ [(⟨(rd_T52 l0_1 x6_1).f0, (rd_T52 l0_1 x6_1).f1⟩ : S52)]) (wrap64 (x6_1 + 1)) l0_0 l0_1 l0_2) else (none)) else (spec_RunSets.l0 k1 l1 x5_1 (wrap64 (x6_1 + 1)) l0_0 l0_1 l0_2)) else (none)) else (none)) = some r := by rw [if_pos rfl] at H; exact H
      clear H
      have H := H1
      clear H1
      by_cases c10 : 0 ≤ ((rd_T52 l0_1 x6_1).f0)
      ·rw [if_pos c10] at H
       have c10b0 : decide (0 ≤ ((rd_T52 l0_1 x6_1).f0)) = true := decide_eq_true c10
       clear c10
       by_cases c11 : ((rd_T52 l0_1 x6_1).f0) < (l1.length : Int)
       ·rw [if_pos c11] at H
        have c11b0 : decide (((rd_T52 l0_1 x6_1).f0) < (l1.length : Int)) = true := decide_eq_true c11
        clear c11
        obtain ⟨bq12, hbq12⟩ : ∃ b_ : Bool, b_ = (rdOf false l1 ((rd_T52 l0_1 x6_1).f0)) := ⟨_, rfl⟩
        replace H : (if bq12 = true then (if x5_1.length < 8796093022208 then (spec_RunSets.l0 k1 l1 (x5_1 ++ [(⟨(rd_T52 l0_1 x6_1).f0, (rd_T52 l0_1 x6_1).f1⟩ : S52)]) (wrap64 (x6_1 + 1)) l0_0 l0_1 l0_2) else (none)) else (spec_RunSets.l0 k1 l1 x5_1 (wrap64 (x6_1 + 1)) l0_0 l0_1 l0_2)) = some r := by rw [← hbq12] at H; exact H
        have Nbq12 := Aside0.mk hbq12
        clear hbq12
        by_cases c13 : bq12 = true
        ·subst c13
         have H1 : (if x5_1.length < 8796093022208 then (spec_RunSets.l0 k1 l1 (x5_1 ++ [(⟨(rd_T52 l0_1 x6_1).f0, (rd_T52 l0_1 x6_1).f1⟩ : S52)]) (wrap64 (x6_1 + 1)) l0_0 l0_1 l0_2) else (none)) = some r := by rw [if_pos rfl] at H; exact H
         clear H
         have H := H1
         clear H1
         by_cases c14 : x5_1.length < 8796093022208
         ·rw [if_pos c14] at H
          have LMc14 := Aside0.mk c14
          clear c14
          obtain ⟨y463, hy463⟩ : ∃ y_ : List (S52), y_ = (x5_1 ++ [(⟨(rd_T52 l0_1 x6_1).f0, (rd_T52 l0_1 x6_1).f1⟩ : S52)]) := ⟨_, rfl⟩
          replace H : (spec_RunSets.l0 k1 l1 y463 (wrap64 (x6_1 + 1)) l0_0 l0_1 l0_2) = some r := by first | (rw [hy463]; with_reducible exact H) | (have H2_ := (Option.bind_some _ _).symm.trans H; rw [hy463]; with_reducible exact H2_) | (have H2_ := (Option.bind_some _ _).symm.trans H; with_reducible exact H2_) | with_reducible exact H | (rw [hy463]; exact H) | exact H
          have Ny463 := Aside0.mk hy463
          clear hy463
          have H' := Aside0.mk H
          clear H
          obtain ⟨hcz15_0, hcz15_1, hcz15_2⟩ := ZC3 wr BK455
          obtain ⟨hfz15_0, hfz15_1, hfz15_2⟩ := ZF3 BK455
          have p459 : 0 ≤ (x6_1 : Int) := ZD
          have q459 : x6_1 < (l0_1.length : Int) := ZD
          obtain ⟨ad459, e459, hx459_0, hx459_1⟩ := at_T52 HR0_1.out x6_1 p459 q459
          cases e459
          replace hx459_0 := (HB.out.cell (World.block_lt_of_cell? w _ hx459_0)).trans hx459_0
          replace hx459_1 := (HB.out.cell (World.block_lt_of_cell? w _ hx459_1)).trans hx459_1
          replace p459 := eq_true p459
          replace q459 := eq_true q459
          go_wp2_with (first | ((with_reducible refine gate_callee (f := 19) rfl ?_); refine goesL_ (some 26) rfl rfl Try.func19 (by kernel_rfl) rfl #[.int .i64 ((rd_T52 l0_1 x6_1).f0), .int .i64 0, .int .i64 (wrap64 ((l1.length : Int) - 1))] rfl ZG ?_; (with_reducible refine (spec_l6In.calls ((rd_T52 l0_1 x6_1).f0) 0 (wrap64 ((l1.length : Int) - 1)) true _ A8.out).mono ?_); rintro e w' ⟨rfl, ⟨nd, rfl⟩⟩; refine ⟨_, rfl, ?_⟩; have p461 : 0 ≤ (((rd_T52 l0_1 x6_1).f0) : Int) := ZD; have q461 : ((rd_T52 l0_1 x6_1).f0) < (l1.length : Int) := ZD; obtain ⟨ad461, e461, hx461_0⟩ := Kd.at_bool HR1.out ((rd_T52 l0_1 x6_1).f0) p461 q461; (try rw [← Nbq12.out] at hx461_0); cases e461; replace hx461_0 := (HB.out.cell (World.block_lt_of_cell? w _ hx461_0)).trans hx461_0; replace p461 := eq_true p461; replace q461 := eq_true q461; have p462 : 0 ≤ (x6_1 : Int) := ZD; have q462 : x6_1 < (l0_1.length : Int) := ZD; obtain ⟨ad462, e462, hx462_0, hx462_1⟩ := at_T52 HR0_1.out x6_1 p462 q462; obtain rfl : ad459 = ad462 := (by injection e462); replace hx462_0 := (HB.out.cell (World.block_lt_of_cell? w _ hx462_0)).trans hx462_0; replace hx462_1 := (HB.out.cell (World.block_lt_of_cell? w _ hx462_1)).trans hx462_1; replace p462 := eq_true p462; replace q462 := eq_true q462) | ((with_reducible refine gate_builtin (b := .append) (xs := #[.tmp 33, .tmp 39]) rfl ?_); at_builtin; refine Kd.R_append k52 (w0 := w) w.heap.size rfl (.tmp 33) (.tmp 39) 24 52 (.agg #[(.int .i64 0), (.int .i64 0)]) 16 rfl Try.underlying24 info52 rfl (by decide) (by omega) u5 x5_1 (⟨(rd_T52 l0_1 x6_1).f0, (rd_T52 l0_1 x6_1).f1⟩ : S52) [.int .i64 ((rd_T52 l0_1 x6_1).f0), .int .i64 ((rd_T52 l0_1 x6_1).f1)] (fun _ => True) (fun _ => False) rfl rfl ?aP (fun _ hk => hk.elim) ?aF ?aO ?aB ?aS ?aL ?_; (case aP => exact k52_mkM _ _ _ (⟨(rd_T52 l0_1 x6_1).f0, (rd_T52 l0_1 x6_1).f1⟩ : S52)); (case aB => exact (ZB)); (case aF => exact (fun _ _ => trivial)); (case aO => exact (ZR HO_5.out)); (case aS => exact (below_size (ZB))); (case aL => have := LMc14.out; omega); intro v464 w16 ho hb hg hat; rw [← Ny463.out] at ho; have n0_ := Aside0.mk (blk_grown (g := gb455) (o := .cells #[.slice A0_0 l0_0.length c0_0, .slice (some ad459) l0_1.length c0_1, .slice A0_2 l0_2.length c0_2] 27 (0, 0)) (ZK BK455.out) hg (Kd.R_ne HO_5.out BK455.out (by decide))); have n1_ := Aside0.mk (hb); have n2_ := Aside0.mk (ho); clear BK455; clear HB; clear HO_5; have BK455 := n0_; have HB := n1_; have HO465 := n2_; clear n0_ n1_ n2_; clear ho hb hg hat))
          go_roundg k1
          case measure => have := HK1.out; omega
          case rel => exact ⟨(y463), (wrap64 (x6_1 + 1)), (by first | rfl | (simp; done) | (simp [*]; done)), H', ⟨by have := HK1.out; omega⟩, ⟨ZR HO465.out⟩, ⟨ZK BK455.out⟩, ⟨ZB⟩⟩
         ·rw [if_neg c14] at H
          exact absurd H (by simp)
        ·replace c13 := Bool.eq_false_iff.mpr c13
         subst c13
         have H1 : (spec_RunSets.l0 k1 l1 x5_1 (wrap64 (x6_1 + 1)) l0_0 l0_1 l0_2) = some r := by rw [if_neg (show ¬ (false = true) by decide)] at H; exact H
         clear H
         have H := H1
         clear H1
         have H' := Aside0.mk H
         clear H
         obtain ⟨hcz17_0, hcz17_1, hcz17_2⟩ := ZC3 wr BK455
         obtain ⟨hfz17_0, hfz17_1, hfz17_2⟩ := ZF3 BK455
         have p459 : 0 ≤ (x6_1 : Int) := ZD
         have q459 : x6_1 < (l0_1.length : Int) := ZD
         obtain ⟨ad459, e459, hx459_0, hx459_1⟩ := at_T52 HR0_1.out x6_1 p459 q459
         cases e459
         replace hx459_0 := (HB.out.cell (World.block_lt_of_cell? w _ hx459_0)).trans hx459_0
         replace hx459_1 := (HB.out.cell (World.block_lt_of_cell? w _ hx459_1)).trans hx459_1
         replace p459 := eq_true p459
         replace q459 := eq_true q459
         go_wp2_with (first | ((with_reducible refine gate_callee (f := 19) rfl ?_); refine goesL_ (some 26) rfl rfl Try.func19 (by kernel_rfl) rfl #[.int .i64 ((rd_T52 l0_1 x6_1).f0), .int .i64 0, .int .i64 (wrap64 ((l1.length : Int) - 1))] rfl ZG ?_; (with_reducible refine (spec_l6In.calls ((rd_T52 l0_1 x6_1).f0) 0 (wrap64 ((l1.length : Int) - 1)) true _ A8.out).mono ?_); rintro e w' ⟨rfl, ⟨nd, rfl⟩⟩; refine ⟨_, rfl, ?_⟩; have p461 : 0 ≤ (((rd_T52 l0_1 x6_1).f0) : Int) := ZD; have q461 : ((rd_T52 l0_1 x6_1).f0) < (l1.length : Int) := ZD; obtain ⟨ad461, e461, hx461_0⟩ := Kd.at_bool HR1.out ((rd_T52 l0_1 x6_1).f0) p461 q461; (try rw [← Nbq12.out] at hx461_0); cases e461; replace hx461_0 := (HB.out.cell (World.block_lt_of_cell? w _ hx461_0)).trans hx461_0; replace p461 := eq_true p461; replace q461 := eq_true q461))
         go_roundg k1
         case measure => have := HK1.out; omega
         case rel => exact ⟨(x5_1), (wrap64 (x6_1 + 1)), (by first | rfl | (simp; done) | (simp [*]; done)), H', ⟨by have := HK1.out; omega⟩, ⟨ZR HO_5.out⟩, ⟨ZK BK455.out⟩, ⟨ZB⟩⟩
       ·rw [if_neg c11] at H
        exact absurd H (by simp)
      ·rw [if_neg c10] at H
       exact absurd H (by simp)
     ·replace c9 := Bool.eq_false_iff.mpr c9
      subst c9
      have H1 : (spec_RunSets.l0 k1 l1 x5_1 (wrap64 (x6_1 + 1)) l0_0 l0_1 l0_2) = some r := by rw [if_neg (show ¬ (false = true) by decide)] at H; exact H
      clear H
      have H := H1
      clear H1
      have H' := Aside0.mk H
      clear H
      obtain ⟨hcz18_0, hcz18_1, hcz18_2⟩ := ZC3 wr BK455
      obtain ⟨hfz18_0, hfz18_1, hfz18_2⟩ := ZF3 BK455
      have p459 : 0 ≤ (x6_1 : Int) := ZD
      have q459 : x6_1 < (l0_1.length : Int) := ZD
      obtain ⟨ad459, e459, hx459_0, hx459_1⟩ := at_T52 HR0_1.out x6_1 p459 q459
      cases e459
      replace hx459_0 := (HB.out.cell (World.block_lt_of_cell? w _ hx459_0)).trans hx459_0
      replace hx459_1 := (HB.out.cell (World.block_lt_of_cell? w _ hx459_1)).trans hx459_1
      replace p459 := eq_true p459
      replace q459 := eq_true q459
      go_wp2_with (first | ((with_reducible refine gate_callee (f := 19) rfl ?_); refine goesL_ (some 26) rfl rfl Try.func19 (by kernel_rfl) rfl #[.int .i64 ((rd_T52 l0_1 x6_1).f0), .int .i64 0, .int .i64 (wrap64 ((l1.length : Int) - 1))] rfl ZG ?_; (with_reducible refine (spec_l6In.calls ((rd_T52 l0_1 x6_1).f0) 0 (wrap64 ((l1.length : Int) - 1)) false _ A8.out).mono ?_); rintro e w' ⟨rfl, ⟨nd, rfl⟩⟩; refine ⟨_, rfl, ?_⟩))
      go_roundg k1
      case measure => have := HK1.out; omega
      case rel => exact ⟨(x5_1), (wrap64 (x6_1 + 1)), (by first | rfl | (simp; done) | (simp [*]; done)), H', ⟨by have := HK1.out; omega⟩, ⟨ZR HO_5.out⟩, ⟨ZK BK455.out⟩, ⟨ZB⟩⟩
    ·rw [if_neg c7] at H
     exact absurd H (by simp)
   ·rw [if_neg c6] at H
    have c6b0 : decide (x6_1 < (l0_1.length : Int)) = false := decide_eq_false c6
    clear c6
    obtain rfl := Option.some.inj H
    obtain ⟨hcz19_0, hcz19_1, hcz19_2⟩ := ZC3 wr BK455
    obtain ⟨hfz19_0, hfz19_1, hfz19_2⟩ := ZF3 BK455
    go_wp2
    go_ret
    exact ⟨_, ZE, by (with_reducible repeat (first | apply Kd.R_alloc | apply Kd.R_drewN | apply Kd.R_drew)); exact HO_5.out, ZB⟩

end Go.Proofs.Ytdmejmdifnicmaa.A
