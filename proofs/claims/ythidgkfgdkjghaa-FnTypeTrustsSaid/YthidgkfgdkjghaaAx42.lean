/- Go functions as Lean functions, and for each its contract; written by wip/tools/pr.py over the kit's print. -/
import Derived.Test.YthidgkfgdkjghaaAx0
import Derived.Test.YthidgkfgdkjghaaAx6
import Derived.Test.YthidgkfgdkjghaaAx9
import Derived.Test.YthidgkfgdkjghaaAx23
import Derived.Test.YthidgkfgdkjghaaAx28
import Derived.Test.YthidgkfgdkjghaaAx40
namespace Go.Proofs.Ythidgkfgdkjghaa.A
open Go.RowKit Go.Proofs.YthidgkfgdkjghaaW.PrintWords Go.Proofs.YthidgkfgdkjghaaW.PrintLast Go.Proofs.YthidgkfgdkjghaaW.PrintMore
attribute [local go_sem] max2_int min2_int max_two min_two max_three min_three max_four min_four
set_option linter.unusedVariables false
set_option linter.unusedSimpArgs false
set_option maxHeartbeats 8000000
set_option maxRecDepth 100000

/-! ### spec_DrawTypeTrusts: function 28 -/
def spec_DrawTypeTrusts.f (k : Nat) (l0 : List Int) : Option ((List (S39)) × (List (S32)) × Int) := (spec_DrawTypeKnows.f k l0).bind fun bt892 => (some (bt892.1, bt892.2.1, bt892.2.2))
theorem spec_DrawTypeTrusts.calls (k : Nat) (A0 : Option Addr) (c0 : Nat) (l0 : List Int) (r1 : List (S39)) (r2 : List (S32)) (r3 : Int) (w : World) (hr0 : Kd.C (Kd.int .u8) w A0 l0.length l0) (hc0 : l0.length ≤ c0) (h : spec_DrawTypeTrusts.f k l0 = some (r1, r2, r3)) :
  Calls Try.prog 28 #[.slice A0 l0.length c0] w fun e w' => ∃ v0_ v1_ : Value, e = .returned (.tuple #[.agg #[v0_, v1_], .int .i64 r3]) ∧ Kd.R k39 39 w' w.heap.size (fun k_ => (w.heap.size ≤ k_)) v0_ r1 ∧ Kd.N k32 32 w' w.heap.size (fun k_ => (w.heap.size ≤ k_) ∧ some k_ ≠ (v0_ : Value).ownBlock) v1_ r2 ∧ Below w.heap.size w w' := by
 have hu26 := Try.underlying26
 have HR0 := AM hr0
 have HC0 := AM hc0
 clear hr0 hc0
 have HB := AM (Below.refl w.heap.size w)
 have H := h
 unfold spec_DrawTypeTrusts.f at H
 clear h
 obtain ⟨⟨t892, t895, t898⟩, A2, H⟩ := ZOB H; try dsimp only at H
 simp only [Option.some.injEq, Prod.mk.injEq] at H
 obtain ⟨rfl, rfl, rfl⟩ := H
 go_enter Try.func28, Try.ntmps28
 go_wp2_with (first | ((with_reducible refine gate_dst (N := 2) rfl ?_); refine ZX (N := 2) (cs := #[.slice none 0 0, .slice none 0 0]) (t := 26) ?_; intro gb891 hg w3 hbox hb; have BK891 := AM (hbox); have GW891 : Aside0 (w.heap.size ≤ gb891) := ZS hg; have GE891 : Aside0 (w.heap.size ≤ gb891) := ZS hg; replace HB := ZT HB hb; clear hb hbox hg) | ((with_reducible refine gate_callee (f := 25) rfl ?_); refine ZGL (some 5) Try.func25 #[.slice A0 l0.length c0] ?_; (with_reducible refine (spec_DrawTypeKnows.calls k _ _ l0 t892 t895 t898 _ ?side1 ?side2 A2.out).mono ?_); (case side1 => exact ZQ (Kd.C_below HR0.out HB.out)); (case side2 => exact HC0.out); rintro e w4 ⟨v893, v896, rfl, ho0, ho1, hb⟩; refine ⟨_, rfl, ?_⟩; have HO894 := AM (Kd.R_lower (Kd.R_newM (M := fun k_ => (w.heap.size ≤ k_)) (Kd.R_mono (ok' := fun k_ => True) ho0 (fun _ hk_ => trivial)) (below_size (ZB)) (fun k_ h_ => h_)) (below_size (ZB))); have HO897 := AM (Kd.N_lower (Kd.N_mono (ok' := fun k_ => (w.heap.size ≤ k_) ∧ some k_ ≠ (v893 : Value).ownBlock ∧ k_ ≠ gb891) ho1 (fun k_ hk_ => ⟨(Nat.le_trans (below_size (ZB)) hk_.1), hk_.2, (Kd.freshB (g := gb891) (o := .cells #[.slice none 0 0, .slice none 0 0] 26 (0, 0)) (ZK BK891.out) k_ hk_.1)⟩)) (below_size (ZB))); replace BK891 := ZW BK891 hb; replace HB := ZT HB hb; clear hb; (try clear ho0); (try clear ho1); obtain ⟨Ao5, co5, eo5⟩ := Kd.R_slice HO894.out; subst eo5; have hcz6 := ZC2 w4 BK891; have hfz6 := ZF2 BK891; obtain ⟨Ao7, co7, eo7⟩ := Kd.N_slice HO897.out; subst eo7))
 refine bodyPost_ret (results_ct rfl _ _ gb891 26 #[.slice Ao5 t892.length co5, .slice Ao7 t895.length co7] (0, 0) _ rfl (ZZ BK891.out) Try.underlying26 rfl (by kernel_rfl)) rfl ?_
 exact ⟨_, _, ZE, by (with_reducible repeat (first | apply Kd.R_alloc | apply Kd.R_drewN | apply Kd.R_drew)); exact Kd.R_mono (Kd.R_far (p := ⟨gb891, 1, none⟩) (Kd.R_far (p := ⟨gb891, 0, none⟩) (Kd.R_types HO894.out BK891.out (by decide)) (fun _ hk => hk.2) (.slice Ao5 t892.length co5)) (fun _ hk => hk.2) (.slice Ao7 t895.length co7)) (fun _ hk => hk.1.1), by (with_reducible repeat (first | apply Kd.N_alloc | apply Kd.N_drewN | apply Kd.N_drew)); exact Kd.N_mono (Kd.N_far (p := ⟨gb891, 1, none⟩) (Kd.N_far (p := ⟨gb891, 0, none⟩) (Kd.N_mono HO897.out (fun k_ hk => (⟨hk, hk.2.2⟩ : _ ∧ k_ ≠ gb891))) (fun _ hk => hk.2) (.slice Ao5 t892.length co5)) (fun _ hk => hk.2) (.slice Ao7 t895.length co7)) (fun _ hk => ⟨hk.1.1, hk.1.2.1⟩), ZB⟩

/-! ### impl_TypeTrusts_1: function 51 -/
def impl_TypeTrusts_1.f (a0_0 : Int) (a0_1 : Int) : Option (Int) := some a0_1
theorem impl_TypeTrusts_1.calls (a0_0 : Int) (a0_1 : Int) (r : Int) (w : World) (h : impl_TypeTrusts_1.f a0_0 a0_1 = some r) :
  Calls Try.prog 51 #[.agg #[.int .i64 a0_0, .int .i64 a0_1]] w fun e w' => e = .returned (.int .i64 r) ∧ Below w.heap.size w w' := by
 have hu39 := Try.underlying39
 have HB := AM (Below.refl w.heap.size w)
 have H := h
 unfold impl_TypeTrusts_1.f at H
 clear h
 obtain rfl := Option.some.inj H
 go_enter Try.func51, Try.ntmps51
 go_wp2_with (first | ((with_reducible refine gate_dst (N := 1) rfl ?_); refine ZX (N := 1) (cs := #[.int .i64 a0_0, .int .i64 a0_1]) (t := 39) ?_; intro gb899 hg w2 hbox hb; have BK899 := AM (hbox); have GW899 : Aside0 (w.heap.size ≤ gb899) := ZS hg; have GE899 : Aside0 (w.heap.size ≤ gb899) := ZS hg; replace HB := ZT HB hb; clear hb hbox hg; have hcz3 := ZC2 w2 BK899; have hfz3 := ZF2 BK899))
 go_ret
 exact ⟨ZE, ZB⟩

/-! ### impl_Prog_each_51: function 48 -/
def impl_Prog_each_51.l0 : Nat → Int → List Bool → List (S39) → Int → Int → Option (List Bool)
 | 0, _, _, _, _, _ => none
 | k + 1, x1, x7, x14, x15, x16 => if x16 < x15 then (if 0 ≤ x16 then (if x16 < (x14.length : Int) then ((impl_TypeTrusts_1.f ((rd_T39 x14 x16).f0) ((rd_T39 x14 x16).f1)).bind fun t904 => ((impl_has.f t904 x1).bind fun t905 => (if x7.length < 140737488355328 then (impl_Prog_each_51.l0 k x1 (x7 ++ [t905]) x14 x15 (wrap64 (x16 + 1))) else (none)))) else (none)) else (none)) else (some x7)
def impl_Prog_each_51.f (k : Nat) (l0_0 : List (S39)) (l0_1 : List (S32)) (a1 : Int)  : Option (List Bool) := (impl_ProgOk.f k l0_0 l0_1).bind fun t901 => (if t901 = true then (impl_Prog_each_51.l0 k a1 ([] : List Bool) l0_0 (l0_0.length : Int) 0) else (some ([] : List Bool)))
theorem impl_Prog_each_51.calls (k : Nat) (A0_0 : Option Addr) (c0_0 : Nat) (l0_0 : List (S39)) (A0_1 : Option Addr) (c0_1 : Nat) (l0_1 : List (S32)) (a1 : Int)  (r : List Bool) (w : World) (hr0_0 : Kd.C k39 w A0_0 l0_0.length l0_0) (hc0_0 : l0_0.length ≤ c0_0) (hr0_1 : Kd.C k32 w A0_1 l0_1.length l0_1) (hc0_1 : l0_1.length ≤ c0_1) (h : impl_Prog_each_51.f k l0_0 l0_1 a1 = some r) :
  Calls Try.prog 48 #[.agg #[.slice A0_0 l0_0.length c0_0, .slice A0_1 l0_1.length c0_1], .int .i64 a1, .func (.func 51) #[] #[]] w fun e w' => ∃ v0_ : Value, e = .returned (v0_) ∧ Kd.R Kd.bool 4 w' w.heap.size (fun _ => True) v0_ r ∧ Below w.heap.size w w' := by
 have hu26 := Try.underlying26
 have hu39 := Try.underlying39
 have HR0_0 := AM hr0_0
 have HC0_0 := AM hc0_0
 clear hr0_0 hc0_0
 have HR0_1 := AM hr0_1
 have HC0_1 := AM hc0_1
 clear hr0_1 hc0_1
 have HB := AM (Below.refl w.heap.size w)
 have H := h
 unfold impl_Prog_each_51.f at H
 clear h
 obtain ⟨t901, A4, H⟩ := ZOB H; try dsimp only at H
 by_cases c5 : t901 = true
 ·(
 subst c5
 have H1 := H; rw [if_pos rfl] at H1
 clear H
 have H := H1
 clear H1
 have H' := AM H
 clear H
 go_enter Try.func48, Try.ntmps48
 go_wp2_with (first | ((with_reducible refine gate_dst (N := 3) rfl ?_); refine ZX (N := 3) (cs := #[.slice A0_0 l0_0.length c0_0, .slice A0_1 l0_1.length c0_1]) (t := 26) ?_; intro gb900 hg w6 hbox hb; have BK900 := AM (hbox); have GW900 : Aside0 (w.heap.size ≤ gb900) := ZS hg; have GE900 : Aside0 (w.heap.size ≤ gb900) := ZS hg; replace HB := ZT HB hb; clear hb hbox hg; have hcz7 := ZC2 w6 BK900; have hfz7 := ZF2 BK900) | ((with_reducible refine gate_callee (f := 36) rfl ?_); refine ZGL (some 11) Try.func36 #[.agg #[.slice A0_0 l0_0.length c0_0, .slice A0_1 l0_1.length c0_1]] ?_; (with_reducible refine (impl_ProgOk.calls k _ _ l0_0 _ _ l0_1 true _ ?side1 ?side2 ?side3 ?side4 A4.out).mono ?_); (case side1 => exact ZQ (Kd.C_below HR0_0.out HB.out)); (case side2 => exact HC0_0.out); (case side3 => exact ZQ (Kd.C_below HR0_1.out HB.out)); (case side4 => exact HC0_1.out); rintro e w8 ⟨rfl, hb⟩; refine ⟨_, rfl, ?_⟩; replace BK900 := ZW BK900 hb; replace HB := ZT HB hb; clear hb; have hcz9 := ZC2 w8 BK900; have hfz9 := ZF2 BK900))
 go_loopg [7, 16] k (fun kq v7 v16 w' => ∃ (x7_1 : List Bool) (x16_1 : Int), v16 = .int .i64 x16_1 ∧ Aside0 (impl_Prog_each_51.l0 kq a1 x7_1 l0_0 (l0_0.length : Int) x16_1 = some r) ∧ Aside0 (kq ≤ k) ∧ Aside0 (Kd.R Kd.bool 4 w' w.heap.size (fun _ => True) v7 x7_1) ∧ Aside0 (w'.heap[gb900]? = some (.cells #[(.slice A0_0 l0_0.length c0_0), (.slice A0_1 l0_1.length c0_1)] 26 (0, 0))) ∧ Aside0 (Below w.heap.size w w'))
 case atStart => exact ⟨(([] : List Bool)), (0), (by first | rfl | (simp; done) | (simp [*]; done)), H', ⟨Nat.le_refl _⟩, ⟨by first | exact Kd.R_nil _ _ _ _ _ | exact Kd.N_nil _ _ _ _ _ | exact Kd.V_nil _ _ _ _ _ | exact Kd.Q_nil _ _ _ _ _ | exact Kd.S_nil _ _ _ _ _⟩, ⟨ZK BK900.out⟩, ⟨ZB⟩⟩
 case round => (
 clear H'
 try clear p2
 try clear c3
 try clear c4
 try clear c5
 try clear hcz7
 try clear hcz9
 try clear hfz7
 try clear hfz9
 obtain ⟨x7_1, x16_1, rfl, HA, HK1, HO_7, BK900, HB⟩ := hrel
 cases gk with
 | zero => exact absurd HA.out (by simp [impl_Prog_each_51.l0])
 | succ k1 =>
  have H := HA.out
  clear HA
  simp only [impl_Prog_each_51.l0] at H
  by_cases c10 : x16_1 < (l0_0.length : Int)
  ·(
  rw [if_pos c10] at H
  have c10b0 := decide_eq_true c10
  clear c10
  by_cases c11 : 0 ≤ x16_1
  ·(
  rw [if_pos c11] at H
  have c11b0 := decide_eq_true c11
  clear c11
  by_cases c12 : x16_1 < (l0_0.length : Int)
  ·(
  rw [if_pos c12] at H
  have c12b0 := decide_eq_true c12
  clear c12
  obtain ⟨t904, A13, H⟩ := ZOB H; try dsimp only at H
  obtain ⟨t905, A14, H⟩ := ZOB H; try dsimp only at H
  by_cases c15 : x7_1.length < 140737488355328
  ·(
  rw [if_pos c15] at H
  have LMc15 := AM c15
  clear c15
  obtain ⟨y906, hy906⟩ : ∃ y_ : List Bool, y_ = (x7_1 ++ [t905]) := ⟨_, rfl⟩
  replace H : (impl_Prog_each_51.l0 k1 a1 y906 l0_0 (l0_0.length : Int) (wrap64 (x16_1 + 1))) = some r := by first | (rw [hy906]; with_reducible exact H) | (have H2_ := (Option.bind_some _ _).symm.trans H; rw [hy906]; with_reducible exact H2_) | (have H2_ := (Option.bind_some _ _).symm.trans H; with_reducible exact H2_) | with_reducible exact H | (rw [hy906]; exact H) | exact H
  have Ny906 := AM hy906
  clear hy906
  have H' := AM H
  clear H
  have p902 : 0 ≤ (x16_1 : Int) := ZD
  have q902 : x16_1 < (l0_0.length : Int) := ZD
  obtain ⟨ad902, e902, hx902_0, hx902_1⟩ := at_T39 HR0_0.out x16_1 p902 q902
  cases e902
  replace hx902_0 := ZHX HB hx902_0
  replace hx902_1 := ZHX HB hx902_1
  replace p902 := eq_true p902
  replace q902 := eq_true q902
  go_wp2_with (first | ((with_reducible refine gate_dst (N := 9) rfl ?_); refine ZX (N := 9) (cs := #[.int .i64 0, .int .i64 0]) (t := 39) ?_; intro gb903 hg w16 hbox hb; have BK903 := AM (hbox); have GW903 : Aside0 (w.heap.size ≤ gb903) := ZS hg; have GE903 : Aside0 (w.heap.size ≤ gb903) := ZS hg; have NB900_903 : Aside0 (gb900 ≠ gb903) := ZN hg BK900; have NB903_900 : Aside0 (gb903 ≠ gb900) := ZM hg BK900; replace HO_7 := AM (Kd.R_below (ZR HO_7.out) hb); replace BK900 := ZW BK900 hb; replace HB := ZT HB hb; clear hb hbox hg; have hnb17 := NB903_900.out; have hnc17 := NB900_903.out; have hcz18 := ZC2 w16 BK903; have hfz18 := ZF2 BK903) | ((with_reducible refine gate_calleev ⟨_, _, _, rfl⟩ ?_); refine goesLv_ (some 23) rfl rfl Try.func51 (by kernel_rfl) rfl #[.agg #[.int .i64 ((rd_T39 l0_0 x16_1).f0), .int .i64 ((rd_T39 l0_0 x16_1).f1)]] ⟨_, _, rfl, rfl⟩ ZG ?_; (with_reducible refine (impl_TypeTrusts_1.calls ((rd_T39 l0_0 x16_1).f0) ((rd_T39 l0_0 x16_1).f1) t904 _ A13.out).mono ?_); rintro e w19 ⟨rfl, hb⟩; refine ⟨_, rfl, ?_⟩; replace HO_7 := AM (Kd.R_below (ZR ((Kd.R_mono (Kd.R_far (p := ⟨gb903, 1, none⟩) (Kd.R_far (p := ⟨gb903, 0, none⟩) (Kd.R_types HO_7.out BK903.out (by decide)) (fun _ hk => hk.2) (.int .i64 ((rd_T39 l0_0 x16_1).f0))) (fun _ hk => hk.2) (.int .i64 ((rd_T39 l0_0 x16_1).f1))) (fun _ h_ => h_.1)))) hb); replace BK900 := ZV #[.slice (some ad902) l0_0.length c0_0, .slice A0_1 l0_1.length c0_1] BK900 hb; replace BK903 := ZV #[.int .i64 ((rd_T39 l0_0 x16_1).f0), .int .i64 ((rd_T39 l0_0 x16_1).f1)] BK903 hb; replace HB := ZT HB hb; clear hb) | ((with_reducible refine gate_callee (f := 68) rfl ?_); refine ZGL (some 25) Try.func68 #[.int .i64 t904, .int .i64 a1] ?_; (with_reducible refine (impl_has.calls t904 a1 t905 _ A14.out).mono ?_); rintro e w' ⟨rfl, ⟨nd, rfl⟩⟩; refine ⟨_, rfl, ?_⟩) | ((with_reducible refine gate_builtin (b := .append) (xs := #[.tmp 20, .tmp 26]) rfl ?_); at_builtin; refine Kd.R_append Kd.bool (w0 := w) w.heap.size rfl (.tmp 20) (.tmp 26) 44 4 (.bool false) 1 rfl Try.underlying44 info4 rfl (by decide) (by omega) u7 x7_1 t905 [.bool t905] (fun _ => True) (fun _ => False) rfl rfl ?aP (fun _ hk => hk.elim) ?aF ?aO ?aB ?aS ?aL ?_; (case aP => exact rfl); (case aB => exact (ZB)); (case aF => exact (fun _ _ => trivial)); (case aO => exact (ZR HO_7.out)); (case aS => exact (below_size (ZB))); (case aL => have := LMc15.out; omega); intro v907 w20 ho hb hg hat; rw [← Ny906.out] at ho; have n0_ := AM (blk_grown (g := gb900) (o := .cells #[.slice (some ad902) l0_0.length c0_0, .slice A0_1 l0_1.length c0_1] 26 (0, 0)) (ZK BK900.out) hg (Kd.R_ne HO_7.out BK900.out (by decide))); have n1_ := AM (blk_grown (g := gb903) (o := .cells #[.int .i64 ((rd_T39 l0_0 x16_1).f0), .int .i64 ((rd_T39 l0_0 x16_1).f1)] 39 (0, 0)) (ZK BK903.out) hg (Kd.R_ne HO_7.out BK903.out (by decide))); have n2_ := AM (hb); have n3_ := AM (ho); clear BK900 BK903 HB HO_7; have BK900 := n0_; have BK903 := n1_; have HB := n2_; have HO908 := n3_; clear n0_ n1_ n2_ n3_ ho hb hg hat))
  go_roundg k1
  case measure => have := HK1.out; omega
  case rel => exact ⟨(y906), (wrap64 (x16_1 + 1)), (by first | rfl | (simp; done) | (simp [*]; done)), H', ⟨by have := HK1.out; omega⟩, ⟨ZR HO908.out⟩, ⟨ZK BK900.out⟩, ⟨ZB⟩⟩)
  ·(
  rw [if_neg c15] at H
  exact absurd H (by simp)))
  ·(
  rw [if_neg c12] at H
  exact absurd H (by simp)))
  ·(
  rw [if_neg c11] at H
  exact absurd H (by simp)))
  ·(
  rw [if_neg c10] at H
  have c10b0 := decide_eq_false c10
  clear c10
  obtain rfl := Option.some.inj H
  go_wp2
  go_ret
  exact ⟨_, ZE, by (with_reducible repeat (first | apply Kd.R_alloc | apply Kd.R_drewN | apply Kd.R_drew)); exact HO_7.out, ZB⟩)))
 ·(
 replace c5 := Bool.eq_false_iff.mpr c5
 subst c5
 have H1 := H; rw [if_neg ZFT] at H1
 clear H
 have H := H1
 clear H1
 obtain rfl := Option.some.inj H
 go_enter Try.func48, Try.ntmps48
 go_wp2_with (first | ((with_reducible refine gate_dst (N := 3) rfl ?_); refine ZX (N := 3) (cs := #[.slice A0_0 l0_0.length c0_0, .slice A0_1 l0_1.length c0_1]) (t := 26) ?_; intro gb900 hg w21 hbox hb; have BK900 := AM (hbox); have GW900 : Aside0 (w.heap.size ≤ gb900) := ZS hg; have GE900 : Aside0 (w.heap.size ≤ gb900) := ZS hg; replace HB := ZT HB hb; clear hb hbox hg; have hcz22 := ZC2 w21 BK900; have hfz22 := ZF2 BK900) | ((with_reducible refine gate_callee (f := 36) rfl ?_); refine ZGL (some 11) Try.func36 #[.agg #[.slice A0_0 l0_0.length c0_0, .slice A0_1 l0_1.length c0_1]] ?_; (with_reducible refine (impl_ProgOk.calls k _ _ l0_0 _ _ l0_1 false _ ?side1 ?side2 ?side3 ?side4 A4.out).mono ?_); (case side1 => exact ZQ (Kd.C_below HR0_0.out HB.out)); (case side2 => exact HC0_0.out); (case side3 => exact ZQ (Kd.C_below HR0_1.out HB.out)); (case side4 => exact HC0_1.out); rintro e w23 ⟨rfl, hb⟩; refine ⟨_, rfl, ?_⟩; replace BK900 := ZW BK900 hb; replace HB := ZT HB hb; clear hb))
 go_ret
 exact ⟨_, ZE, by first | exact Kd.R_nil _ _ _ _ _ | exact Kd.N_nil _ _ _ _ _ | exact Kd.V_nil _ _ _ _ _ | exact Kd.Q_nil _ _ _ _ _ | exact Kd.S_nil _ _ _ _ _, ZB⟩)

/-! ### impl_TypeTrusts: function 29 -/
def impl_TypeTrusts.f (k : Nat) (l0_0 : List (S39)) (l0_1 : List (S32)) (a1 : Int) : Option (List Bool) := (impl_Prog_each_51.f k l0_0 l0_1 a1).bind fun t910 => (some t910)
theorem impl_TypeTrusts.calls (k : Nat) (A0_0 : Option Addr) (c0_0 : Nat) (l0_0 : List (S39)) (A0_1 : Option Addr) (c0_1 : Nat) (l0_1 : List (S32)) (a1 : Int) (r : List Bool) (w : World) (hr0_0 : Kd.C k39 w A0_0 l0_0.length l0_0) (hc0_0 : l0_0.length ≤ c0_0) (hr0_1 : Kd.C k32 w A0_1 l0_1.length l0_1) (hc0_1 : l0_1.length ≤ c0_1) (h : impl_TypeTrusts.f k l0_0 l0_1 a1 = some r) :
  Calls Try.prog 29 #[.agg #[.slice A0_0 l0_0.length c0_0, .slice A0_1 l0_1.length c0_1], .int .i64 a1] w fun e w' => ∃ v0_ : Value, e = .returned (v0_) ∧ Kd.R Kd.bool 4 w' w.heap.size (fun _ => True) v0_ r ∧ Below w.heap.size w w' := by
 have hu26 := Try.underlying26
 have HR0_0 := AM hr0_0
 have HC0_0 := AM hc0_0
 clear hr0_0 hc0_0
 have HR0_1 := AM hr0_1
 have HC0_1 := AM hc0_1
 clear hr0_1 hc0_1
 have HB := AM (Below.refl w.heap.size w)
 have H := h
 unfold impl_TypeTrusts.f at H
 clear h
 obtain ⟨t910, A3, H⟩ := ZOB H; try dsimp only at H
 obtain rfl := Option.some.inj H
 go_enter Try.func29, Try.ntmps29
 go_wp2_with (first | ((with_reducible refine gate_dst (N := 2) rfl ?_); refine ZX (N := 2) (cs := #[.slice A0_0 l0_0.length c0_0, .slice A0_1 l0_1.length c0_1]) (t := 26) ?_; intro gb909 hg w4 hbox hb; have BK909 := AM (hbox); have GW909 : Aside0 (w.heap.size ≤ gb909) := ZS hg; have GE909 : Aside0 (w.heap.size ≤ gb909) := ZS hg; replace HB := ZT HB hb; clear hb hbox hg; have hcz5 := ZC2 w4 BK909; have hfz5 := ZF2 BK909) | ((with_reducible refine gate_callee (f := 48) rfl ?_); refine ZGL (some 7) Try.func48 #[.agg #[.slice A0_0 l0_0.length c0_0, .slice A0_1 l0_1.length c0_1], .int .i64 a1, .func (.func 51) #[] #[]] ?_; (with_reducible refine (impl_Prog_each_51.calls k _ _ l0_0 _ _ l0_1 a1  t910 _ ?side1 ?side2 ?side3 ?side4 A3.out).mono ?_); (case side1 => exact ZQ (Kd.C_below HR0_0.out HB.out)); (case side2 => exact HC0_0.out); (case side3 => exact ZQ (Kd.C_below HR0_1.out HB.out)); (case side4 => exact HC0_1.out); rintro e w6 ⟨v911, rfl, ho0, hb⟩; refine ⟨_, rfl, ?_⟩; have HO912 := AM (Kd.R_lower ho0 (below_size (ZB))); replace BK909 := ZW BK909 hb; replace HB := ZT HB hb; clear hb; (try clear ho0)))
 go_ret
 exact ⟨_, ZE, by (with_reducible repeat (first | apply Kd.R_alloc | apply Kd.R_drewN | apply Kd.R_drew)); exact HO912.out, ZB⟩

/-! ### spec_TypeTrusts: function 30 -/
def spec_TypeTrusts.l0 : Nat → Int → List Bool → Int → List (S39) → List (S32) → Option (List Bool)
 | 0, _, _, _, _, _ => none
 | k + 1, x1, x5, x6, x914000, x914001 => if x6 < (x914000.length : Int) then ((spec_ProgOk.f k x914000 x914001).bind fun t917 => (if t917 = true then (if 0 ≤ x6 then ((spec_l1Has.f ((rd_T39 x914000 x6).f1) x1).bind fun t919 => (if x5.length < 140737488355328 then (spec_TypeTrusts.l0 k x1 (x5 ++ [t919]) (wrap64 (x6 + 1)) x914000 x914001) else (none))) else (none)) else (some x5))) else (some x5)
def spec_TypeTrusts.f (k : Nat) (l0_0 : List (S39)) (l0_1 : List (S32)) (a1 : Int) : Option (List Bool) := spec_TypeTrusts.l0 k a1 (([] : List Bool)) 0 l0_0 l0_1
theorem spec_TypeTrusts.calls (k : Nat) (A0_0 : Option Addr) (c0_0 : Nat) (l0_0 : List (S39)) (A0_1 : Option Addr) (c0_1 : Nat) (l0_1 : List (S32)) (a1 : Int) (r : List Bool) (w : World) (hr0_0 : Kd.C k39 w A0_0 l0_0.length l0_0) (hc0_0 : l0_0.length ≤ c0_0) (hr0_1 : Kd.C k32 w A0_1 l0_1.length l0_1) (hc0_1 : l0_1.length ≤ c0_1) (h : spec_TypeTrusts.f k l0_0 l0_1 a1 = some r) :
  Calls Try.prog 30 #[.agg #[.slice A0_0 l0_0.length c0_0, .slice A0_1 l0_1.length c0_1], .int .i64 a1] w fun e w' => ∃ v0_ : Value, e = .returned (v0_) ∧ Kd.R Kd.bool 4 w' w.heap.size (fun _ => True) v0_ r ∧ Below w.heap.size w w' := by
 have hu26 := Try.underlying26
 have HR0_0 := AM hr0_0
 have HC0_0 := AM hc0_0
 clear hr0_0 hc0_0
 have HR0_1 := AM hr0_1
 have HC0_1 := AM hc0_1
 clear hr0_1 hc0_1
 have HB := AM (Below.refl w.heap.size w)
 have H := h
 unfold spec_TypeTrusts.f at H
 clear h
 obtain ⟨y914, hy914⟩ : ∃ y_ : List Bool, y_ = (([] : List Bool)) := ⟨_, rfl⟩
 replace H : (spec_TypeTrusts.l0 k a1 y914 0 l0_0 l0_1) = some r := by first | (rw [hy914]; with_reducible exact H) | (have H2_ := (Option.bind_some _ _).symm.trans H; rw [hy914]; with_reducible exact H2_) | (have H2_ := (Option.bind_some _ _).symm.trans H; with_reducible exact H2_) | with_reducible exact H | (rw [hy914]; exact H) | exact H
 have Ny914 := AM hy914
 clear hy914
 have H' := AM H
 clear H
 go_enter Try.func30, Try.ntmps30
 go_wp2_with (first | ((with_reducible refine gate_dst (N := 2) rfl ?_); refine ZX (N := 2) (cs := #[.slice A0_0 l0_0.length c0_0, .slice A0_1 l0_1.length c0_1]) (t := 26) ?_; intro gb913 hg w3 hbox hb; have BK913 := AM (hbox); have GW913 : Aside0 (w.heap.size ≤ gb913) := ZS hg; have GE913 : Aside0 (w.heap.size ≤ gb913) := ZS hg; replace HB := ZT HB hb; clear hb hbox hg) | ((with_reducible refine gate_dst (N := 7) rfl ?_); refine Kd.R_lit Kd.bool _ 4 ?hg (N := 7) ?hd (xs := ([] : List Bool)) (inner := []) (ok := fun _ => True) (okp := fun _ => True) ?hr ?hp (fun _ hk => hk) trivial (Below.refl _ _) (Nat.le_refl _) (by simp) ?_; (case hd => rfl); (case hg => rfl); (case hr => first | (go_simp; done) | (go_simp; rfl)); (case hp => exact (Reps.none _ _)); intro v915 w4 ho5 hb hg_ hnew_; clear hg_ hnew_; (first | rw [← Ny914.out] at ho5 | (simp only [Int.reduceToNat] at ho5; rw [← Ny914.out] at ho5)); have HO916 := AM (Kd.R_lower ho5 (below_size (ZB))); replace BK913 := ZW BK913 hb; replace HB := ZT HB hb; clear hb ho5))
 go_loopg [5, 6] k (fun kq v5 v6 w' => ∃ (x5_1 : List Bool) (x6_1 : Int), v6 = .int .i64 x6_1 ∧ Aside0 (spec_TypeTrusts.l0 kq a1 x5_1 x6_1 l0_0 l0_1 = some r) ∧ Aside0 (kq ≤ k) ∧ Aside0 (Kd.R Kd.bool 4 w' w.heap.size (fun _ => True) v5 x5_1) ∧ Aside0 (w'.heap[gb913]? = some (.cells #[(.slice A0_0 l0_0.length c0_0), (.slice A0_1 l0_1.length c0_1)] 26 (0, 0))) ∧ Aside0 (Below w.heap.size w w'))
 case atStart => exact ⟨(y914), (0), (by first | rfl | (simp; done) | (simp [*]; done)), H', ⟨Nat.le_refl _⟩, ⟨ZR HO916.out⟩, ⟨ZK BK913.out⟩, ⟨ZB⟩⟩
 case round => (
 clear H'
 try clear p2
 try clear c3
 obtain ⟨x5_1, x6_1, rfl, HA, HK1, HO_5, BK913, HB⟩ := hrel
 cases gk with
 | zero => exact absurd HA.out (by simp [spec_TypeTrusts.l0])
 | succ k1 =>
  have H := HA.out
  clear HA
  simp only [spec_TypeTrusts.l0] at H
  by_cases c6 : x6_1 < (l0_0.length : Int)
  ·(
  rw [if_pos c6] at H
  have c6b0 := decide_eq_true c6
  clear c6
  obtain ⟨t917, A7, H⟩ := ZOB H; try dsimp only at H
  by_cases c8 : t917 = true
  ·(
  subst c8
  have H1 := H; rw [if_pos rfl] at H1
  clear H
  have H := H1
  clear H1
  by_cases c9 : 0 ≤ x6_1
  ·(
  rw [if_pos c9] at H
  have c9b0 := decide_eq_true c9
  clear c9
  obtain ⟨t919, A10, H⟩ := ZOB H; try dsimp only at H
  by_cases c11 : x5_1.length < 140737488355328
  ·(
  rw [if_pos c11] at H
  have LMc11 := AM c11
  clear c11
  obtain ⟨y920, hy920⟩ : ∃ y_ : List Bool, y_ = (x5_1 ++ [t919]) := ⟨_, rfl⟩
  replace H : (spec_TypeTrusts.l0 k1 a1 y920 (wrap64 (x6_1 + 1)) l0_0 l0_1) = some r := by first | (rw [hy920]; with_reducible exact H) | (have H2_ := (Option.bind_some _ _).symm.trans H; rw [hy920]; with_reducible exact H2_) | (have H2_ := (Option.bind_some _ _).symm.trans H; with_reducible exact H2_) | with_reducible exact H | (rw [hy920]; exact H) | exact H
  have Ny920 := AM hy920
  clear hy920
  have H' := AM H
  clear H
  have hcz12 := ZC2 wr BK913
  have hfz12 := ZF2 BK913
  go_wp2_with (first | (go_at_call 19; (with_reducible refine (spec_ProgOk.calls k1 _ _ l0_0 _ _ l0_1 true _ ?side1 ?side2 ?side3 ?side4 A7.out).mono ?_); (case side1 => exact ZQ (Kd.C_below HR0_0.out HB.out)); (case side2 => exact HC0_0.out); (case side3 => exact ZQ (Kd.C_below HR0_1.out HB.out)); (case side4 => exact HC0_1.out); rintro e w13 ⟨rfl, hb⟩; replace HO_5 := AM (Kd.R_below (ZR HO_5.out) hb); replace BK913 := ZW BK913 hb; replace HB := ZT HB hb; clear hb; have hcz14 := ZC2 w13 BK913; have hfz14 := ZF2 BK913; have p918 : 0 ≤ (x6_1 : Int) := ZD; have q918 : x6_1 < (l0_0.length : Int) := ZD; obtain ⟨ad918, e918, hx918_0, hx918_1⟩ := at_T39 HR0_0.out x6_1 p918 q918; cases e918; replace hx918_0 := ZHX HB hx918_0; replace hx918_1 := ZHX HB hx918_1; replace p918 := eq_true p918; replace q918 := eq_true q918) | ((with_reducible refine gate_callee (f := 50) rfl ?_); refine ZGL (some 27) Try.func50 #[.int .i64 ((rd_T39 l0_0 x6_1).f1), .int .i64 a1] ?_; (with_reducible refine (spec_l1Has.calls ((rd_T39 l0_0 x6_1).f1) a1 t919 _ A10.out).mono ?_); rintro e w' ⟨rfl, ⟨nd, rfl⟩⟩; refine ⟨_, rfl, ?_⟩) | ((with_reducible refine gate_builtin (b := .append) (xs := #[.tmp 19, .tmp 28]) rfl ?_); at_builtin; refine Kd.R_append Kd.bool (w0 := w) w.heap.size rfl (.tmp 19) (.tmp 28) 44 4 (.bool false) 1 rfl Try.underlying44 info4 rfl (by decide) (by omega) u5 x5_1 t919 [.bool t919] (fun _ => True) (fun _ => False) rfl rfl ?aP (fun _ hk => hk.elim) ?aF ?aO ?aB ?aS ?aL ?_; (case aP => exact rfl); (case aB => exact (ZB)); (case aF => exact (fun _ _ => trivial)); (case aO => exact (ZR HO_5.out)); (case aS => exact (below_size (ZB))); (case aL => have := LMc11.out; omega); intro v921 w15 ho hb hg hat; rw [← Ny920.out] at ho; have n0_ := AM (blk_grown (g := gb913) (o := .cells #[.slice (some ad918) l0_0.length c0_0, .slice A0_1 l0_1.length c0_1] 26 (0, 0)) (ZK BK913.out) hg (Kd.R_ne HO_5.out BK913.out (by decide))); have n1_ := AM (hb); have n2_ := AM (ho); clear BK913 HB HO_5; have BK913 := n0_; have HB := n1_; have HO922 := n2_; clear n0_ n1_ n2_ ho hb hg hat))
  go_roundg k1
  case measure => have := HK1.out; omega
  case rel => exact ⟨(y920), (wrap64 (x6_1 + 1)), (by first | rfl | (simp; done) | (simp [*]; done)), H', ⟨by have := HK1.out; omega⟩, ⟨ZR HO922.out⟩, ⟨ZK BK913.out⟩, ⟨ZB⟩⟩)
  ·(
  rw [if_neg c11] at H
  exact absurd H (by simp)))
  ·(
  rw [if_neg c9] at H
  exact absurd H (by simp)))
  ·(
  replace c8 := Bool.eq_false_iff.mpr c8
  subst c8
  have H1 := H; rw [if_neg ZFT] at H1
  clear H
  have H := H1
  clear H1
  obtain rfl := Option.some.inj H
  have hcz16 := ZC2 wr BK913
  have hfz16 := ZF2 BK913
  go_wp2_with (first | (go_at_call 19; (with_reducible refine (spec_ProgOk.calls k1 _ _ l0_0 _ _ l0_1 false _ ?side1 ?side2 ?side3 ?side4 A7.out).mono ?_); (case side1 => exact ZQ (Kd.C_below HR0_0.out HB.out)); (case side2 => exact HC0_0.out); (case side3 => exact ZQ (Kd.C_below HR0_1.out HB.out)); (case side4 => exact HC0_1.out); rintro e w17 ⟨rfl, hb⟩; replace HO_5 := AM (Kd.R_below (ZR HO_5.out) hb); replace BK913 := ZW BK913 hb; replace HB := ZT HB hb; clear hb))
  go_ret
  exact ⟨_, ZE, by (with_reducible repeat (first | apply Kd.R_alloc | apply Kd.R_drewN | apply Kd.R_drew)); exact HO_5.out, ZB⟩))
  ·(
  rw [if_neg c6] at H
  have c6b0 := decide_eq_false c6
  clear c6
  obtain rfl := Option.some.inj H
  have hcz18 := ZC2 wr BK913
  have hfz18 := ZF2 BK913
  go_wp2
  go_ret
  exact ⟨_, ZE, by (with_reducible repeat (first | apply Kd.R_alloc | apply Kd.R_drewN | apply Kd.R_drew)); exact HO_5.out, ZB⟩))

end Go.Proofs.Ythidgkfgdkjghaa.A
