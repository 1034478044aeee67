/- Go functions as Lean functions, and for each its contract; written by wip/tools/pr.py over the kit's print. -/
import Derived.Test.YtaflodibibbakaaAx0
import Derived.Test.YtaflodibibbakaaAx5
import Derived.Test.YtaflodibibbakaaAx10
namespace Go.Proofs.Ytaflodibibbakaa.A
open Go.RowKit Go.Proofs.YtaflodibibbakaaW.PrintWords Go.Proofs.YtaflodibibbakaaW.PrintLast Go.Proofs.YtaflodibibbakaaW.PrintMore
attribute [local go_sem] max2_int min2_int max_two min_two max_three min_three max_four min_four
set_option linter.unusedVariables false
set_option linter.unusedSimpArgs false
set_option maxHeartbeats 8000000
set_option maxRecDepth 100000

/-! ### spec_TypeTrusts: function 17 -/
def spec_TypeTrusts.l0 : Nat → Int → List Bool → Int → List (S60) → List (S50) → Option (List Bool)
 | 0, _, _, _, _, _ => none
 | k + 1, x1, x5, x6, x330000, x330001 => if x6 < (x330000.length : Int) then ((spec_ProgOk.f k x330000 x330001).bind fun t333 => (if t333 = true then (if 0 ≤ x6 then ((spec_l1Has.f ((rd_T60 x330000 x6).f1) x1).bind fun t335 => (if x5.length < 140737488355328 then (spec_TypeTrusts.l0 k x1 (x5 ++ [t335]) (wrap64 (x6 + 1)) x330000 x330001) else (none))) else (none)) else (some x5))) else (some x5)
def spec_TypeTrusts.f (k : Nat) (l0_0 : List (S60)) (l0_1 : List (S50)) (a1 : Int) : Option (List Bool) := spec_TypeTrusts.l0 k a1 (([] : List Bool)) 0 l0_0 l0_1
theorem spec_TypeTrusts.calls (k : Nat) (A0_0 : Option Addr) (c0_0 : Nat) (l0_0 : List (S60)) (A0_1 : Option Addr) (c0_1 : Nat) (l0_1 : List (S50)) (a1 : Int) (r : List Bool) (w : World) (hr0_0 : Kd.C k60 w A0_0 l0_0.length l0_0) (hc0_0 : l0_0.length ≤ c0_0) (hr0_1 : Kd.C k50 w A0_1 l0_1.length l0_1) (hc0_1 : l0_1.length ≤ c0_1) (h : spec_TypeTrusts.f k l0_0 l0_1 a1 = some r) :
  Calls Try.prog 17 #[.agg #[.slice A0_0 l0_0.length c0_0, .slice A0_1 l0_1.length c0_1], .int .i64 a1] w fun e w' => ∃ v0_ : Value, e = .returned (v0_) ∧ Kd.R Kd.bool 4 w' w.heap.size (fun _ => True) v0_ r ∧ Below w.heap.size w w' := by
 have hu32 := Try.underlying32
 have HR0_0 := AM hr0_0
 have HC0_0 := AM hc0_0
 clear hr0_0 hc0_0
 have HR0_1 := AM hr0_1
 have HC0_1 := AM hc0_1
 clear hr0_1 hc0_1
 have HB := AM (Below.refl w.heap.size w)
 have H := h
 unfold spec_TypeTrusts.f at H
 clear h
 obtain ⟨y330, hy330⟩ : ∃ y_ : List Bool, y_ = (([] : List Bool)) := ⟨_, rfl⟩
 replace H : (spec_TypeTrusts.l0 k a1 y330 0 l0_0 l0_1) = some r := by first | (rw [hy330]; with_reducible exact H) | (have H2_ := (Option.bind_some _ _).symm.trans H; rw [hy330]; with_reducible exact H2_) | (have H2_ := (Option.bind_some _ _).symm.trans H; with_reducible exact H2_) | with_reducible exact H | (rw [hy330]; exact H) | exact H
 have Ny330 := AM hy330
 clear hy330
 have H' := AM H
 clear H
 go_enter Try.func17, Try.ntmps17
 go_wp2_with (first | ((with_reducible refine gate_dst (N := 2) rfl ?_); refine ZX (N := 2) (cs := #[.slice A0_0 l0_0.length c0_0, .slice A0_1 l0_1.length c0_1]) (t := 32) ?_; intro gb329 hg w3 hbox hb; have BK329 := AM (hbox); have GW329 : Aside0 (w.heap.size ≤ gb329) := ZS hg; have GE329 : Aside0 (w.heap.size ≤ gb329) := ZS hg; replace HB := ZT HB hb; clear hb hbox hg) | ((with_reducible refine gate_dst (N := 7) rfl ?_); refine Kd.R_lit Kd.bool _ 4 ?hg (N := 7) ?hd (xs := ([] : List Bool)) (inner := []) (ok := fun _ => True) (okp := fun _ => True) ?hr ?hp (fun _ hk => hk) trivial (Below.refl _ _) (Nat.le_refl _) (by simp) ?_; (case hd => rfl); (case hg => rfl); (case hr => first | (go_simp; done) | (go_simp; rfl)); (case hp => exact (Reps.none _ _)); intro v331 w4 ho5 hb hg_ hnew_; clear hg_ hnew_; (first | rw [← Ny330.out] at ho5 | (simp only [Int.reduceToNat] at ho5; rw [← Ny330.out] at ho5)); have HO332 := AM (Kd.R_lower ho5 (below_size (ZB))); replace BK329 := ZW BK329 hb; replace HB := ZT HB hb; clear hb ho5))
 go_loopg [5, 6] k (fun kq v5 v6 w' => ∃ (x5_1 : List Bool) (x6_1 : Int), v6 = .int .i64 x6_1 ∧ Aside0 (spec_TypeTrusts.l0 kq a1 x5_1 x6_1 l0_0 l0_1 = some r) ∧ Aside0 (kq ≤ k) ∧ Aside0 (Kd.R Kd.bool 4 w' w.heap.size (fun _ => True) v5 x5_1) ∧ Aside0 (w'.heap[gb329]? = some (.cells #[(.slice A0_0 l0_0.length c0_0), (.slice A0_1 l0_1.length c0_1)] 32 (0, 0))) ∧ Aside0 (Below w.heap.size w w'))
 case atStart => exact ⟨(y330), (0), (by first | rfl | (simp; done) | (simp [*]; done)), H', ⟨Nat.le_refl _⟩, ⟨ZR HO332.out⟩, ⟨ZK BK329.out⟩, ⟨ZB⟩⟩
 case round => (
 clear H'
 try clear c1
 try clear p2
 obtain ⟨x5_1, x6_1, rfl, HA, HK1, HO_5, BK329, HB⟩ := hrel
 cases gk with
 | zero => exact absurd HA.out (by simp [spec_TypeTrusts.l0])
 | succ k1 =>
  have H := HA.out
  clear HA
  simp only [spec_TypeTrusts.l0] at H
  by_cases c6 : x6_1 < (l0_0.length : Int)
  ·(
  rw [if_pos c6] at H
  have c6b0 := decide_eq_true c6
  clear c6
  obtain ⟨t333, A7, H⟩ := ZOB H; try dsimp only at H
  by_cases c8 : t333 = true
  ·(
  subst c8
  have H1 := H; rw [if_pos rfl] at H1
  clear H
  have H := H1
  clear H1
  by_cases c9 : 0 ≤ x6_1
  ·(
  rw [if_pos c9] at H
  have c9b0 := decide_eq_true c9
  clear c9
  obtain ⟨t335, A10, H⟩ := ZOB H; try dsimp only at H
  by_cases c11 : x5_1.length < 140737488355328
  ·(
  rw [if_pos c11] at H
  have LMc11 := AM c11
  clear c11
  obtain ⟨y336, hy336⟩ : ∃ y_ : List Bool, y_ = (x5_1 ++ [t335]) := ⟨_, rfl⟩
  replace H : (spec_TypeTrusts.l0 k1 a1 y336 (wrap64 (x6_1 + 1)) l0_0 l0_1) = some r := by first | (rw [hy336]; with_reducible exact H) | (have H2_ := (Option.bind_some _ _).symm.trans H; rw [hy336]; with_reducible exact H2_) | (have H2_ := (Option.bind_some _ _).symm.trans H; with_reducible exact H2_) | with_reducible exact H | (rw [hy336]; exact H) | exact H
  have Ny336 := AM hy336
  clear hy336
  have H' := AM H
  clear H
  have hcz12 := ZC2 wr BK329
  have hfz12 := ZF2 BK329
  go_wp2_with (first | (go_at_call 36; (with_reducible refine (spec_ProgOk.calls k1 _ _ l0_0 _ _ l0_1 true _ ?side1 ?side2 ?side3 ?side4 A7.out).mono ?_); (case side1 => exact ZQ (Kd.C_below HR0_0.out HB.out)); (case side2 => exact HC0_0.out); (case side3 => exact ZQ (Kd.C_below HR0_1.out HB.out)); (case side4 => exact HC0_1.out); rintro e w13 ⟨rfl, hb⟩; replace HO_5 := AM (Kd.R_below (ZR HO_5.out) hb); replace BK329 := ZW BK329 hb; replace HB := ZT HB hb; clear hb; have hcz14 := ZC2 w13 BK329; have hfz14 := ZF2 BK329; have p334 : 0 ≤ (x6_1 : Int) := ZD; have q334 : x6_1 < (l0_0.length : Int) := ZD; obtain ⟨ad334, e334, hx334_0, hx334_1⟩ := at_T60 HR0_0.out x6_1 p334 q334; cases e334; replace hx334_0 := ZHX HB hx334_0; replace hx334_1 := ZHX HB hx334_1; replace p334 := eq_true p334; replace q334 := eq_true q334) | ((with_reducible refine gate_callee (f := 37) rfl ?_); refine ZGL (some 27) Try.func37 #[.int .i64 ((rd_T60 l0_0 x6_1).f1), .int .i64 a1] ?_; (with_reducible refine (spec_l1Has.calls ((rd_T60 l0_0 x6_1).f1) a1 t335 _ A10.out).mono ?_); rintro e w' ⟨rfl, ⟨nd, rfl⟩⟩; refine ⟨_, rfl, ?_⟩) | ((with_reducible refine gate_builtin (b := .append) (xs := #[.tmp 19, .tmp 28]) rfl ?_); at_builtin; refine Kd.R_append Kd.bool (w0 := w) w.heap.size rfl (.tmp 19) (.tmp 28) 27 4 (.bool false) 1 rfl Try.underlying27 info4 rfl (by decide) (by omega) u5 x5_1 t335 [.bool t335] (fun _ => True) (fun _ => False) rfl rfl ?aP (fun _ hk => hk.elim) ?aF ?aO ?aB ?aS ?aL ?_; (case aP => exact rfl); (case aB => exact (ZB)); (case aF => exact (fun _ _ => trivial)); (case aO => exact (ZR HO_5.out)); (case aS => exact (below_size (ZB))); (case aL => have := LMc11.out; omega); intro v337 w15 ho hb hg hat; rw [← Ny336.out] at ho; have n0_ := AM (blk_grown (g := gb329) (o := .cells #[.slice (some ad334) l0_0.length c0_0, .slice A0_1 l0_1.length c0_1] 32 (0, 0)) (ZK BK329.out) hg (Kd.R_ne HO_5.out BK329.out (by decide))); have n1_ := AM (hb); have n2_ := AM (ho); clear BK329 HB HO_5; have BK329 := n0_; have HB := n1_; have HO338 := n2_; clear n0_ n1_ n2_ ho hb hg hat))
  go_roundg k1
  case measure => have := HK1.out; omega
  case rel => exact ⟨(y336), (wrap64 (x6_1 + 1)), (by first | rfl | (simp; done) | (simp [*]; done)), H', ⟨by have := HK1.out; omega⟩, ⟨ZR HO338.out⟩, ⟨ZK BK329.out⟩, ⟨ZB⟩⟩)
  ·(
  rw [if_neg c11] at H
  exact absurd H (by simp)))
  ·(
  rw [if_neg c9] at H
  exact absurd H (by simp)))
  ·(
  replace c8 := Bool.eq_false_iff.mpr c8
  subst c8
  have H1 := H; rw [if_neg ZFT] at H1
  clear H
  have H := H1
  clear H1
  obtain rfl := Option.some.inj H
  have hcz16 := ZC2 wr BK329
  have hfz16 := ZF2 BK329
  go_wp2_with (first | (go_at_call 36; (with_reducible refine (spec_ProgOk.calls k1 _ _ l0_0 _ _ l0_1 false _ ?side1 ?side2 ?side3 ?side4 A7.out).mono ?_); (case side1 => exact ZQ (Kd.C_below HR0_0.out HB.out)); (case side2 => exact HC0_0.out); (case side3 => exact ZQ (Kd.C_below HR0_1.out HB.out)); (case side4 => exact HC0_1.out); rintro e w17 ⟨rfl, hb⟩; replace HO_5 := AM (Kd.R_below (ZR HO_5.out) hb); replace BK329 := ZW BK329 hb; replace HB := ZT HB hb; clear hb))
  go_ret
  exact ⟨_, ZE, by (with_reducible repeat (first | apply Kd.R_alloc | apply Kd.R_drewN | apply Kd.R_drew)); exact HO_5.out, ZB⟩))
  ·(
  rw [if_neg c6] at H
  have c6b0 := decide_eq_false c6
  clear c6
  obtain rfl := Option.some.inj H
  have hcz18 := ZC2 wr BK329
  have hfz18 := ZF2 BK329
  go_wp2
  go_ret
  exact ⟨_, ZE, by (with_reducible repeat (first | apply Kd.R_alloc | apply Kd.R_drewN | apply Kd.R_drew)); exact HO_5.out, ZB⟩))

/-! ### impl_TypeTrusts_1: function 44 -/
def impl_TypeTrusts_1.f (a0_0 : Int) (a0_1 : Int) : Option (Int) := some a0_1
theorem impl_TypeTrusts_1.calls (a0_0 : Int) (a0_1 : Int) (r : Int) (w : World) (h : impl_TypeTrusts_1.f a0_0 a0_1 = some r) :
  Calls Try.prog 44 #[.agg #[.int .i64 a0_0, .int .i64 a0_1]] w fun e w' => e = .returned (.int .i64 r) ∧ Below w.heap.size w w' := by
 have hu60 := Try.underlying60
 have HB := AM (Below.refl w.heap.size w)
 have H := h
 unfold impl_TypeTrusts_1.f at H
 clear h
 obtain rfl := Option.some.inj H
 go_enter Try.func44, Try.ntmps44
 go_wp2_with (first | ((with_reducible refine gate_dst (N := 1) rfl ?_); refine ZX (N := 1) (cs := #[.int .i64 a0_0, .int .i64 a0_1]) (t := 60) ?_; intro gb339 hg w2 hbox hb; have BK339 := AM (hbox); have GW339 : Aside0 (w.heap.size ≤ gb339) := ZS hg; have GE339 : Aside0 (w.heap.size ≤ gb339) := ZS hg; replace HB := ZT HB hb; clear hb hbox hg; have hcz3 := ZC2 w2 BK339; have hfz3 := ZF2 BK339))
 go_ret
 exact ⟨ZE, ZB⟩

/-! ### impl_Prog_each_44: function 40 -/
def impl_Prog_each_44.l0 : Nat → Int → List Bool → List (S60) → Int → Int → Option (List Bool)
 | 0, _, _, _, _, _ => none
 | k + 1, x1, x7, x14, x15, x16 => if x16 < x15 then (if 0 ≤ x16 then (if x16 < (x14.length : Int) then ((impl_TypeTrusts_1.f ((rd_T60 x14 x16).f0) ((rd_T60 x14 x16).f1)).bind fun t344 => ((impl_has.f t344 x1).bind fun t345 => (if x7.length < 140737488355328 then (impl_Prog_each_44.l0 k x1 (x7 ++ [t345]) x14 x15 (wrap64 (x16 + 1))) else (none)))) else (none)) else (none)) else (some x7)
def impl_Prog_each_44.f (k : Nat) (l0_0 : List (S60)) (l0_1 : List (S50)) (a1 : Int)  : Option (List Bool) := (impl_ProgOk.f k l0_0 l0_1).bind fun t341 => (if t341 = true then (impl_Prog_each_44.l0 k a1 ([] : List Bool) l0_0 (l0_0.length : Int) 0) else (some ([] : List Bool)))
theorem impl_Prog_each_44.calls (k : Nat) (A0_0 : Option Addr) (c0_0 : Nat) (l0_0 : List (S60)) (A0_1 : Option Addr) (c0_1 : Nat) (l0_1 : List (S50)) (a1 : Int)  (r : List Bool) (w : World) (hr0_0 : Kd.C k60 w A0_0 l0_0.length l0_0) (hc0_0 : l0_0.length ≤ c0_0) (hr0_1 : Kd.C k50 w A0_1 l0_1.length l0_1) (hc0_1 : l0_1.length ≤ c0_1) (h : impl_Prog_each_44.f k l0_0 l0_1 a1 = some r) :
  Calls Try.prog 40 #[.agg #[.slice A0_0 l0_0.length c0_0, .slice A0_1 l0_1.length c0_1], .int .i64 a1, .func (.func 44) #[] #[]] w fun e w' => ∃ v0_ : Value, e = .returned (v0_) ∧ Kd.R Kd.bool 4 w' w.heap.size (fun _ => True) v0_ r ∧ Below w.heap.size w w' := by
 have hu32 := Try.underlying32
 have hu60 := Try.underlying60
 have HR0_0 := AM hr0_0
 have HC0_0 := AM hc0_0
 clear hr0_0 hc0_0
 have HR0_1 := AM hr0_1
 have HC0_1 := AM hc0_1
 clear hr0_1 hc0_1
 have HB := AM (Below.refl w.heap.size w)
 have H := h
 unfold impl_Prog_each_44.f at H
 clear h
 obtain ⟨t341, A4, H⟩ := ZOB H; try dsimp only at H
 by_cases c5 : t341 = true
 ·(
 subst c5
 have H1 := H; rw [if_pos rfl] at H1
 clear H
 have H := H1
 clear H1
 have H' := AM H
 clear H
 go_enter Try.func40, Try.ntmps40
 go_wp2_with (first | ((with_reducible refine gate_dst (N := 3) rfl ?_); refine ZX (N := 3) (cs := #[.slice A0_0 l0_0.length c0_0, .slice A0_1 l0_1.length c0_1]) (t := 32) ?_; intro gb340 hg w6 hbox hb; have BK340 := AM (hbox); have GW340 : Aside0 (w.heap.size ≤ gb340) := ZS hg; have GE340 : Aside0 (w.heap.size ≤ gb340) := ZS hg; replace HB := ZT HB hb; clear hb hbox hg; have hcz7 := ZC2 w6 BK340; have hfz7 := ZF2 BK340) | ((with_reducible refine gate_callee (f := 47) rfl ?_); refine ZGL (some 11) Try.func47 #[.agg #[.slice A0_0 l0_0.length c0_0, .slice A0_1 l0_1.length c0_1]] ?_; (with_reducible refine (impl_ProgOk.calls k _ _ l0_0 _ _ l0_1 true _ ?side1 ?side2 ?side3 ?side4 A4.out).mono ?_); (case side1 => exact ZQ (Kd.C_below HR0_0.out HB.out)); (case side2 => exact HC0_0.out); (case side3 => exact ZQ (Kd.C_below HR0_1.out HB.out)); (case side4 => exact HC0_1.out); rintro e w8 ⟨rfl, hb⟩; refine ⟨_, rfl, ?_⟩; replace BK340 := ZW BK340 hb; replace HB := ZT HB hb; clear hb; have hcz9 := ZC2 w8 BK340; have hfz9 := ZF2 BK340))
 go_loopg [7, 16] k (fun kq v7 v16 w' => ∃ (x7_1 : List Bool) (x16_1 : Int), v16 = .int .i64 x16_1 ∧ Aside0 (impl_Prog_each_44.l0 kq a1 x7_1 l0_0 (l0_0.length : Int) x16_1 = some r) ∧ Aside0 (kq ≤ k) ∧ Aside0 (Kd.R Kd.bool 4 w' w.heap.size (fun _ => True) v7 x7_1) ∧ Aside0 (w'.heap[gb340]? = some (.cells #[(.slice A0_0 l0_0.length c0_0), (.slice A0_1 l0_1.length c0_1)] 32 (0, 0))) ∧ Aside0 (Below w.heap.size w w'))
 case atStart => exact ⟨(([] : List Bool)), (0), (by first | rfl | (simp; done) | (simp [*]; done)), H', ⟨Nat.le_refl _⟩, ⟨by first | exact Kd.R_nil _ _ _ _ _ | exact Kd.N_nil _ _ _ _ _ | exact Kd.V_nil _ _ _ _ _ | exact Kd.Q_nil _ _ _ _ _ | exact Kd.S_nil _ _ _ _ _⟩, ⟨ZK BK340.out⟩, ⟨ZB⟩⟩
 case round => (
 clear H'
 try clear p2
 try clear c4
 try clear c5
 try clear hcz7
 try clear hcz9
 try clear hfz7
 try clear hfz9
 obtain ⟨x7_1, x16_1, rfl, HA, HK1, HO_7, BK340, HB⟩ := hrel
 cases gk with
 | zero => exact absurd HA.out (by simp [impl_Prog_each_44.l0])
 | succ k1 =>
  have H := HA.out
  clear HA
  simp only [impl_Prog_each_44.l0] at H
  by_cases c10 : x16_1 < (l0_0.length : Int)
  ·(
  rw [if_pos c10] at H
  have c10b0 := decide_eq_true c10
  clear c10
  by_cases c11 : 0 ≤ x16_1
  ·(
  rw [if_pos c11] at H
  have c11b0 := decide_eq_true c11
  clear c11
  by_cases c12 : x16_1 < (l0_0.length : Int)
  ·(
  rw [if_pos c12] at H
  have c12b0 := decide_eq_true c12
  clear c12
  obtain ⟨t344, A13, H⟩ := ZOB H; try dsimp only at H
  obtain ⟨t345, A14, H⟩ := ZOB H; try dsimp only at H
  by_cases c15 : x7_1.length < 140737488355328
  ·(
  rw [if_pos c15] at H
  have LMc15 := AM c15
  clear c15
  obtain ⟨y346, hy346⟩ : ∃ y_ : List Bool, y_ = (x7_1 ++ [t345]) := ⟨_, rfl⟩
  replace H : (impl_Prog_each_44.l0 k1 a1 y346 l0_0 (l0_0.length : Int) (wrap64 (x16_1 + 1))) = some r := by first | (rw [hy346]; with_reducible exact H) | (have H2_ := (Option.bind_some _ _).symm.trans H; rw [hy346]; with_reducible exact H2_) | (have H2_ := (Option.bind_some _ _).symm.trans H; with_reducible exact H2_) | with_reducible exact H | (rw [hy346]; exact H) | exact H
  have Ny346 := AM hy346
  clear hy346
  have H' := AM H
  clear H
  have p342 : 0 ≤ (x16_1 : Int) := ZD
  have q342 : x16_1 < (l0_0.length : Int) := ZD
  obtain ⟨ad342, e342, hx342_0, hx342_1⟩ := at_T60 HR0_0.out x16_1 p342 q342
  cases e342
  replace hx342_0 := ZHX HB hx342_0
  replace hx342_1 := ZHX HB hx342_1
  replace p342 := eq_true p342
  replace q342 := eq_true q342
  go_wp2_with (first | ((with_reducible refine gate_dst (N := 9) rfl ?_); refine ZX (N := 9) (cs := #[.int .i64 0, .int .i64 0]) (t := 60) ?_; intro gb343 hg w16 hbox hb; have BK343 := AM (hbox); have GW343 : Aside0 (w.heap.size ≤ gb343) := ZS hg; have GE343 : Aside0 (w.heap.size ≤ gb343) := ZS hg; have NB340_343 : Aside0 (gb340 ≠ gb343) := ZN hg BK340; have NB343_340 : Aside0 (gb343 ≠ gb340) := ZM hg BK340; replace HO_7 := AM (Kd.R_below (ZR HO_7.out) hb); replace BK340 := ZW BK340 hb; replace HB := ZT HB hb; clear hb hbox hg; have hnb17 := NB343_340.out; have hnc17 := NB340_343.out; have hcz18 := ZC2 w16 BK343; have hfz18 := ZF2 BK343) | ((with_reducible refine gate_calleev ⟨_, _, _, rfl⟩ ?_); refine goesLv_ (some 23) rfl rfl Try.func44 (by kernel_rfl) rfl #[.agg #[.int .i64 ((rd_T60 l0_0 x16_1).f0), .int .i64 ((rd_T60 l0_0 x16_1).f1)]] ⟨_, _, rfl, rfl⟩ ZG ?_; (with_reducible refine (impl_TypeTrusts_1.calls ((rd_T60 l0_0 x16_1).f0) ((rd_T60 l0_0 x16_1).f1) t344 _ A13.out).mono ?_); rintro e w19 ⟨rfl, hb⟩; refine ⟨_, rfl, ?_⟩; replace HO_7 := AM (Kd.R_below (ZR ((Kd.R_mono (Kd.R_far (p := ⟨gb343, 1, none⟩) (Kd.R_far (p := ⟨gb343, 0, none⟩) (Kd.R_types HO_7.out BK343.out (by decide)) (fun _ hk => hk.2) (.int .i64 ((rd_T60 l0_0 x16_1).f0))) (fun _ hk => hk.2) (.int .i64 ((rd_T60 l0_0 x16_1).f1))) (fun _ h_ => h_.1)))) hb); replace BK340 := ZV #[.slice (some ad342) l0_0.length c0_0, .slice A0_1 l0_1.length c0_1] BK340 hb; replace BK343 := ZV #[.int .i64 ((rd_T60 l0_0 x16_1).f0), .int .i64 ((rd_T60 l0_0 x16_1).f1)] BK343 hb; replace HB := ZT HB hb; clear hb) | ((with_reducible refine gate_callee (f := 67) rfl ?_); refine ZGL (some 25) Try.func67 #[.int .i64 t344, .int .i64 a1] ?_; (with_reducible refine (impl_has.calls t344 a1 t345 _ A14.out).mono ?_); rintro e w' ⟨rfl, ⟨nd, rfl⟩⟩; refine ⟨_, rfl, ?_⟩) | ((with_reducible refine gate_builtin (b := .append) (xs := #[.tmp 20, .tmp 26]) rfl ?_); at_builtin; refine Kd.R_append Kd.bool (w0 := w) w.heap.size rfl (.tmp 20) (.tmp 26) 27 4 (.bool false) 1 rfl Try.underlying27 info4 rfl (by decide) (by omega) u7 x7_1 t345 [.bool t345] (fun _ => True) (fun _ => False) rfl rfl ?aP (fun _ hk => hk.elim) ?aF ?aO ?aB ?aS ?aL ?_; (case aP => exact rfl); (case aB => exact (ZB)); (case aF => exact (fun _ _ => trivial)); (case aO => exact (ZR HO_7.out)); (case aS => exact (below_size (ZB))); (case aL => have := LMc15.out; omega); intro v347 w20 ho hb hg hat; rw [← Ny346.out] at ho; have n0_ := AM (blk_grown (g := gb340) (o := .cells #[.slice (some ad342) l0_0.length c0_0, .slice A0_1 l0_1.length c0_1] 32 (0, 0)) (ZK BK340.out) hg (Kd.R_ne HO_7.out BK340.out (by decide))); have n1_ := AM (blk_grown (g := gb343) (o := .cells #[.int .i64 ((rd_T60 l0_0 x16_1).f0), .int .i64 ((rd_T60 l0_0 x16_1).f1)] 60 (0, 0)) (ZK BK343.out) hg (Kd.R_ne HO_7.out BK343.out (by decide))); have n2_ := AM (hb); have n3_ := AM (ho); clear BK340 BK343 HB HO_7; have BK340 := n0_; have BK343 := n1_; have HB := n2_; have HO348 := n3_; clear n0_ n1_ n2_ n3_ ho hb hg hat))
  go_roundg k1
  case measure => have := HK1.out; omega
  case rel => exact ⟨(y346), (wrap64 (x16_1 + 1)), (by first | rfl | (simp; done) | (simp [*]; done)), H', ⟨by have := HK1.out; omega⟩, ⟨ZR HO348.out⟩, ⟨ZK BK340.out⟩, ⟨ZB⟩⟩)
  ·(
  rw [if_neg c15] at H
  exact absurd H (by simp)))
  ·(
  rw [if_neg c12] at H
  exact absurd H (by simp)))
  ·(
  rw [if_neg c11] at H
  exact absurd H (by simp)))
  ·(
  rw [if_neg c10] at H
  have c10b0 := decide_eq_false c10
  clear c10
  obtain rfl := Option.some.inj H
  go_wp2
  go_ret
  exact ⟨_, ZE, by (with_reducible repeat (first | apply Kd.R_alloc | apply Kd.R_drewN | apply Kd.R_drew)); exact HO_7.out, ZB⟩)))
 ·(
 replace c5 := Bool.eq_false_iff.mpr c5
 subst c5
 have H1 := H; rw [if_neg ZFT] at H1
 clear H
 have H := H1
 clear H1
 obtain rfl := Option.some.inj H
 go_enter Try.func40, Try.ntmps40
 go_wp2_with (first | ((with_reducible refine gate_dst (N := 3) rfl ?_); refine ZX (N := 3) (cs := #[.slice A0_0 l0_0.length c0_0, .slice A0_1 l0_1.length c0_1]) (t := 32) ?_; intro gb340 hg w21 hbox hb; have BK340 := AM (hbox); have GW340 : Aside0 (w.heap.size ≤ gb340) := ZS hg; have GE340 : Aside0 (w.heap.size ≤ gb340) := ZS hg; replace HB := ZT HB hb; clear hb hbox hg; have hcz22 := ZC2 w21 BK340; have hfz22 := ZF2 BK340) | ((with_reducible refine gate_callee (f := 47) rfl ?_); refine ZGL (some 11) Try.func47 #[.agg #[.slice A0_0 l0_0.length c0_0, .slice A0_1 l0_1.length c0_1]] ?_; (with_reducible refine (impl_ProgOk.calls k _ _ l0_0 _ _ l0_1 false _ ?side1 ?side2 ?side3 ?side4 A4.out).mono ?_); (case side1 => exact ZQ (Kd.C_below HR0_0.out HB.out)); (case side2 => exact HC0_0.out); (case side3 => exact ZQ (Kd.C_below HR0_1.out HB.out)); (case side4 => exact HC0_1.out); rintro e w23 ⟨rfl, hb⟩; refine ⟨_, rfl, ?_⟩; replace BK340 := ZW BK340 hb; replace HB := ZT HB hb; clear hb))
 go_ret
 exact ⟨_, ZE, by first | exact Kd.R_nil _ _ _ _ _ | exact Kd.N_nil _ _ _ _ _ | exact Kd.V_nil _ _ _ _ _ | exact Kd.Q_nil _ _ _ _ _ | exact Kd.S_nil _ _ _ _ _, ZB⟩)

/-! ### impl_TypeTrusts: function 18 -/
def impl_TypeTrusts.f (k : Nat) (l0_0 : List (S60)) (l0_1 : List (S50)) (a1 : Int) : Option (List Bool) := (impl_Prog_each_44.f k l0_0 l0_1 a1).bind fun t350 => (some t350)
theorem impl_TypeTrusts.calls (k : Nat) (A0_0 : Option Addr) (c0_0 : Nat) (l0_0 : List (S60)) (A0_1 : Option Addr) (c0_1 : Nat) (l0_1 : List (S50)) (a1 : Int) (r : List Bool) (w : World) (hr0_0 : Kd.C k60 w A0_0 l0_0.length l0_0) (hc0_0 : l0_0.length ≤ c0_0) (hr0_1 : Kd.C k50 w A0_1 l0_1.length l0_1) (hc0_1 : l0_1.length ≤ c0_1) (h : impl_TypeTrusts.f k l0_0 l0_1 a1 = some r) :
  Calls Try.prog 18 #[.agg #[.slice A0_0 l0_0.length c0_0, .slice A0_1 l0_1.length c0_1], .int .i64 a1] w fun e w' => ∃ v0_ : Value, e = .returned (v0_) ∧ Kd.R Kd.bool 4 w' w.heap.size (fun _ => True) v0_ r ∧ Below w.heap.size w w' := by
 have hu32 := Try.underlying32
 have HR0_0 := AM hr0_0
 have HC0_0 := AM hc0_0
 clear hr0_0 hc0_0
 have HR0_1 := AM hr0_1
 have HC0_1 := AM hc0_1
 clear hr0_1 hc0_1
 have HB := AM (Below.refl w.heap.size w)
 have H := h
 unfold impl_TypeTrusts.f at H
 clear h
 obtain ⟨t350, A3, H⟩ := ZOB H; try dsimp only at H
 obtain rfl := Option.some.inj H
 go_enter Try.func18, Try.ntmps18
 go_wp2_with (first | ((with_reducible refine gate_dst (N := 2) rfl ?_); refine ZX (N := 2) (cs := #[.slice A0_0 l0_0.length c0_0, .slice A0_1 l0_1.length c0_1]) (t := 32) ?_; intro gb349 hg w4 hbox hb; have BK349 := AM (hbox); have GW349 : Aside0 (w.heap.size ≤ gb349) := ZS hg; have GE349 : Aside0 (w.heap.size ≤ gb349) := ZS hg; replace HB := ZT HB hb; clear hb hbox hg; have hcz5 := ZC2 w4 BK349; have hfz5 := ZF2 BK349) | ((with_reducible refine gate_callee (f := 40) rfl ?_); refine ZGL (some 7) Try.func40 #[.agg #[.slice A0_0 l0_0.length c0_0, .slice A0_1 l0_1.length c0_1], .int .i64 a1, .func (.func 44) #[] #[]] ?_; (with_reducible refine (impl_Prog_each_44.calls k _ _ l0_0 _ _ l0_1 a1  t350 _ ?side1 ?side2 ?side3 ?side4 A3.out).mono ?_); (case side1 => exact ZQ (Kd.C_below HR0_0.out HB.out)); (case side2 => exact HC0_0.out); (case side3 => exact ZQ (Kd.C_below HR0_1.out HB.out)); (case side4 => exact HC0_1.out); rintro e w6 ⟨v351, rfl, ho0, hb⟩; refine ⟨_, rfl, ?_⟩; have HO352 := AM (Kd.R_lower ho0 (below_size (ZB))); replace BK349 := ZW BK349 hb; replace HB := ZT HB hb; clear hb; (try clear ho0)))
 go_ret
 exact ⟨_, ZE, by (with_reducible repeat (first | apply Kd.R_alloc | apply Kd.R_drewN | apply Kd.R_drew)); exact HO352.out, ZB⟩

end Go.Proofs.Ytaflodibibbakaa.A
