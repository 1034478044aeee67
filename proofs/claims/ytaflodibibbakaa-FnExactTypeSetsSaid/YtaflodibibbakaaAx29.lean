/- Go functions as Lean functions, and for each its contract; written by wip/tools/pr.py over the kit's print. -/
import Derived.Test.YtaflodibibbakaaAx0
import Derived.Test.YtaflodibibbakaaAx10
import Derived.Test.YtaflodibibbakaaAx27
import Derived.Test.YtaflodibibbakaaAx28
namespace Go.Proofs.Ytaflodibibbakaa.A
open Go.RowKit Go.Proofs.YtaflodibibbakaaW.PrintWords Go.Proofs.YtaflodibibbakaaW.PrintLast Go.Proofs.YtaflodibibbakaaW.PrintMore
attribute [local go_sem] max2_int min2_int max_two min_two max_three min_three max_four min_four
set_option linter.unusedVariables false
set_option linter.unusedSimpArgs false
set_option maxHeartbeats 8000000
set_option maxRecDepth 100000

/-! ### impl_TypeSets: function 25 -/
def impl_TypeSets.l0 : Nat → List Int → List (S50) → Int → Int → List (S60) → List (S50) → Option (List Int)
 | 0, _, _, _, _, _, _ => none
 | k + 1, x3, x11, x12, x13, x596000, x596001 => if x13 < x12 then (if 0 ≤ x13 then (if x13 < (x11.length : Int) then ((impl_Prog_sets.f k x596000 x596001 (([(⟨(rd_T50 x11 x13).f0, (rd_T50 x11 x13).f1, (⟨(rd_T50 x11 x13).f2.f0, (rd_T50 x11 x13).f2.f1, (rd_T50 x11 x13).f2.f2⟩ : S48), (rd_T50 x11 x13).f3, (rd_T50 x11 x13).f4, (rd_T50 x11 x13).f5⟩ : S50)] : List (S50)))).bind fun t605 => (if x3.length < 17592186044416 then (impl_TypeSets.l0 k (x3 ++ [t605]) x11 x12 (wrap64 (x13 + 1)) x596000 x596001) else (none))) else (none)) else (none)) else (some x3)
def impl_TypeSets.f (k : Nat) (l0_0 : List (S60)) (l0_1 : List (S50)) : Option (List Int) := (impl_ProgOk.f k l0_0 l0_1).bind fun t596 => (if t596 = true then ((impl_all.f k l0_1).bind fun t597 => (impl_TypeSets.l0 k ([] : List Int) t597 (t597.length : Int) 0 l0_0 l0_1)) else (some ([] : List Int)))
theorem impl_TypeSets.calls (k : Nat) (A0_0 : Option Addr) (c0_0 : Nat) (l0_0 : List (S60)) (A0_1 : Option Addr) (c0_1 : Nat) (l0_1 : List (S50)) (r : List Int) (w : World) (hr0_0 : Kd.C k60 w A0_0 l0_0.length l0_0) (hc0_0 : l0_0.length ≤ c0_0) (hr0_1 : Kd.C k50 w A0_1 l0_1.length l0_1) (hc0_1 : l0_1.length ≤ c0_1) (h : impl_TypeSets.f k l0_0 l0_1 = some r) :
  Calls Try.prog 25 #[.agg #[.slice A0_0 l0_0.length c0_0, .slice A0_1 l0_1.length c0_1]] w fun e w' => ∃ v0_ : Value, e = .returned (v0_) ∧ Kd.R (Kd.int .i64) 3 w' w.heap.size (fun _ => True) v0_ r ∧ Below w.heap.size w w' := by
 have hu32 := Try.underlying32
 have hu50 := Try.underlying50
 have HR0_0 := AM hr0_0
 have HC0_0 := AM hc0_0
 clear hr0_0 hc0_0
 have HR0_1 := AM hr0_1
 have HC0_1 := AM hc0_1
 clear hr0_1 hc0_1
 have HB := AM (Below.refl w.heap.size w)
 have H := h
 unfold impl_TypeSets.f at H
 clear h
 obtain ⟨t596, A2, H⟩ := ZOB H; try dsimp only at H
 by_cases c3 : t596 = true
 ·(
 subst c3
 have H1 := H; rw [if_pos rfl] at H1
 clear H
 have H := H1
 clear H1
 obtain ⟨t597, A4, H⟩ := ZOB H; try dsimp only at H
 have H' := AM H
 clear H
 go_enter Try.func25, Try.ntmps25
 go_wp2_with (first | ((with_reducible refine gate_dst (N := 1) rfl ?_); refine ZX (N := 1) (cs := #[.slice A0_0 l0_0.length c0_0, .slice A0_1 l0_1.length c0_1]) (t := 32) ?_; intro gb595 hg w5 hbox hb; have BK595 := AM (hbox); have GW595 : Aside0 (w.heap.size ≤ gb595) := ZS hg; have GE595 : Aside0 (w.heap.size ≤ gb595) := ZS hg; replace HB := ZT HB hb; clear hb hbox hg; have hcz6 := ZC2 w5 BK595; have hfz6 := ZF2 BK595) | ((with_reducible refine gate_callee (f := 47) rfl ?_); refine ZGL (some 7) Try.func47 #[.agg #[.slice A0_0 l0_0.length c0_0, .slice A0_1 l0_1.length c0_1]] ?_; (with_reducible refine (impl_ProgOk.calls k _ _ l0_0 _ _ l0_1 true _ ?side1 ?side2 ?side3 ?side4 A2.out).mono ?_); (case side1 => exact ZQ (Kd.C_below HR0_0.out HB.out)); (case side2 => exact HC0_0.out); (case side3 => exact ZQ (Kd.C_below HR0_1.out HB.out)); (case side4 => exact HC0_1.out); rintro e w7 ⟨rfl, hb⟩; refine ⟨_, rfl, ?_⟩; replace BK595 := ZW BK595 hb; replace HB := ZT HB hb; clear hb; have hcz8 := ZC2 w7 BK595; have hfz8 := ZF2 BK595) | ((with_reducible refine gate_callee (f := 52) rfl ?_); refine ZGL (some 11) Try.func52 #[.slice A0_1 l0_1.length c0_1] ?_; (with_reducible refine (impl_all.calls k (fun k_ => k_ < w.heap.size) _ _ l0_1 t597 _ ?side1 A4.out).mono ?_); (case side1 => exact Kd.V_mk HC0_1.out (Kd.F_below (Kd.C_F k50_heap HR0_1.out) (ZB))); rintro e w9 ⟨v598, rfl, ho0, hb⟩; refine ⟨_, rfl, ?_⟩; have HO599 := AM (Kd.N_lower (Kd.N_mono (ok' := fun k_ => k_ ≠ gb595) ho0 (fun k_ hk_ => Or.elim hk_ (fun hs_ => fun e_ => Nat.not_le.2 hs_ (by rw [e_]; exact GW595.out)) (fun hn_ => (Kd.freshB (g := gb595) (o := .cells #[.slice A0_0 l0_0.length c0_0, .slice A0_1 l0_1.length c0_1] 32 (0, 0)) (ZK BK595.out) k_ hn_)))) (below_size (ZB))); replace BK595 := ZW BK595 hb; replace HB := ZT HB hb; clear hb; (try clear ho0); obtain ⟨Ao10, co10, eo10⟩ := Kd.N_slice HO599.out; subst eo10))
 go_loopg [3, 13] k (fun kq v3 v13 w' => ∃ (x3_1 : List Int) (x13_1 : Int), v13 = .int .i64 x13_1 ∧ Aside0 (impl_TypeSets.l0 kq x3_1 t597 (t597.length : Int) x13_1 l0_0 l0_1 = some r) ∧ Aside0 (kq ≤ k) ∧ Aside0 (Kd.R (Kd.int .i64) 3 w' w.heap.size (fun _ => True) v3 x3_1) ∧ Aside0 (Kd.N k50 50 w' w.heap.size (fun k_ => some k_ ≠ (v3 : Value).ownBlock ∧ k_ ≠ gb595) (.slice Ao10 t597.length co10) t597) ∧ Aside0 (w'.heap[gb595]? = some (.cells #[(.slice A0_0 l0_0.length c0_0), (.slice A0_1 l0_1.length c0_1)] 32 (0, 0))) ∧ Aside0 (Below w.heap.size w w'))
 case atStart => exact ⟨(([] : List Int)), (0), (by first | rfl | (simp; done) | (simp [*]; done)), H', ⟨Nat.le_refl _⟩, ⟨by first | exact Kd.R_nil _ _ _ _ _ | exact Kd.N_nil _ _ _ _ _ | exact Kd.V_nil _ _ _ _ _ | exact Kd.Q_nil _ _ _ _ _ | exact Kd.S_nil _ _ _ _ _⟩, ⟨by (with_reducible repeat (first | apply Kd.N_alloc | apply Kd.N_drewN | apply Kd.N_drew)); exact Kd.N_mono HO599.out (fun _ hk => ⟨(by simp [Value.ownBlock]), hk⟩)⟩, ⟨ZK BK595.out⟩, ⟨ZB⟩⟩
 case round => (
 clear H'
 try clear c2
 try clear p2
 try clear c3
 try clear c4
 try clear c5
 try clear hcz6
 try clear hcz8
 try clear hfz6
 try clear hfz8
 obtain ⟨x3_1, x13_1, rfl, HA, HK1, HO_3, HO_11, BK595, HB⟩ := hrel
 cases gk with
 | zero => exact absurd HA.out (by simp [impl_TypeSets.l0])
 | succ k1 =>
  have H := HA.out
  clear HA
  simp only [impl_TypeSets.l0] at H
  by_cases c11 : x13_1 < (t597.length : Int)
  ·(
  rw [if_pos c11] at H
  have c11b0 := decide_eq_true c11
  clear c11
  by_cases c12 : 0 ≤ x13_1
  ·(
  rw [if_pos c12] at H
  have c12b0 := decide_eq_true c12
  clear c12
  by_cases c13 : x13_1 < (t597.length : Int)
  ·(
  rw [if_pos c13] at H
  have c13b0 := decide_eq_true c13
  clear c13
  obtain ⟨y602, hy602⟩ : ∃ y_ : List (S50), y_ = (([(⟨(rd_T50 t597 x13_1).f0, (rd_T50 t597 x13_1).f1, (⟨(rd_T50 t597 x13_1).f2.f0, (rd_T50 t597 x13_1).f2.f1, (rd_T50 t597 x13_1).f2.f2⟩ : S48), (rd_T50 t597 x13_1).f3, (rd_T50 t597 x13_1).f4, (rd_T50 t597 x13_1).f5⟩ : S50)] : List (S50))) := ⟨_, rfl⟩
  replace H : ((impl_Prog_sets.f k1 l0_0 l0_1 y602).bind fun t605 => (if x3_1.length < 17592186044416 then (impl_TypeSets.l0 k1 (x3_1 ++ [t605]) t597 (t597.length : Int) (wrap64 (x13_1 + 1)) l0_0 l0_1) else (none))) = some r := by first | (rw [hy602]; with_reducible exact H) | (have H2_ := (Option.bind_some _ _).symm.trans H; rw [hy602]; with_reducible exact H2_) | (have H2_ := (Option.bind_some _ _).symm.trans H; with_reducible exact H2_) | with_reducible exact H | (rw [hy602]; exact H) | exact H
  have Ny602 := AM hy602
  clear hy602
  obtain ⟨t605, A14, H⟩ := ZOB H; try dsimp only at H
  by_cases c15 : x3_1.length < 17592186044416
  ·(
  rw [if_pos c15] at H
  have LMc15 := AM c15
  clear c15
  obtain ⟨y606, hy606⟩ : ∃ y_ : List Int, y_ = (x3_1 ++ [t605]) := ⟨_, rfl⟩
  replace H : (impl_TypeSets.l0 k1 y606 t597 (t597.length : Int) (wrap64 (x13_1 + 1)) l0_0 l0_1) = some r := by first | (rw [hy606]; with_reducible exact H) | (have H2_ := (Option.bind_some _ _).symm.trans H; rw [hy606]; with_reducible exact H2_) | (have H2_ := (Option.bind_some _ _).symm.trans H; with_reducible exact H2_) | with_reducible exact H | (rw [hy606]; exact H) | exact H
  have Ny606 := AM hy606
  clear hy606
  have H' := AM H
  clear H
  have p600 : 0 ≤ (x13_1 : Int) := ZD
  have q600 : x13_1 < (t597.length : Int) := ZD
  obtain ⟨ad600, A600_6, c600_6, A600_7, c600_7, e600, hx600_0, hx600_1, hx600_2, hx600_3, hx600_4, hx600_5, hx600_6, hx600_7, hl600_6, hi600_6, hl600_7, hi600_7⟩ := at_T50 (Kd.N_reads' HO_11.out).2.2 x13_1 p600 q600
  cases e600
  obtain ⟨ce600, hce600, hMe600, hcc600⟩ := Kd.N_get HO_11.out z50 x13_1 p600 (by first | exact q600 | exact ZD | (have e_ := (Kd.N_reads' HO_11.out).1; omega))
  obtain ⟨ua600_6, uc600_6, ua600_7, uc600_7, rfl, ul600_6, ge600_6, ul600_7, ge600_7⟩ := k50_openF hMe600
  have hv600_6 := hcc600 6 _ rfl
  rw [add_field _ _ 6 (by omega)] at hv600_6
  replace hv600_6 := Option.some.inj (hv600_6.symm.trans hx600_6)
  injection hv600_6 with hva_ hvn_ hvc_
  rw [hva_] at ge600_6
  rw [hvc_] at ul600_6
  have HL600_6 := AM (show Kd.V k50 50 _ w.heap.size _ _ ((rd_T50 t597 x13_1).f4) from Kd.V_mk ul600_6 ge600_6)
  clear hva_ hvn_ hvc_ ge600_6 ul600_6
  have hv600_7 := hcc600 7 _ rfl
  rw [add_field _ _ 7 (by omega)] at hv600_7
  replace hv600_7 := Option.some.inj (hv600_7.symm.trans hx600_7)
  injection hv600_7 with hva_ hvn_ hvc_
  rw [hva_] at ge600_7
  rw [hvc_] at ul600_7
  have HL600_7 := AM (show Kd.V k50 50 _ w.heap.size _ _ ((rd_T50 t597 x13_1).f5) from Kd.V_mk ul600_7 ge600_7)
  clear hva_ hvn_ hvc_ ge600_7 ul600_7 hcc600 hce600
  have HR600_6 := AM hi600_6
  have HC600_6 := AM hl600_6
  clear hi600_6 hl600_6
  have HR600_7 := AM hi600_7
  have HC600_7 := AM hl600_7
  clear hi600_7 hl600_7
  replace p600 := eq_true p600
  replace q600 := eq_true q600
  go_wp2_with (first | ((with_reducible refine gate_dst (N := 5) rfl ?_); refine ZX (N := 5) (cs := #[.int .i64 0, .int .i64 0, .int .i64 0, .int .i64 0, .int .i64 0, .int .i64 0, .slice none 0 0, .slice none 0 0]) (t := 50) ?_; intro gb601 hg w16 hbox hb; have BK601 := AM (hbox); have GW601 : Aside0 (w.heap.size ≤ gb601) := ZS hg; have GE601 : Aside0 (w.heap.size ≤ gb601) := ZS hg; have NB595_601 : Aside0 (gb595 ≠ gb601) := ZN hg BK595; have NB601_595 : Aside0 (gb601 ≠ gb595) := ZM hg BK595; replace HO_3 := AM (Kd.R_below (ZR HO_3.out) hb); replace HO_11 := AM (Kd.N_below (Kd.N_elderB (ZRN HO_11.out) gb601 (Nat.le_of_eq hg.symm)) hb); replace HL600_6 := AM (Kd.V_below (Kd.V_elderB (ZRV HL600_6.out) gb601 (Nat.le_of_eq hg.symm)) hb); replace HL600_7 := AM (Kd.V_below (Kd.V_elderB (ZRV HL600_7.out) gb601 (Nat.le_of_eq hg.symm)) hb); replace BK595 := ZW BK595 hb; replace HR600_6 := AM (Kd.C_below (ZQ HR600_6.out) hb); replace HR600_7 := AM (Kd.C_below (ZQ HR600_7.out) hb); replace HB := ZT HB hb; clear hb hbox hg; have hnb17 := NB601_595.out; have hnc17 := NB595_601.out; have hcz18 := ZC8 w16 BK601; have hfz18 := ZF8 BK601) | ((with_reducible refine gate_store (t := 50) (p := 5) rfl ?_); refine store_event (t := 50) (p := 5) (v := ?vo_w19) (w1 := ((((((((w16.setCell ⟨gb601, 0, none⟩ (.int .i64 ((rd_T50 t597 x13_1).f0))).setCell ⟨gb601, 1, none⟩ (.int .i64 ((rd_T50 t597 x13_1).f1))).setCell ⟨gb601, 2, none⟩ (.int .i64 ((rd_T50 t597 x13_1).f2.f0))).setCell ⟨gb601, 3, none⟩ (.int .i64 ((rd_T50 t597 x13_1).f2.f1))).setCell ⟨gb601, 4, none⟩ (.int .i64 ((rd_T50 t597 x13_1).f2.f2))).setCell ⟨gb601, 5, none⟩ (.int .i64 ((rd_T50 t597 x13_1).f3))).setCell ⟨gb601, 6, none⟩ (.slice A600_6 ((rd_T50 t597 x13_1).f4).length c600_6)).setCell ⟨gb601, 7, none⟩ (.slice A600_7 ((rd_T50 t597 x13_1).f5).length c600_7))) ?hg ?ho ?hn ?hr ?_; (case ho => rfl); (case hg => rfl); (case hn => rfl); (case hr => first | (go_simp; done) | (go_simp; rfl)); intro w19 hw; have n0_ : Aside0 (Kd.R (Kd.int .i64) 3 w19 w.heap.size (fun _ => True) u3 x3_1) := ⟨(by rw [hw]; exact (ZR (Kd.R_mono (Kd.R_far (p := ⟨gb601, 7, none⟩) (Kd.R_far (p := ⟨gb601, 6, none⟩) (Kd.R_far (p := ⟨gb601, 5, none⟩) (Kd.R_far (p := ⟨gb601, 4, none⟩) (Kd.R_far (p := ⟨gb601, 3, none⟩) (Kd.R_far (p := ⟨gb601, 2, none⟩) (Kd.R_far (p := ⟨gb601, 1, none⟩) (Kd.R_far (p := ⟨gb601, 0, none⟩) (Kd.R_types HO_3.out BK601.out (by decide)) (fun _ hk => hk.2) (.int .i64 ((rd_T50 t597 x13_1).f0))) (fun _ hk => hk.2) (.int .i64 ((rd_T50 t597 x13_1).f1))) (fun _ hk => hk.2) (.int .i64 ((rd_T50 t597 x13_1).f2.f0))) (fun _ hk => hk.2) (.int .i64 ((rd_T50 t597 x13_1).f2.f1))) (fun _ hk => hk.2) (.int .i64 ((rd_T50 t597 x13_1).f2.f2))) (fun _ hk => hk.2) (.int .i64 ((rd_T50 t597 x13_1).f3))) (fun _ hk => hk.2) (.slice A600_6 ((rd_T50 t597 x13_1).f4).length c600_6)) (fun _ hk => hk.2) (.slice A600_7 ((rd_T50 t597 x13_1).f5).length c600_7)) (fun _ hk => trivial))))⟩; have n1_ : Aside0 (Kd.N k50 50 w19 w.heap.size (fun k_ => some k_ ≠ (u3 : Value).ownBlock ∧ k_ ≠ gb595 ∧ k_ ≠ gb601) (.slice (some ad600) t597.length co10) t597) := ⟨(by rw [hw]; exact (by (with_reducible repeat (first | apply Kd.N_alloc | apply Kd.N_drewN | apply Kd.N_drew)); exact Kd.N_mono (Kd.N_far (p := ⟨gb601, 7, none⟩) (Kd.N_far (p := ⟨gb601, 6, none⟩) (Kd.N_far (p := ⟨gb601, 5, none⟩) (Kd.N_far (p := ⟨gb601, 4, none⟩) (Kd.N_far (p := ⟨gb601, 3, none⟩) (Kd.N_far (p := ⟨gb601, 2, none⟩) (Kd.N_far (p := ⟨gb601, 1, none⟩) (Kd.N_far (p := ⟨gb601, 0, none⟩) (Kd.N_mono HO_11.out (fun k_ hk => (⟨hk, hk.2⟩ : _ ∧ k_ ≠ gb601))) (fun _ hk => hk.2) (.int .i64 ((rd_T50 t597 x13_1).f0))) (fun _ hk => hk.2) (.int .i64 ((rd_T50 t597 x13_1).f1))) (fun _ hk => hk.2) (.int .i64 ((rd_T50 t597 x13_1).f2.f0))) (fun _ hk => hk.2) (.int .i64 ((rd_T50 t597 x13_1).f2.f1))) (fun _ hk => hk.2) (.int .i64 ((rd_T50 t597 x13_1).f2.f2))) (fun _ hk => hk.2) (.int .i64 ((rd_T50 t597 x13_1).f3))) (fun _ hk => hk.2) (.slice A600_6 ((rd_T50 t597 x13_1).f4).length c600_6)) (fun _ hk => hk.2) (.slice A600_7 ((rd_T50 t597 x13_1).f5).length c600_7)) (fun _ hk => ⟨hk.1.1.1, ⟨hk.1.1.2, hk.1.2⟩⟩)))⟩; have n2_ : Aside0 (Kd.V k50 50 w19 w.heap.size (fun k_ => some k_ ≠ (u3 : Value).ownBlock ∧ some k_ ≠ (.slice (some ad600) t597.length co10 : Value).ownBlock ∧ k_ ≠ gb595 ∧ k_ ≠ gb601) (.slice A600_6 ((rd_T50 t597 x13_1).f4).length c600_6) ((rd_T50 t597 x13_1).f4)) := ⟨(by rw [hw]; exact (by (with_reducible repeat (first | apply Kd.V_alloc | apply Kd.V_drewN | apply Kd.V_drew)); exact Kd.V_mono (Kd.V_far (p := ⟨gb601, 7, none⟩) (Kd.V_far (p := ⟨gb601, 6, none⟩) (Kd.V_far (p := ⟨gb601, 5, none⟩) (Kd.V_far (p := ⟨gb601, 4, none⟩) (Kd.V_far (p := ⟨gb601, 3, none⟩) (Kd.V_far (p := ⟨gb601, 2, none⟩) (Kd.V_far (p := ⟨gb601, 1, none⟩) (Kd.V_far (p := ⟨gb601, 0, none⟩) (Kd.V_mono HL600_6.out (fun k_ hk => (⟨hk, hk.2⟩ : _ ∧ k_ ≠ gb601))) (fun _ hk => hk.2) (.int .i64 ((rd_T50 t597 x13_1).f0))) (fun _ hk => hk.2) (.int .i64 ((rd_T50 t597 x13_1).f1))) (fun _ hk => hk.2) (.int .i64 ((rd_T50 t597 x13_1).f2.f0))) (fun _ hk => hk.2) (.int .i64 ((rd_T50 t597 x13_1).f2.f1))) (fun _ hk => hk.2) (.int .i64 ((rd_T50 t597 x13_1).f2.f2))) (fun _ hk => hk.2) (.int .i64 ((rd_T50 t597 x13_1).f3))) (fun _ hk => hk.2) (.slice A600_6 ((rd_T50 t597 x13_1).f4).length c600_6)) (fun _ hk => hk.2) (.slice A600_7 ((rd_T50 t597 x13_1).f5).length c600_7)) (fun _ hk => ⟨hk.1.1.1.1, ⟨hk.1.1.2, ⟨hk.1.1.1.2, hk.1.2⟩⟩⟩)))⟩; have n3_ : Aside0 (Kd.V k50 50 w19 w.heap.size (fun k_ => some k_ ≠ (u3 : Value).ownBlock ∧ some k_ ≠ (.slice (some ad600) t597.length co10 : Value).ownBlock ∧ k_ ≠ gb595 ∧ k_ ≠ gb601) (.slice A600_7 ((rd_T50 t597 x13_1).f5).length c600_7) ((rd_T50 t597 x13_1).f5)) := ⟨(by rw [hw]; exact (by (with_reducible repeat (first | apply Kd.V_alloc | apply Kd.V_drewN | apply Kd.V_drew)); exact Kd.V_mono (Kd.V_far (p := ⟨gb601, 7, none⟩) (Kd.V_far (p := ⟨gb601, 6, none⟩) (Kd.V_far (p := ⟨gb601, 5, none⟩) (Kd.V_far (p := ⟨gb601, 4, none⟩) (Kd.V_far (p := ⟨gb601, 3, none⟩) (Kd.V_far (p := ⟨gb601, 2, none⟩) (Kd.V_far (p := ⟨gb601, 1, none⟩) (Kd.V_far (p := ⟨gb601, 0, none⟩) (Kd.V_mono HL600_7.out (fun k_ hk => (⟨hk, hk.2⟩ : _ ∧ k_ ≠ gb601))) (fun _ hk => hk.2) (.int .i64 ((rd_T50 t597 x13_1).f0))) (fun _ hk => hk.2) (.int .i64 ((rd_T50 t597 x13_1).f1))) (fun _ hk => hk.2) (.int .i64 ((rd_T50 t597 x13_1).f2.f0))) (fun _ hk => hk.2) (.int .i64 ((rd_T50 t597 x13_1).f2.f1))) (fun _ hk => hk.2) (.int .i64 ((rd_T50 t597 x13_1).f2.f2))) (fun _ hk => hk.2) (.int .i64 ((rd_T50 t597 x13_1).f3))) (fun _ hk => hk.2) (.slice A600_6 ((rd_T50 t597 x13_1).f4).length c600_6)) (fun _ hk => hk.2) (.slice A600_7 ((rd_T50 t597 x13_1).f5).length c600_7)) (fun _ hk => ⟨hk.1.1.1.1, ⟨hk.1.1.2, ⟨hk.1.1.1.2, hk.1.2⟩⟩⟩)))⟩; have n4_ : Aside0 (w19.heap[gb595]? = some (.cells #[.slice A0_0 l0_0.length c0_0, .slice A0_1 l0_1.length c0_1] 32 (0, 0))) := ⟨(by rw [hw]; exact (ZZ BK595.out))⟩; have n5_ : Aside0 (w19.heap[gb601]? = some (.cells #[.int .i64 ((rd_T50 t597 x13_1).f0), .int .i64 ((rd_T50 t597 x13_1).f1), .int .i64 ((rd_T50 t597 x13_1).f2.f0), .int .i64 ((rd_T50 t597 x13_1).f2.f1), .int .i64 ((rd_T50 t597 x13_1).f2.f2), .int .i64 ((rd_T50 t597 x13_1).f3), .slice A600_6 ((rd_T50 t597 x13_1).f4).length c600_6, .slice A600_7 ((rd_T50 t597 x13_1).f5).length c600_7] 50 (0, 0))) := ⟨(by rw [hw]; exact (ZZ BK601.out))⟩; have n6_ : Aside0 (Below w.heap.size w w19) := ⟨(by rw [hw]; exact (ZB))⟩; clear hw HO_3 HO_11 HL600_6 HL600_7 BK595 BK601 HB; have HO_3 := n0_; have HO_11 := n1_; have HL600_6 := n2_; have HL600_7 := n3_; have BK595 := n4_; have BK601 := n5_; have HB := n6_; clear n0_ n1_ n2_ n3_ n4_ n5_ n6_; have hcz20 := ZC2 w19 BK595; have hfz20 := ZF2 BK595; have hcz21 := ZC8 w19 BK601; have hfz21 := ZF8 BK601) | ((with_reducible refine gate_dst (N := 20) rfl ?_); refine Kd.N_lit k50 _ 50 ?hg (N' := 20) ?hd (xs := ([(⟨(rd_T50 t597 x13_1).f0, (rd_T50 t597 x13_1).f1, (⟨(rd_T50 t597 x13_1).f2.f0, (rd_T50 t597 x13_1).f2.f1, (rd_T50 t597 x13_1).f2.f2⟩ : S48), (rd_T50 t597 x13_1).f3, (rd_T50 t597 x13_1).f4, (rd_T50 t597 x13_1).f5⟩ : S50)] : List (S50))) (inner := [.int .i64 ((rd_T50 t597 x13_1).f0), .int .i64 ((rd_T50 t597 x13_1).f1), .int .i64 ((rd_T50 t597 x13_1).f2.f0), .int .i64 ((rd_T50 t597 x13_1).f2.f1), .int .i64 ((rd_T50 t597 x13_1).f2.f2), .int .i64 ((rd_T50 t597 x13_1).f3), .slice A600_6 ((rd_T50 t597 x13_1).f4).length c600_6, .slice A600_7 ((rd_T50 t597 x13_1).f5).length c600_7]) (ok := (fun k_ => some k_ ≠ (u3 : Value).ownBlock ∧ some k_ ≠ (.slice (some ad600) t597.length co10 : Value).ownBlock ∧ k_ ≠ gb595 ∧ k_ ≠ gb601)) (okp := (fun k_ => some k_ ≠ (u3 : Value).ownBlock ∧ some k_ ≠ (.slice (some ad600) t597.length co10 : Value).ownBlock ∧ k_ ≠ gb595 ∧ k_ ≠ gb601)) ?hr ?hp (fun _ hk => hk) ((show ∀ k_, w19.heap.size ≤ k_ → (fun k_ => some k_ ≠ (u3 : Value).ownBlock ∧ some k_ ≠ (.slice (some ad600) t597.length co10 : Value).ownBlock ∧ k_ ≠ gb595 ∧ k_ ≠ gb601) k_ from fun k_ hk => ⟨Kd.fresh' (Kd.R_lt (ZR HO_3.out)) k_ hk, Kd.fresh' (Kd.N_lt (ZRN HO_11.out)) k_ hk, Kd.freshB (g := gb595) (o := .cells #[.slice A0_0 l0_0.length c0_0, .slice A0_1 l0_1.length c0_1] 32 (0, 0)) (ZK BK595.out) k_ hk, Kd.freshB (g := gb601) (o := .cells #[.int .i64 ((rd_T50 t597 x13_1).f0), .int .i64 ((rd_T50 t597 x13_1).f1), .int .i64 ((rd_T50 t597 x13_1).f2.f0), .int .i64 ((rd_T50 t597 x13_1).f2.f1), .int .i64 ((rd_T50 t597 x13_1).f2.f2), .int .i64 ((rd_T50 t597 x13_1).f3), .slice A600_6 ((rd_T50 t597 x13_1).f4).length c600_6, .slice A600_7 ((rd_T50 t597 x13_1).f5).length c600_7] 50 (0, 0)) (ZK BK601.out) k_ hk⟩) _ (Nat.le_refl _)) (Below.refl _ _) (Nat.le_refl _) (by simp) ?_; (case hd => rfl); (case hg => rfl); (case hr => first | (go_simp; done) | (go_simp; rfl)); (case hp => exact (Reps.c8 (show Kd.FK k50 _ _ (⟨(rd_T50 t597 x13_1).f0, (rd_T50 t597 x13_1).f1, (⟨(rd_T50 t597 x13_1).f2.f0, (rd_T50 t597 x13_1).f2.f1, (rd_T50 t597 x13_1).f2.f2⟩ : S48), (rd_T50 t597 x13_1).f3, (rd_T50 t597 x13_1).f4, (rd_T50 t597 x13_1).f5⟩ : S50) [.int .i64 ((rd_T50 t597 x13_1).f0), .int .i64 ((rd_T50 t597 x13_1).f1), .int .i64 ((rd_T50 t597 x13_1).f2.f0), .int .i64 ((rd_T50 t597 x13_1).f2.f1), .int .i64 ((rd_T50 t597 x13_1).f2.f2), .int .i64 ((rd_T50 t597 x13_1).f3), .slice A600_6 ((rd_T50 t597 x13_1).f4).length c600_6, .slice A600_7 ((rd_T50 t597 x13_1).f5).length c600_7] from (k50_mkF _ _ (⟨(rd_T50 t597 x13_1).f0, (rd_T50 t597 x13_1).f1, (⟨(rd_T50 t597 x13_1).f2.f0, (rd_T50 t597 x13_1).f2.f1, (rd_T50 t597 x13_1).f2.f2⟩ : S48), (rd_T50 t597 x13_1).f3, (rd_T50 t597 x13_1).f4, (rd_T50 t597 x13_1).f5⟩ : S50) (Kd.V_reads' (Kd.V_mono (ok' := (fun k_ => some k_ ≠ (u3 : Value).ownBlock ∧ some k_ ≠ (.slice (some ad600) t597.length co10 : Value).ownBlock ∧ k_ ≠ gb595 ∧ k_ ≠ gb601)) (HL600_6.out) (fun k_ hk => ⟨hk.1, ⟨hk.2.1, ⟨hk.2.2.1, hk.2.2.2⟩⟩⟩))).2.1 (Kd.V_F (Kd.V_mono (ok' := (fun k_ => some k_ ≠ (u3 : Value).ownBlock ∧ some k_ ≠ (.slice (some ad600) t597.length co10 : Value).ownBlock ∧ k_ ≠ gb595 ∧ k_ ≠ gb601)) (HL600_6.out) (fun k_ hk => ⟨hk.1, ⟨hk.2.1, ⟨hk.2.2.1, hk.2.2.2⟩⟩⟩))) (Kd.V_reads' (Kd.V_mono (ok' := (fun k_ => some k_ ≠ (u3 : Value).ownBlock ∧ some k_ ≠ (.slice (some ad600) t597.length co10 : Value).ownBlock ∧ k_ ≠ gb595 ∧ k_ ≠ gb601)) (HL600_7.out) (fun k_ hk => ⟨hk.1, ⟨hk.2.1, ⟨hk.2.2.1, hk.2.2.2⟩⟩⟩))).2.1 (Kd.V_F (Kd.V_mono (ok' := (fun k_ => some k_ ≠ (u3 : Value).ownBlock ∧ some k_ ≠ (.slice (some ad600) t597.length co10 : Value).ownBlock ∧ k_ ≠ gb595 ∧ k_ ≠ gb601)) (HL600_7.out) (fun k_ hk => ⟨hk.1, ⟨hk.2.1, ⟨hk.2.2.1, hk.2.2.2⟩⟩⟩))))) (Reps.none _ _))); intro v603 w22 ho23 hb hg_ hnew_; clear hg_ hnew_; (first | rw [← Ny602.out] at ho23 | (simp only [Int.reduceToNat] at ho23; rw [← Ny602.out] at ho23)); have HO604 := AM (Kd.N_lower ho23 (below_size (ZB))); replace HO_3 := AM (Kd.R_below (ZR HO_3.out) hb); replace HO_11 := AM (Kd.N_elder' (ZRN HO_11.out) (Kd.N_base ho23) hb); replace HL600_6 := AM (Kd.V_elder' (ZRV HL600_6.out) (Kd.N_base ho23) hb); replace HL600_7 := AM (Kd.V_elder' (ZRV HL600_7.out) (Kd.N_base ho23) hb); replace BK595 := ZW BK595 hb; replace BK601 := ZW BK601 hb; replace HB := ZT HB hb; clear hb ho23; obtain ⟨Ao24, co24, eo24⟩ := Kd.N_slice HO604.out; subst eo24) | ((with_reducible refine gate_callee (f := 53) rfl ?_); refine ZGL (some 21) Try.func53 #[.agg #[.slice A0_0 l0_0.length c0_0, .slice A0_1 l0_1.length c0_1], .slice Ao24 y602.length co24] ?_; (with_reducible refine (impl_Prog_sets.calls k1 _ _ l0_0 _ _ l0_1 _ _ y602 t605 _ ?side1 ?side2 ?side3 ?side4 ?side5 ?side6 A14.out).mono ?_); (case side1 => exact ZQ (Kd.C_below HR0_0.out HB.out)); (case side2 => exact HC0_0.out); (case side3 => exact ZQ (Kd.C_below HR0_1.out HB.out)); (case side4 => exact HC0_1.out); (case side5 => exact ZQ ((Kd.N_reads' HO604.out).2.2)); (case side6 => exact (Kd.N_reads' HO604.out).2.1); rintro e w25 ⟨rfl, hb⟩; refine ⟨_, rfl, ?_⟩; replace HO_3 := AM (Kd.R_below (ZR HO_3.out) hb); replace HO_11 := AM (Kd.N_below (ZRN HO_11.out) hb); replace HL600_6 := AM (Kd.V_below (ZRV HL600_6.out) hb); replace HL600_7 := AM (Kd.V_below (ZRV HL600_7.out) hb); replace HO604 := AM (Kd.N_below (ZRN HO604.out) hb); replace BK595 := ZW BK595 hb; replace BK601 := ZW BK601 hb; replace HB := ZT HB hb; clear hb) | ((with_reducible refine gate_builtin (b := .append) (xs := #[.tmp 17, .tmp 22]) rfl ?_); at_builtin; refine Kd.R_append (Kd.int .i64) (w0 := w) w.heap.size rfl (.tmp 17) (.tmp 22) 43 3 (.int .i64 0) 8 rfl Try.underlying43 info3 rfl (by decide) (by omega) u3 x3_1 t605 [.int .i64 t605] (fun _ => True) (fun _ => False) rfl rfl ?aP (fun _ hk => hk.elim) ?aF ?aO ?aB ?aS ?aL ?_; (case aP => exact rfl); (case aB => exact (ZB)); (case aF => exact (fun _ _ => trivial)); (case aO => exact (ZR HO_3.out)); (case aS => exact (below_size (ZB))); (case aL => have := LMc15.out; omega); intro v607 w26 ho hb hg hat; rw [← Ny606.out] at ho; have n0_ := AM (Kd.N_afterv (ok := (fun k_ => some k_ ≠ (.slice Ao24 y602.length co24 : Value).ownBlock ∧ k_ ≠ gb595 ∧ k_ ≠ gb601)) (by (with_reducible repeat (first | apply Kd.N_alloc | apply Kd.N_drewN | apply Kd.N_drew)); exact Kd.N_mono HO_11.out (fun _ hk => ⟨⟨hk.2, ⟨hk.1.2.1, hk.1.2.2⟩⟩, hk.1.1⟩)) hg hat); have n1_ := AM (blk_grown (g := gb595) (o := .cells #[.slice A0_0 l0_0.length c0_0, .slice A0_1 l0_1.length c0_1] 32 (0, 0)) (ZK BK595.out) hg (Kd.R_ne HO_3.out BK595.out (by decide))); have n2_ := AM (Kd.V_afterv (ok := (fun k_ => some k_ ≠ (.slice (some ad600) t597.length co10 : Value).ownBlock ∧ some k_ ≠ (.slice Ao24 y602.length co24 : Value).ownBlock ∧ k_ ≠ gb595 ∧ k_ ≠ gb601)) (by (with_reducible repeat (first | apply Kd.V_alloc | apply Kd.V_drewN | apply Kd.V_drew)); exact Kd.V_mono HL600_6.out (fun _ hk => ⟨⟨hk.1.2.1, ⟨hk.2, ⟨hk.1.2.2.1, hk.1.2.2.2⟩⟩⟩, hk.1.1⟩)) hg hat); have n3_ := AM (Kd.V_afterv (ok := (fun k_ => some k_ ≠ (.slice (some ad600) t597.length co10 : Value).ownBlock ∧ some k_ ≠ (.slice Ao24 y602.length co24 : Value).ownBlock ∧ k_ ≠ gb595 ∧ k_ ≠ gb601)) (by (with_reducible repeat (first | apply Kd.V_alloc | apply Kd.V_drewN | apply Kd.V_drew)); exact Kd.V_mono HL600_7.out (fun _ hk => ⟨⟨hk.1.2.1, ⟨hk.2, ⟨hk.1.2.2.1, hk.1.2.2.2⟩⟩⟩, hk.1.1⟩)) hg hat); have n4_ := AM (blk_grown (g := gb601) (o := .cells #[.int .i64 ((rd_T50 t597 x13_1).f0), .int .i64 ((rd_T50 t597 x13_1).f1), .int .i64 ((rd_T50 t597 x13_1).f2.f0), .int .i64 ((rd_T50 t597 x13_1).f2.f1), .int .i64 ((rd_T50 t597 x13_1).f2.f2), .int .i64 ((rd_T50 t597 x13_1).f3), .slice A600_6 ((rd_T50 t597 x13_1).f4).length c600_6, .slice A600_7 ((rd_T50 t597 x13_1).f5).length c600_7] 50 (0, 0)) (ZK BK601.out) hg (Kd.R_ne HO_3.out BK601.out (by decide))); have n5_ := AM (Kd.N_afterv (ok := (fun k_ => some k_ ≠ (.slice (some ad600) t597.length co10 : Value).ownBlock ∧ k_ ≠ gb595 ∧ k_ ≠ gb601)) (by (with_reducible repeat (first | apply Kd.N_alloc | apply Kd.N_drewN | apply Kd.N_drew)); exact Kd.N_mono HO604.out (fun _ hk => ⟨⟨hk.2.1, ⟨hk.2.2.1, hk.2.2.2⟩⟩, hk.1⟩)) hg hat); have n6_ := AM (hb); have n7_ := AM (ho); clear HO_11 BK595 HL600_6 HL600_7 BK601 HO604 HB HO_3; have HO_11 := n0_; have BK595 := n1_; have HL600_6 := n2_; have HL600_7 := n3_; have BK601 := n4_; have HO604 := n5_; have HB := n6_; have HO608 := n7_; clear n0_ n1_ n2_ n3_ n4_ n5_ n6_ n7_ ho hb hg hat))
  go_roundg k1
  case measure => have := HK1.out; omega
  case rel => exact ⟨(y606), (wrap64 (x13_1 + 1)), (by first | rfl | (simp; done) | (simp [*]; done)), H', ⟨by have := HK1.out; omega⟩, ⟨ZR HO608.out⟩, ⟨by (with_reducible repeat (first | apply Kd.N_alloc | apply Kd.N_drewN | apply Kd.N_drew)); exact Kd.N_mono HO_11.out (fun _ hk => ⟨hk.2, hk.1.2.1⟩)⟩, ⟨ZK BK595.out⟩, ⟨ZB⟩⟩)
  ·(
  rw [if_neg c15] at H
  exact absurd H (by simp)))
  ·(
  rw [if_neg c13] at H
  exact absurd H (by simp)))
  ·(
  rw [if_neg c12] at H
  exact absurd H (by simp)))
  ·(
  rw [if_neg c11] at H
  have c11b0 := decide_eq_false c11
  clear c11
  obtain rfl := Option.some.inj H
  go_wp2
  go_ret
  exact ⟨_, ZE, by (with_reducible repeat (first | apply Kd.R_alloc | apply Kd.R_drewN | apply Kd.R_drew)); exact HO_3.out, ZB⟩)))
 ·(
 replace c3 := Bool.eq_false_iff.mpr c3
 subst c3
 have H1 := H; rw [if_neg ZFT] at H1
 clear H
 have H := H1
 clear H1
 obtain rfl := Option.some.inj H
 go_enter Try.func25, Try.ntmps25
 go_wp2_with (first | ((with_reducible refine gate_dst (N := 1) rfl ?_); refine ZX (N := 1) (cs := #[.slice A0_0 l0_0.length c0_0, .slice A0_1 l0_1.length c0_1]) (t := 32) ?_; intro gb595 hg w27 hbox hb; have BK595 := AM (hbox); have GW595 : Aside0 (w.heap.size ≤ gb595) := ZS hg; have GE595 : Aside0 (w.heap.size ≤ gb595) := ZS hg; replace HB := ZT HB hb; clear hb hbox hg; have hcz28 := ZC2 w27 BK595; have hfz28 := ZF2 BK595) | ((with_reducible refine gate_callee (f := 47) rfl ?_); refine ZGL (some 7) Try.func47 #[.agg #[.slice A0_0 l0_0.length c0_0, .slice A0_1 l0_1.length c0_1]] ?_; (with_reducible refine (impl_ProgOk.calls k _ _ l0_0 _ _ l0_1 false _ ?side1 ?side2 ?side3 ?side4 A2.out).mono ?_); (case side1 => exact ZQ (Kd.C_below HR0_0.out HB.out)); (case side2 => exact HC0_0.out); (case side3 => exact ZQ (Kd.C_below HR0_1.out HB.out)); (case side4 => exact HC0_1.out); rintro e w29 ⟨rfl, hb⟩; refine ⟨_, rfl, ?_⟩; replace BK595 := ZW BK595 hb; replace HB := ZT HB hb; clear hb))
 go_ret
 exact ⟨_, ZE, by first | exact Kd.R_nil _ _ _ _ _ | exact Kd.N_nil _ _ _ _ _ | exact Kd.V_nil _ _ _ _ _ | exact Kd.Q_nil _ _ _ _ _ | exact Kd.S_nil _ _ _ _ _, ZB⟩)

/-! ### laws_eqIntS: function 26 -/
def laws_eqIntS.l0 : Nat → List Int → List Int → Int → Option (Bool)
 | 0, _, _, _ => none
 | k + 1, x0, x1, x5 => if x5 < (x0.length : Int) then (if 0 ≤ x5 then (if x5 < (x1.length : Int) then (if (rd x0 x5) = (rd x1 x5) then (laws_eqIntS.l0 k x0 x1 (wrap64 (x5 + 1))) else (some false)) else (none)) else (none)) else (some true)
def laws_eqIntS.f (k : Nat) (l0 : List Int) (l1 : List Int) : Option (Bool) := if (l0.length : Int) = (l1.length : Int) then (laws_eqIntS.l0 k l0 l1 0) else (some false)
theorem laws_eqIntS.calls (k : Nat) (A0 : Option Addr) (c0 : Nat) (l0 : List Int) (A1 : Option Addr) (c1 : Nat) (l1 : List Int) (r : Bool) (w : World) (hr0 : Kd.C (Kd.int .i64) w A0 l0.length l0) (hc0 : l0.length ≤ c0) (hr1 : Kd.C (Kd.int .i64) w A1 l1.length l1) (hc1 : l1.length ≤ c1) (h : laws_eqIntS.f k l0 l1 = some r) :
  Calls Try.prog 26 #[.slice A0 l0.length c0, .slice A1 l1.length c1] w fun e w' => e = .returned (.bool r) ∧ Drawn0 w w' := by
 have HR0 := AM hr0
 have HC0 := AM hc0
 clear hr0 hc0
 have HR1 := AM hr1
 have HC1 := AM hc1
 clear hr1 hc1
 have H := h
 unfold laws_eqIntS.f at H
 clear h
 by_cases c3 : (l0.length : Int) = (l1.length : Int)
 ·(
 rw [if_pos c3] at H
 have c3b0 := beq_iff_eq.mpr c3
 have c3b1 := bne_eq_false_iff_eq.mpr c3
 have c3b2 : (l0.length == l1.length) = true := by first | simpa using c3 | (simp at c3 ⊢; omega)
 clear c3
 have H' := AM H
 clear H
 go_enter Try.func26, Try.ntmps26
 go_wp2
 repeat (go_quiet (fail); try go_wp2)
 go_loopg [5] k (fun kq v5 w' => ∃ (x5_1 : Int), v5 = .int .i64 x5_1 ∧ Aside0 (laws_eqIntS.l0 kq l0 l1 x5_1 = some r) ∧ Aside0 (kq ≤ k) ∧ Drawn0 w w')
 case atStart => exact ⟨(0), (by first | rfl | (simp; done) | (simp [*]; done)), H', ⟨Nat.le_refl _⟩, by repeat (first | exact Drawn0.refl _ | apply Drawn0.step)⟩
 case round => (
 clear H'
 try clear c1
 try clear c2
 try clear p2
 try clear c3
 try clear c3b0
 try clear c3b1
 try clear c3b2
 obtain ⟨x5_1, rfl, HA, HK1, ⟨m1, rfl⟩⟩ := hrel
 cases gk with
 | zero => exact absurd HA.out (by simp [laws_eqIntS.l0])
 | succ k1 =>
  have H := HA.out
  clear HA
  simp only [laws_eqIntS.l0] at H
  by_cases c4 : x5_1 < (l0.length : Int)
  ·(
  rw [if_pos c4] at H
  have c4b0 := decide_eq_true c4
  clear c4
  by_cases c5 : 0 ≤ x5_1
  ·(
  rw [if_pos c5] at H
  have c5b0 := decide_eq_true c5
  clear c5
  by_cases c6 : x5_1 < (l1.length : Int)
  ·(
  rw [if_pos c6] at H
  have c6b0 := decide_eq_true c6
  clear c6
  by_cases c7 : (rd l0 x5_1) = (rd l1 x5_1)
  ·(
  rw [if_pos c7] at H
  have c7b0 := beq_iff_eq.mpr c7
  have c7b1 := bne_eq_false_iff_eq.mpr c7
  clear c7
  have H' := AM H
  clear H
  have p609 : 0 ≤ (x5_1 : Int) := ZD
  have q609 : x5_1 < (l0.length : Int) := ZD
  obtain ⟨ad609, e609, hx609_0⟩ := Kd.at_int HR0.out x5_1 p609 q609
  cases e609
  replace p609 := eq_true p609
  replace q609 := eq_true q609
  have p610 : 0 ≤ (x5_1 : Int) := ZD
  have q610 : x5_1 < (l1.length : Int) := ZD
  obtain ⟨ad610, e610, hx610_0⟩ := Kd.at_int HR1.out x5_1 p610 q610
  cases e610
  replace p610 := eq_true p610
  replace q610 := eq_true q610
  go_wp2
  repeat (go_quiet (fail); try go_wp2)
  go_roundg k1
  case measure => have := HK1.out; omega
  case rel => exact ⟨(wrap64 (x5_1 + 1)), (by first | rfl | (simp; done) | (simp [*]; done)), H', ⟨by have := HK1.out; omega⟩, by repeat (first | exact Drawn0.refl _ | apply Drawn0.step)⟩)
  ·(
  rw [if_neg c7] at H
  have c7b0 := beq_eq_false_iff_ne.mpr c7
  have c7b1 := bne_iff_ne.mpr c7
  obtain rfl := Option.some.inj H
  have p609 : 0 ≤ (x5_1 : Int) := ZD
  have q609 : x5_1 < (l0.length : Int) := ZD
  obtain ⟨ad609, e609, hx609_0⟩ := Kd.at_int HR0.out x5_1 p609 q609
  cases e609
  replace p609 := eq_true p609
  replace q609 := eq_true q609
  have p610 : 0 ≤ (x5_1 : Int) := ZD
  have q610 : x5_1 < (l1.length : Int) := ZD
  obtain ⟨ad610, e610, hx610_0⟩ := Kd.at_int HR1.out x5_1 p610 q610
  cases e610
  replace p610 := eq_true p610
  replace q610 := eq_true q610
  go_wp2
  repeat (go_quiet (fail); try go_wp2)
  go_ret
  exact ⟨by first | rfl | (simp; done) | (simp [*]; done), by repeat (first | exact Drawn0.refl _ | apply Drawn0.step)⟩))
  ·(
  rw [if_neg c6] at H
  exact absurd H (by simp)))
  ·(
  rw [if_neg c5] at H
  exact absurd H (by simp)))
  ·(
  rw [if_neg c4] at H
  have c4b0 := decide_eq_false c4
  clear c4
  obtain rfl := Option.some.inj H
  go_wp2
  repeat (go_quiet (fail); try go_wp2)
  go_ret
  exact ⟨by first | rfl | (simp; done) | (simp [*]; done), by repeat (first | exact Drawn0.refl _ | apply Drawn0.step)⟩)))
 ·(
 rw [if_neg c3] at H
 have c3b0 := beq_eq_false_iff_ne.mpr c3
 have c3b1 := bne_iff_ne.mpr c3
 have c3b2 : (l0.length == l1.length) = false := by first | simpa using c3 | (simp at c3 ⊢; omega)
 obtain rfl := Option.some.inj H
 go_enter Try.func26, Try.ntmps26
 go_wp2
 repeat (go_quiet (fail); try go_wp2)
 go_ret
 exact ⟨by first | rfl | (simp; done) | (simp [*]; done), by repeat (first | exact Drawn0.refl _ | apply Drawn0.step)⟩)

/-! ### laws_markIntS: function 27 -/
def laws_markIntS.l0 : Nat → List Int → Int → Int → Option (Int × List Int)
 | 0, _, _, _ => none
 | k + 1, x0, x1, x5 => if x5 < (x0.length : Int) then (if 0 ≤ x5 then (laws_markIntS.l0 k (x0.set (x5 : Int).toNat x1) (wrap64 (x1 + 1)) (wrap64 (x5 + 1))) else (none)) else (some (x1, x0))
def laws_markIntS.f (k : Nat) (l0 : List Int) (a1 : Int) : Option (Int × List Int) := laws_markIntS.l0 k l0 a1 0
theorem laws_markIntS.calls (k : Nat) (P0_ : Nat → Prop) (u9000_ : Value) (l0 : List Int) (a1 : Int) (r1 : Int) (r2 : List Int) (w0 w : World) (hB : Below w0.heap.size w0 w) (ho0 : Kd.R (Kd.int .i64) 3 w w0.heap.size P0_ u9000_ l0) (h : laws_markIntS.f k l0 a1 = some (r1, r2)) :
  Calls Try.prog 27 #[u9000_, .int .i64 a1] w fun e w' => e = .returned (.int .i64 r1) ∧ Kd.R (Kd.int .i64) 3 w' w0.heap.size (fun k_ => (P0_ k_ ∨ w.heap.size ≤ k_)) u9000_ r2 ∧ Below w0.heap.size w0 w' ∧ Kept w w' (fun k_ => P0_ k_) := by
 have HO0 := AM (show Kd.R (Kd.int .i64) 3 w w0.heap.size (fun k_ => (P0_ k_ ∨ w.heap.size ≤ k_)) u9000_ l0 from Kd.R_mono ho0 (fun k_ hk => (.inl hk)))
 have HK := AM (Kept.refl w (fun k_ => P0_ k_))
 have HW0 := AM hB.size
 have HB := AM hB
 clear hB
 have H := h
 unfold laws_markIntS.f at H
 clear h
 have H' := AM H
 clear H
 go_enter Try.func27, Try.ntmps27
 go_wp2
 go_loopg [1, 5] k (fun kq v1 v5 w' => ∃ (x0_1 : List Int) (x1_1 : Int) (x5_1 : Int), v1 = .int .i64 x1_1 ∧ v5 = .int .i64 x5_1 ∧ Aside0 (laws_markIntS.l0 kq x0_1 x1_1 x5_1 = some (r1, r2)) ∧ Aside0 (kq ≤ k) ∧ Aside0 (Kd.R (Kd.int .i64) 3 w' w0.heap.size (fun k_ => (P0_ k_ ∨ w.heap.size ≤ k_)) u9000_ x0_1) ∧ Aside0 (Kept w w' (fun k_ => P0_ k_)) ∧ Aside0 (Below w0.heap.size w0 w'))
 case atStart => exact ⟨(l0), (a1), (0), (by first | rfl | (simp; done) | (simp [*]; done)), (by first | rfl | (simp; done) | (simp [*]; done)), H', ⟨Nat.le_refl _⟩, ⟨ZR HO0.out⟩, ⟨ZHK HK⟩, ⟨ZB⟩⟩
 case round => (
 clear H'
 try clear c2
 try clear p2
 obtain ⟨x0_1, x1_1, x5_1, rfl, rfl, HA, HK1, HO_0, HK, HB⟩ := hrel
 cases gk with
 | zero => exact absurd HA.out (by simp [laws_markIntS.l0])
 | succ k1 =>
  have H := HA.out
  clear HA
  simp only [laws_markIntS.l0] at H
  by_cases c3 : x5_1 < (x0_1.length : Int)
  ·(
  rw [if_pos c3] at H
  have c3b0 := decide_eq_true c3
  clear c3
  by_cases c4 : 0 ≤ x5_1
  ·(
  rw [if_pos c4] at H
  have c4b0 := decide_eq_true c4
  clear c4
  obtain ⟨y611, hy611⟩ : ∃ y_ : List Int, y_ = (x0_1.set (x5_1 : Int).toNat x1_1) := ⟨_, rfl⟩
  replace H : (laws_markIntS.l0 k1 y611 (wrap64 (x1_1 + 1)) (wrap64 (x5_1 + 1))) = some (r1, r2) := by first | (rw [hy611]; with_reducible exact H) | (have H2_ := (Option.bind_some _ _).symm.trans H; rw [hy611]; with_reducible exact H2_) | (have H2_ := (Option.bind_some _ _).symm.trans H; with_reducible exact H2_) | with_reducible exact H | (rw [hy611]; exact H) | exact H
  have Ny611 := AM hy611
  clear hy611
  have H' := AM H
  clear H
  obtain ⟨Ao6, co6, eo6⟩ := Kd.R_slice HO_0.out
  subst eo6
  have p5 : 0 ≤ (x5_1 : Int) := ZD
  have q5 : (x5_1 : Int) < ((x0_1.length : Int) : Int) := ZD
  obtain ⟨go5, co5, eo5, gb5, gl5, cl5, HG5⟩ := Kd.R_form HO_0.out (by omega)
  (first | cases eo5 | (injection eo5 with ea_ en_ ec_; (first | subst ea_ | (injection ea_ with ea_; subst ea_)); subst ec_; clear en_))
  have GB5 := AM gb5
  have GG5 := AM HG5
  clear gb5 gl5 HG5
  have HMgo5 := AM (show (P0_ go5 ∨ w.heap.size ≤ go5) from (HO_0.out.1 _ rfl))
  obtain ⟨hx5_0, hf5_0⟩ := Kd.R_celln 0 HO_0.out (x5_1 : Int) p5 q5
  replace p5 := eq_true p5
  replace q5 := eq_true q5
  have HP7 := Kd.R_putg HO_0.out (x5_1 : Int) x1_1
  go_wp2_with (first | ((with_reducible refine gate_store (t := 3) (p := 15) rfl ?_); refine store_event (t := 3) (p := 15) (v := ?vo_w8) (w1 := (wr.setCell ⟨go5, (x5_1 : Int).toNat, none⟩ (.int .i64 x1_1))) ?hg ?ho ?hn ?hr ?_; (case ho => rfl); (case hg => rfl); (case hn => rfl); (case hr => first | (go_simp; done) | (go_simp; rfl)); intro w8 hw; have hg : wr.grownBy w8 (some go5) := (by rw [hw]; exact HP7.2); have hp_ : Kd.R (Kd.int .i64) 3 w8 w0.heap.size (fun k_ => (P0_ k_ ∨ w.heap.size ≤ k_)) (.slice (some ⟨go5, 0, none⟩) x0_1.length co6) y611 := (by rw [hw, Ny611.out]; exact HP7.1); clear HP7; replace HB := AM ((by rw [hw]; exact below_set (HB.out) GB5.out : Below w0.heap.size w0 w8)); replace HK := AM (Kept.of_grown (S := (fun k_ => P0_ k_)) hg (ZHK HK) (fun k_ e_ => (HO_0.out.1 k_ e_))); replace HO_0 := AM (hp_); clear hg hw hp_))
  go_roundg k1
  case measure => have := HK1.out; omega
  case rel => exact ⟨(y611), (wrap64 (x1_1 + 1)), (wrap64 (x5_1 + 1)), (by first | rfl | (simp; done) | (simp [*]; done)), (by first | rfl | (simp; done) | (simp [*]; done)), H', ⟨by have := HK1.out; omega⟩, ⟨ZR HO_0.out⟩, ⟨ZHK HK⟩, ⟨ZB⟩⟩)
  ·(
  rw [if_neg c4] at H
  exact absurd H (by simp)))
  ·(
  rw [if_neg c3] at H
  have c3b0 := decide_eq_false c3
  clear c3
  simp only [Option.some.injEq, Prod.mk.injEq] at H
  obtain ⟨rfl, rfl⟩ := H
  obtain ⟨Ao9, co9, eo9⟩ := Kd.R_slice HO_0.out
  subst eo9
  go_wp2
  go_ret
  exact ⟨ZE, by (with_reducible repeat (first | apply Kd.R_alloc | apply Kd.R_drewN | apply Kd.R_drew)); exact HO_0.out, ZB, ZHK HK⟩))

end Go.Proofs.Ytaflodibibbakaa.A
