/- By wip/tools/pr.py: Go functions as Lean functions, with contracts. -/
import Derived.Test.YtkkdeojbkfjlpaaAx0
import Derived.Test.YtkkdeojbkfjlpaaAx9
import Derived.Test.YtkkdeojbkfjlpaaAx22
import Derived.Test.YtkkdeojbkfjlpaaAx23
namespace Go.Proofs.Ytkkdeojbkfjlpaa.A
open Go.RowKit Go.Proofs.YtkkdeojbkfjlpaaW.PrintWords Go.Proofs.YtkkdeojbkfjlpaaW.PrintLast Go.Proofs.YtkkdeojbkfjlpaaW.PrintMore
attribute [local go_sem] max2_int min2_int max_two min_two max_three min_three max_four min_four
set_option linter.unusedVariables false
set_option linter.unusedSimpArgs false
set_option maxHeartbeats 8000000
set_option maxRecDepth 100000

/-! ### impl_TypeSets: function 8 -/
def impl_TypeSets.l0 : Nat → List Int → List (S40) → Int → Int → List (S35) → List (S40) → Option (List Int)
 | 0, _, _, _, _, _, _ => none
 | k + 1, x3, x11, x12, x13, x579000, x579001 => if x13 < x12 then (if 0 ≤ x13 then (if x13 < (x11.length : Int) then ((impl_Prog_sets.f k x579000 x579001 (([(⟨(D40 x11 x13).f0, (D40 x11 x13).f1, (⟨(D40 x11 x13).f2.f0, (D40 x11 x13).f2.f1, (D40 x11 x13).f2.f2⟩ : S38), (D40 x11 x13).f3, (D40 x11 x13).f4, (D40 x11 x13).f5⟩ : S40)] : List (S40)))).bind fun t588 => (if x3.length < 17592186044416 then (impl_TypeSets.l0 k (x3 ++ [t588]) x11 x12 (wrap64 (x13 + 1)) x579000 x579001) else (none))) else (none)) else (none)) else (some x3)
def impl_TypeSets.f (k : Nat) (l0_0 : List (S35)) (l0_1 : List (S40)) : Option (List Int) := (impl_ProgOk.f k l0_0 l0_1).bind fun t579 => (if t579 = true then ((impl_all.f k l0_1).bind fun t580 => (impl_TypeSets.l0 k ([] : List Int) t580 (t580.length : Int) 0 l0_0 l0_1)) else (some ([] : List Int)))
theorem impl_TypeSets.calls (k : Nat) (A0_0 : Option Addr) (c0_0 : Nat) (l0_0 : List (S35)) (A0_1 : Option Addr) (c0_1 : Nat) (l0_1 : List (S40)) (r : List Int) (w : World) (hr0_0 : Kd.C k35 w A0_0 l0_0.length l0_0) (hc0_0 : l0_0.length ≤ c0_0) (hr0_1 : Kd.C k40 w A0_1 l0_1.length l0_1) (hc0_1 : l0_1.length ≤ c0_1) (h : impl_TypeSets.f k l0_0 l0_1 = some r) :
  Calls Try.prog 8 #[.agg #[.slice A0_0 l0_0.length c0_0, .slice A0_1 l0_1.length c0_1]] w fun e w' => ∃ v0_ : Value, e = .returned (v0_) ∧ Kd.R (Kd.int .i64) 3 w' w.heap.size (fun _ => True) v0_ r ∧ Below w.heap.size w w' := by
 have hu26 := Try.underlying26
 have hu40 := Try.underlying40
 have HR0_0 := AM hr0_0
 have HC0_0 := AM hc0_0
 clear hr0_0 hc0_0
 have HR0_1 := AM hr0_1
 have HC0_1 := AM hc0_1
 clear hr0_1 hc0_1
 have HB := AM (Below.refl w.heap.size w)
 have H := h
 unfold impl_TypeSets.f at H
 clear h
 obtain ⟨t579, A2, H⟩ := ZOB H; try dsimp only at H
 by_cases c3 : t579 = true
 ·(
 subst c3
 have H1 := H; rw [if_pos rfl] at H1
 clear H
 have H := H1
 clear H1
 obtain ⟨t580, A4, H⟩ := ZOB H; try dsimp only at H
 have H' := AM H
 clear H
 go_enter Try.func8, Try.ntmps8
 go_wp2_with (first | ((with_reducible refine gate_dst (N := 1) rfl ?_); refine ZX (N := 1) (cs := #[.slice A0_0 l0_0.length c0_0, .slice A0_1 l0_1.length c0_1]) (t := 26) ?_; intro gb578 hg w5 hbox hb; have BK578 := AM (hbox); have GW578 : Za (w.heap.size ≤ gb578) := ZS hg; have GE578 : Za (w.heap.size ≤ gb578) := ZS hg; replace HB := ZT HB hb; clear hb hbox hg; have hcz6 := ZC2 w5 BK578; have hfz6 := ZF2 BK578) | ((with_reducible refine gate_callee (f := 25) rfl ?_); refine ZGL (some 7) Try.func25 #[.agg #[.slice A0_0 l0_0.length c0_0, .slice A0_1 l0_1.length c0_1]] ?_; (with_reducible refine (impl_ProgOk.calls k _ _ l0_0 _ _ l0_1 true _ (ZQ (Kd.C_below HR0_0.out HB.out)) HC0_0.out (ZQ (Kd.C_below HR0_1.out HB.out)) HC0_1.out A2.out).mono ?_); rintro e w7 ⟨rfl, hb⟩; refine ⟨_, rfl, ?_⟩; replace BK578 := ZW BK578 hb; replace HB := ZT HB hb; clear hb; have hcz8 := ZC2 w7 BK578; have hfz8 := ZF2 BK578) | ((with_reducible refine gate_callee (f := 26) rfl ?_); refine ZGL (some 11) Try.func26 #[.slice A0_1 l0_1.length c0_1] ?_; (with_reducible refine (impl_all.calls k (fun k_ => k_ < w.heap.size) _ _ l0_1 t580 _ ?side1 A4.out).mono ?_); (case side1 => exact Kd.V_mk HC0_1.out (Kd.F_below (Kd.C_F k40_heap HR0_1.out) (ZB))); rintro e w9 ⟨v581, rfl, ho0, hb⟩; refine ⟨_, rfl, ?_⟩; have HO582 := AM (Kd.N_lower (Kd.N_mono (ok' := fun k_ => k_ ≠ gb578) ho0 (fun k_ hk_ => Or.elim hk_ (fun hs_ => fun e_ => Nat.not_le.2 hs_ (by rw [e_]; exact GW578.out)) (fun hn_ => (Kd.freshB (g := gb578) (o := .cells #[.slice A0_0 l0_0.length c0_0, .slice A0_1 l0_1.length c0_1] 26 (0, 0)) (ZK BK578.out) k_ hn_)))) (below_size (ZB))); replace BK578 := ZW BK578 hb; replace HB := ZT HB hb; clear hb; (try clear ho0); obtain ⟨Ao10, co10, eo10⟩ := Kd.N_slice HO582.out; subst eo10))
 go_loopg [3, 13] k (fun kq v3 v13 w' => ∃ (x3_1 : List Int) (x13_1 : Int), v13 = .int .i64 x13_1 ∧ Za (impl_TypeSets.l0 kq x3_1 t580 (t580.length : Int) x13_1 l0_0 l0_1 = some r) ∧ Za (kq ≤ k) ∧ Za (Kd.R (Kd.int .i64) 3 w' w.heap.size (fun _ => True) v3 x3_1) ∧ Za (Kd.N k40 40 w' w.heap.size (fun k_ => some k_ ≠ (v3 : Value).ownBlock ∧ k_ ≠ gb578) (.slice Ao10 t580.length co10) t580) ∧ Za (w'.heap[gb578]? = some (.cells #[(.slice A0_0 l0_0.length c0_0), (.slice A0_1 l0_1.length c0_1)] 26 (0, 0))) ∧ Za (Below w.heap.size w w'))
 case atStart => exact ⟨(([] : List Int)), (0), (by first | rfl | (simp; done) | (simp [*]; done)), H', ⟨Nat.le_refl _⟩, ⟨by first | exact Kd.R_nil _ _ _ _ _ | exact Kd.N_nil _ _ _ _ _ | exact Kd.V_nil _ _ _ _ _ | exact Kd.Q_nil _ _ _ _ _ | exact Kd.S_nil _ _ _ _ _⟩, ⟨by (with_reducible repeat (first | apply Kd.N_alloc | apply Kd.N_drewN | apply Kd.N_drew)); exact Kd.N_mono HO582.out (fun _ hk => ⟨(by simp [Value.ownBlock]), hk⟩)⟩, ⟨ZK BK578.out⟩, ⟨ZB⟩⟩
 case round => (
 clear H'
 try clear c2
 try clear p2
 try clear c3
 try clear c8
 try clear hcz6
 try clear hcz8
 try clear hfz6
 try clear hfz8
 obtain ⟨x3_1, x13_1, rfl, HA, HK1, HO_3, HO_11, BK578, HB⟩ := hrel
 cases gk with
 | zero => exact absurd HA.out (by simp [impl_TypeSets.l0])
 | succ k1 =>
  have H := HA.out
  clear HA
  simp only [impl_TypeSets.l0] at H
  by_cases c11 : x13_1 < (t580.length : Int)
  ·(
  rw [if_pos c11] at H
  have c11b0 := decide_eq_true c11
  clear c11
  by_cases c12 : 0 ≤ x13_1
  ·(
  rw [if_pos c12] at H
  have c12b0 := decide_eq_true c12
  clear c12
  by_cases c13 : x13_1 < (t580.length : Int)
  ·(
  rw [if_pos c13] at H
  have c13b0 := decide_eq_true c13
  clear c13
  obtain ⟨y585, hy585⟩ : ∃ y_ : List (S40), y_ = (([(⟨(D40 t580 x13_1).f0, (D40 t580 x13_1).f1, (⟨(D40 t580 x13_1).f2.f0, (D40 t580 x13_1).f2.f1, (D40 t580 x13_1).f2.f2⟩ : S38), (D40 t580 x13_1).f3, (D40 t580 x13_1).f4, (D40 t580 x13_1).f5⟩ : S40)] : List (S40))) := ⟨_, rfl⟩
  replace H : ((impl_Prog_sets.f k1 l0_0 l0_1 y585).bind fun t588 => (if x3_1.length < 17592186044416 then (impl_TypeSets.l0 k1 (x3_1 ++ [t588]) t580 (t580.length : Int) (wrap64 (x13_1 + 1)) l0_0 l0_1) else (none))) = some r := by first | (rw [hy585]; with_reducible exact H) | (have H2_ := (Option.bind_some _ _).symm.trans H; rw [hy585]; with_reducible exact H2_) | (have H2_ := (Option.bind_some _ _).symm.trans H; with_reducible exact H2_) | with_reducible exact H | (rw [hy585]; exact H) | exact H
  have Ny585 := AM hy585
  clear hy585
  obtain ⟨t588, A14, H⟩ := ZOB H; try dsimp only at H
  by_cases c15 : x3_1.length < 17592186044416
  ·(
  rw [if_pos c15] at H
  have LMc15 := AM c15
  clear c15
  obtain ⟨y589, hy589⟩ : ∃ y_ : List Int, y_ = (x3_1 ++ [t588]) := ⟨_, rfl⟩
  replace H : (impl_TypeSets.l0 k1 y589 t580 (t580.length : Int) (wrap64 (x13_1 + 1)) l0_0 l0_1) = some r := by first | (rw [hy589]; with_reducible exact H) | (have H2_ := (Option.bind_some _ _).symm.trans H; rw [hy589]; with_reducible exact H2_) | (have H2_ := (Option.bind_some _ _).symm.trans H; with_reducible exact H2_) | with_reducible exact H | (rw [hy589]; exact H) | exact H
  have Ny589 := AM hy589
  clear hy589
  have H' := AM H
  clear H
  have p583 : 0 ≤ (x13_1 : Int) := ZD
  have q583 : x13_1 < (t580.length : Int) := ZD
  obtain ⟨ad583, A583_6, c583_6, A583_7, c583_7, e583, hx583_0, hx583_1, hx583_2, hx583_3, hx583_4, hx583_5, hx583_6, hx583_7, hl583_6, hi583_6, hl583_7, hi583_7⟩ := at_T40 (Kd.N_reads' HO_11.out).2.2 x13_1 p583 q583
  cases e583
  obtain ⟨ce583, hce583, hMe583, hcc583⟩ := Kd.N_get HO_11.out z40 x13_1 p583 (by first | exact q583 | exact ZD | (have e_ := (Kd.N_reads' HO_11.out).1; omega))
  obtain ⟨ua583_6, uc583_6, ua583_7, uc583_7, rfl, ul583_6, ge583_6, ul583_7, ge583_7⟩ := k40_openF hMe583
  have hv583_6 := hcc583 6 _ rfl
  rw [add_field _ _ 6 (by omega)] at hv583_6
  replace hv583_6 := Option.some.inj (hv583_6.symm.trans hx583_6)
  injection hv583_6 with hva_ hvn_ hvc_
  rw [hva_] at ge583_6
  rw [hvc_] at ul583_6
  have HL583_6 := AM (show Kd.V k40 40 _ w.heap.size _ _ ((D40 t580 x13_1).f4) from Kd.V_mk ul583_6 ge583_6)
  clear hva_ hvn_ hvc_ ge583_6 ul583_6
  have hv583_7 := hcc583 7 _ rfl
  rw [add_field _ _ 7 (by omega)] at hv583_7
  replace hv583_7 := Option.some.inj (hv583_7.symm.trans hx583_7)
  injection hv583_7 with hva_ hvn_ hvc_
  rw [hva_] at ge583_7
  rw [hvc_] at ul583_7
  have HL583_7 := AM (show Kd.V k40 40 _ w.heap.size _ _ ((D40 t580 x13_1).f5) from Kd.V_mk ul583_7 ge583_7)
  clear hva_ hvn_ hvc_ ge583_7 ul583_7 hcc583 hce583
  have HR583_6 := AM hi583_6
  have HC583_6 := AM hl583_6
  clear hi583_6 hl583_6
  have HR583_7 := AM hi583_7
  have HC583_7 := AM hl583_7
  clear hi583_7 hl583_7
  replace p583 := eq_true p583
  replace q583 := eq_true q583
  go_wp2_with (first | ((with_reducible refine gate_dst (N := 5) rfl ?_); refine ZX (N := 5) (cs := #[.int .i64 0, .int .i64 0, .int .i64 0, .int .i64 0, .int .i64 0, .int .i64 0, .slice none 0 0, .slice none 0 0]) (t := 40) ?_; intro gb584 hg w16 hbox hb; have BK584 := AM (hbox); have GW584 : Za (w.heap.size ≤ gb584) := ZS hg; have GE584 : Za (w.heap.size ≤ gb584) := ZS hg; have NB578_584 : Za (gb578 ≠ gb584) := ZN hg BK578; have NB584_578 : Za (gb584 ≠ gb578) := ZM hg BK578; replace HO_3 := AM (Kd.R_below (ZR HO_3.out) hb); replace HO_11 := AM (Kd.N_below (Kd.N_elderB (ZRN HO_11.out) gb584 (Nat.le_of_eq hg.symm)) hb); replace HL583_6 := AM (Kd.V_below (Kd.V_elderB (ZRV HL583_6.out) gb584 (Nat.le_of_eq hg.symm)) hb); replace HL583_7 := AM (Kd.V_below (Kd.V_elderB (ZRV HL583_7.out) gb584 (Nat.le_of_eq hg.symm)) hb); replace BK578 := ZW BK578 hb; replace HR583_6 := AM (Kd.C_below (ZQ HR583_6.out) hb); replace HR583_7 := AM (Kd.C_below (ZQ HR583_7.out) hb); replace HB := ZT HB hb; clear hb hbox hg; have hnb17 := NB584_578.out; have hnc17 := NB578_584.out; have hcz18 := ZC8 w16 BK584; have hfz18 := ZF8 BK584) | ((with_reducible refine gate_store (t := 40) (p := 5) rfl ?_); refine store_event (t := 40) (p := 5) (v := ?vo_w19) (w1 := ((((((((w16.setCell ⟨gb584, 0, none⟩ (.int .i64 ((D40 t580 x13_1).f0))).setCell ⟨gb584, 1, none⟩ (.int .i64 ((D40 t580 x13_1).f1))).setCell ⟨gb584, 2, none⟩ (.int .i64 ((D40 t580 x13_1).f2.f0))).setCell ⟨gb584, 3, none⟩ (.int .i64 ((D40 t580 x13_1).f2.f1))).setCell ⟨gb584, 4, none⟩ (.int .i64 ((D40 t580 x13_1).f2.f2))).setCell ⟨gb584, 5, none⟩ (.int .i64 ((D40 t580 x13_1).f3))).setCell ⟨gb584, 6, none⟩ (.slice A583_6 ((D40 t580 x13_1).f4).length c583_6)).setCell ⟨gb584, 7, none⟩ (.slice A583_7 ((D40 t580 x13_1).f5).length c583_7))) ?hg ?ho ?hn ?hr ?_; (case ho => rfl); (case hg => rfl); (case hn => rfl); (case hr => first | (go_simp; done) | (go_simp; rfl)); intro w19 hw; have n0_ : Za (Kd.R (Kd.int .i64) 3 w19 w.heap.size (fun _ => True) u3 x3_1) := ⟨(by rw [hw]; exact (ZR (Kd.R_mono (Kd.R_far (p := ⟨gb584, 7, none⟩) (Kd.R_far (p := ⟨gb584, 6, none⟩) (Kd.R_far (p := ⟨gb584, 5, none⟩) (Kd.R_far (p := ⟨gb584, 4, none⟩) (Kd.R_far (p := ⟨gb584, 3, none⟩) (Kd.R_far (p := ⟨gb584, 2, none⟩) (Kd.R_far (p := ⟨gb584, 1, none⟩) (Kd.R_far (p := ⟨gb584, 0, none⟩) (Kd.R_types HO_3.out BK584.out (by decide)) (fun _ hk => hk.2) (.int .i64 ((D40 t580 x13_1).f0))) (fun _ hk => hk.2) (.int .i64 ((D40 t580 x13_1).f1))) (fun _ hk => hk.2) (.int .i64 ((D40 t580 x13_1).f2.f0))) (fun _ hk => hk.2) (.int .i64 ((D40 t580 x13_1).f2.f1))) (fun _ hk => hk.2) (.int .i64 ((D40 t580 x13_1).f2.f2))) (fun _ hk => hk.2) (.int .i64 ((D40 t580 x13_1).f3))) (fun _ hk => hk.2) (.slice A583_6 ((D40 t580 x13_1).f4).length c583_6)) (fun _ hk => hk.2) (.slice A583_7 ((D40 t580 x13_1).f5).length c583_7)) (fun _ hk => trivial))))⟩; have n1_ : Za (Kd.N k40 40 w19 w.heap.size (fun k_ => some k_ ≠ (u3 : Value).ownBlock ∧ k_ ≠ gb578 ∧ k_ ≠ gb584) (.slice (some ad583) t580.length co10) t580) := ⟨(by rw [hw]; exact (by (with_reducible repeat (first | apply Kd.N_alloc | apply Kd.N_drewN | apply Kd.N_drew)); exact Kd.N_mono (Kd.N_far (p := ⟨gb584, 7, none⟩) (Kd.N_far (p := ⟨gb584, 6, none⟩) (Kd.N_far (p := ⟨gb584, 5, none⟩) (Kd.N_far (p := ⟨gb584, 4, none⟩) (Kd.N_far (p := ⟨gb584, 3, none⟩) (Kd.N_far (p := ⟨gb584, 2, none⟩) (Kd.N_far (p := ⟨gb584, 1, none⟩) (Kd.N_far (p := ⟨gb584, 0, none⟩) (Kd.N_mono HO_11.out (fun k_ hk => (⟨hk, hk.2⟩ : _ ∧ k_ ≠ gb584))) (fun _ hk => hk.2) (.int .i64 ((D40 t580 x13_1).f0))) (fun _ hk => hk.2) (.int .i64 ((D40 t580 x13_1).f1))) (fun _ hk => hk.2) (.int .i64 ((D40 t580 x13_1).f2.f0))) (fun _ hk => hk.2) (.int .i64 ((D40 t580 x13_1).f2.f1))) (fun _ hk => hk.2) (.int .i64 ((D40 t580 x13_1).f2.f2))) (fun _ hk => hk.2) (.int .i64 ((D40 t580 x13_1).f3))) (fun _ hk => hk.2) (.slice A583_6 ((D40 t580 x13_1).f4).length c583_6)) (fun _ hk => hk.2) (.slice A583_7 ((D40 t580 x13_1).f5).length c583_7)) (fun _ hk => ⟨hk.1.1.1, ⟨hk.1.1.2, hk.1.2⟩⟩)))⟩; have n2_ : Za (Kd.V k40 40 w19 w.heap.size (fun k_ => some k_ ≠ (u3 : Value).ownBlock ∧ some k_ ≠ (.slice (some ad583) t580.length co10 : Value).ownBlock ∧ k_ ≠ gb578 ∧ k_ ≠ gb584) (.slice A583_6 ((D40 t580 x13_1).f4).length c583_6) ((D40 t580 x13_1).f4)) := ⟨(by rw [hw]; exact (by (with_reducible repeat (first | apply Kd.V_alloc | apply Kd.V_drewN | apply Kd.V_drew)); exact Kd.V_mono (Kd.V_far (p := ⟨gb584, 7, none⟩) (Kd.V_far (p := ⟨gb584, 6, none⟩) (Kd.V_far (p := ⟨gb584, 5, none⟩) (Kd.V_far (p := ⟨gb584, 4, none⟩) (Kd.V_far (p := ⟨gb584, 3, none⟩) (Kd.V_far (p := ⟨gb584, 2, none⟩) (Kd.V_far (p := ⟨gb584, 1, none⟩) (Kd.V_far (p := ⟨gb584, 0, none⟩) (Kd.V_mono HL583_6.out (fun k_ hk => (⟨hk, hk.2⟩ : _ ∧ k_ ≠ gb584))) (fun _ hk => hk.2) (.int .i64 ((D40 t580 x13_1).f0))) (fun _ hk => hk.2) (.int .i64 ((D40 t580 x13_1).f1))) (fun _ hk => hk.2) (.int .i64 ((D40 t580 x13_1).f2.f0))) (fun _ hk => hk.2) (.int .i64 ((D40 t580 x13_1).f2.f1))) (fun _ hk => hk.2) (.int .i64 ((D40 t580 x13_1).f2.f2))) (fun _ hk => hk.2) (.int .i64 ((D40 t580 x13_1).f3))) (fun _ hk => hk.2) (.slice A583_6 ((D40 t580 x13_1).f4).length c583_6)) (fun _ hk => hk.2) (.slice A583_7 ((D40 t580 x13_1).f5).length c583_7)) (fun _ hk => ⟨hk.1.1.1.1, ⟨hk.1.1.2, ⟨hk.1.1.1.2, hk.1.2⟩⟩⟩)))⟩; have n3_ : Za (Kd.V k40 40 w19 w.heap.size (fun k_ => some k_ ≠ (u3 : Value).ownBlock ∧ some k_ ≠ (.slice (some ad583) t580.length co10 : Value).ownBlock ∧ k_ ≠ gb578 ∧ k_ ≠ gb584) (.slice A583_7 ((D40 t580 x13_1).f5).length c583_7) ((D40 t580 x13_1).f5)) := ⟨(by rw [hw]; exact (by (with_reducible repeat (first | apply Kd.V_alloc | apply Kd.V_drewN | apply Kd.V_drew)); exact Kd.V_mono (Kd.V_far (p := ⟨gb584, 7, none⟩) (Kd.V_far (p := ⟨gb584, 6, none⟩) (Kd.V_far (p := ⟨gb584, 5, none⟩) (Kd.V_far (p := ⟨gb584, 4, none⟩) (Kd.V_far (p := ⟨gb584, 3, none⟩) (Kd.V_far (p := ⟨gb584, 2, none⟩) (Kd.V_far (p := ⟨gb584, 1, none⟩) (Kd.V_far (p := ⟨gb584, 0, none⟩) (Kd.V_mono HL583_7.out (fun k_ hk => (⟨hk, hk.2⟩ : _ ∧ k_ ≠ gb584))) (fun _ hk => hk.2) (.int .i64 ((D40 t580 x13_1).f0))) (fun _ hk => hk.2) (.int .i64 ((D40 t580 x13_1).f1))) (fun _ hk => hk.2) (.int .i64 ((D40 t580 x13_1).f2.f0))) (fun _ hk => hk.2) (.int .i64 ((D40 t580 x13_1).f2.f1))) (fun _ hk => hk.2) (.int .i64 ((D40 t580 x13_1).f2.f2))) (fun _ hk => hk.2) (.int .i64 ((D40 t580 x13_1).f3))) (fun _ hk => hk.2) (.slice A583_6 ((D40 t580 x13_1).f4).length c583_6)) (fun _ hk => hk.2) (.slice A583_7 ((D40 t580 x13_1).f5).length c583_7)) (fun _ hk => ⟨hk.1.1.1.1, ⟨hk.1.1.2, ⟨hk.1.1.1.2, hk.1.2⟩⟩⟩)))⟩; have n4_ : Za (w19.heap[gb578]? = some (.cells #[.slice A0_0 l0_0.length c0_0, .slice A0_1 l0_1.length c0_1] 26 (0, 0))) := ⟨(by rw [hw]; exact (ZZ BK578.out))⟩; have n5_ : Za (w19.heap[gb584]? = some (.cells #[.int .i64 ((D40 t580 x13_1).f0), .int .i64 ((D40 t580 x13_1).f1), .int .i64 ((D40 t580 x13_1).f2.f0), .int .i64 ((D40 t580 x13_1).f2.f1), .int .i64 ((D40 t580 x13_1).f2.f2), .int .i64 ((D40 t580 x13_1).f3), .slice A583_6 ((D40 t580 x13_1).f4).length c583_6, .slice A583_7 ((D40 t580 x13_1).f5).length c583_7] 40 (0, 0))) := ⟨(by rw [hw]; exact (ZZ BK584.out))⟩; have n6_ : Za (Below w.heap.size w w19) := ⟨(by rw [hw]; exact (ZB))⟩; clear hw HO_3 HO_11 HL583_6 HL583_7 BK578 BK584 HB; have HO_3 := n0_; have HO_11 := n1_; have HL583_6 := n2_; have HL583_7 := n3_; have BK578 := n4_; have BK584 := n5_; have HB := n6_; clear n0_ n1_ n2_ n3_ n4_ n5_ n6_; have hcz20 := ZC2 w19 BK578; have hfz20 := ZF2 BK578; have hcz21 := ZC8 w19 BK584; have hfz21 := ZF8 BK584) | ((with_reducible refine gate_dst (N := 20) rfl ?_); refine Kd.N_lit k40 _ 40 ?hg (N' := 20) ?hd (xs := ([(⟨(D40 t580 x13_1).f0, (D40 t580 x13_1).f1, (⟨(D40 t580 x13_1).f2.f0, (D40 t580 x13_1).f2.f1, (D40 t580 x13_1).f2.f2⟩ : S38), (D40 t580 x13_1).f3, (D40 t580 x13_1).f4, (D40 t580 x13_1).f5⟩ : S40)] : List (S40))) (inner := [.int .i64 ((D40 t580 x13_1).f0), .int .i64 ((D40 t580 x13_1).f1), .int .i64 ((D40 t580 x13_1).f2.f0), .int .i64 ((D40 t580 x13_1).f2.f1), .int .i64 ((D40 t580 x13_1).f2.f2), .int .i64 ((D40 t580 x13_1).f3), .slice A583_6 ((D40 t580 x13_1).f4).length c583_6, .slice A583_7 ((D40 t580 x13_1).f5).length c583_7]) (ok := (fun k_ => some k_ ≠ (u3 : Value).ownBlock ∧ some k_ ≠ (.slice (some ad583) t580.length co10 : Value).ownBlock ∧ k_ ≠ gb578 ∧ k_ ≠ gb584)) (okp := (fun k_ => some k_ ≠ (u3 : Value).ownBlock ∧ some k_ ≠ (.slice (some ad583) t580.length co10 : Value).ownBlock ∧ k_ ≠ gb578 ∧ k_ ≠ gb584)) ?hr ?hp (fun _ hk => hk) ((show ∀ k_, w19.heap.size ≤ k_ → (fun k_ => some k_ ≠ (u3 : Value).ownBlock ∧ some k_ ≠ (.slice (some ad583) t580.length co10 : Value).ownBlock ∧ k_ ≠ gb578 ∧ k_ ≠ gb584) k_ from fun k_ hk => ⟨Kd.fresh' (Kd.R_lt (ZR HO_3.out)) k_ hk, Kd.fresh' (Kd.N_lt (ZRN HO_11.out)) k_ hk, Kd.freshB (g := gb578) (o := .cells #[.slice A0_0 l0_0.length c0_0, .slice A0_1 l0_1.length c0_1] 26 (0, 0)) (ZK BK578.out) k_ hk, Kd.freshB (g := gb584) (o := .cells #[.int .i64 ((D40 t580 x13_1).f0), .int .i64 ((D40 t580 x13_1).f1), .int .i64 ((D40 t580 x13_1).f2.f0), .int .i64 ((D40 t580 x13_1).f2.f1), .int .i64 ((D40 t580 x13_1).f2.f2), .int .i64 ((D40 t580 x13_1).f3), .slice A583_6 ((D40 t580 x13_1).f4).length c583_6, .slice A583_7 ((D40 t580 x13_1).f5).length c583_7] 40 (0, 0)) (ZK BK584.out) k_ hk⟩) _ (Nat.le_refl _)) (Below.refl _ _) (Nat.le_refl _) (by simp) ?_; (case hd => rfl); (case hg => rfl); (case hr => first | (go_simp; done) | (go_simp; rfl)); (case hp => exact (Reps.c8 (show Kd.FK k40 _ _ (⟨(D40 t580 x13_1).f0, (D40 t580 x13_1).f1, (⟨(D40 t580 x13_1).f2.f0, (D40 t580 x13_1).f2.f1, (D40 t580 x13_1).f2.f2⟩ : S38), (D40 t580 x13_1).f3, (D40 t580 x13_1).f4, (D40 t580 x13_1).f5⟩ : S40) [.int .i64 ((D40 t580 x13_1).f0), .int .i64 ((D40 t580 x13_1).f1), .int .i64 ((D40 t580 x13_1).f2.f0), .int .i64 ((D40 t580 x13_1).f2.f1), .int .i64 ((D40 t580 x13_1).f2.f2), .int .i64 ((D40 t580 x13_1).f3), .slice A583_6 ((D40 t580 x13_1).f4).length c583_6, .slice A583_7 ((D40 t580 x13_1).f5).length c583_7] from (k40_mkF _ _ (⟨(D40 t580 x13_1).f0, (D40 t580 x13_1).f1, (⟨(D40 t580 x13_1).f2.f0, (D40 t580 x13_1).f2.f1, (D40 t580 x13_1).f2.f2⟩ : S38), (D40 t580 x13_1).f3, (D40 t580 x13_1).f4, (D40 t580 x13_1).f5⟩ : S40) (Kd.V_reads' (Kd.V_mono (ok' := (fun k_ => some k_ ≠ (u3 : Value).ownBlock ∧ some k_ ≠ (.slice (some ad583) t580.length co10 : Value).ownBlock ∧ k_ ≠ gb578 ∧ k_ ≠ gb584)) (HL583_6.out) (fun k_ hk => ⟨hk.1, ⟨hk.2.1, ⟨hk.2.2.1, hk.2.2.2⟩⟩⟩))).2.1 (Kd.V_F (Kd.V_mono (ok' := (fun k_ => some k_ ≠ (u3 : Value).ownBlock ∧ some k_ ≠ (.slice (some ad583) t580.length co10 : Value).ownBlock ∧ k_ ≠ gb578 ∧ k_ ≠ gb584)) (HL583_6.out) (fun k_ hk => ⟨hk.1, ⟨hk.2.1, ⟨hk.2.2.1, hk.2.2.2⟩⟩⟩))) (Kd.V_reads' (Kd.V_mono (ok' := (fun k_ => some k_ ≠ (u3 : Value).ownBlock ∧ some k_ ≠ (.slice (some ad583) t580.length co10 : Value).ownBlock ∧ k_ ≠ gb578 ∧ k_ ≠ gb584)) (HL583_7.out) (fun k_ hk => ⟨hk.1, ⟨hk.2.1, ⟨hk.2.2.1, hk.2.2.2⟩⟩⟩))).2.1 (Kd.V_F (Kd.V_mono (ok' := (fun k_ => some k_ ≠ (u3 : Value).ownBlock ∧ some k_ ≠ (.slice (some ad583) t580.length co10 : Value).ownBlock ∧ k_ ≠ gb578 ∧ k_ ≠ gb584)) (HL583_7.out) (fun k_ hk => ⟨hk.1, ⟨hk.2.1, ⟨hk.2.2.1, hk.2.2.2⟩⟩⟩))))) (Reps.none _ _))); intro v586 w22 ho23 hb hg_ hnew_; clear hg_ hnew_; (first | rw [← Ny585.out] at ho23 | (simp only [Int.reduceToNat] at ho23; rw [← Ny585.out] at ho23)); have HO587 := AM (Kd.N_lower ho23 (below_size (ZB))); replace HO_3 := AM (Kd.R_below (ZR HO_3.out) hb); replace HO_11 := AM (Kd.N_elder' (ZRN HO_11.out) (Kd.N_base ho23) hb); replace HL583_6 := AM (Kd.V_elder' (ZRV HL583_6.out) (Kd.N_base ho23) hb); replace HL583_7 := AM (Kd.V_elder' (ZRV HL583_7.out) (Kd.N_base ho23) hb); replace BK578 := ZW BK578 hb; replace BK584 := ZW BK584 hb; replace HB := ZT HB hb; clear hb ho23; obtain ⟨Ao24, co24, eo24⟩ := Kd.N_slice HO587.out; subst eo24) | ((with_reducible refine gate_callee (f := 27) rfl ?_); refine ZGL (some 21) Try.func27 #[.agg #[.slice A0_0 l0_0.length c0_0, .slice A0_1 l0_1.length c0_1], .slice Ao24 y585.length co24] ?_; (with_reducible refine (impl_Prog_sets.calls k1 _ _ l0_0 _ _ l0_1 _ _ y585 t588 _ (ZQ (Kd.C_below HR0_0.out HB.out)) HC0_0.out (ZQ (Kd.C_below HR0_1.out HB.out)) HC0_1.out ?side5 ?side6 A14.out).mono ?_); (case side5 => exact ZQ ((Kd.N_reads' HO587.out).2.2)); (case side6 => exact (Kd.N_reads' HO587.out).2.1); rintro e w25 ⟨rfl, hb⟩; refine ⟨_, rfl, ?_⟩; replace HO_3 := AM (Kd.R_below (ZR HO_3.out) hb); replace HO_11 := AM (Kd.N_below (ZRN HO_11.out) hb); replace HL583_6 := AM (Kd.V_below (ZRV HL583_6.out) hb); replace HL583_7 := AM (Kd.V_below (ZRV HL583_7.out) hb); replace HO587 := AM (Kd.N_below (ZRN HO587.out) hb); replace BK578 := ZW BK578 hb; replace BK584 := ZW BK584 hb; replace HB := ZT HB hb; clear hb) | ((with_reducible refine gate_builtin (b := .append) (xs := #[.tmp 17, .tmp 22]) rfl ?_); at_builtin; refine Kd.R_append (Kd.int .i64) (w0 := w) w.heap.size rfl (.tmp 17) (.tmp 22) 28 3 (.int .i64 0) 8 rfl Try.underlying28 info3 rfl (by decide) (by omega) u3 x3_1 t588 [.int .i64 t588] (fun _ => True) (fun _ => False) rfl rfl ?aP (fun _ hk => hk.elim) ?aF ?aO ?aB ?aS ?aL ?_; (case aP => exact rfl); (case aB => exact (ZB)); (case aF => exact (fun _ _ => trivial)); (case aO => exact (ZR HO_3.out)); (case aS => exact (below_size (ZB))); (case aL => have := LMc15.out; omega); intro v590 w26 ho hb hg hat; rw [← Ny589.out] at ho; have n0_ := AM (Kd.N_afterv (ok := (fun k_ => some k_ ≠ (.slice Ao24 y585.length co24 : Value).ownBlock ∧ k_ ≠ gb578 ∧ k_ ≠ gb584)) (by (with_reducible repeat (first | apply Kd.N_alloc | apply Kd.N_drewN | apply Kd.N_drew)); exact Kd.N_mono HO_11.out (fun _ hk => ⟨⟨hk.2, ⟨hk.1.2.1, hk.1.2.2⟩⟩, hk.1.1⟩)) hg hat); have n1_ := AM (blk_grown (g := gb578) (o := .cells #[.slice A0_0 l0_0.length c0_0, .slice A0_1 l0_1.length c0_1] 26 (0, 0)) (ZK BK578.out) hg (Kd.R_ne HO_3.out BK578.out (by decide))); have n2_ := AM (Kd.V_afterv (ok := (fun k_ => some k_ ≠ (.slice (some ad583) t580.length co10 : Value).ownBlock ∧ some k_ ≠ (.slice Ao24 y585.length co24 : Value).ownBlock ∧ k_ ≠ gb578 ∧ k_ ≠ gb584)) (by (with_reducible repeat (first | apply Kd.V_alloc | apply Kd.V_drewN | apply Kd.V_drew)); exact Kd.V_mono HL583_6.out (fun _ hk => ⟨⟨hk.1.2.1, ⟨hk.2, ⟨hk.1.2.2.1, hk.1.2.2.2⟩⟩⟩, hk.1.1⟩)) hg hat); have n3_ := AM (Kd.V_afterv (ok := (fun k_ => some k_ ≠ (.slice (some ad583) t580.length co10 : Value).ownBlock ∧ some k_ ≠ (.slice Ao24 y585.length co24 : Value).ownBlock ∧ k_ ≠ gb578 ∧ k_ ≠ gb584)) (by (with_reducible repeat (first | apply Kd.V_alloc | apply Kd.V_drewN | apply Kd.V_drew)); exact Kd.V_mono HL583_7.out (fun _ hk => ⟨⟨hk.1.2.1, ⟨hk.2, ⟨hk.1.2.2.1, hk.1.2.2.2⟩⟩⟩, hk.1.1⟩)) hg hat); have n4_ := AM (blk_grown (g := gb584) (o := .cells #[.int .i64 ((D40 t580 x13_1).f0), .int .i64 ((D40 t580 x13_1).f1), .int .i64 ((D40 t580 x13_1).f2.f0), .int .i64 ((D40 t580 x13_1).f2.f1), .int .i64 ((D40 t580 x13_1).f2.f2), .int .i64 ((D40 t580 x13_1).f3), .slice A583_6 ((D40 t580 x13_1).f4).length c583_6, .slice A583_7 ((D40 t580 x13_1).f5).length c583_7] 40 (0, 0)) (ZK BK584.out) hg (Kd.R_ne HO_3.out BK584.out (by decide))); have n5_ := AM (Kd.N_afterv (ok := (fun k_ => some k_ ≠ (.slice (some ad583) t580.length co10 : Value).ownBlock ∧ k_ ≠ gb578 ∧ k_ ≠ gb584)) (by (with_reducible repeat (first | apply Kd.N_alloc | apply Kd.N_drewN | apply Kd.N_drew)); exact Kd.N_mono HO587.out (fun _ hk => ⟨⟨hk.2.1, ⟨hk.2.2.1, hk.2.2.2⟩⟩, hk.1⟩)) hg hat); have n6_ := AM (hb); have n7_ := AM (ho); clear HO_11 BK578 HL583_6 HL583_7 BK584 HO587 HB HO_3; have HO_11 := n0_; have BK578 := n1_; have HL583_6 := n2_; have HL583_7 := n3_; have BK584 := n4_; have HO587 := n5_; have HB := n6_; have HO591 := n7_; clear n0_ n1_ n2_ n3_ n4_ n5_ n6_ n7_ ho hb hg hat))
  go_roundg k1
  case measure => have := HK1.out; omega
  case rel => exact ⟨(y589), (wrap64 (x13_1 + 1)), (by first | rfl | (simp; done) | (simp [*]; done)), H', ⟨by have := HK1.out; omega⟩, ⟨ZR HO591.out⟩, ⟨by (with_reducible repeat (first | apply Kd.N_alloc | apply Kd.N_drewN | apply Kd.N_drew)); exact Kd.N_mono HO_11.out (fun _ hk => ⟨hk.2, hk.1.2.1⟩)⟩, ⟨ZK BK578.out⟩, ⟨ZB⟩⟩)
  ·(
  rw [if_neg c15] at H
  exact absurd H (by simp)))
  ·(
  rw [if_neg c13] at H
  exact absurd H (by simp)))
  ·(
  rw [if_neg c12] at H
  exact absurd H (by simp)))
  ·(
  rw [if_neg c11] at H
  have c11b0 := decide_eq_false c11
  clear c11
  obtain rfl := Option.some.inj H
  go_wp2
  go_ret
  exact ⟨_, ZE, by (with_reducible repeat (first | apply Kd.R_alloc | apply Kd.R_drewN | apply Kd.R_drew)); exact HO_3.out, ZB⟩)))
 ·(
 replace c3 := Bool.eq_false_iff.mpr c3
 subst c3
 have H1 := H; rw [if_neg ZFT] at H1
 clear H
 have H := H1
 clear H1
 obtain rfl := Option.some.inj H
 go_enter Try.func8, Try.ntmps8
 go_wp2_with (first | ((with_reducible refine gate_dst (N := 1) rfl ?_); refine ZX (N := 1) (cs := #[.slice A0_0 l0_0.length c0_0, .slice A0_1 l0_1.length c0_1]) (t := 26) ?_; intro gb578 hg w27 hbox hb; have BK578 := AM (hbox); have GW578 : Za (w.heap.size ≤ gb578) := ZS hg; have GE578 : Za (w.heap.size ≤ gb578) := ZS hg; replace HB := ZT HB hb; clear hb hbox hg; have hcz28 := ZC2 w27 BK578; have hfz28 := ZF2 BK578) | ((with_reducible refine gate_callee (f := 25) rfl ?_); refine ZGL (some 7) Try.func25 #[.agg #[.slice A0_0 l0_0.length c0_0, .slice A0_1 l0_1.length c0_1]] ?_; (with_reducible refine (impl_ProgOk.calls k _ _ l0_0 _ _ l0_1 false _ (ZQ (Kd.C_below HR0_0.out HB.out)) HC0_0.out (ZQ (Kd.C_below HR0_1.out HB.out)) HC0_1.out A2.out).mono ?_); rintro e w29 ⟨rfl, hb⟩; refine ⟨_, rfl, ?_⟩; replace BK578 := ZW BK578 hb; replace HB := ZT HB hb; clear hb))
 go_ret
 exact ⟨_, ZE, by first | exact Kd.R_nil _ _ _ _ _ | exact Kd.N_nil _ _ _ _ _ | exact Kd.V_nil _ _ _ _ _ | exact Kd.Q_nil _ _ _ _ _ | exact Kd.S_nil _ _ _ _ _, ZB⟩)

/-! ### laws_lcInts: function 9 -/
def laws_lcInts.l0 : Nat → List Int → List Int → Int → Option (Bool)
 | 0, _, _, _ => none
 | k + 1, x0, x1, x5 => if x5 < (x0.length : Int) then (if 0 ≤ x5 then (if x5 < (x1.length : Int) then (if (rd x0 x5) = (rd x1 x5) then (laws_lcInts.l0 k x0 x1 (wrap64 (x5 + 1))) else (some false)) else (none)) else (none)) else (some true)
def laws_lcInts.f (k : Nat) (l0 : List Int) (l1 : List Int) : Option (Bool) := if (l0.length : Int) = (l1.length : Int) then (laws_lcInts.l0 k l0 l1 0) else (some false)
theorem laws_lcInts.calls (k : Nat) (A0 : Option Addr) (c0 : Nat) (l0 : List Int) (A1 : Option Addr) (c1 : Nat) (l1 : List Int) (r : Bool) (w : World) (hr0 : Kd.C (Kd.int .i64) w A0 l0.length l0) (hc0 : l0.length ≤ c0) (hr1 : Kd.C (Kd.int .i64) w A1 l1.length l1) (hc1 : l1.length ≤ c1) (h : laws_lcInts.f k l0 l1 = some r) :
  Calls Try.prog 9 #[.slice A0 l0.length c0, .slice A1 l1.length c1] w fun e w' => e = .returned (.bool r) ∧ Drawn0 w w' := by
 have HR0 := AM hr0
 have HC0 := AM hc0
 clear hr0 hc0
 have HR1 := AM hr1
 have HC1 := AM hc1
 clear hr1 hc1
 have H := h
 unfold laws_lcInts.f at H
 clear h
 by_cases c3 : (l0.length : Int) = (l1.length : Int)
 ·(
 rw [if_pos c3] at H
 have c3b0 := beq_iff_eq.mpr c3
 have c3b1 := bne_eq_false_iff_eq.mpr c3
 have c3b2 : (l0.length == l1.length) = true := by first | simpa using c3 | (simp at c3 ⊢; omega)
 clear c3
 have H' := AM H
 clear H
 go_enter Try.func9, Try.ntmps9
 go_wp2
 repeat (go_quiet (fail); try go_wp2)
 go_loopg [5] k (fun kq v5 w' => ∃ (x5_1 : Int), v5 = .int .i64 x5_1 ∧ Za (laws_lcInts.l0 kq l0 l1 x5_1 = some r) ∧ Za (kq ≤ k) ∧ Drawn0 w w')
 case atStart => exact ⟨(0), (by first | rfl | (simp; done) | (simp [*]; done)), H', ⟨Nat.le_refl _⟩, by repeat (first | exact Drawn0.refl _ | apply Drawn0.step)⟩
 case round => (
 clear H'
 try clear c1
 try clear p2
 try clear c3
 try clear c3b0
 try clear c3b1
 try clear c3b2
 obtain ⟨x5_1, rfl, HA, HK1, ⟨m1, rfl⟩⟩ := hrel
 cases gk with
 | zero => exact absurd HA.out (by simp [laws_lcInts.l0])
 | succ k1 =>
  have H := HA.out
  clear HA
  simp only [laws_lcInts.l0] at H
  by_cases c4 : x5_1 < (l0.length : Int)
  ·(
  rw [if_pos c4] at H
  have c4b0 := decide_eq_true c4
  clear c4
  by_cases c5 : 0 ≤ x5_1
  ·(
  rw [if_pos c5] at H
  have c5b0 := decide_eq_true c5
  clear c5
  by_cases c6 : x5_1 < (l1.length : Int)
  ·(
  rw [if_pos c6] at H
  have c6b0 := decide_eq_true c6
  clear c6
  by_cases c7 : (rd l0 x5_1) = (rd l1 x5_1)
  ·(
  rw [if_pos c7] at H
  have c7b0 := beq_iff_eq.mpr c7
  have c7b1 := bne_eq_false_iff_eq.mpr c7
  clear c7
  have H' := AM H
  clear H
  have p592 : 0 ≤ (x5_1 : Int) := ZD
  have q592 : x5_1 < (l0.length : Int) := ZD
  obtain ⟨ad592, e592, hx592_0⟩ := Kd.at_int HR0.out x5_1 p592 q592
  cases e592
  replace p592 := eq_true p592
  replace q592 := eq_true q592
  have p593 : 0 ≤ (x5_1 : Int) := ZD
  have q593 : x5_1 < (l1.length : Int) := ZD
  obtain ⟨ad593, e593, hx593_0⟩ := Kd.at_int HR1.out x5_1 p593 q593
  cases e593
  replace p593 := eq_true p593
  replace q593 := eq_true q593
  go_wp2
  repeat (go_quiet (fail); try go_wp2)
  go_roundg k1
  case measure => have := HK1.out; omega
  case rel => exact ⟨(wrap64 (x5_1 + 1)), (by first | rfl | (simp; done) | (simp [*]; done)), H', ⟨by have := HK1.out; omega⟩, by repeat (first | exact Drawn0.refl _ | apply Drawn0.step)⟩)
  ·(
  rw [if_neg c7] at H
  have c7b0 := beq_eq_false_iff_ne.mpr c7
  have c7b1 := bne_iff_ne.mpr c7
  obtain rfl := Option.some.inj H
  have p592 : 0 ≤ (x5_1 : Int) := ZD
  have q592 : x5_1 < (l0.length : Int) := ZD
  obtain ⟨ad592, e592, hx592_0⟩ := Kd.at_int HR0.out x5_1 p592 q592
  cases e592
  replace p592 := eq_true p592
  replace q592 := eq_true q592
  have p593 : 0 ≤ (x5_1 : Int) := ZD
  have q593 : x5_1 < (l1.length : Int) := ZD
  obtain ⟨ad593, e593, hx593_0⟩ := Kd.at_int HR1.out x5_1 p593 q593
  cases e593
  replace p593 := eq_true p593
  replace q593 := eq_true q593
  go_wp2
  repeat (go_quiet (fail); try go_wp2)
  go_ret
  exact ⟨by first | rfl | (simp; done) | (simp [*]; done), by repeat (first | exact Drawn0.refl _ | apply Drawn0.step)⟩))
  ·(
  rw [if_neg c6] at H
  exact absurd H (by simp)))
  ·(
  rw [if_neg c5] at H
  exact absurd H (by simp)))
  ·(
  rw [if_neg c4] at H
  have c4b0 := decide_eq_false c4
  clear c4
  obtain rfl := Option.some.inj H
  go_wp2
  repeat (go_quiet (fail); try go_wp2)
  go_ret
  exact ⟨by first | rfl | (simp; done) | (simp [*]; done), by repeat (first | exact Drawn0.refl _ | apply Drawn0.step)⟩)))
 ·(
 rw [if_neg c3] at H
 have c3b0 := beq_eq_false_iff_ne.mpr c3
 have c3b1 := bne_iff_ne.mpr c3
 have c3b2 : (l0.length == l1.length) = false := by first | simpa using c3 | (simp at c3 ⊢; omega)
 obtain rfl := Option.some.inj H
 go_enter Try.func9, Try.ntmps9
 go_wp2
 repeat (go_quiet (fail); try go_wp2)
 go_ret
 exact ⟨by first | rfl | (simp; done) | (simp [*]; done), by repeat (first | exact Drawn0.refl _ | apply Drawn0.step)⟩)

/-! ### spec_l1Either: function 51 -/
def spec_l1Either.f (k : Nat) (a0 : Int) (a1 : Int) : Option (Int) := (spec_l1Both.f k a0 a1).bind fun t594 => (some (wrap64 ((wrap64 (a0 + a1)) - t594)))
theorem spec_l1Either.calls (k : Nat) (a0 : Int) (a1 : Int) (r : Int) (w : World) (h : spec_l1Either.f k a0 a1 = some r) :
  Calls Try.prog 51 #[.int .i64 a0, .int .i64 a1] w fun e w' => e = .returned (.int .i64 r) ∧ Drawn0 w w' := by
 have H := h
 unfold spec_l1Either.f at H
 clear h
 obtain ⟨t594, A3, H⟩ := ZOB H; try dsimp only at H
 obtain rfl := Option.some.inj H
 go_enter Try.func51, Try.ntmps51
 go_wp2_with (first | ((with_reducible refine gate_callee (f := 69) rfl ?_); refine ZGL (some 10) Try.func69 #[.int .i64 a0, .int .i64 a1] ?_; (with_reducible refine (spec_l1Both.calls k a0 a1 t594 _ A3.out).mono ?_); rintro e w' ⟨rfl, ⟨nd, rfl⟩⟩; refine ⟨_, rfl, ?_⟩))
 go_ret
 exact ⟨by first | rfl | (simp; done) | (simp [*]; done), by repeat (first | exact Drawn0.refl _ | apply Drawn0.step)⟩

end Go.Proofs.Ytkkdeojbkfjlpaa.A
