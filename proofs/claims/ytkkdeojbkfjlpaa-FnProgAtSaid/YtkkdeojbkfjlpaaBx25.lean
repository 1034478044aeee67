/- Go functions as Lean functions, and for each its contract; written by wip/tools/pr.py over the kit's print. -/
import Derived.Test.YtkkdeojbkfjlpaaBx0
import Derived.Test.YtkkdeojbkfjlpaaBx20
import Derived.Test.YtkkdeojbkfjlpaaBx23
import Derived.Test.YtkkdeojbkfjlpaaBx24
namespace Go.Proofs.Ytkkdeojbkfjlpaa.B
open Go.RowKit Go.Proofs.YtkkdeojbkfjlpaaW.PrintWords Go.Proofs.YtkkdeojbkfjlpaaW.PrintLast Go.Proofs.YtkkdeojbkfjlpaaW.PrintMore
attribute [local go_sem] max2_int min2_int max_two min_two max_three min_three max_four min_four
set_option linter.unusedVariables false
set_option linter.unusedSimpArgs false
set_option maxHeartbeats 8000000
set_option maxRecDepth 100000

/-! ### impl_ProgAt: function 20 -/
def impl_ProgAt.j0 : Nat → Int → Bool → List (S35) → List (S40) → Option (Int × Int × Int × Int × Int × Int × (List (S40)) × (List (S40)) × Bool)
 | 0, _, _, _, _ => none
 | k + 1, x1, x17, x601000, x601001 => if x17 = true then (some (0, 0, 0, 0, 0, 0, ([] : List (S40)), ([] : List (S40)), false)) else ((impl_all.f k x601001).bind fun t605 => (if 0 ≤ x1 then (if x1 < (t605.length : Int) then ((impl_cloneSteps.f k (([(⟨(D40 t605 x1).f0, (D40 t605 x1).f1, (⟨(D40 t605 x1).f2.f0, (D40 t605 x1).f2.f1, (D40 t605 x1).f2.f2⟩ : S38), (D40 t605 x1).f3, (D40 t605 x1).f4, (D40 t605 x1).f5⟩ : S40)] : List (S40)))).bind fun t612 => (if 0 < (t612.length : Int) then (some ((D40 t612 0).f0, (D40 t612 0).f1, (D40 t612 0).f2.f0, (D40 t612 0).f2.f1, (D40 t612 0).f2.f2, (D40 t612 0).f3, (D40 t612 0).f4, (D40 t612 0).f5, true)) else (none))) else (none)) else (none)))
def impl_ProgAt.f (k : Nat) (l0_0 : List (S35)) (l0_1 : List (S40)) (a1 : Int) : Option (Int × Int × Int × Int × Int × Int × (List (S40)) × (List (S40)) × Bool) := (impl_ProgOk.f k l0_0 l0_1).bind fun t602 => (if t602 = true then ((impl_size.f k l0_1).bind fun t603 => ((impl_in.f a1 0 (wrap64 (t603 - 1))).bind fun t604 => (impl_ProgAt.j0 k a1 (!t604) l0_0 l0_1))) else (impl_ProgAt.j0 k a1 true l0_0 l0_1))
theorem impl_ProgAt.calls (k : Nat) (A0_0 : Option Addr) (c0_0 : Nat) (l0_0 : List (S35)) (P0_1_ : Nat → Prop) (A0_1 : Option Addr) (c0_1 : Nat) (l0_1 : List (S40)) (a1 : Int) (r1 : Int) (r2 : Int) (r3 : Int) (r4 : Int) (r5 : Int) (r6 : Int) (r7 : List (S40)) (r8 : List (S40)) (r9 : Bool) (w : World) (hr0_0 : Kd.C k35 w A0_0 l0_0.length l0_0) (hc0_0 : l0_0.length ≤ c0_0) (hs0_1 : Kd.V k40 40 w w.heap.size (fun k_ => P0_1_ k_) (.slice A0_1 l0_1.length c0_1) l0_1) (h : impl_ProgAt.f k l0_0 l0_1 a1 = some (r1, r2, r3, r4, r5, r6, r7, r8, r9)) :
  Calls Try.prog 20 #[.agg #[.slice A0_0 l0_0.length c0_0, .slice A0_1 l0_1.length c0_1], .int .i64 a1] w fun e w' => ∃ v6_ v7_ : Value, e = .returned (.tuple #[.agg #[.int .i64 r1, .int .i64 r2, .int .i64 r3, .int .i64 r4, .int .i64 r5, .int .i64 r6, v6_, v7_], .bool r9]) ∧ Kd.V k40 40 w' w.heap.size (fun k_ => (P0_1_ k_ ∨ w.heap.size ≤ k_)) v6_ r7 ∧ Kd.V k40 40 w' w.heap.size (fun k_ => (P0_1_ k_ ∨ w.heap.size ≤ k_)) v7_ r8 ∧ Below w.heap.size w w' := by
 have hu26 := Try.underlying26
 have hu40 := Try.underlying40
 have HR0_0 := AM hr0_0
 have HC0_0 := AM hc0_0
 clear hr0_0 hc0_0
 have HO0_1 := AM (show Kd.V k40 40 w w.heap.size (fun k_ => (P0_1_ k_ ∨ w.heap.size ≤ k_)) (.slice A0_1 l0_1.length c0_1) l0_1 from Kd.V_mono hs0_1 (fun k_ hk => .inl hk))
 have HB := AM (Below.refl w.heap.size w)
 have H := h
 unfold impl_ProgAt.f at H
 clear h
 have HC3 := AM H
 clear H
 go_enter Try.func20, Try.ntmps20
 go_upto_region 1 with (first | ((with_reducible refine gate_dst (N := 2) rfl ?_); refine ZXW w (N := 2) (cs := #[.slice A0_0 l0_0.length c0_0, .slice A0_1 l0_1.length c0_1]) (t := 26) ?_; intro gb600 hg w4 BK600 GW600 hb; replace HO0_1 := AM (Kd.V_below (Kd.V_elderB (ZRV HO0_1.out) gb600 (Nat.le_of_eq hg.symm)) hb); replace HB := ZT HB hb; clear hb hg) | ((with_reducible refine gate_dst (N := 4) rfl ?_); refine ZXW w (N := 4) (cs := #[.int .i64 0, .int .i64 0, .int .i64 0, .int .i64 0, .int .i64 0, .int .i64 0, .slice none 0 0, .slice none 0 0]) (t := 40) ?_; intro gb601 hg w5 BK601 GW601 hb; have NB600_601 : Za (gb600 ≠ gb601) := ZN hg BK600; have NB601_600 : Za (gb601 ≠ gb600) := ZM hg BK600; replace HO0_1 := AM (Kd.V_below (Kd.V_elderB (ZRV HO0_1.out) gb601 (Nat.le_of_eq hg.symm)) hb); replace BK600 := ZW BK600 hb; replace HB := ZT HB hb; clear hb hg))
 (try simp only [Act.put, List.setIfInBounds_toArray, List.set_cons_zero, List.set_cons_succ])
 go_cut [17] (fun v17 wc => ∃ (kq : Nat) (x17_2 : Bool), v17 = .bool x17_2 ∧ Za (impl_ProgAt.j0 kq a1 x17_2 l0_0 l0_1 = some (r1, r2, r3, r4, r5, r6, r7, r8, r9)) ∧ Za (kq ≤ k) ∧ Za (Kd.V k40 40 wc w.heap.size (fun k_ => (P0_1_ k_ ∨ w.heap.size ≤ k_) ∧ k_ ≠ gb600 ∧ k_ ≠ gb601) (.slice A0_1 l0_1.length c0_1) l0_1) ∧ Za (wc.heap[gb600]? = some (.cells #[(.slice A0_0 l0_0.length c0_0), (.slice A0_1 l0_1.length c0_1)] 26 (0, 0))) ∧ Za (wc.heap[gb601]? = some (.cells #[.int .i64 0, .int .i64 0, .int .i64 0, .int .i64 0, .int .i64 0, .int .i64 0, (.slice none 0 0), (.slice none 0 0)] 40 (0, 0))) ∧ Za (Below w.heap.size w wc))
 case first => (
 have H := HC3.out
 clear HC3
 obtain ⟨t602, A6, H⟩ := ZOB H; try dsimp only at H
 by_cases c7 : t602 = true
 ·(
 subst c7
 have H1 := H; rw [if_pos rfl] at H1
 clear H
 have H := H1
 clear H1
 obtain ⟨t603, A8, H⟩ := ZOB H; try dsimp only at H
 obtain ⟨t604, A9, H⟩ := ZOB H; try dsimp only at H
 have H' := AM H
 clear H
 have hnb10 := NB600_601.out
 have hnc10 := NB601_600.out
 have hcz11 := ZC2 w5 BK600
 go_wp2_with (first | ((with_reducible refine gate_callee (f := 25) rfl ?_); refine ZGL (some 7) Try.func25 #[.agg #[.slice A0_0 l0_0.length c0_0, .slice A0_1 l0_1.length c0_1]] ?_; (with_reducible refine (impl_ProgOk.calls k _ _ l0_0 _ _ l0_1 true _ (ZQ (Kd.C_below HR0_0.out HB.out)) HC0_0.out ?side3 ?side4 A6.out).mono ?_); (case side3 => exact ZQ ((Kd.V_reads' HO0_1.out).2.2)); (case side4 => exact (Kd.V_reads' HO0_1.out).2.1); rintro e w12 ⟨rfl, hb⟩; refine ZV1 ?_; replace HO0_1 := AM (Kd.V_below (ZRV HO0_1.out) hb); replace BK600 := ZW BK600 hb; replace BK601 := ZW BK601 hb; replace HB := ZT HB hb; clear hb; have hcz13 := ZC2 w12 BK600) | (go_at_call 43; (with_reducible refine (impl_size.calls k _ _ l0_1 t603 _ ?side1 ?side2 A8.out).mono ?_); (case side1 => exact ZQ ((Kd.V_reads' HO0_1.out).2.2)); (case side2 => exact (Kd.V_reads' HO0_1.out).2.1); rintro e w14 ⟨rfl, hb⟩; replace HO0_1 := AM (Kd.V_below (ZRV HO0_1.out) hb); replace BK600 := ZW BK600 hb; replace BK601 := ZW BK601 hb; replace HB := ZT HB hb; clear hb) | (go_at_call 42; (with_reducible refine (impl_in.calls a1 0 (wrap64 (t603 - 1)) t604 _ A9.out).mono ?_); rintro e w' ⟨rfl, ⟨nd, rfl⟩⟩))
 go_meet
 case rel => exact ⟨_, (!t604), ZSM, H', ⟨by first | omega | exact Nat.le_refl _⟩, ⟨ZVm HO0_1.out (fun _ hk => ⟨hk.1.1, ⟨hk.1.2, hk.2⟩⟩)⟩, ⟨ZK BK600.out⟩, ⟨ZK BK601.out⟩, ⟨ZB⟩⟩)
 ·(
 replace c7 := Bool.eq_false_iff.mpr c7
 subst c7
 have H1 := H; rw [if_neg ZFT] at H1
 clear H
 have H := H1
 clear H1
 have H' := AM H
 clear H
 have hnb15 := NB600_601.out
 have hnc15 := NB601_600.out
 have hcz16 := ZC2 w5 BK600
 go_wp2_with (first | ((with_reducible refine gate_callee (f := 25) rfl ?_); refine ZGL (some 7) Try.func25 #[.agg #[.slice A0_0 l0_0.length c0_0, .slice A0_1 l0_1.length c0_1]] ?_; (with_reducible refine (impl_ProgOk.calls k _ _ l0_0 _ _ l0_1 false _ (ZQ (Kd.C_below HR0_0.out HB.out)) HC0_0.out ?side3 ?side4 A6.out).mono ?_); (case side3 => exact ZQ ((Kd.V_reads' HO0_1.out).2.2)); (case side4 => exact (Kd.V_reads' HO0_1.out).2.1); rintro e w17 ⟨rfl, hb⟩; refine ZV1 ?_; replace HO0_1 := AM (Kd.V_below (ZRV HO0_1.out) hb); replace BK600 := ZW BK600 hb; replace BK601 := ZW BK601 hb; replace HB := ZT HB hb; clear hb))
 go_meet
 case rel => exact ⟨_, (true), ZSM, H', ⟨by first | omega | exact Nat.le_refl _⟩, ⟨ZVm HO0_1.out (fun _ hk => ⟨hk.1.1, ⟨hk.1.2, hk.2⟩⟩)⟩, ⟨ZK BK600.out⟩, ⟨ZK BK601.out⟩, ⟨ZB⟩⟩))
 case rest => (
 clear HC3
 try clear c1
 try clear c2
 try clear p2
 try clear p6
 try clear c7
 try clear c10
 try clear c15
 try clear hcz11
 try clear hcz13
 try clear hcz16
 obtain ⟨kq, x17_2, rfl, HA, HJ2, HO_601001, BK600, BK601, HB⟩ := hcut
 cases kq with
 | zero => exact absurd HA.out (by simp [impl_ProgAt.j0])
 | succ kj2 =>
  have H := HA.out
  clear HA
  simp only [impl_ProgAt.j0] at H
  by_cases c18 : x17_2 = true
  ·(
  subst c18
  have H1 := H; rw [if_pos rfl] at H1
  clear H
  have H := H1
  clear H1
  simp only [Option.some.injEq, Prod.mk.injEq] at H
  obtain ⟨rfl, rfl, rfl, rfl, rfl, rfl, rfl, rfl, rfl⟩ := H
  have hnb19 := NB601_600.out
  have hnc19 := NB600_601.out
  have hcz20 := ZC8 wc BK601
  go_wp2
  refine bodyPost_ret (results_ct rfl _ _ gb601 40 #[.int .i64 0, .int .i64 0, .int .i64 0, .int .i64 0, .int .i64 0, .int .i64 0, .slice none 0 0, .slice none 0 0] (0, 0) _ rfl (ZZ BK601.out) Try.underlying40 rfl (by kernel_rfl)) rfl ?_
  exact ⟨_, _, ZE, Kd.N_V (base := 0) (by first | exact Kd.R_nil _ _ _ _ _ | exact Kd.N_nil _ _ _ _ _ | exact Kd.V_nil _ _ _ _ _ | exact Kd.Q_nil _ _ _ _ _ | exact Kd.S_nil _ _ _ _ _), Kd.N_V (base := 0) (by first | exact Kd.R_nil _ _ _ _ _ | exact Kd.N_nil _ _ _ _ _ | exact Kd.V_nil _ _ _ _ _ | exact Kd.Q_nil _ _ _ _ _ | exact Kd.S_nil _ _ _ _ _), ZB⟩)
  ·(
  replace c18 := Bool.eq_false_iff.mpr c18
  subst c18
  have H1 := H; rw [if_neg ZFT] at H1
  clear H
  have H := H1
  clear H1
  obtain ⟨t605, A21, H⟩ := ZOB H; try dsimp only at H
  by_cases c22 : 0 ≤ a1
  ·(
  rw [if_pos c22] at H
  have c22b0 := decide_eq_true c22
  clear c22
  by_cases c23 : a1 < (t605.length : Int)
  ·(
  rw [if_pos c23] at H
  have c23b0 := decide_eq_true c23
  clear c23
  obtain ⟨y609, hy609⟩ : ∃ y_ : List (S40), y_ = (([(⟨(D40 t605 a1).f0, (D40 t605 a1).f1, (⟨(D40 t605 a1).f2.f0, (D40 t605 a1).f2.f1, (D40 t605 a1).f2.f2⟩ : S38), (D40 t605 a1).f3, (D40 t605 a1).f4, (D40 t605 a1).f5⟩ : S40)] : List (S40))) := ⟨_, rfl⟩
  replace H : ((impl_cloneSteps.f kj2 y609).bind fun t612 => (if 0 < (t612.length : Int) then (some ((D40 t612 0).f0, (D40 t612 0).f1, (D40 t612 0).f2.f0, (D40 t612 0).f2.f1, (D40 t612 0).f2.f2, (D40 t612 0).f3, (D40 t612 0).f4, (D40 t612 0).f5, true)) else (none))) = some (r1, r2, r3, r4, r5, r6, r7, r8, r9) := by rw [hy609]; exact H
  have Ny609 := AM hy609
  clear hy609
  obtain ⟨t612, A24, H⟩ := ZOB H; try dsimp only at H
  by_cases c25 : 0 < (t612.length : Int)
  ·(
  rw [if_pos c25] at H
  have c25b0 := decide_eq_true c25
  have c25b1 : decide (0 < t612.length) = true := decide_eq_true (by omega)
  clear c25
  simp only [Option.some.injEq, Prod.mk.injEq] at H
  obtain ⟨rfl, rfl, rfl, rfl, rfl, rfl, rfl, rfl, rfl⟩ := H
  have hnb26 := NB600_601.out
  have hnc26 := NB601_600.out
  have hcz27 := ZC2 wc BK600
  go_wp2_with (first | ((with_reducible refine gate_callee (f := 26) rfl ?_); refine ZGL (some 21) Try.func26 #[.slice A0_1 l0_1.length c0_1] ?_; (with_reducible refine (impl_all.calls kj2 (fun k_ => ((P0_1_ k_ ∨ w.heap.size ≤ k_) ∧ (k_ ≠ gb600 ∧ k_ ≠ gb601))) _ _ l0_1 t605 _ ?side1 A21.out).mono ?_); (case side1 => exact HO_601001.out); rintro e w28 ⟨v606, rfl, ho0, hb⟩; refine ZV1 ?_; have HO607 := AM (Kd.N_lower (Kd.N_mono (ok' := fun k_ => (P0_1_ k_ ∨ w.heap.size ≤ k_) ∧ k_ ≠ gb600 ∧ k_ ≠ gb601) ho0 (fun k_ hk_ => ⟨Or.elim hk_ (fun hs_ => hs_.1) (fun hn_ => (.inr (Nat.le_trans (below_size (ZB)) hn_))), Or.elim hk_ (fun hs_ => hs_.2.1) (fun hn_ => (Kd.freshB (g := gb600) (o := .cells #[.slice A0_0 l0_0.length c0_0, .slice A0_1 l0_1.length c0_1] 26 (0, 0)) (ZK BK600.out) k_ hn_)), Or.elim hk_ (fun hs_ => hs_.2.2) (fun hn_ => (Kd.freshB (g := gb601) (o := .cells #[.int .i64 0, .int .i64 0, .int .i64 0, .int .i64 0, .int .i64 0, .int .i64 0, .slice none 0 0, .slice none 0 0] 40 (0, 0)) (ZK BK601.out) k_ hn_))⟩)) (below_size (ZB))); replace HO_601001 := AM (Kd.V_elder' (ZRV HO_601001.out) (Kd.N_base ho0) hb); replace BK600 := ZW BK600 hb; replace BK601 := ZW BK601 hb; replace HB := ZT HB hb; clear hb; (try clear ho0); obtain ⟨Ao29, co29, eo29⟩ := Kd.N_slice HO607.out; subst eo29; have p608 : 0 ≤ (a1 : Int) := ZD; have q608 : a1 < (t605.length : Int) := ZD; obtain ⟨ad608, A608_6, c608_6, A608_7, c608_7, e608, hx608_0, hx608_1, hx608_2, hx608_3, hx608_4, hx608_5, hx608_6, hx608_7, hl608_6, hi608_6, hl608_7, hi608_7⟩ := at_T40 (Kd.N_reads' HO607.out).2.2 a1 p608 q608; cases e608; obtain ⟨ce608, hce608, hMe608, hcc608⟩ := Kd.N_get HO607.out z40 a1 p608 (by first | exact q608 | exact ZD | (have e_ := (Kd.N_reads' HO607.out).1; omega)); obtain ⟨ua608_6, uc608_6, ua608_7, uc608_7, rfl, ul608_6, ge608_6, ul608_7, ge608_7⟩ := k40_openF hMe608; have hv608_6 := hcc608 6 _ rfl; rw [add_field _ _ 6 (by omega)] at hv608_6; replace hv608_6 := Option.some.inj (hv608_6.symm.trans hx608_6); injection hv608_6 with hva_ hvn_ hvc_; rw [hva_] at ge608_6; rw [hvc_] at ul608_6; have HL608_6 := AM (show Kd.V k40 40 _ w.heap.size _ _ ((D40 t605 a1).f4) from Kd.V_mk ul608_6 ge608_6); clear hva_ hvn_ hvc_ ge608_6 ul608_6; have hv608_7 := hcc608 7 _ rfl; rw [add_field _ _ 7 (by omega)] at hv608_7; replace hv608_7 := Option.some.inj (hv608_7.symm.trans hx608_7); injection hv608_7 with hva_ hvn_ hvc_; rw [hva_] at ge608_7; rw [hvc_] at ul608_7; have HL608_7 := AM (show Kd.V k40 40 _ w.heap.size _ _ ((D40 t605 a1).f5) from Kd.V_mk ul608_7 ge608_7); clear hva_ hvn_ hvc_ ge608_7 ul608_7 hcc608 hce608; have HR608_6 := AM hi608_6; have HC608_6 := AM hl608_6; clear hi608_6 hl608_6; have HR608_7 := AM hi608_7; have HC608_7 := AM hl608_7; clear hi608_7 hl608_7; replace p608 := eq_true p608; replace q608 := eq_true q608) | ((with_reducible refine gate_dst (N := 25) rfl ?_); refine Kd.N_lit k40 _ 40 ?hg (N' := 25) ?hd (xs := ([(⟨(D40 t605 a1).f0, (D40 t605 a1).f1, (⟨(D40 t605 a1).f2.f0, (D40 t605 a1).f2.f1, (D40 t605 a1).f2.f2⟩ : S38), (D40 t605 a1).f3, (D40 t605 a1).f4, (D40 t605 a1).f5⟩ : S40)] : List (S40))) (inner := [.int .i64 ((D40 t605 a1).f0), .int .i64 ((D40 t605 a1).f1), .int .i64 ((D40 t605 a1).f2.f0), .int .i64 ((D40 t605 a1).f2.f1), .int .i64 ((D40 t605 a1).f2.f2), .int .i64 ((D40 t605 a1).f3), .slice A608_6 ((D40 t605 a1).f4).length c608_6, .slice A608_7 ((D40 t605 a1).f5).length c608_7]) (ok := (fun k_ => (P0_1_ k_ ∨ w.heap.size ≤ k_) ∧ some k_ ≠ (.slice (some ad608) t605.length co29 : Value).ownBlock ∧ k_ ≠ gb600 ∧ k_ ≠ gb601)) (okp := (fun k_ => (P0_1_ k_ ∨ w.heap.size ≤ k_) ∧ some k_ ≠ (.slice (some ad608) t605.length co29 : Value).ownBlock ∧ k_ ≠ gb600 ∧ k_ ≠ gb601)) ?hr ?hp (fun _ hk => hk) ((show ∀ k_, w28.heap.size ≤ k_ → (fun k_ => (P0_1_ k_ ∨ w.heap.size ≤ k_) ∧ some k_ ≠ (.slice (some ad608) t605.length co29 : Value).ownBlock ∧ k_ ≠ gb600 ∧ k_ ≠ gb601) k_ from fun k_ hk => ⟨(.inr (Nat.le_trans (below_size (ZB)) hk)), Kd.fresh' (Kd.N_lt (ZRN HO607.out)) k_ hk, Kd.freshB (g := gb600) (o := .cells #[.slice A0_0 l0_0.length c0_0, .slice A0_1 l0_1.length c0_1] 26 (0, 0)) (ZK BK600.out) k_ hk, Kd.freshB (g := gb601) (o := .cells #[.int .i64 0, .int .i64 0, .int .i64 0, .int .i64 0, .int .i64 0, .int .i64 0, .slice none 0 0, .slice none 0 0] 40 (0, 0)) (ZK BK601.out) k_ hk⟩) _ (Nat.le_refl _)) (Below.refl _ _) (Nat.le_refl _) (by simp) ?_; (case hd => rfl); (case hg => rfl); (case hr => first | (go_simp; done) | (go_simp; rfl)); (case hp => exact (Reps.c8 (show Kd.FK k40 _ _ (⟨(D40 t605 a1).f0, (D40 t605 a1).f1, (⟨(D40 t605 a1).f2.f0, (D40 t605 a1).f2.f1, (D40 t605 a1).f2.f2⟩ : S38), (D40 t605 a1).f3, (D40 t605 a1).f4, (D40 t605 a1).f5⟩ : S40) [.int .i64 ((D40 t605 a1).f0), .int .i64 ((D40 t605 a1).f1), .int .i64 ((D40 t605 a1).f2.f0), .int .i64 ((D40 t605 a1).f2.f1), .int .i64 ((D40 t605 a1).f2.f2), .int .i64 ((D40 t605 a1).f3), .slice A608_6 ((D40 t605 a1).f4).length c608_6, .slice A608_7 ((D40 t605 a1).f5).length c608_7] from (k40_mkF _ _ (⟨(D40 t605 a1).f0, (D40 t605 a1).f1, (⟨(D40 t605 a1).f2.f0, (D40 t605 a1).f2.f1, (D40 t605 a1).f2.f2⟩ : S38), (D40 t605 a1).f3, (D40 t605 a1).f4, (D40 t605 a1).f5⟩ : S40) (Kd.V_reads' (Kd.V_mono (ok' := (fun k_ => (P0_1_ k_ ∨ w.heap.size ≤ k_) ∧ some k_ ≠ (.slice (some ad608) t605.length co29 : Value).ownBlock ∧ k_ ≠ gb600 ∧ k_ ≠ gb601)) (HL608_6.out) (fun k_ hk => ⟨hk.1.1, ⟨hk.2, ⟨hk.1.2.1, hk.1.2.2⟩⟩⟩))).2.1 (Kd.V_F (Kd.V_mono (ok' := (fun k_ => (P0_1_ k_ ∨ w.heap.size ≤ k_) ∧ some k_ ≠ (.slice (some ad608) t605.length co29 : Value).ownBlock ∧ k_ ≠ gb600 ∧ k_ ≠ gb601)) (HL608_6.out) (fun k_ hk => ⟨hk.1.1, ⟨hk.2, ⟨hk.1.2.1, hk.1.2.2⟩⟩⟩))) (Kd.V_reads' (Kd.V_mono (ok' := (fun k_ => (P0_1_ k_ ∨ w.heap.size ≤ k_) ∧ some k_ ≠ (.slice (some ad608) t605.length co29 : Value).ownBlock ∧ k_ ≠ gb600 ∧ k_ ≠ gb601)) (HL608_7.out) (fun k_ hk => ⟨hk.1.1, ⟨hk.2, ⟨hk.1.2.1, hk.1.2.2⟩⟩⟩))).2.1 (Kd.V_F (Kd.V_mono (ok' := (fun k_ => (P0_1_ k_ ∨ w.heap.size ≤ k_) ∧ some k_ ≠ (.slice (some ad608) t605.length co29 : Value).ownBlock ∧ k_ ≠ gb600 ∧ k_ ≠ gb601)) (HL608_7.out) (fun k_ hk => ⟨hk.1.1, ⟨hk.2, ⟨hk.1.2.1, hk.1.2.2⟩⟩⟩))))) (Reps.none _ _))); intro v610 w30 ho31 hb hg_ hnew_; clear hg_ hnew_; (first | rw [← Ny609.out] at ho31 | (simp only [Int.reduceToNat] at ho31; rw [← Ny609.out] at ho31)); have HO611 := AM (Kd.N_lower ho31 (below_size (ZB))); replace HO_601001 := AM (Kd.V_elder' (ZRV HO_601001.out) (Kd.N_base ho31) hb); replace HO607 := AM (Kd.N_elder' (ZRN HO607.out) (Kd.N_base ho31) hb); replace HL608_6 := AM (Kd.V_elder' (ZRV HL608_6.out) (Kd.N_base ho31) hb); replace HL608_7 := AM (Kd.V_elder' (ZRV HL608_7.out) (Kd.N_base ho31) hb); replace BK600 := ZW BK600 hb; replace BK601 := ZW BK601 hb; replace HR608_6 := AM (Kd.C_below (ZQ HR608_6.out) hb); replace HR608_7 := AM (Kd.C_below (ZQ HR608_7.out) hb); replace HB := ZT HB hb; clear hb ho31; obtain ⟨Ao32, co32, eo32⟩ := Kd.N_slice HO611.out; subst eo32) | ((with_reducible refine gate_callee (f := 44) rfl ?_); refine ZGL (some 26) Try.func44 #[.slice Ao32 y609.length co32] ?_; (with_reducible refine (impl_cloneSteps.calls kj2 _ _ y609 t612 _ ?side1 ?side2 A24.out).mono ?_); (case side1 => exact ZQ ((Kd.N_reads' HO611.out).2.2)); (case side2 => exact (Kd.N_reads' HO611.out).2.1); rintro e w33 ⟨v613, rfl, ho0, hb⟩; refine ZV1 ?_; have HO614 := AM (Kd.N_lower (Kd.N_mono (ok' := fun k_ => (P0_1_ k_ ∨ w.heap.size ≤ k_) ∧ some k_ ≠ (.slice (some ad608) t605.length co29 : Value).ownBlock ∧ some k_ ≠ (.slice Ao32 y609.length co32 : Value).ownBlock ∧ k_ ≠ gb600 ∧ k_ ≠ gb601) (Kd.R_N (Kd.R_bound ho0)) (fun k_ hk_ => ⟨(.inr (Nat.le_trans (below_size (ZB)) hk_.2.1)), (Kd.fresh' (Kd.N_lt (ZRN HO607.out)) k_ hk_.2.1), (Kd.fresh' (Kd.N_lt (ZRN HO611.out)) k_ hk_.2.1), (Kd.freshB (g := gb600) (o := .cells #[.slice A0_0 l0_0.length c0_0, .slice A0_1 l0_1.length c0_1] 26 (0, 0)) (ZK BK600.out) k_ hk_.2.1), (Kd.freshB (g := gb601) (o := .cells #[.int .i64 0, .int .i64 0, .int .i64 0, .int .i64 0, .int .i64 0, .int .i64 0, .slice none 0 0, .slice none 0 0] 40 (0, 0)) (ZK BK601.out) k_ hk_.2.1)⟩)) (below_size (ZB))); replace HO_601001 := AM (Kd.V_elder' (ZRV HO_601001.out) (Kd.R_base ho0) hb); replace HO607 := AM (Kd.N_elder' (ZRN HO607.out) (Kd.R_base ho0) hb); replace HL608_6 := AM (Kd.V_elder' (ZRV HL608_6.out) (Kd.R_base ho0) hb); replace HL608_7 := AM (Kd.V_elder' (ZRV HL608_7.out) (Kd.R_base ho0) hb); replace HO611 := AM (Kd.N_elder' (ZRN HO611.out) (Kd.R_base ho0) hb); replace BK600 := ZW BK600 hb; replace BK601 := ZW BK601 hb; replace HR608_6 := AM (Kd.C_below (ZQ HR608_6.out) hb); replace HR608_7 := AM (Kd.C_below (ZQ HR608_7.out) hb); replace HB := ZT HB hb; clear hb; (try clear ho0); obtain ⟨Ao34, co34, eo34⟩ := Kd.N_slice HO614.out; subst eo34; have p615 : 0 ≤ (0 : Int) := (by omega); have q615 : 0 < (t612.length : Int) := ZD; obtain ⟨ad615, A615_6, c615_6, A615_7, c615_7, e615, hx615_0, hx615_1, hx615_2, hx615_3, hx615_4, hx615_5, hx615_6, hx615_7, hl615_6, hi615_6, hl615_7, hi615_7⟩ := at_T40 (Kd.N_reads' HO614.out).2.2 0 p615 q615; cases e615; obtain ⟨ce615, hce615, hMe615, hcc615⟩ := Kd.N_get HO614.out z40 0 p615 (by first | exact q615 | exact ZD | (have e_ := (Kd.N_reads' HO614.out).1; omega)); obtain ⟨ua615_6, uc615_6, ua615_7, uc615_7, rfl, ul615_6, ge615_6, ul615_7, ge615_7⟩ := k40_openF hMe615; have hv615_6 := hcc615 6 _ rfl; rw [add_field _ _ 6 (by omega)] at hv615_6; replace hv615_6 := Option.some.inj (hv615_6.symm.trans hx615_6); injection hv615_6 with hva_ hvn_ hvc_; rw [hva_] at ge615_6; rw [hvc_] at ul615_6; have HL615_6 := AM (show Kd.V k40 40 _ w.heap.size _ _ ((D40 t612 0).f4) from Kd.V_mk ul615_6 ge615_6); clear hva_ hvn_ hvc_ ge615_6 ul615_6; have hv615_7 := hcc615 7 _ rfl; rw [add_field _ _ 7 (by omega)] at hv615_7; replace hv615_7 := Option.some.inj (hv615_7.symm.trans hx615_7); injection hv615_7 with hva_ hvn_ hvc_; rw [hva_] at ge615_7; rw [hvc_] at ul615_7; have HL615_7 := AM (show Kd.V k40 40 _ w.heap.size _ _ ((D40 t612 0).f5) from Kd.V_mk ul615_7 ge615_7); clear hva_ hvn_ hvc_ ge615_7 ul615_7 hcc615 hce615; have qi615 : (0 < t612.length) = True := eq_true (by omega); (try rw [show ((0 : Int)).toNat = 0 from rfl] at hx615_0); (try rw [show 0 * 8 = 0 from rfl] at hx615_0); (try rw [Addr.add_zero'] at hx615_0); (try rw [show ((0 : Int)).toNat = 0 from rfl] at hx615_1); (try rw [show 0 * 8 = 0 from rfl] at hx615_1); (try rw [Addr.add_zero'] at hx615_1); (try rw [show ((0 : Int)).toNat = 0 from rfl] at hx615_2); (try rw [show 0 * 8 = 0 from rfl] at hx615_2); (try rw [Addr.add_zero'] at hx615_2); (try rw [show ((0 : Int)).toNat = 0 from rfl] at hx615_3); (try rw [show 0 * 8 = 0 from rfl] at hx615_3); (try rw [Addr.add_zero'] at hx615_3); (try rw [show ((0 : Int)).toNat = 0 from rfl] at hx615_4); (try rw [show 0 * 8 = 0 from rfl] at hx615_4); (try rw [Addr.add_zero'] at hx615_4); (try rw [show ((0 : Int)).toNat = 0 from rfl] at hx615_5); (try rw [show 0 * 8 = 0 from rfl] at hx615_5); (try rw [Addr.add_zero'] at hx615_5); (try rw [show ((0 : Int)).toNat = 0 from rfl] at hx615_6); (try rw [show 0 * 8 = 0 from rfl] at hx615_6); (try rw [Addr.add_zero'] at hx615_6); (try rw [show ((0 : Int)).toNat = 0 from rfl] at hx615_7); (try rw [show 0 * 8 = 0 from rfl] at hx615_7); (try rw [Addr.add_zero'] at hx615_7); have HR615_6 := AM hi615_6; have HC615_6 := AM hl615_6; clear hi615_6 hl615_6; have HR615_7 := AM hi615_7; have HC615_7 := AM hl615_7; clear hi615_7 hl615_7; replace p615 := eq_true p615; replace q615 := eq_true q615; have hcz35 := ZC8 w33 BK601))
  refine bodyPost_ret (results_ct rfl _ _ gb601 40 #[.int .i64 ((D40 t612 0).f0), .int .i64 ((D40 t612 0).f1), .int .i64 ((D40 t612 0).f2.f0), .int .i64 ((D40 t612 0).f2.f1), .int .i64 ((D40 t612 0).f2.f2), .int .i64 ((D40 t612 0).f3), .slice A615_6 ((D40 t612 0).f4).length c615_6, .slice A615_7 ((D40 t612 0).f5).length c615_7] (0, 0) _ rfl (ZZ BK601.out) Try.underlying40 rfl (by kernel_rfl)) rfl ?_
  exact ⟨_, _, ZE, ZVf (Kd.V_mono HL615_6.out (fun k_ hk => (⟨hk, hk.1.2.2.2.2⟩ : _ ∧ k_ ≠ gb601))) (fun _ hk => ⟨hk.2, hk.1.1.1⟩), ZVf (Kd.V_mono HL615_7.out (fun k_ hk => (⟨hk, hk.1.2.2.2.2⟩ : _ ∧ k_ ≠ gb601))) (fun _ hk => ⟨hk.2, hk.1.1.1⟩), ZB⟩)
  ·(
  rw [if_neg c25] at H
  exact absurd H (by simp)))
  ·(
  rw [if_neg c23] at H
  exact absurd H (by simp)))
  ·(
  rw [if_neg c22] at H
  exact absurd H (by simp))))

/-! ### impl_ProgSize: function 21 -/
def impl_ProgSize.f (k : Nat) (l0_0 : List (S35)) (l0_1 : List (S40)) : Option (Int) := (impl_ProgOk.f k l0_0 l0_1).bind fun t617 => (if t617 = true then ((impl_size.f k l0_1).bind fun t618 => (some t618)) else (some (-1)))
theorem impl_ProgSize.calls (k : Nat) (A0_0 : Option Addr) (c0_0 : Nat) (l0_0 : List (S35)) (A0_1 : Option Addr) (c0_1 : Nat) (l0_1 : List (S40)) (r : Int) (w : World) (hr0_0 : Kd.C k35 w A0_0 l0_0.length l0_0) (hc0_0 : l0_0.length ≤ c0_0) (hr0_1 : Kd.C k40 w A0_1 l0_1.length l0_1) (hc0_1 : l0_1.length ≤ c0_1) (h : impl_ProgSize.f k l0_0 l0_1 = some r) :
  Calls Try.prog 21 #[.agg #[.slice A0_0 l0_0.length c0_0, .slice A0_1 l0_1.length c0_1]] w fun e w' => e = .returned (.int .i64 r) ∧ Below w.heap.size w w' := by
 have hu26 := Try.underlying26
 have HR0_0 := AM hr0_0
 have HC0_0 := AM hc0_0
 clear hr0_0 hc0_0
 have HR0_1 := AM hr0_1
 have HC0_1 := AM hc0_1
 clear hr0_1 hc0_1
 have HB := AM (Below.refl w.heap.size w)
 have H := h
 unfold impl_ProgSize.f at H
 clear h
 obtain ⟨t617, A2, H⟩ := ZOB H; try dsimp only at H
 by_cases c3 : t617 = true
 ·(
 subst c3
 have H1 := H; rw [if_pos rfl] at H1
 clear H
 have H := H1
 clear H1
 obtain ⟨t618, A4, H⟩ := ZOB H; try dsimp only at H
 obtain rfl := Option.some.inj H
 go_enter Try.func21, Try.ntmps21
 go_wp2_with (first | ((with_reducible refine gate_dst (N := 1) rfl ?_); refine ZXW w (N := 1) (cs := #[.slice A0_0 l0_0.length c0_0, .slice A0_1 l0_1.length c0_1]) (t := 26) ?_; intro gb616 hg w5 BK616 GW616 hb; replace HB := ZT HB hb; clear hb hg; have hcz6 := ZC2 w5 BK616) | ((with_reducible refine gate_callee (f := 25) rfl ?_); refine ZGL (some 4) Try.func25 #[.agg #[.slice A0_0 l0_0.length c0_0, .slice A0_1 l0_1.length c0_1]] ?_; (with_reducible refine (impl_ProgOk.calls k _ _ l0_0 _ _ l0_1 true _ (ZQ (Kd.C_below HR0_0.out HB.out)) HC0_0.out (ZQ (Kd.C_below HR0_1.out HB.out)) HC0_1.out A2.out).mono ?_); rintro e w7 ⟨rfl, hb⟩; refine ZV1 ?_; replace BK616 := ZW BK616 hb; replace HB := ZT HB hb; clear hb; have hcz8 := ZC2 w7 BK616) | ((with_reducible refine gate_callee (f := 43) rfl ?_); refine ZGL (some 8) Try.func43 #[.slice A0_1 l0_1.length c0_1] ?_; (with_reducible refine (impl_size.calls k _ _ l0_1 t618 _ (ZQ (Kd.C_below HR0_1.out HB.out)) HC0_1.out A4.out).mono ?_); rintro e w9 ⟨rfl, hb⟩; refine ZV1 ?_; replace BK616 := ZW BK616 hb; replace HB := ZT HB hb; clear hb))
 go_ret
 exact ⟨ZE, ZB⟩)
 ·(
 replace c3 := Bool.eq_false_iff.mpr c3
 subst c3
 have H1 := H; rw [if_neg ZFT] at H1
 clear H
 have H := H1
 clear H1
 obtain rfl := Option.some.inj H
 go_enter Try.func21, Try.ntmps21
 go_wp2_with (first | ((with_reducible refine gate_dst (N := 1) rfl ?_); refine ZXW w (N := 1) (cs := #[.slice A0_0 l0_0.length c0_0, .slice A0_1 l0_1.length c0_1]) (t := 26) ?_; intro gb616 hg w10 BK616 GW616 hb; replace HB := ZT HB hb; clear hb hg; have hcz11 := ZC2 w10 BK616) | ((with_reducible refine gate_callee (f := 25) rfl ?_); refine ZGL (some 4) Try.func25 #[.agg #[.slice A0_0 l0_0.length c0_0, .slice A0_1 l0_1.length c0_1]] ?_; (with_reducible refine (impl_ProgOk.calls k _ _ l0_0 _ _ l0_1 false _ (ZQ (Kd.C_below HR0_0.out HB.out)) HC0_0.out (ZQ (Kd.C_below HR0_1.out HB.out)) HC0_1.out A2.out).mono ?_); rintro e w12 ⟨rfl, hb⟩; refine ZV1 ?_; replace BK616 := ZW BK616 hb; replace HB := ZT HB hb; clear hb))
 go_ret
 exact ⟨ZE, ZB⟩)

end Go.Proofs.Ytkkdeojbkfjlpaa.B
