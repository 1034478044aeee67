/- Go functions as Lean functions, and for each its contract; written by wip/tools/pr.py over the kit's print. -/
import Derived.Test.YtkkdeojbkfjlpaaAx0
import Derived.Test.YtkkdeojbkfjlpaaAx2
import Derived.Test.YtkkdeojbkfjlpaaAx5
import Derived.Test.YtkkdeojbkfjlpaaAx28
namespace Go.Proofs.Ytkkdeojbkfjlpaa.A
open Go.RowKit Go.Proofs.YtkkdeojbkfjlpaaW.PrintWords Go.Proofs.YtkkdeojbkfjlpaaW.PrintLast Go.Proofs.YtkkdeojbkfjlpaaW.PrintMore
attribute [local go_sem] max2_int min2_int max_two min_two max_three min_three max_four min_four
set_option linter.unusedVariables false
set_option linter.unusedSimpArgs false
set_option maxHeartbeats 8000000
set_option maxRecDepth 100000

/-! ### impl_ProgAt: function 20 -/
def impl_ProgAt.j0 : Nat → Int → Bool → List (S35) → List (S40) → Option (Int × Int × Int × Int × Int × Int × (List (S40)) × (List (S40)) × Bool)
 | 0, _, _, _, _ => none
 | k + 1, x1, x17, x655000, x655001 => if x17 = true then (some (0, 0, 0, 0, 0, 0, ([] : List (S40)), ([] : List (S40)), false)) else ((impl_all.f k x655001).bind fun t659 => (if 0 ≤ x1 then (if x1 < (t659.length : Int) then ((impl_cloneSteps.f k (([(⟨(D40 t659 x1).f0, (D40 t659 x1).f1, (⟨(D40 t659 x1).f2.f0, (D40 t659 x1).f2.f1, (D40 t659 x1).f2.f2⟩ : S38), (D40 t659 x1).f3, (D40 t659 x1).f4, (D40 t659 x1).f5⟩ : S40)] : List (S40)))).bind fun t666 => (if 0 < (t666.length : Int) then (some ((D40 t666 0).f0, (D40 t666 0).f1, (D40 t666 0).f2.f0, (D40 t666 0).f2.f1, (D40 t666 0).f2.f2, (D40 t666 0).f3, (D40 t666 0).f4, (D40 t666 0).f5, true)) else (none))) else (none)) else (none)))
def impl_ProgAt.f (k : Nat) (l0_0 : List (S35)) (l0_1 : List (S40)) (a1 : Int) : Option (Int × Int × Int × Int × Int × Int × (List (S40)) × (List (S40)) × Bool) := (impl_ProgOk.f k l0_0 l0_1).bind fun t656 => (if t656 = true then ((impl_size.f k l0_1).bind fun t657 => ((impl_in.f a1 0 (wrap64 (t657 - 1))).bind fun t658 => (impl_ProgAt.j0 k a1 (!t658) l0_0 l0_1))) else (impl_ProgAt.j0 k a1 true l0_0 l0_1))
theorem impl_ProgAt.calls (k : Nat) (A0_0 : Option Addr) (c0_0 : Nat) (l0_0 : List (S35)) (P0_1_ : Nat → Prop) (A0_1 : Option Addr) (c0_1 : Nat) (l0_1 : List (S40)) (a1 : Int) (r1 : Int) (r2 : Int) (r3 : Int) (r4 : Int) (r5 : Int) (r6 : Int) (r7 : List (S40)) (r8 : List (S40)) (r9 : Bool) (w : World) (hr0_0 : Kd.C k35 w A0_0 l0_0.length l0_0) (hc0_0 : l0_0.length ≤ c0_0) (hs0_1 : Kd.V k40 40 w w.heap.size (fun k_ => P0_1_ k_) (.slice A0_1 l0_1.length c0_1) l0_1) (h : impl_ProgAt.f k l0_0 l0_1 a1 = some (r1, r2, r3, r4, r5, r6, r7, r8, r9)) :
  Calls Try.prog 20 #[.agg #[.slice A0_0 l0_0.length c0_0, .slice A0_1 l0_1.length c0_1], .int .i64 a1] w fun e w' => ∃ v6_ v7_ : Value, e = .returned (.tuple #[.agg #[.int .i64 r1, .int .i64 r2, .int .i64 r3, .int .i64 r4, .int .i64 r5, .int .i64 r6, v6_, v7_], .bool r9]) ∧ Kd.V k40 40 w' w.heap.size (fun k_ => (P0_1_ k_ ∨ w.heap.size ≤ k_)) v6_ r7 ∧ Kd.V k40 40 w' w.heap.size (fun k_ => (P0_1_ k_ ∨ w.heap.size ≤ k_)) v7_ r8 ∧ Below w.heap.size w w' := by
 have hu26 := Try.underlying26
 have hu40 := Try.underlying40
 have HR0_0 := AM hr0_0
 have HC0_0 := AM hc0_0
 clear hr0_0 hc0_0
 have HO0_1 := AM (show Kd.V k40 40 w w.heap.size (fun k_ => (P0_1_ k_ ∨ w.heap.size ≤ k_)) (.slice A0_1 l0_1.length c0_1) l0_1 from Kd.V_mono hs0_1 (fun k_ hk => .inl hk))
 have HB := AM (Below.refl w.heap.size w)
 have H := h
 unfold impl_ProgAt.f at H
 clear h
 have HC3 := AM H
 clear H
 go_enter Try.func20, Try.ntmps20
 go_upto_region 1 with (first | ((with_reducible refine gate_dst (N := 2) rfl ?_); refine ZXW w (N := 2) (cs := #[.slice A0_0 l0_0.length c0_0, .slice A0_1 l0_1.length c0_1]) (t := 26) ?_; intro gb654 hg w4 BK654 GW654 hb; replace HO0_1 := AM (Kd.V_below (Kd.V_elderB (ZRV HO0_1.out) gb654 (Nat.le_of_eq hg.symm)) hb); replace HB := ZT HB hb; clear hb hg) | ((with_reducible refine gate_dst (N := 4) rfl ?_); refine ZXW w (N := 4) (cs := #[.int .i64 0, .int .i64 0, .int .i64 0, .int .i64 0, .int .i64 0, .int .i64 0, .slice none 0 0, .slice none 0 0]) (t := 40) ?_; intro gb655 hg w5 BK655 GW655 hb; have NB654_655 : Za (gb654 ≠ gb655) := ZN hg BK654; have NB655_654 : Za (gb655 ≠ gb654) := ZM hg BK654; replace HO0_1 := AM (Kd.V_below (Kd.V_elderB (ZRV HO0_1.out) gb655 (Nat.le_of_eq hg.symm)) hb); replace BK654 := ZW BK654 hb; replace HB := ZT HB hb; clear hb hg))
 (try simp only [Act.put, List.setIfInBounds_toArray, List.set_cons_zero, List.set_cons_succ])
 go_cut [17] (fun v17 wc => ∃ (kq : Nat) (x17_2 : Bool), v17 = .bool x17_2 ∧ Za (impl_ProgAt.j0 kq a1 x17_2 l0_0 l0_1 = some (r1, r2, r3, r4, r5, r6, r7, r8, r9)) ∧ Za (kq ≤ k) ∧ Za (Kd.V k40 40 wc w.heap.size (fun k_ => (P0_1_ k_ ∨ w.heap.size ≤ k_) ∧ k_ ≠ gb654 ∧ k_ ≠ gb655) (.slice A0_1 l0_1.length c0_1) l0_1) ∧ Za (wc.heap[gb654]? = some (.cells #[(.slice A0_0 l0_0.length c0_0), (.slice A0_1 l0_1.length c0_1)] 26 (0, 0))) ∧ Za (wc.heap[gb655]? = some (.cells #[.int .i64 0, .int .i64 0, .int .i64 0, .int .i64 0, .int .i64 0, .int .i64 0, (.slice none 0 0), (.slice none 0 0)] 40 (0, 0))) ∧ Za (Below w.heap.size w wc))
 case first => (
 have H := HC3.out
 clear HC3
 obtain ⟨t656, A6, H⟩ := ZOB H; try dsimp only at H
 by_cases c7 : t656 = true
 ·(
 subst c7
 have H1 := H; rw [if_pos rfl] at H1
 clear H
 have H := H1
 clear H1
 obtain ⟨t657, A8, H⟩ := ZOB H; try dsimp only at H
 obtain ⟨t658, A9, H⟩ := ZOB H; try dsimp only at H
 have H' := AM H
 clear H
 have hnb10 := NB654_655.out
 have hnc10 := NB655_654.out
 have hcz11 := ZC2 w5 BK654
 go_wp2_with (first | ((with_reducible refine gate_callee (f := 25) rfl ?_); refine ZGL (some 7) Try.func25 #[.agg #[.slice A0_0 l0_0.length c0_0, .slice A0_1 l0_1.length c0_1]] ?_; (with_reducible refine (impl_ProgOk.calls k _ _ l0_0 _ _ l0_1 true _ (ZQ (Kd.C_below HR0_0.out HB.out)) HC0_0.out ?side3 ?side4 A6.out).mono ?_); (case side3 => exact ZQ ((Kd.V_reads' HO0_1.out).2.2)); (case side4 => exact (Kd.V_reads' HO0_1.out).2.1); rintro e w12 ⟨rfl, hb⟩; refine ZV1 ?_; replace HO0_1 := AM (Kd.V_below (ZRV HO0_1.out) hb); replace BK654 := ZW BK654 hb; replace BK655 := ZW BK655 hb; replace HB := ZT HB hb; clear hb; have hcz13 := ZC2 w12 BK654) | (go_at_call 43; (with_reducible refine (impl_size.calls k _ _ l0_1 t657 _ ?side1 ?side2 A8.out).mono ?_); (case side1 => exact ZQ ((Kd.V_reads' HO0_1.out).2.2)); (case side2 => exact (Kd.V_reads' HO0_1.out).2.1); rintro e w14 ⟨rfl, hb⟩; replace HO0_1 := AM (Kd.V_below (ZRV HO0_1.out) hb); replace BK654 := ZW BK654 hb; replace BK655 := ZW BK655 hb; replace HB := ZT HB hb; clear hb) | (go_at_call 42; (with_reducible refine (impl_in.calls a1 0 (wrap64 (t657 - 1)) t658 _ A9.out).mono ?_); rintro e w' ⟨rfl, ⟨nd, rfl⟩⟩))
 go_meet
 case rel => exact ⟨_, (!t658), ZSM, H', ⟨by first | omega | exact Nat.le_refl _⟩, ⟨ZVm HO0_1.out (fun _ hk => ⟨hk.1.1, ⟨hk.1.2, hk.2⟩⟩)⟩, ⟨ZK BK654.out⟩, ⟨ZK BK655.out⟩, ⟨ZB⟩⟩)
 ·(
 replace c7 := Bool.eq_false_iff.mpr c7
 subst c7
 have H1 := H; rw [if_neg ZFT] at H1
 clear H
 have H := H1
 clear H1
 have H' := AM H
 clear H
 have hnb15 := NB654_655.out
 have hnc15 := NB655_654.out
 have hcz16 := ZC2 w5 BK654
 go_wp2_with (first | ((with_reducible refine gate_callee (f := 25) rfl ?_); refine ZGL (some 7) Try.func25 #[.agg #[.slice A0_0 l0_0.length c0_0, .slice A0_1 l0_1.length c0_1]] ?_; (with_reducible refine (impl_ProgOk.calls k _ _ l0_0 _ _ l0_1 false _ (ZQ (Kd.C_below HR0_0.out HB.out)) HC0_0.out ?side3 ?side4 A6.out).mono ?_); (case side3 => exact ZQ ((Kd.V_reads' HO0_1.out).2.2)); (case side4 => exact (Kd.V_reads' HO0_1.out).2.1); rintro e w17 ⟨rfl, hb⟩; refine ZV1 ?_; replace HO0_1 := AM (Kd.V_below (ZRV HO0_1.out) hb); replace BK654 := ZW BK654 hb; replace BK655 := ZW BK655 hb; replace HB := ZT HB hb; clear hb))
 go_meet
 case rel => exact ⟨_, (true), ZSM, H', ⟨by first | omega | exact Nat.le_refl _⟩, ⟨ZVm HO0_1.out (fun _ hk => ⟨hk.1.1, ⟨hk.1.2, hk.2⟩⟩)⟩, ⟨ZK BK654.out⟩, ⟨ZK BK655.out⟩, ⟨ZB⟩⟩))
 case rest => (
 clear HC3
 try clear c1
 try clear c2
 try clear p2
 try clear p6
 try clear c7
 try clear c10
 try clear c15
 try clear hcz11
 try clear hcz13
 try clear hcz16
 obtain ⟨kq, x17_2, rfl, HA, HJ2, HO_655001, BK654, BK655, HB⟩ := hcut
 cases kq with
 | zero => exact absurd HA.out (by simp [impl_ProgAt.j0])
 | succ kj2 =>
  have H := HA.out
  clear HA
  simp only [impl_ProgAt.j0] at H
  by_cases c18 : x17_2 = true
  ·(
  subst c18
  have H1 := H; rw [if_pos rfl] at H1
  clear H
  have H := H1
  clear H1
  simp only [Option.some.injEq, Prod.mk.injEq] at H
  obtain ⟨rfl, rfl, rfl, rfl, rfl, rfl, rfl, rfl, rfl⟩ := H
  have hnb19 := NB655_654.out
  have hnc19 := NB654_655.out
  have hcz20 := ZC8 wc BK655
  go_wp2
  refine bodyPost_ret (results_ct rfl _ _ gb655 40 #[.int .i64 0, .int .i64 0, .int .i64 0, .int .i64 0, .int .i64 0, .int .i64 0, .slice none 0 0, .slice none 0 0] (0, 0) _ rfl (ZZ BK655.out) Try.underlying40 rfl (by kernel_rfl)) rfl ?_
  exact ⟨_, _, ZE, Kd.N_V (base := 0) (by first | exact Kd.R_nil _ _ _ _ _ | exact Kd.N_nil _ _ _ _ _ | exact Kd.V_nil _ _ _ _ _ | exact Kd.Q_nil _ _ _ _ _ | exact Kd.S_nil _ _ _ _ _), Kd.N_V (base := 0) (by first | exact Kd.R_nil _ _ _ _ _ | exact Kd.N_nil _ _ _ _ _ | exact Kd.V_nil _ _ _ _ _ | exact Kd.Q_nil _ _ _ _ _ | exact Kd.S_nil _ _ _ _ _), ZB⟩)
  ·(
  replace c18 := Bool.eq_false_iff.mpr c18
  subst c18
  have H1 := H; rw [if_neg ZFT] at H1
  clear H
  have H := H1
  clear H1
  obtain ⟨t659, A21, H⟩ := ZOB H; try dsimp only at H
  by_cases c22 : 0 ≤ a1
  ·(
  rw [if_pos c22] at H
  have c22b0 := decide_eq_true c22
  clear c22
  by_cases c23 : a1 < (t659.length : Int)
  ·(
  rw [if_pos c23] at H
  have c23b0 := decide_eq_true c23
  clear c23
  obtain ⟨y663, hy663⟩ : ∃ y_ : List (S40), y_ = (([(⟨(D40 t659 a1).f0, (D40 t659 a1).f1, (⟨(D40 t659 a1).f2.f0, (D40 t659 a1).f2.f1, (D40 t659 a1).f2.f2⟩ : S38), (D40 t659 a1).f3, (D40 t659 a1).f4, (D40 t659 a1).f5⟩ : S40)] : List (S40))) := ⟨_, rfl⟩
  replace H : ((impl_cloneSteps.f kj2 y663).bind fun t666 => (if 0 < (t666.length : Int) then (some ((D40 t666 0).f0, (D40 t666 0).f1, (D40 t666 0).f2.f0, (D40 t666 0).f2.f1, (D40 t666 0).f2.f2, (D40 t666 0).f3, (D40 t666 0).f4, (D40 t666 0).f5, true)) else (none))) = some (r1, r2, r3, r4, r5, r6, r7, r8, r9) := by rw [hy663]; exact H
  have Ny663 := AM hy663
  clear hy663
  obtain ⟨t666, A24, H⟩ := ZOB H; try dsimp only at H
  by_cases c25 : 0 < (t666.length : Int)
  ·(
  rw [if_pos c25] at H
  have c25b0 := decide_eq_true c25
  have c25b1 : decide (0 < t666.length) = true := decide_eq_true (by omega)
  clear c25
  simp only [Option.some.injEq, Prod.mk.injEq] at H
  obtain ⟨rfl, rfl, rfl, rfl, rfl, rfl, rfl, rfl, rfl⟩ := H
  have hnb26 := NB654_655.out
  have hnc26 := NB655_654.out
  have hcz27 := ZC2 wc BK654
  go_wp2_with (first | ((with_reducible refine gate_callee (f := 26) rfl ?_); refine ZGL (some 21) Try.func26 #[.slice A0_1 l0_1.length c0_1] ?_; (with_reducible refine (impl_all.calls kj2 (fun k_ => ((P0_1_ k_ ∨ w.heap.size ≤ k_) ∧ (k_ ≠ gb654 ∧ k_ ≠ gb655))) _ _ l0_1 t659 _ ?side1 A21.out).mono ?_); (case side1 => exact HO_655001.out); rintro e w28 ⟨v660, rfl, ho0, hb⟩; refine ZV1 ?_; have HO661 := AM (Kd.N_lower (Kd.N_mono (ok' := fun k_ => (P0_1_ k_ ∨ w.heap.size ≤ k_) ∧ k_ ≠ gb654 ∧ k_ ≠ gb655) ho0 (fun k_ hk_ => ⟨Or.elim hk_ (fun hs_ => hs_.1) (fun hn_ => (.inr (Nat.le_trans (below_size (ZB)) hn_))), Or.elim hk_ (fun hs_ => hs_.2.1) (fun hn_ => (Kd.freshB (g := gb654) (o := .cells #[.slice A0_0 l0_0.length c0_0, .slice A0_1 l0_1.length c0_1] 26 (0, 0)) (ZK BK654.out) k_ hn_)), Or.elim hk_ (fun hs_ => hs_.2.2) (fun hn_ => (Kd.freshB (g := gb655) (o := .cells #[.int .i64 0, .int .i64 0, .int .i64 0, .int .i64 0, .int .i64 0, .int .i64 0, .slice none 0 0, .slice none 0 0] 40 (0, 0)) (ZK BK655.out) k_ hn_))⟩)) (below_size (ZB))); replace HO_655001 := AM (Kd.V_elder' (ZRV HO_655001.out) (Kd.N_base ho0) hb); replace BK654 := ZW BK654 hb; replace BK655 := ZW BK655 hb; replace HB := ZT HB hb; clear hb; (try clear ho0); obtain ⟨Ao29, co29, eo29⟩ := Kd.N_slice HO661.out; subst eo29; have p662 : 0 ≤ (a1 : Int) := ZD; have q662 : a1 < (t659.length : Int) := ZD; obtain ⟨ad662, A662_6, c662_6, A662_7, c662_7, e662, hx662_0, hx662_1, hx662_2, hx662_3, hx662_4, hx662_5, hx662_6, hx662_7, hl662_6, hi662_6, hl662_7, hi662_7⟩ := at_T40 (Kd.N_reads' HO661.out).2.2 a1 p662 q662; cases e662; obtain ⟨ce662, hce662, hMe662, hcc662⟩ := Kd.N_get HO661.out z40 a1 p662 (by first | exact q662 | exact ZD | (have e_ := (Kd.N_reads' HO661.out).1; omega)); obtain ⟨ua662_6, uc662_6, ua662_7, uc662_7, rfl, ul662_6, ge662_6, ul662_7, ge662_7⟩ := k40_openF hMe662; have hv662_6 := hcc662 6 _ rfl; rw [add_field _ _ 6 (by omega)] at hv662_6; replace hv662_6 := Option.some.inj (hv662_6.symm.trans hx662_6); injection hv662_6 with hva_ hvn_ hvc_; rw [hva_] at ge662_6; rw [hvc_] at ul662_6; have HL662_6 := AM (show Kd.V k40 40 _ w.heap.size _ _ ((D40 t659 a1).f4) from Kd.V_mk ul662_6 ge662_6); clear hva_ hvn_ hvc_ ge662_6 ul662_6; have hv662_7 := hcc662 7 _ rfl; rw [add_field _ _ 7 (by omega)] at hv662_7; replace hv662_7 := Option.some.inj (hv662_7.symm.trans hx662_7); injection hv662_7 with hva_ hvn_ hvc_; rw [hva_] at ge662_7; rw [hvc_] at ul662_7; have HL662_7 := AM (show Kd.V k40 40 _ w.heap.size _ _ ((D40 t659 a1).f5) from Kd.V_mk ul662_7 ge662_7); clear hva_ hvn_ hvc_ ge662_7 ul662_7 hcc662 hce662; have HR662_6 := AM hi662_6; have HC662_6 := AM hl662_6; clear hi662_6 hl662_6; have HR662_7 := AM hi662_7; have HC662_7 := AM hl662_7; clear hi662_7 hl662_7; replace p662 := eq_true p662; replace q662 := eq_true q662) | ((with_reducible refine gate_dst (N := 25) rfl ?_); refine Kd.N_lit k40 _ 40 ?hg (N' := 25) ?hd (xs := ([(⟨(D40 t659 a1).f0, (D40 t659 a1).f1, (⟨(D40 t659 a1).f2.f0, (D40 t659 a1).f2.f1, (D40 t659 a1).f2.f2⟩ : S38), (D40 t659 a1).f3, (D40 t659 a1).f4, (D40 t659 a1).f5⟩ : S40)] : List (S40))) (inner := [.int .i64 ((D40 t659 a1).f0), .int .i64 ((D40 t659 a1).f1), .int .i64 ((D40 t659 a1).f2.f0), .int .i64 ((D40 t659 a1).f2.f1), .int .i64 ((D40 t659 a1).f2.f2), .int .i64 ((D40 t659 a1).f3), .slice A662_6 ((D40 t659 a1).f4).length c662_6, .slice A662_7 ((D40 t659 a1).f5).length c662_7]) (ok := (fun k_ => (P0_1_ k_ ∨ w.heap.size ≤ k_) ∧ some k_ ≠ (.slice (some ad662) t659.length co29 : Value).ownBlock ∧ k_ ≠ gb654 ∧ k_ ≠ gb655)) (okp := (fun k_ => (P0_1_ k_ ∨ w.heap.size ≤ k_) ∧ some k_ ≠ (.slice (some ad662) t659.length co29 : Value).ownBlock ∧ k_ ≠ gb654 ∧ k_ ≠ gb655)) ?hr ?hp (fun _ hk => hk) ((show ∀ k_, w28.heap.size ≤ k_ → (fun k_ => (P0_1_ k_ ∨ w.heap.size ≤ k_) ∧ some k_ ≠ (.slice (some ad662) t659.length co29 : Value).ownBlock ∧ k_ ≠ gb654 ∧ k_ ≠ gb655) k_ from fun k_ hk => ⟨(.inr (Nat.le_trans (below_size (ZB)) hk)), Kd.fresh' (Kd.N_lt (ZRN HO661.out)) k_ hk, Kd.freshB (g := gb654) (o := .cells #[.slice A0_0 l0_0.length c0_0, .slice A0_1 l0_1.length c0_1] 26 (0, 0)) (ZK BK654.out) k_ hk, Kd.freshB (g := gb655) (o := .cells #[.int .i64 0, .int .i64 0, .int .i64 0, .int .i64 0, .int .i64 0, .int .i64 0, .slice none 0 0, .slice none 0 0] 40 (0, 0)) (ZK BK655.out) k_ hk⟩) _ (Nat.le_refl _)) (Below.refl _ _) (Nat.le_refl _) (by simp) ?_; (case hd => rfl); (case hg => rfl); (case hr => first | (go_simp; done) | (go_simp; rfl)); (case hp => exact (Reps.c8 (show Kd.FK k40 _ _ (⟨(D40 t659 a1).f0, (D40 t659 a1).f1, (⟨(D40 t659 a1).f2.f0, (D40 t659 a1).f2.f1, (D40 t659 a1).f2.f2⟩ : S38), (D40 t659 a1).f3, (D40 t659 a1).f4, (D40 t659 a1).f5⟩ : S40) [.int .i64 ((D40 t659 a1).f0), .int .i64 ((D40 t659 a1).f1), .int .i64 ((D40 t659 a1).f2.f0), .int .i64 ((D40 t659 a1).f2.f1), .int .i64 ((D40 t659 a1).f2.f2), .int .i64 ((D40 t659 a1).f3), .slice A662_6 ((D40 t659 a1).f4).length c662_6, .slice A662_7 ((D40 t659 a1).f5).length c662_7] from (k40_mkF _ _ (⟨(D40 t659 a1).f0, (D40 t659 a1).f1, (⟨(D40 t659 a1).f2.f0, (D40 t659 a1).f2.f1, (D40 t659 a1).f2.f2⟩ : S38), (D40 t659 a1).f3, (D40 t659 a1).f4, (D40 t659 a1).f5⟩ : S40) (Kd.V_reads' (Kd.V_mono (ok' := (fun k_ => (P0_1_ k_ ∨ w.heap.size ≤ k_) ∧ some k_ ≠ (.slice (some ad662) t659.length co29 : Value).ownBlock ∧ k_ ≠ gb654 ∧ k_ ≠ gb655)) (HL662_6.out) (fun k_ hk => ⟨hk.1.1, ⟨hk.2, ⟨hk.1.2.1, hk.1.2.2⟩⟩⟩))).2.1 (Kd.V_F (Kd.V_mono (ok' := (fun k_ => (P0_1_ k_ ∨ w.heap.size ≤ k_) ∧ some k_ ≠ (.slice (some ad662) t659.length co29 : Value).ownBlock ∧ k_ ≠ gb654 ∧ k_ ≠ gb655)) (HL662_6.out) (fun k_ hk => ⟨hk.1.1, ⟨hk.2, ⟨hk.1.2.1, hk.1.2.2⟩⟩⟩))) (Kd.V_reads' (Kd.V_mono (ok' := (fun k_ => (P0_1_ k_ ∨ w.heap.size ≤ k_) ∧ some k_ ≠ (.slice (some ad662) t659.length co29 : Value).ownBlock ∧ k_ ≠ gb654 ∧ k_ ≠ gb655)) (HL662_7.out) (fun k_ hk => ⟨hk.1.1, ⟨hk.2, ⟨hk.1.2.1, hk.1.2.2⟩⟩⟩))).2.1 (Kd.V_F (Kd.V_mono (ok' := (fun k_ => (P0_1_ k_ ∨ w.heap.size ≤ k_) ∧ some k_ ≠ (.slice (some ad662) t659.length co29 : Value).ownBlock ∧ k_ ≠ gb654 ∧ k_ ≠ gb655)) (HL662_7.out) (fun k_ hk => ⟨hk.1.1, ⟨hk.2, ⟨hk.1.2.1, hk.1.2.2⟩⟩⟩))))) (Reps.none _ _))); intro v664 w30 ho31 hb hg_ hnew_; clear hg_ hnew_; (first | rw [← Ny663.out] at ho31 | (simp only [Int.reduceToNat] at ho31; rw [← Ny663.out] at ho31)); have HO665 := AM (Kd.N_lower ho31 (below_size (ZB))); replace HO_655001 := AM (Kd.V_elder' (ZRV HO_655001.out) (Kd.N_base ho31) hb); replace HO661 := AM (Kd.N_elder' (ZRN HO661.out) (Kd.N_base ho31) hb); replace HL662_6 := AM (Kd.V_elder' (ZRV HL662_6.out) (Kd.N_base ho31) hb); replace HL662_7 := AM (Kd.V_elder' (ZRV HL662_7.out) (Kd.N_base ho31) hb); replace BK654 := ZW BK654 hb; replace BK655 := ZW BK655 hb; replace HR662_6 := AM (Kd.C_below (ZQ HR662_6.out) hb); replace HR662_7 := AM (Kd.C_below (ZQ HR662_7.out) hb); replace HB := ZT HB hb; clear hb ho31; obtain ⟨Ao32, co32, eo32⟩ := Kd.N_slice HO665.out; subst eo32) | ((with_reducible refine gate_callee (f := 44) rfl ?_); refine ZGL (some 26) Try.func44 #[.slice Ao32 y663.length co32] ?_; (with_reducible refine (impl_cloneSteps.calls kj2 _ _ y663 t666 _ ?side1 ?side2 A24.out).mono ?_); (case side1 => exact ZQ ((Kd.N_reads' HO665.out).2.2)); (case side2 => exact (Kd.N_reads' HO665.out).2.1); rintro e w33 ⟨v667, rfl, ho0, hb⟩; refine ZV1 ?_; have HO668 := AM (Kd.N_lower (Kd.N_mono (ok' := fun k_ => (P0_1_ k_ ∨ w.heap.size ≤ k_) ∧ some k_ ≠ (.slice (some ad662) t659.length co29 : Value).ownBlock ∧ some k_ ≠ (.slice Ao32 y663.length co32 : Value).ownBlock ∧ k_ ≠ gb654 ∧ k_ ≠ gb655) (Kd.R_N (Kd.R_bound ho0)) (fun k_ hk_ => ⟨(.inr (Nat.le_trans (below_size (ZB)) hk_.2.1)), (Kd.fresh' (Kd.N_lt (ZRN HO661.out)) k_ hk_.2.1), (Kd.fresh' (Kd.N_lt (ZRN HO665.out)) k_ hk_.2.1), (Kd.freshB (g := gb654) (o := .cells #[.slice A0_0 l0_0.length c0_0, .slice A0_1 l0_1.length c0_1] 26 (0, 0)) (ZK BK654.out) k_ hk_.2.1), (Kd.freshB (g := gb655) (o := .cells #[.int .i64 0, .int .i64 0, .int .i64 0, .int .i64 0, .int .i64 0, .int .i64 0, .slice none 0 0, .slice none 0 0] 40 (0, 0)) (ZK BK655.out) k_ hk_.2.1)⟩)) (below_size (ZB))); replace HO_655001 := AM (Kd.V_elder' (ZRV HO_655001.out) (Kd.R_base ho0) hb); replace HO661 := AM (Kd.N_elder' (ZRN HO661.out) (Kd.R_base ho0) hb); replace HL662_6 := AM (Kd.V_elder' (ZRV HL662_6.out) (Kd.R_base ho0) hb); replace HL662_7 := AM (Kd.V_elder' (ZRV HL662_7.out) (Kd.R_base ho0) hb); replace HO665 := AM (Kd.N_elder' (ZRN HO665.out) (Kd.R_base ho0) hb); replace BK654 := ZW BK654 hb; replace BK655 := ZW BK655 hb; replace HR662_6 := AM (Kd.C_below (ZQ HR662_6.out) hb); replace HR662_7 := AM (Kd.C_below (ZQ HR662_7.out) hb); replace HB := ZT HB hb; clear hb; (try clear ho0); obtain ⟨Ao34, co34, eo34⟩ := Kd.N_slice HO668.out; subst eo34; have p669 : 0 ≤ (0 : Int) := (by omega); have q669 : 0 < (t666.length : Int) := ZD; obtain ⟨ad669, A669_6, c669_6, A669_7, c669_7, e669, hx669_0, hx669_1, hx669_2, hx669_3, hx669_4, hx669_5, hx669_6, hx669_7, hl669_6, hi669_6, hl669_7, hi669_7⟩ := at_T40 (Kd.N_reads' HO668.out).2.2 0 p669 q669; cases e669; obtain ⟨ce669, hce669, hMe669, hcc669⟩ := Kd.N_get HO668.out z40 0 p669 (by first | exact q669 | exact ZD | (have e_ := (Kd.N_reads' HO668.out).1; omega)); obtain ⟨ua669_6, uc669_6, ua669_7, uc669_7, rfl, ul669_6, ge669_6, ul669_7, ge669_7⟩ := k40_openF hMe669; have hv669_6 := hcc669 6 _ rfl; rw [add_field _ _ 6 (by omega)] at hv669_6; replace hv669_6 := Option.some.inj (hv669_6.symm.trans hx669_6); injection hv669_6 with hva_ hvn_ hvc_; rw [hva_] at ge669_6; rw [hvc_] at ul669_6; have HL669_6 := AM (show Kd.V k40 40 _ w.heap.size _ _ ((D40 t666 0).f4) from Kd.V_mk ul669_6 ge669_6); clear hva_ hvn_ hvc_ ge669_6 ul669_6; have hv669_7 := hcc669 7 _ rfl; rw [add_field _ _ 7 (by omega)] at hv669_7; replace hv669_7 := Option.some.inj (hv669_7.symm.trans hx669_7); injection hv669_7 with hva_ hvn_ hvc_; rw [hva_] at ge669_7; rw [hvc_] at ul669_7; have HL669_7 := AM (show Kd.V k40 40 _ w.heap.size _ _ ((D40 t666 0).f5) from Kd.V_mk ul669_7 ge669_7); clear hva_ hvn_ hvc_ ge669_7 ul669_7 hcc669 hce669; have qi669 : (0 < t666.length) = True := eq_true (by omega); (try rw [show ((0 : Int)).toNat = 0 from rfl] at hx669_0); (try rw [show 0 * 8 = 0 from rfl] at hx669_0); (try rw [Addr.add_zero'] at hx669_0); (try rw [show ((0 : Int)).toNat = 0 from rfl] at hx669_1); (try rw [show 0 * 8 = 0 from rfl] at hx669_1); (try rw [Addr.add_zero'] at hx669_1); (try rw [show ((0 : Int)).toNat = 0 from rfl] at hx669_2); (try rw [show 0 * 8 = 0 from rfl] at hx669_2); (try rw [Addr.add_zero'] at hx669_2); (try rw [show ((0 : Int)).toNat = 0 from rfl] at hx669_3); (try rw [show 0 * 8 = 0 from rfl] at hx669_3); (try rw [Addr.add_zero'] at hx669_3); (try rw [show ((0 : Int)).toNat = 0 from rfl] at hx669_4); (try rw [show 0 * 8 = 0 from rfl] at hx669_4); (try rw [Addr.add_zero'] at hx669_4); (try rw [show ((0 : Int)).toNat = 0 from rfl] at hx669_5); (try rw [show 0 * 8 = 0 from rfl] at hx669_5); (try rw [Addr.add_zero'] at hx669_5); (try rw [show ((0 : Int)).toNat = 0 from rfl] at hx669_6); (try rw [show 0 * 8 = 0 from rfl] at hx669_6); (try rw [Addr.add_zero'] at hx669_6); (try rw [show ((0 : Int)).toNat = 0 from rfl] at hx669_7); (try rw [show 0 * 8 = 0 from rfl] at hx669_7); (try rw [Addr.add_zero'] at hx669_7); have HR669_6 := AM hi669_6; have HC669_6 := AM hl669_6; clear hi669_6 hl669_6; have HR669_7 := AM hi669_7; have HC669_7 := AM hl669_7; clear hi669_7 hl669_7; replace p669 := eq_true p669; replace q669 := eq_true q669; have hcz35 := ZC8 w33 BK655))
  refine bodyPost_ret (results_ct rfl _ _ gb655 40 #[.int .i64 ((D40 t666 0).f0), .int .i64 ((D40 t666 0).f1), .int .i64 ((D40 t666 0).f2.f0), .int .i64 ((D40 t666 0).f2.f1), .int .i64 ((D40 t666 0).f2.f2), .int .i64 ((D40 t666 0).f3), .slice A669_6 ((D40 t666 0).f4).length c669_6, .slice A669_7 ((D40 t666 0).f5).length c669_7] (0, 0) _ rfl (ZZ BK655.out) Try.underlying40 rfl (by kernel_rfl)) rfl ?_
  exact ⟨_, _, ZE, ZVf (Kd.V_mono HL669_6.out (fun k_ hk => (⟨hk, hk.1.2.2.2.2⟩ : _ ∧ k_ ≠ gb655))) (fun _ hk => ⟨hk.2, hk.1.1.1⟩), ZVf (Kd.V_mono HL669_7.out (fun k_ hk => (⟨hk, hk.1.2.2.2.2⟩ : _ ∧ k_ ≠ gb655))) (fun _ hk => ⟨hk.2, hk.1.1.1⟩), ZB⟩)
  ·(
  rw [if_neg c25] at H
  exact absurd H (by simp)))
  ·(
  rw [if_neg c23] at H
  exact absurd H (by simp)))
  ·(
  rw [if_neg c22] at H
  exact absurd H (by simp))))

/-! ### impl_ProgSize: function 21 -/
def impl_ProgSize.f (k : Nat) (l0_0 : List (S35)) (l0_1 : List (S40)) : Option (Int) := (impl_ProgOk.f k l0_0 l0_1).bind fun t671 => (if t671 = true then ((impl_size.f k l0_1).bind fun t672 => (some t672)) else (some (-1)))
theorem impl_ProgSize.calls (k : Nat) (A0_0 : Option Addr) (c0_0 : Nat) (l0_0 : List (S35)) (A0_1 : Option Addr) (c0_1 : Nat) (l0_1 : List (S40)) (r : Int) (w : World) (hr0_0 : Kd.C k35 w A0_0 l0_0.length l0_0) (hc0_0 : l0_0.length ≤ c0_0) (hr0_1 : Kd.C k40 w A0_1 l0_1.length l0_1) (hc0_1 : l0_1.length ≤ c0_1) (h : impl_ProgSize.f k l0_0 l0_1 = some r) :
  Calls Try.prog 21 #[.agg #[.slice A0_0 l0_0.length c0_0, .slice A0_1 l0_1.length c0_1]] w fun e w' => e = .returned (.int .i64 r) ∧ Below w.heap.size w w' := by
 have hu26 := Try.underlying26
 have HR0_0 := AM hr0_0
 have HC0_0 := AM hc0_0
 clear hr0_0 hc0_0
 have HR0_1 := AM hr0_1
 have HC0_1 := AM hc0_1
 clear hr0_1 hc0_1
 have HB := AM (Below.refl w.heap.size w)
 have H := h
 unfold impl_ProgSize.f at H
 clear h
 obtain ⟨t671, A2, H⟩ := ZOB H; try dsimp only at H
 by_cases c3 : t671 = true
 ·(
 subst c3
 have H1 := H; rw [if_pos rfl] at H1
 clear H
 have H := H1
 clear H1
 obtain ⟨t672, A4, H⟩ := ZOB H; try dsimp only at H
 obtain rfl := Option.some.inj H
 go_enter Try.func21, Try.ntmps21
 go_wp2_with (first | ((with_reducible refine gate_dst (N := 1) rfl ?_); refine ZXW w (N := 1) (cs := #[.slice A0_0 l0_0.length c0_0, .slice A0_1 l0_1.length c0_1]) (t := 26) ?_; intro gb670 hg w5 BK670 GW670 hb; replace HB := ZT HB hb; clear hb hg; have hcz6 := ZC2 w5 BK670) | ((with_reducible refine gate_callee (f := 25) rfl ?_); refine ZGL (some 4) Try.func25 #[.agg #[.slice A0_0 l0_0.length c0_0, .slice A0_1 l0_1.length c0_1]] ?_; (with_reducible refine (impl_ProgOk.calls k _ _ l0_0 _ _ l0_1 true _ (ZQ (Kd.C_below HR0_0.out HB.out)) HC0_0.out (ZQ (Kd.C_below HR0_1.out HB.out)) HC0_1.out A2.out).mono ?_); rintro e w7 ⟨rfl, hb⟩; refine ZV1 ?_; replace BK670 := ZW BK670 hb; replace HB := ZT HB hb; clear hb; have hcz8 := ZC2 w7 BK670) | ((with_reducible refine gate_callee (f := 43) rfl ?_); refine ZGL (some 8) Try.func43 #[.slice A0_1 l0_1.length c0_1] ?_; (with_reducible refine (impl_size.calls k _ _ l0_1 t672 _ (ZQ (Kd.C_below HR0_1.out HB.out)) HC0_1.out A4.out).mono ?_); rintro e w9 ⟨rfl, hb⟩; refine ZV1 ?_; replace BK670 := ZW BK670 hb; replace HB := ZT HB hb; clear hb))
 go_ret
 exact ⟨ZE, ZB⟩)
 ·(
 replace c3 := Bool.eq_false_iff.mpr c3
 subst c3
 have H1 := H; rw [if_neg ZFT] at H1
 clear H
 have H := H1
 clear H1
 obtain rfl := Option.some.inj H
 go_enter Try.func21, Try.ntmps21
 go_wp2_with (first | ((with_reducible refine gate_dst (N := 1) rfl ?_); refine ZXW w (N := 1) (cs := #[.slice A0_0 l0_0.length c0_0, .slice A0_1 l0_1.length c0_1]) (t := 26) ?_; intro gb670 hg w10 BK670 GW670 hb; replace HB := ZT HB hb; clear hb hg; have hcz11 := ZC2 w10 BK670) | ((with_reducible refine gate_callee (f := 25) rfl ?_); refine ZGL (some 4) Try.func25 #[.agg #[.slice A0_0 l0_0.length c0_0, .slice A0_1 l0_1.length c0_1]] ?_; (with_reducible refine (impl_ProgOk.calls k _ _ l0_0 _ _ l0_1 false _ (ZQ (Kd.C_below HR0_0.out HB.out)) HC0_0.out (ZQ (Kd.C_below HR0_1.out HB.out)) HC0_1.out A2.out).mono ?_); rintro e w12 ⟨rfl, hb⟩; refine ZV1 ?_; replace BK670 := ZW BK670 hb; replace HB := ZT HB hb; clear hb))
 go_ret
 exact ⟨ZE, ZB⟩)

end Go.Proofs.Ytkkdeojbkfjlpaa.A
