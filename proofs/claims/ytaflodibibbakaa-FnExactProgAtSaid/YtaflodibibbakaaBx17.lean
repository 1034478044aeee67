/- Go functions as Lean functions, and for each its contract; written by wip/tools/pr.py over the kit's print. -/
import Derived.Test.YtaflodibibbakaaBx0
import Derived.Test.YtaflodibibbakaaBx12
import Derived.Test.YtaflodibibbakaaBx15
import Derived.Test.YtaflodibibbakaaBx16
namespace Go.Proofs.Ytaflodibibbakaa.B
open Go.RowKit Go.Proofs.YtaflodibibbakaaW.PrintWords Go.Proofs.YtaflodibibbakaaW.PrintLast Go.Proofs.YtaflodibibbakaaW.PrintMore
attribute [local go_sem] max2_int min2_int max_two min_two max_three min_three max_four min_four
set_option linter.unusedVariables false
set_option linter.unusedSimpArgs false
set_option maxHeartbeats 8000000
set_option maxRecDepth 100000

def impl_ProgAt.j0 : Nat → Int → Bool → List (S60) → List (S50) → Option (Int × Int × Int × Int × Int × Int × (List (S50)) × (List (S50)) × Bool)
 | 0, _, _, _, _ => none
 | k + 1, x1, x17, x330000, x330001 => if x17 = true then (some (0, 0, 0, 0, 0, 0, ([] : List (S50)), ([] : List (S50)), false)) else ((impl_all.f k x330001).bind fun t334 => (if 0 ≤ x1 then (if x1 < (t334.length : Int) then ((impl_cloneSteps.f k (([(⟨(rd_T50 t334 x1).f0, (rd_T50 t334 x1).f1, (⟨(rd_T50 t334 x1).f2.f0, (rd_T50 t334 x1).f2.f1, (rd_T50 t334 x1).f2.f2⟩ : S48), (rd_T50 t334 x1).f3, (rd_T50 t334 x1).f4, (rd_T50 t334 x1).f5⟩ : S50)] : List (S50)))).bind fun t341 => (if 0 < (t341.length : Int) then (some ((rd_T50 t341 0).f0, (rd_T50 t341 0).f1, (rd_T50 t341 0).f2.f0, (rd_T50 t341 0).f2.f1, (rd_T50 t341 0).f2.f2, (rd_T50 t341 0).f3, (rd_T50 t341 0).f4, (rd_T50 t341 0).f5, true)) else (none))) else (none)) else (none)))
def impl_ProgAt.f (k : Nat) (l0_0 : List (S60)) (l0_1 : List (S50)) (a1 : Int) : Option (Int × Int × Int × Int × Int × Int × (List (S50)) × (List (S50)) × Bool) := (impl_ProgOk.f k l0_0 l0_1).bind fun t331 => (if t331 = true then ((impl_size.f k l0_1).bind fun t332 => ((impl_in.f a1 0 (wrap64 (t332 - 1))).bind fun t333 => (impl_ProgAt.j0 k a1 (!t333) l0_0 l0_1))) else (impl_ProgAt.j0 k a1 true l0_0 l0_1))
theorem impl_ProgAt.deepV (k : Nat) (A0_0 : Option Addr) (c0_0 : Nat) (l0_0 : List (S60)) (P0_1_ : Nat → Prop) (A0_1 : Option Addr) (c0_1 : Nat) (l0_1 : List (S50)) (a1 : Int) (r1 : Int) (r2 : Int) (r3 : Int) (r4 : Int) (r5 : Int) (r6 : Int) (r7 : List (S50)) (r8 : List (S50)) (r9 : Bool) (w : World) (hr0_0 : Kd.C k60 w A0_0 l0_0.length l0_0) (hc0_0 : l0_0.length ≤ c0_0) (hs0_1 : Kd.V k50 50 w w.heap.size (fun k_ => P0_1_ k_) (.slice A0_1 l0_1.length c0_1) l0_1) (h : impl_ProgAt.f k l0_0 l0_1 a1 = some (r1, r2, r3, r4, r5, r6, r7, r8, r9)) :
  Calls Try.prog 30 #[.agg #[.slice A0_0 l0_0.length c0_0, .slice A0_1 l0_1.length c0_1], .int .i64 a1] w fun e w' => ∃ v6_ v7_ : Value, e = .returned (.tuple #[.agg #[.int .i64 r1, .int .i64 r2, .int .i64 r3, .int .i64 r4, .int .i64 r5, .int .i64 r6, v6_, v7_], .bool r9]) ∧ ∃ z6_ z7_ : List (S50 × List Nat), z6_.map Prod.fst = r7 ∧ z7_.map Prod.fst = r8 ∧ (Deep.bl v6_ z6_ ++ Deep.bl v7_ z7_).Nodup ∧ Kd.R Deep.kD 50 w' w.heap.size (fun _ => True) v6_ z6_ ∧ Kd.R Deep.kD 50 w' w.heap.size (fun _ => True) v7_ z7_ ∧ Below w.heap.size w w' := by
 have hu32 := Try.underlying32
 have hu50 := Try.underlying50
 have HR0_0 := AM hr0_0
 have HC0_0 := AM hc0_0
 clear hr0_0 hc0_0
 have HO0_1 := AM (show Kd.V k50 50 w w.heap.size (fun k_ => (P0_1_ k_ ∨ w.heap.size ≤ k_)) (.slice A0_1 l0_1.length c0_1) l0_1 from Kd.V_mono hs0_1 (fun k_ hk => .inl hk))
 have HB := AM (Below.refl w.heap.size w)
 have H := h
 unfold impl_ProgAt.f at H
 clear h
 have HC3 := AM H
 clear H
 go_enter Try.func30, Try.ntmps30
 go_upto_region 1 with (first | ((with_reducible refine gate_dst (N := 2) rfl ?_); refine ZX (N := 2) (cs := #[.slice A0_0 l0_0.length c0_0, .slice A0_1 l0_1.length c0_1]) (t := 32) ?_; intro gb329 hg w4 hbox hb; have BK329 := AM (hbox); have GW329 : Aside0 (w.heap.size ≤ gb329) := ZS hg; have GE329 : Aside0 (w.heap.size ≤ gb329) := ZS hg; replace HO0_1 := AM (Kd.V_below (Kd.V_elderB (ZRV HO0_1.out) gb329 (Nat.le_of_eq hg.symm)) hb); replace HB := ZT HB hb; clear hb hbox hg) | ((with_reducible refine gate_dst (N := 4) rfl ?_); refine ZX (N := 4) (cs := #[.int .i64 0, .int .i64 0, .int .i64 0, .int .i64 0, .int .i64 0, .int .i64 0, .slice none 0 0, .slice none 0 0]) (t := 50) ?_; intro gb330 hg w5 hbox hb; have BK330 := AM (hbox); have GW330 : Aside0 (w.heap.size ≤ gb330) := ZS hg; have GE330 : Aside0 (w.heap.size ≤ gb330) := ZS hg; have NB329_330 : Aside0 (gb329 ≠ gb330) := ZN hg BK329; have NB330_329 : Aside0 (gb330 ≠ gb329) := ZM hg BK329; replace HO0_1 := AM (Kd.V_below (Kd.V_elderB (ZRV HO0_1.out) gb330 (Nat.le_of_eq hg.symm)) hb); replace BK329 := ZW BK329 hb; replace HB := ZT HB hb; clear hb hbox hg))
 (try simp only [Act.put, List.setIfInBounds_toArray, List.set_cons_zero, List.set_cons_succ])
 go_cut [17] (fun v17 wc => ∃ (kq : Nat) (x17_2 : Bool), v17 = .bool x17_2 ∧ Aside0 (impl_ProgAt.j0 kq a1 x17_2 l0_0 l0_1 = some (r1, r2, r3, r4, r5, r6, r7, r8, r9)) ∧ Aside0 (kq ≤ k) ∧ Aside0 (Kd.V k50 50 wc w.heap.size (fun k_ => (P0_1_ k_ ∨ w.heap.size ≤ k_) ∧ k_ ≠ gb329 ∧ k_ ≠ gb330) (.slice A0_1 l0_1.length c0_1) l0_1) ∧ Aside0 (wc.heap[gb329]? = some (.cells #[(.slice A0_0 l0_0.length c0_0), (.slice A0_1 l0_1.length c0_1)] 32 (0, 0))) ∧ Aside0 (wc.heap[gb330]? = some (.cells #[.int .i64 0, .int .i64 0, .int .i64 0, .int .i64 0, .int .i64 0, .int .i64 0, (.slice none 0 0), (.slice none 0 0)] 50 (0, 0))) ∧ Aside0 (Below w.heap.size w wc))
 case first => (
 have H := HC3.out
 clear HC3
 obtain ⟨t331, A6, H⟩ := ZOB H; try dsimp only at H
 by_cases c7 : t331 = true
 ·(
 subst c7
 have H1 := H; rw [if_pos rfl] at H1
 clear H
 have H := H1
 clear H1
 obtain ⟨t332, A8, H⟩ := ZOB H; try dsimp only at H
 obtain ⟨t333, A9, H⟩ := ZOB H; try dsimp only at H
 have H' := AM H
 clear H
 have hnb10 := NB329_330.out
 have hnc10 := NB330_329.out
 have hcz11 := ZC2 w5 BK329
 have hfz11 := ZF2 BK329
 go_wp2_with (first | ((with_reducible refine gate_callee (f := 47) rfl ?_); refine ZGL (some 7) Try.func47 #[.agg #[.slice A0_0 l0_0.length c0_0, .slice A0_1 l0_1.length c0_1]] ?_; (with_reducible refine (impl_ProgOk.calls k _ _ l0_0 _ _ l0_1 true _ ?side1 ?side2 ?side3 ?side4 A6.out).mono ?_); (case side1 => exact ZQ (Kd.C_below HR0_0.out HB.out)); (case side2 => exact HC0_0.out); (case side3 => exact ZQ ((Kd.V_reads' HO0_1.out).2.2)); (case side4 => exact (Kd.V_reads' HO0_1.out).2.1); rintro e w12 ⟨rfl, hb⟩; refine ⟨_, rfl, ?_⟩; replace HO0_1 := AM (Kd.V_below (ZRV HO0_1.out) hb); replace BK329 := ZW BK329 hb; replace BK330 := ZW BK330 hb; replace HB := ZT HB hb; clear hb; have hcz13 := ZC2 w12 BK329; have hfz13 := ZF2 BK329) | (go_at_call 58; (with_reducible refine (impl_size.calls k _ _ l0_1 t332 _ ?side1 ?side2 A8.out).mono ?_); (case side1 => exact ZQ ((Kd.V_reads' HO0_1.out).2.2)); (case side2 => exact (Kd.V_reads' HO0_1.out).2.1); rintro e w14 ⟨rfl, hb⟩; replace HO0_1 := AM (Kd.V_below (ZRV HO0_1.out) hb); replace BK329 := ZW BK329 hb; replace BK330 := ZW BK330 hb; replace HB := ZT HB hb; clear hb) | (go_at_call 57; (with_reducible refine (impl_in.calls a1 0 (wrap64 (t332 - 1)) t333 _ A9.out).mono ?_); rintro e w' ⟨rfl, ⟨nd, rfl⟩⟩))
 go_meet
 case rel => exact ⟨_, (!t333), (by first | rfl | (simp; done) | (simp [*]; done)), H', ⟨by first | omega | exact Nat.le_refl _⟩, ⟨by (with_reducible repeat (first | apply Kd.V_alloc | apply Kd.V_drewN | apply Kd.V_drew)); exact Kd.V_mono HO0_1.out (fun _ hk => ⟨hk.1.1, ⟨hk.1.2, hk.2⟩⟩)⟩, ⟨ZK BK329.out⟩, ⟨ZK BK330.out⟩, ⟨ZB⟩⟩)
 ·(
 replace c7 := Bool.eq_false_iff.mpr c7
 subst c7
 have H1 := H; rw [if_neg ZFT] at H1
 clear H
 have H := H1
 clear H1
 have H' := AM H
 clear H
 have hnb15 := NB329_330.out
 have hnc15 := NB330_329.out
 have hcz16 := ZC2 w5 BK329
 have hfz16 := ZF2 BK329
 go_wp2_with (first | ((with_reducible refine gate_callee (f := 47) rfl ?_); refine ZGL (some 7) Try.func47 #[.agg #[.slice A0_0 l0_0.length c0_0, .slice A0_1 l0_1.length c0_1]] ?_; (with_reducible refine (impl_ProgOk.calls k _ _ l0_0 _ _ l0_1 false _ ?side1 ?side2 ?side3 ?side4 A6.out).mono ?_); (case side1 => exact ZQ (Kd.C_below HR0_0.out HB.out)); (case side2 => exact HC0_0.out); (case side3 => exact ZQ ((Kd.V_reads' HO0_1.out).2.2)); (case side4 => exact (Kd.V_reads' HO0_1.out).2.1); rintro e w17 ⟨rfl, hb⟩; refine ⟨_, rfl, ?_⟩; replace HO0_1 := AM (Kd.V_below (ZRV HO0_1.out) hb); replace BK329 := ZW BK329 hb; replace BK330 := ZW BK330 hb; replace HB := ZT HB hb; clear hb))
 go_meet
 case rel => exact ⟨_, (true), (by first | rfl | (simp; done) | (simp [*]; done)), H', ⟨by first | omega | exact Nat.le_refl _⟩, ⟨by (with_reducible repeat (first | apply Kd.V_alloc | apply Kd.V_drewN | apply Kd.V_drew)); exact Kd.V_mono HO0_1.out (fun _ hk => ⟨hk.1.1, ⟨hk.1.2, hk.2⟩⟩)⟩, ⟨ZK BK329.out⟩, ⟨ZK BK330.out⟩, ⟨ZB⟩⟩))
 case rest => (
 clear HC3
 try clear c1
 try clear p2
 try clear c3
 try clear c4
 try clear p6
 try clear c7
 try clear c10
 try clear c15
 try clear hcz11
 try clear hcz13
 try clear hcz16
 try clear hfz11
 try clear hfz13
 try clear hfz16
 obtain ⟨kq, x17_2, rfl, HA, HJ2, HO_330001, BK329, BK330, HB⟩ := hcut
 cases kq with
 | zero => exact absurd HA.out (by simp [impl_ProgAt.j0])
 | succ kj2 =>
  have H := HA.out
  clear HA
  simp only [impl_ProgAt.j0] at H
  by_cases c18 : x17_2 = true
  ·(
  subst c18
  have H1 := H; rw [if_pos rfl] at H1
  clear H
  have H := H1
  clear H1
  simp only [Option.some.injEq, Prod.mk.injEq] at H
  obtain ⟨rfl, rfl, rfl, rfl, rfl, rfl, rfl, rfl, rfl⟩ := H
  have hnb19 := NB330_329.out
  have hnc19 := NB329_330.out
  have hcz20 := ZC8 wc BK330
  have hfz20 := ZF8 BK330
  go_wp2
  refine bodyPost_ret (results_ct rfl _ _ gb330 50 #[.int .i64 0, .int .i64 0, .int .i64 0, .int .i64 0, .int .i64 0, .int .i64 0, .slice none 0 0, .slice none 0 0] (0, 0) _ rfl (ZZ BK330.out) Try.underlying50 rfl (by kernel_rfl)) rfl ?_
  exact ⟨_, _, ZE, [], [], rfl, rfl, by simp [Deep.bl, Value.ownBlock], Kd.R_nil _ _ _ _ _, Kd.R_nil _ _ _ _ _, ZB⟩)
  ·(
  replace c18 := Bool.eq_false_iff.mpr c18
  subst c18
  have H1 := H; rw [if_neg ZFT] at H1
  clear H
  have H := H1
  clear H1
  obtain ⟨t334, A21, H⟩ := ZOB H; try dsimp only at H
  by_cases c22 : 0 ≤ a1
  ·(
  rw [if_pos c22] at H
  have c22b0 := decide_eq_true c22
  clear c22
  by_cases c23 : a1 < (t334.length : Int)
  ·(
  rw [if_pos c23] at H
  have c23b0 := decide_eq_true c23
  clear c23
  obtain ⟨y338, hy338⟩ : ∃ y_ : List (S50), y_ = (([(⟨(rd_T50 t334 a1).f0, (rd_T50 t334 a1).f1, (⟨(rd_T50 t334 a1).f2.f0, (rd_T50 t334 a1).f2.f1, (rd_T50 t334 a1).f2.f2⟩ : S48), (rd_T50 t334 a1).f3, (rd_T50 t334 a1).f4, (rd_T50 t334 a1).f5⟩ : S50)] : List (S50))) := ⟨_, rfl⟩
  replace H : ((impl_cloneSteps.f kj2 y338).bind fun t341 => (if 0 < (t341.length : Int) then (some ((rd_T50 t341 0).f0, (rd_T50 t341 0).f1, (rd_T50 t341 0).f2.f0, (rd_T50 t341 0).f2.f1, (rd_T50 t341 0).f2.f2, (rd_T50 t341 0).f3, (rd_T50 t341 0).f4, (rd_T50 t341 0).f5, true)) else (none))) = some (r1, r2, r3, r4, r5, r6, r7, r8, r9) := by first | (rw [hy338]; with_reducible exact H) | (have H2_ := (Option.bind_some _ _).symm.trans H; rw [hy338]; with_reducible exact H2_) | (have H2_ := (Option.bind_some _ _).symm.trans H; with_reducible exact H2_) | with_reducible exact H | (rw [hy338]; exact H) | exact H
  have Ny338 := AM hy338
  clear hy338
  obtain ⟨t341, A24, H⟩ := ZOB H; try dsimp only at H
  by_cases c25 : 0 < (t341.length : Int)
  ·(
  rw [if_pos c25] at H
  have c25b0 := decide_eq_true c25
  have c25b1 : decide (0 < t341.length) = true := decide_eq_true (by omega)
  clear c25
  simp only [Option.some.injEq, Prod.mk.injEq] at H
  obtain ⟨rfl, rfl, rfl, rfl, rfl, rfl, rfl, rfl, rfl⟩ := H
  have hnb26 := NB329_330.out
  have hnc26 := NB330_329.out
  have hcz27 := ZC2 wc BK329
  have hfz27 := ZF2 BK329
  go_wp2_with (first | ((with_reducible refine gate_callee (f := 52) rfl ?_); refine ZGL (some 21) Try.func52 #[.slice A0_1 l0_1.length c0_1] ?_; (with_reducible refine (impl_all.calls kj2 (fun k_ => ((P0_1_ k_ ∨ w.heap.size ≤ k_) ∧ (k_ ≠ gb329 ∧ k_ ≠ gb330))) _ _ l0_1 t334 _ ?side1 A21.out).mono ?_); (case side1 => exact HO_330001.out); rintro e w28 ⟨v335, rfl, ho0, hb⟩; refine ⟨_, rfl, ?_⟩; have HO336 := AM (Kd.N_lower (Kd.N_mono (ok' := fun k_ => (P0_1_ k_ ∨ w.heap.size ≤ k_) ∧ k_ ≠ gb329 ∧ k_ ≠ gb330) ho0 (fun k_ hk_ => ⟨Or.elim hk_ (fun hs_ => hs_.1) (fun hn_ => (.inr (Nat.le_trans (below_size (ZB)) hn_))), Or.elim hk_ (fun hs_ => hs_.2.1) (fun hn_ => (Kd.freshB (g := gb329) (o := .cells #[.slice A0_0 l0_0.length c0_0, .slice A0_1 l0_1.length c0_1] 32 (0, 0)) (ZK BK329.out) k_ hn_)), Or.elim hk_ (fun hs_ => hs_.2.2) (fun hn_ => (Kd.freshB (g := gb330) (o := .cells #[.int .i64 0, .int .i64 0, .int .i64 0, .int .i64 0, .int .i64 0, .int .i64 0, .slice none 0 0, .slice none 0 0] 50 (0, 0)) (ZK BK330.out) k_ hn_))⟩)) (below_size (ZB))); replace HO_330001 := AM (Kd.V_elder' (ZRV HO_330001.out) (Kd.N_base ho0) hb); replace BK329 := ZW BK329 hb; replace BK330 := ZW BK330 hb; replace HB := ZT HB hb; clear hb; (try clear ho0); obtain ⟨Ao29, co29, eo29⟩ := Kd.N_slice HO336.out; subst eo29; have p337 : 0 ≤ (a1 : Int) := ZD; have q337 : a1 < (t334.length : Int) := ZD; obtain ⟨ad337, A337_6, c337_6, A337_7, c337_7, e337, hx337_0, hx337_1, hx337_2, hx337_3, hx337_4, hx337_5, hx337_6, hx337_7, hl337_6, hi337_6, hl337_7, hi337_7⟩ := at_T50 (Kd.N_reads' HO336.out).2.2 a1 p337 q337; cases e337; obtain ⟨ce337, hce337, hMe337, hcc337⟩ := Kd.N_get HO336.out z50 a1 p337 (by first | exact q337 | exact ZD | (have e_ := (Kd.N_reads' HO336.out).1; omega)); obtain ⟨ua337_6, uc337_6, ua337_7, uc337_7, rfl, ul337_6, ge337_6, ul337_7, ge337_7⟩ := k50_openF hMe337; have hv337_6 := hcc337 6 _ rfl; rw [add_field _ _ 6 (by omega)] at hv337_6; replace hv337_6 := Option.some.inj (hv337_6.symm.trans hx337_6); injection hv337_6 with hva_ hvn_ hvc_; rw [hva_] at ge337_6; rw [hvc_] at ul337_6; have HL337_6 := AM (show Kd.V k50 50 _ w.heap.size _ _ ((rd_T50 t334 a1).f4) from Kd.V_mk ul337_6 ge337_6); clear hva_ hvn_ hvc_ ge337_6 ul337_6; have hv337_7 := hcc337 7 _ rfl; rw [add_field _ _ 7 (by omega)] at hv337_7; replace hv337_7 := Option.some.inj (hv337_7.symm.trans hx337_7); injection hv337_7 with hva_ hvn_ hvc_; rw [hva_] at ge337_7; rw [hvc_] at ul337_7; have HL337_7 := AM (show Kd.V k50 50 _ w.heap.size _ _ ((rd_T50 t334 a1).f5) from Kd.V_mk ul337_7 ge337_7); clear hva_ hvn_ hvc_ ge337_7 ul337_7 hcc337 hce337; have HR337_6 := AM hi337_6; have HC337_6 := AM hl337_6; clear hi337_6 hl337_6; have HR337_7 := AM hi337_7; have HC337_7 := AM hl337_7; clear hi337_7 hl337_7; replace p337 := eq_true p337; replace q337 := eq_true q337) | ((with_reducible refine gate_dst (N := 25) rfl ?_); refine Kd.N_lit k50 _ 50 ?hg (N' := 25) ?hd (xs := ([(⟨(rd_T50 t334 a1).f0, (rd_T50 t334 a1).f1, (⟨(rd_T50 t334 a1).f2.f0, (rd_T50 t334 a1).f2.f1, (rd_T50 t334 a1).f2.f2⟩ : S48), (rd_T50 t334 a1).f3, (rd_T50 t334 a1).f4, (rd_T50 t334 a1).f5⟩ : S50)] : List (S50))) (inner := [.int .i64 ((rd_T50 t334 a1).f0), .int .i64 ((rd_T50 t334 a1).f1), .int .i64 ((rd_T50 t334 a1).f2.f0), .int .i64 ((rd_T50 t334 a1).f2.f1), .int .i64 ((rd_T50 t334 a1).f2.f2), .int .i64 ((rd_T50 t334 a1).f3), .slice A337_6 ((rd_T50 t334 a1).f4).length c337_6, .slice A337_7 ((rd_T50 t334 a1).f5).length c337_7]) (ok := (fun k_ => (P0_1_ k_ ∨ w.heap.size ≤ k_) ∧ some k_ ≠ (.slice (some ad337) t334.length co29 : Value).ownBlock ∧ k_ ≠ gb329 ∧ k_ ≠ gb330)) (okp := (fun k_ => (P0_1_ k_ ∨ w.heap.size ≤ k_) ∧ some k_ ≠ (.slice (some ad337) t334.length co29 : Value).ownBlock ∧ k_ ≠ gb329 ∧ k_ ≠ gb330)) ?hr ?hp (fun _ hk => hk) ((show ∀ k_, w28.heap.size ≤ k_ → (fun k_ => (P0_1_ k_ ∨ w.heap.size ≤ k_) ∧ some k_ ≠ (.slice (some ad337) t334.length co29 : Value).ownBlock ∧ k_ ≠ gb329 ∧ k_ ≠ gb330) k_ from fun k_ hk => ⟨(.inr (Nat.le_trans (below_size (ZB)) hk)), Kd.fresh' (Kd.N_lt (ZRN HO336.out)) k_ hk, Kd.freshB (g := gb329) (o := .cells #[.slice A0_0 l0_0.length c0_0, .slice A0_1 l0_1.length c0_1] 32 (0, 0)) (ZK BK329.out) k_ hk, Kd.freshB (g := gb330) (o := .cells #[.int .i64 0, .int .i64 0, .int .i64 0, .int .i64 0, .int .i64 0, .int .i64 0, .slice none 0 0, .slice none 0 0] 50 (0, 0)) (ZK BK330.out) k_ hk⟩) _ (Nat.le_refl _)) (Below.refl _ _) (Nat.le_refl _) (by simp) ?_; (case hd => rfl); (case hg => rfl); (case hr => first | (go_simp; done) | (go_simp; rfl)); (case hp => exact (Reps.c8 (show Kd.FK k50 _ _ (⟨(rd_T50 t334 a1).f0, (rd_T50 t334 a1).f1, (⟨(rd_T50 t334 a1).f2.f0, (rd_T50 t334 a1).f2.f1, (rd_T50 t334 a1).f2.f2⟩ : S48), (rd_T50 t334 a1).f3, (rd_T50 t334 a1).f4, (rd_T50 t334 a1).f5⟩ : S50) [.int .i64 ((rd_T50 t334 a1).f0), .int .i64 ((rd_T50 t334 a1).f1), .int .i64 ((rd_T50 t334 a1).f2.f0), .int .i64 ((rd_T50 t334 a1).f2.f1), .int .i64 ((rd_T50 t334 a1).f2.f2), .int .i64 ((rd_T50 t334 a1).f3), .slice A337_6 ((rd_T50 t334 a1).f4).length c337_6, .slice A337_7 ((rd_T50 t334 a1).f5).length c337_7] from (k50_mkF _ _ (⟨(rd_T50 t334 a1).f0, (rd_T50 t334 a1).f1, (⟨(rd_T50 t334 a1).f2.f0, (rd_T50 t334 a1).f2.f1, (rd_T50 t334 a1).f2.f2⟩ : S48), (rd_T50 t334 a1).f3, (rd_T50 t334 a1).f4, (rd_T50 t334 a1).f5⟩ : S50) (Kd.V_reads' (Kd.V_mono (ok' := (fun k_ => (P0_1_ k_ ∨ w.heap.size ≤ k_) ∧ some k_ ≠ (.slice (some ad337) t334.length co29 : Value).ownBlock ∧ k_ ≠ gb329 ∧ k_ ≠ gb330)) (HL337_6.out) (fun k_ hk => ⟨hk.1.1, ⟨hk.2, ⟨hk.1.2.1, hk.1.2.2⟩⟩⟩))).2.1 (Kd.V_F (Kd.V_mono (ok' := (fun k_ => (P0_1_ k_ ∨ w.heap.size ≤ k_) ∧ some k_ ≠ (.slice (some ad337) t334.length co29 : Value).ownBlock ∧ k_ ≠ gb329 ∧ k_ ≠ gb330)) (HL337_6.out) (fun k_ hk => ⟨hk.1.1, ⟨hk.2, ⟨hk.1.2.1, hk.1.2.2⟩⟩⟩))) (Kd.V_reads' (Kd.V_mono (ok' := (fun k_ => (P0_1_ k_ ∨ w.heap.size ≤ k_) ∧ some k_ ≠ (.slice (some ad337) t334.length co29 : Value).ownBlock ∧ k_ ≠ gb329 ∧ k_ ≠ gb330)) (HL337_7.out) (fun k_ hk => ⟨hk.1.1, ⟨hk.2, ⟨hk.1.2.1, hk.1.2.2⟩⟩⟩))).2.1 (Kd.V_F (Kd.V_mono (ok' := (fun k_ => (P0_1_ k_ ∨ w.heap.size ≤ k_) ∧ some k_ ≠ (.slice (some ad337) t334.length co29 : Value).ownBlock ∧ k_ ≠ gb329 ∧ k_ ≠ gb330)) (HL337_7.out) (fun k_ hk => ⟨hk.1.1, ⟨hk.2, ⟨hk.1.2.1, hk.1.2.2⟩⟩⟩))))) (Reps.none _ _))); intro v339 w30 ho31 hb hg_ hnew_; clear hg_ hnew_; (first | rw [← Ny338.out] at ho31 | (simp only [Int.reduceToNat] at ho31; rw [← Ny338.out] at ho31)); have HO340 := AM (Kd.N_lower ho31 (below_size (ZB))); replace HO_330001 := AM (Kd.V_elder' (ZRV HO_330001.out) (Kd.N_base ho31) hb); replace HO336 := AM (Kd.N_elder' (ZRN HO336.out) (Kd.N_base ho31) hb); replace HL337_6 := AM (Kd.V_elder' (ZRV HL337_6.out) (Kd.N_base ho31) hb); replace HL337_7 := AM (Kd.V_elder' (ZRV HL337_7.out) (Kd.N_base ho31) hb); replace BK329 := ZW BK329 hb; replace BK330 := ZW BK330 hb; replace HR337_6 := AM (Kd.C_below (ZQ HR337_6.out) hb); replace HR337_7 := AM (Kd.C_below (ZQ HR337_7.out) hb); replace HB := ZT HB hb; clear hb ho31; obtain ⟨Ao32, co32, eo32⟩ := Kd.N_slice HO340.out; subst eo32) | ((with_reducible refine gate_callee (f := 59) rfl ?_); refine ZGL (some 26) Try.func59 #[.slice Ao32 y338.length co32] ?_; (with_reducible refine (impl_cloneSteps.deep kj2 _ _ y338 t341 _ ?side1 ?side2 A24.out).mono ?_); (case side1 => exact ZQ ((Kd.N_reads' HO340.out).2.2)); (case side2 => exact (Kd.N_reads' HO340.out).2.1); rintro e w33 ⟨v342, rfl, zc_, hzc_, hnc_, hod_, hb⟩; refine ⟨_, rfl, ?_⟩; have ho0 : Kd.R k50 50 w33 _ (fun _ => True) v342 _ := hzc_ ▸ Deep.R_of hod_ hnc_; replace hod_ := Kd.R_lower (Kd.R_newB hod_ (g := gb330) (o := .cells #[.int .i64 0, .int .i64 0, .int .i64 0, .int .i64 0, .int .i64 0, .int .i64 0, .slice none 0 0, .slice none 0 0] 50 (0, 0)) (ZK BK330.out)) (below_size (ZB)); have HO343 := AM (Kd.N_lower (Kd.N_mono (ok' := fun k_ => (P0_1_ k_ ∨ w.heap.size ≤ k_) ∧ some k_ ≠ (.slice (some ad337) t334.length co29 : Value).ownBlock ∧ some k_ ≠ (.slice Ao32 y338.length co32 : Value).ownBlock ∧ k_ ≠ gb329 ∧ k_ ≠ gb330) (Kd.R_N (Kd.R_bound ho0)) (fun k_ hk_ => ⟨(.inr (Nat.le_trans (below_size (ZB)) hk_.2.1)), (Kd.fresh' (Kd.N_lt (ZRN HO336.out)) k_ hk_.2.1), (Kd.fresh' (Kd.N_lt (ZRN HO340.out)) k_ hk_.2.1), (Kd.freshB (g := gb329) (o := .cells #[.slice A0_0 l0_0.length c0_0, .slice A0_1 l0_1.length c0_1] 32 (0, 0)) (ZK BK329.out) k_ hk_.2.1), (Kd.freshB (g := gb330) (o := .cells #[.int .i64 0, .int .i64 0, .int .i64 0, .int .i64 0, .int .i64 0, .int .i64 0, .slice none 0 0, .slice none 0 0] 50 (0, 0)) (ZK BK330.out) k_ hk_.2.1)⟩)) (below_size (ZB))); replace HO_330001 := AM (Kd.V_elder' (ZRV HO_330001.out) (Kd.R_base ho0) hb); replace HO336 := AM (Kd.N_elder' (ZRN HO336.out) (Kd.R_base ho0) hb); replace HL337_6 := AM (Kd.V_elder' (ZRV HL337_6.out) (Kd.R_base ho0) hb); replace HL337_7 := AM (Kd.V_elder' (ZRV HL337_7.out) (Kd.R_base ho0) hb); replace HO340 := AM (Kd.N_elder' (ZRN HO340.out) (Kd.R_base ho0) hb); replace BK329 := ZW BK329 hb; replace BK330 := ZW BK330 hb; replace HR337_6 := AM (Kd.C_below (ZQ HR337_6.out) hb); replace HR337_7 := AM (Kd.C_below (ZQ HR337_7.out) hb); replace HB := ZT HB hb; clear hb; (try clear ho0); obtain ⟨Ao34, co34, eo34⟩ := Kd.N_slice HO343.out; subst eo34; have p344 : 0 ≤ (0 : Int) := (by omega); have q344 : 0 < (t341.length : Int) := ZD; obtain ⟨ad344, A344_6, c344_6, A344_7, c344_7, e344, hx344_0, hx344_1, hx344_2, hx344_3, hx344_4, hx344_5, hx344_6, hx344_7, hl344_6, hi344_6, hl344_7, hi344_7⟩ := at_T50 (Kd.N_reads' HO343.out).2.2 0 p344 q344; cases e344; obtain ⟨ce344, hce344, hMe344, hcc344⟩ := Kd.N_get HO343.out z50 0 p344 (by first | exact q344 | exact ZD | (have e_ := (Kd.N_reads' HO343.out).1; omega)); obtain ⟨ua344_6, uc344_6, ua344_7, uc344_7, rfl, ul344_6, ge344_6, ul344_7, ge344_7⟩ := k50_openF hMe344; have hv344_6 := hcc344 6 _ rfl; rw [add_field _ _ 6 (by omega)] at hv344_6; replace hv344_6 := Option.some.inj (hv344_6.symm.trans hx344_6); injection hv344_6 with hva_ hvn_ hvc_; rw [hva_] at ge344_6; rw [hvc_] at ul344_6; have HL344_6 := AM (show Kd.V k50 50 _ w.heap.size _ _ ((rd_T50 t341 0).f4) from Kd.V_mk ul344_6 ge344_6); clear hva_ hvn_ hvc_ ge344_6 ul344_6; have hv344_7 := hcc344 7 _ rfl; rw [add_field _ _ 7 (by omega)] at hv344_7; replace hv344_7 := Option.some.inj (hv344_7.symm.trans hx344_7); injection hv344_7 with hva_ hvn_ hvc_; rw [hva_] at ge344_7; rw [hvc_] at ul344_7; have HL344_7 := AM (show Kd.V k50 50 _ w.heap.size _ _ ((rd_T50 t341 0).f5) from Kd.V_mk ul344_7 ge344_7); clear hva_ hvn_ hvc_ ge344_7 ul344_7 hcc344 hce344; obtain ⟨vD6_, vD7_, zD6_, zD7_, hD6_, hD7_, mD6_, mD7_, nD_, rD6_, rD7_⟩ := Deep.first hod_ hzc_ hnc_ (by omega); obtain rfl := Option.some.inj (hD6_.symm.trans hx344_6); obtain rfl := Option.some.inj (hD7_.symm.trans hx344_7); have HD6 := AM rD6_; have HD7 := AM rD7_; have MD6 := AM mD6_; have MD7 := AM mD7_; have ND := AM nD_; clear rD6_ rD7_ mD6_ mD7_ nD_ hod_ hzc_ hnc_ hD6_ hD7_; have qi344 : (0 < t341.length) = True := eq_true (by omega); (try rw [show ((0 : Int)).toNat = 0 from rfl] at hx344_0); (try rw [show 0 * 8 = 0 from rfl] at hx344_0); (try rw [Addr.add_zero'] at hx344_0); (try rw [show ((0 : Int)).toNat = 0 from rfl] at hx344_1); (try rw [show 0 * 8 = 0 from rfl] at hx344_1); (try rw [Addr.add_zero'] at hx344_1); (try rw [show ((0 : Int)).toNat = 0 from rfl] at hx344_2); (try rw [show 0 * 8 = 0 from rfl] at hx344_2); (try rw [Addr.add_zero'] at hx344_2); (try rw [show ((0 : Int)).toNat = 0 from rfl] at hx344_3); (try rw [show 0 * 8 = 0 from rfl] at hx344_3); (try rw [Addr.add_zero'] at hx344_3); (try rw [show ((0 : Int)).toNat = 0 from rfl] at hx344_4); (try rw [show 0 * 8 = 0 from rfl] at hx344_4); (try rw [Addr.add_zero'] at hx344_4); (try rw [show ((0 : Int)).toNat = 0 from rfl] at hx344_5); (try rw [show 0 * 8 = 0 from rfl] at hx344_5); (try rw [Addr.add_zero'] at hx344_5); (try rw [show ((0 : Int)).toNat = 0 from rfl] at hx344_6); (try rw [show 0 * 8 = 0 from rfl] at hx344_6); (try rw [Addr.add_zero'] at hx344_6); (try rw [show ((0 : Int)).toNat = 0 from rfl] at hx344_7); (try rw [show 0 * 8 = 0 from rfl] at hx344_7); (try rw [Addr.add_zero'] at hx344_7); have HR344_6 := AM hi344_6; have HC344_6 := AM hl344_6; clear hi344_6 hl344_6; have HR344_7 := AM hi344_7; have HC344_7 := AM hl344_7; clear hi344_7 hl344_7; replace p344 := eq_true p344; replace q344 := eq_true q344; have hcz35 := ZC8 w33 BK330; have hfz35 := ZF8 BK330))
  refine bodyPost_ret (results_ct rfl _ _ gb330 50 #[.int .i64 ((rd_T50 t341 0).f0), .int .i64 ((rd_T50 t341 0).f1), .int .i64 ((rd_T50 t341 0).f2.f0), .int .i64 ((rd_T50 t341 0).f2.f1), .int .i64 ((rd_T50 t341 0).f2.f2), .int .i64 ((rd_T50 t341 0).f3), .slice A344_6 ((rd_T50 t341 0).f4).length c344_6, .slice A344_7 ((rd_T50 t341 0).f5).length c344_7] (0, 0) _ rfl (ZZ BK330.out) Try.underlying50 rfl (by kernel_rfl)) rfl ?_
  exact ⟨_, _, ZE, zD6_, zD7_, MD6.out, MD7.out, ND.out, by (with_reducible repeat (first | apply Kd.R_alloc | apply Kd.R_drewN | apply Kd.R_drew)); exact Kd.R_mono (Kd.R_far (p := ⟨gb330, 7, none⟩) (Kd.R_far (p := ⟨gb330, 6, none⟩) (Kd.R_far (p := ⟨gb330, 5, none⟩) (Kd.R_far (p := ⟨gb330, 4, none⟩) (Kd.R_far (p := ⟨gb330, 3, none⟩) (Kd.R_far (p := ⟨gb330, 2, none⟩) (Kd.R_far (p := ⟨gb330, 1, none⟩) (Kd.R_far (p := ⟨gb330, 0, none⟩) HD6.out (fun _ hk => hk.2) (.int .i64 ((rd_T50 t341 0).f0))) (fun _ hk => hk.2) (.int .i64 ((rd_T50 t341 0).f1))) (fun _ hk => hk.2) (.int .i64 ((rd_T50 t341 0).f2.f0))) (fun _ hk => hk.2) (.int .i64 ((rd_T50 t341 0).f2.f1))) (fun _ hk => hk.2) (.int .i64 ((rd_T50 t341 0).f2.f2))) (fun _ hk => hk.2) (.int .i64 ((rd_T50 t341 0).f3))) (fun _ hk => hk.2) (.slice A344_6 ((rd_T50 t341 0).f4).length c344_6)) (fun _ hk => hk.2) (.slice A344_7 ((rd_T50 t341 0).f5).length c344_7)) (fun _ _ => trivial), by (with_reducible repeat (first | apply Kd.R_alloc | apply Kd.R_drewN | apply Kd.R_drew)); exact Kd.R_mono (Kd.R_far (p := ⟨gb330, 7, none⟩) (Kd.R_far (p := ⟨gb330, 6, none⟩) (Kd.R_far (p := ⟨gb330, 5, none⟩) (Kd.R_far (p := ⟨gb330, 4, none⟩) (Kd.R_far (p := ⟨gb330, 3, none⟩) (Kd.R_far (p := ⟨gb330, 2, none⟩) (Kd.R_far (p := ⟨gb330, 1, none⟩) (Kd.R_far (p := ⟨gb330, 0, none⟩) HD7.out (fun _ hk => hk.2) (.int .i64 ((rd_T50 t341 0).f0))) (fun _ hk => hk.2) (.int .i64 ((rd_T50 t341 0).f1))) (fun _ hk => hk.2) (.int .i64 ((rd_T50 t341 0).f2.f0))) (fun _ hk => hk.2) (.int .i64 ((rd_T50 t341 0).f2.f1))) (fun _ hk => hk.2) (.int .i64 ((rd_T50 t341 0).f2.f2))) (fun _ hk => hk.2) (.int .i64 ((rd_T50 t341 0).f3))) (fun _ hk => hk.2) (.slice A344_6 ((rd_T50 t341 0).f4).length c344_6)) (fun _ hk => hk.2) (.slice A344_7 ((rd_T50 t341 0).f5).length c344_7)) (fun _ _ => trivial), ZB⟩)
  ·(
  rw [if_neg c25] at H
  exact absurd H (by simp)))
  ·(
  rw [if_neg c23] at H
  exact absurd H (by simp)))
  ·(
  rw [if_neg c22] at H
  exact absurd H (by simp))))
theorem impl_ProgAt.deep (k : Nat) (A0_0 : Option Addr) (c0_0 : Nat) (l0_0 : List (S60)) (A0_1 : Option Addr) (c0_1 : Nat) (l0_1 : List (S50)) (a1 : Int) (r1 : Int) (r2 : Int) (r3 : Int) (r4 : Int) (r5 : Int) (r6 : Int) (r7 : List (S50)) (r8 : List (S50)) (r9 : Bool) (w : World) (hr0_0 : Kd.C k60 w A0_0 l0_0.length l0_0) (hc0_0 : l0_0.length ≤ c0_0) (hr0_1 : Kd.C k50 w A0_1 l0_1.length l0_1) (hc0_1 : l0_1.length ≤ c0_1) (h : impl_ProgAt.f k l0_0 l0_1 a1 = some (r1, r2, r3, r4, r5, r6, r7, r8, r9)) :
  Calls Try.prog 30 #[.agg #[.slice A0_0 l0_0.length c0_0, .slice A0_1 l0_1.length c0_1], .int .i64 a1] w fun e w' => ∃ v6_ v7_ : Value, e = .returned (.tuple #[.agg #[.int .i64 r1, .int .i64 r2, .int .i64 r3, .int .i64 r4, .int .i64 r5, .int .i64 r6, v6_, v7_], .bool r9]) ∧ ∃ z6_ z7_ : List (S50 × List Nat), z6_.map Prod.fst = r7 ∧ z7_.map Prod.fst = r8 ∧ (Deep.bl v6_ z6_ ++ Deep.bl v7_ z7_).Nodup ∧ Kd.R Deep.kD 50 w' w.heap.size (fun _ => True) v6_ z6_ ∧ Kd.R Deep.kD 50 w' w.heap.size (fun _ => True) v7_ z7_ ∧ Below w.heap.size w w' :=
 impl_ProgAt.deepV k _ _ l0_0 _ _ _ l0_1 a1 r1 r2 r3 r4 r5 r6 r7 r8 r9 w hr0_0 hc0_0 (Kd.V_mk hc0_1 (Kd.C_F k50_heap hr0_1)) h
theorem impl_ProgAt.calls (k : Nat) (A0_0 : Option Addr) (c0_0 : Nat) (l0_0 : List (S60)) (A0_1 : Option Addr) (c0_1 : Nat) (l0_1 : List (S50)) (a1 : Int) (r1 : Int) (r2 : Int) (r3 : Int) (r4 : Int) (r5 : Int) (r6 : Int) (r7 : List (S50)) (r8 : List (S50)) (r9 : Bool) (w : World) (hr0_0 : Kd.C k60 w A0_0 l0_0.length l0_0) (hc0_0 : l0_0.length ≤ c0_0) (hr0_1 : Kd.C k50 w A0_1 l0_1.length l0_1) (hc0_1 : l0_1.length ≤ c0_1) (h : impl_ProgAt.f k l0_0 l0_1 a1 = some (r1, r2, r3, r4, r5, r6, r7, r8, r9)) :
  Calls Try.prog 30 #[.agg #[.slice A0_0 l0_0.length c0_0, .slice A0_1 l0_1.length c0_1], .int .i64 a1] w fun e w' => ∃ v6_ v7_ : Value, e = .returned (.tuple #[.agg #[.int .i64 r1, .int .i64 r2, .int .i64 r3, .int .i64 r4, .int .i64 r5, .int .i64 r6, v6_, v7_], .bool r9]) ∧ Kd.R k50 50 w' w.heap.size (fun k_ => some k_ ≠ v7_.ownBlock) v6_ r7 ∧ Kd.R k50 50 w' w.heap.size (fun k_ => some k_ ≠ v6_.ownBlock) v7_ r8 ∧ Below w.heap.size w w' :=
 (impl_ProgAt.deep k _ _ l0_0 _ _ l0_1 a1 r1 r2 r3 r4 r5 r6 r7 r8 r9 w hr0_0 hc0_0 hr0_1 hc0_1 h).mono fun e w' ⟨v6, v7, he, z6, z7, e6, e7, hn, h6, h7, hb⟩ =>
  ⟨v6, v7, he, (Deep.R_two h6 h7 e6 e7 hn).1, (Deep.R_two h6 h7 e6 e7 hn).2, hb⟩

end Go.Proofs.Ytaflodibibbakaa.B
