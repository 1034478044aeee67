/- What Go functions compute, as Lean functions, and for each its contract: for every input at which the Lean function answers the call returns that; written by wip/tools/pr.py over the kit's print. -/
import Derived.Test.YtcffnnedghgmaaaAx0
import Derived.Test.YtcffnnedghgmaaaAx10
import Derived.Test.YtcffnnedghgmaaaAx13
import Derived.Test.YtcffnnedghgmaaaAx16
import Derived.Test.YtcffnnedghgmaaaAx31
import Derived.Test.YtcffnnedghgmaaaAx41
namespace Go.Proofs.Ytcffnnedghgmaaa.A
open Go.RowKit Go.Proofs.YtcffnnedghgmaaaW.PrintWords Go.Proofs.YtcffnnedghgmaaaW.PrintLast Go.Proofs.YtcffnnedghgmaaaW.PrintMore
attribute [local go_sem] max2_int min2_int max_two min_two max_three min_three max_four min_four   -- for this text's walks alone
set_option linter.unusedVariables false
set_option linter.unusedSimpArgs false

/-! ### laws_FnExactTypeWhy: function 21 -/
def laws_FnExactTypeWhy.j0 : Nat → Bool → List (S114) → List (S112) → List (S35) → List (S59) → Option (Bool)
 | 0, _, _, _, _, _ => none
 | k + 1, x34, x592000, x592001, x608000, x608001 => if x34 = true then (some false) else ((laws_toProg.f k x592000 x592001).bind fun bt610 => ((laws_eqProg.f k x608000 x608001 bt610.1 bt610.2).bind fun t616 => (if t616 = true then (some true) else (some false))))
def laws_FnExactTypeWhy.f (k : Nat) (l0_0 : List (S114)) (l0_1 : List (S112)) : Option (Bool) := (laws_szProg.f k l0_0 l0_1 1048576).bind fun t592 => (if t592 < 0 then (some true) else ((laws_toProg.f k l0_0 l0_1).bind fun bt593 => ((spec_TypeWhy.f k bt593.1 bt593.2).bind fun bt599 => ((laws_toProg.f k l0_0 l0_1).bind fun bt601 => ((impl_TypeWhy.f k bt601.1 bt601.2).bind fun bt608 => (if bt608.1 = bt599.1 then (laws_FnExactTypeWhy.j0 k (bt608.2 != bt599.2) l0_0 l0_1 bt601.1 bt601.2) else (laws_FnExactTypeWhy.j0 k true l0_0 l0_1 bt601.1 bt601.2)))))))
set_option maxHeartbeats 8000000 in
set_option maxRecDepth 100000 in
theorem laws_FnExactTypeWhy.calls (k : Nat) (A0_0 : Option Addr) (c0_0 : Nat) (l0_0 : List (S114)) (A0_1 : Option Addr) (c0_1 : Nat) (l0_1 : List (S112)) (r : Bool) (w : World) (hr0_0 : Kd.C k114 w A0_0 l0_0.length l0_0) (hc0_0 : l0_0.length ≤ c0_0) (hr0_1 : Kd.C k112 w A0_1 l0_1.length l0_1) (hc0_1 : l0_1.length ≤ c0_1) (h : laws_FnExactTypeWhy.f k l0_0 l0_1 = some r) :
  Calls Try.prog 21 #[.agg #[.slice A0_0 l0_0.length c0_0, .slice A0_1 l0_1.length c0_1]] w fun e w' => e = .returned (.bool r) ∧ Below w.heap.size w w' := by
 have hu41 := Try.underlying41
 have hu26 := Try.underlying26
 have HR0_0 := Aside0.mk hr0_0
 have HC0_0 := Aside0.mk hc0_0
 clear hr0_0 hc0_0
 have HR0_1 := Aside0.mk hr0_1
 have HC0_1 := Aside0.mk hc0_1
 clear hr0_1 hc0_1
 have HB := Aside0.mk (Below.refl w.heap.size w)
 have H : ((laws_szProg.f k l0_0 l0_1 1048576).bind fun t592 => (if t592 < 0 then (some true) else ((laws_toProg.f k l0_0 l0_1).bind fun bt593 => ((spec_TypeWhy.f k bt593.1 bt593.2).bind fun bt599 => ((laws_toProg.f k l0_0 l0_1).bind fun bt601 => ((impl_TypeWhy.f k bt601.1 bt601.2).bind fun bt608 => (if bt608.1 = bt599.1 then (laws_FnExactTypeWhy.j0 k (bt608.2 != bt599.2) l0_0 l0_1 bt601.1 bt601.2) else (laws_FnExactTypeWhy.j0 k true l0_0 l0_1 bt601.1 bt601.2)))))))) = some r := h
 clear h
 replace H := Option.bind_eq_some_iff.mp H
 obtain ⟨t592, A20, H⟩ := H
 replace H : (if t592 < 0 then (some true) else ((laws_toProg.f k l0_0 l0_1).bind fun bt593 => ((spec_TypeWhy.f k bt593.1 bt593.2).bind fun bt599 => ((laws_toProg.f k l0_0 l0_1).bind fun bt601 => ((impl_TypeWhy.f k bt601.1 bt601.2).bind fun bt608 => (if bt608.1 = bt599.1 then (laws_FnExactTypeWhy.j0 k (bt608.2 != bt599.2) l0_0 l0_1 bt601.1 bt601.2) else (laws_FnExactTypeWhy.j0 k true l0_0 l0_1 bt601.1 bt601.2))))))) = some r := H
 have A2 := Aside0.mk A20
 clear A20
 by_cases c3 : t592 < 0
 ·rw [if_pos c3] at H
  have c3b0 : decide (t592 < 0) = true := decide_eq_true c3
  clear c3
  obtain rfl := Option.some.inj H
  go_enter Try.func21, Try.ntmps21
  go_wp2_with (first | ((with_reducible refine gate_dst (N := 1) rfl ?_); refine ZX (N := 1) (cs := #[.slice A0_0 l0_0.length c0_0, .slice A0_1 l0_1.length c0_1]) (t := 41) ?_; intro gb591 hg w4 hbox hb; have BK591 := Aside0.mk (hbox); have GW591 : Aside0 (w.heap.size ≤ gb591) := ZS hg; have GE591 : Aside0 (w.heap.size ≤ gb591) := ZS hg; replace HB := ZT hb; clear hb hbox hg; obtain ⟨hcz5_0, hcz5_1⟩ := ZC2 w4 BK591; obtain ⟨hfz5_0, hfz5_1⟩ := ZF2 BK591) | ((with_reducible refine gate_callee (f := 37) rfl ?_); refine goesL_ (some 11) rfl rfl Try.func37 (by kernel_rfl) rfl #[.agg #[.slice A0_0 l0_0.length c0_0, .slice A0_1 l0_1.length c0_1], .int .i64 1048576] rfl ZG ?_; (with_reducible refine (laws_szProg.calls k _ _ l0_0 _ _ l0_1 1048576 t592 _ ?side1 ?side2 ?side3 ?side4 A2.out).mono ?_); (case side1 => exact ZQ (Kd.C_below HR0_0.out HB.out)); (case side2 => exact HC0_0.out); (case side3 => exact ZQ (Kd.C_below HR0_1.out HB.out)); (case side4 => exact HC0_1.out); rintro e w6 ⟨rfl, hb⟩; refine ⟨_, rfl, ?_⟩; replace BK591 := ZW BK591 hb; replace HB := ZT hb; (try clear hb); (try clear hb2); (try clear hk); (try clear hi)))
  go_ret
  exact ⟨ZE, ZB⟩
 ·rw [if_neg c3] at H
  have c3b0 : decide (t592 < 0) = false := decide_eq_false c3
  clear c3
  replace H := Option.bind_eq_some_iff.mp H
  obtain ⟨⟨t593, t596⟩, A70, H⟩ := H
  replace H : ((spec_TypeWhy.f k t593 t596).bind fun bt599 => ((laws_toProg.f k l0_0 l0_1).bind fun bt601 => ((impl_TypeWhy.f k bt601.1 bt601.2).bind fun bt608 => (if bt608.1 = bt599.1 then (laws_FnExactTypeWhy.j0 k (bt608.2 != bt599.2) l0_0 l0_1 bt601.1 bt601.2) else (laws_FnExactTypeWhy.j0 k true l0_0 l0_1 bt601.1 bt601.2))))) = some r := H
  have A7 := Aside0.mk A70
  clear A70
  replace H := Option.bind_eq_some_iff.mp H
  obtain ⟨⟨t599, t600⟩, A80, H⟩ := H
  replace H : ((laws_toProg.f k l0_0 l0_1).bind fun bt601 => ((impl_TypeWhy.f k bt601.1 bt601.2).bind fun bt608 => (if bt608.1 = t599 then (laws_FnExactTypeWhy.j0 k (bt608.2 != t600) l0_0 l0_1 bt601.1 bt601.2) else (laws_FnExactTypeWhy.j0 k true l0_0 l0_1 bt601.1 bt601.2)))) = some r := H
  have A8 := Aside0.mk A80
  clear A80
  replace H := Option.bind_eq_some_iff.mp H
  obtain ⟨⟨t601, t604⟩, A90, H⟩ := H
  replace H : ((impl_TypeWhy.f k t601 t604).bind fun bt608 => (if bt608.1 = t599 then (laws_FnExactTypeWhy.j0 k (bt608.2 != t600) l0_0 l0_1 t601 t604) else (laws_FnExactTypeWhy.j0 k true l0_0 l0_1 t601 t604))) = some r := H
  have A9 := Aside0.mk A90
  clear A90
  replace H := Option.bind_eq_some_iff.mp H
  obtain ⟨⟨t608, t609⟩, A100, H⟩ := H
  replace H : (if t608 = t599 then (laws_FnExactTypeWhy.j0 k (t609 != t600) l0_0 l0_1 t601 t604) else (laws_FnExactTypeWhy.j0 k true l0_0 l0_1 t601 t604)) = some r := H
  have A10 := Aside0.mk A100
  clear A100
  have HC11 := Aside0.mk H
  clear H
  go_enter Try.func21, Try.ntmps21
  go_upto_region 8 with (first | ((with_reducible refine gate_dst (N := 1) rfl ?_); refine ZX (N := 1) (cs := #[.slice A0_0 l0_0.length c0_0, .slice A0_1 l0_1.length c0_1]) (t := 41) ?_; intro gb591 hg w12 hbox hb; have BK591 := Aside0.mk (hbox); have GW591 : Aside0 (w.heap.size ≤ gb591) := ZS hg; have GE591 : Aside0 (w.heap.size ≤ gb591) := ZS hg; replace HB := ZT hb; clear hb hbox hg; obtain ⟨hcz13_0, hcz13_1⟩ := ZC2 w12 BK591; obtain ⟨hfz13_0, hfz13_1⟩ := ZF2 BK591) | ((with_reducible refine gate_callee (f := 37) rfl ?_); refine goesL_ (some 11) rfl rfl Try.func37 (by kernel_rfl) rfl #[.agg #[.slice A0_0 l0_0.length c0_0, .slice A0_1 l0_1.length c0_1], .int .i64 1048576] rfl ZG ?_; (with_reducible refine (laws_szProg.calls k _ _ l0_0 _ _ l0_1 1048576 t592 _ ?side1 ?side2 ?side3 ?side4 A2.out).mono ?_); (case side1 => exact ZQ (Kd.C_below HR0_0.out HB.out)); (case side2 => exact HC0_0.out); (case side3 => exact ZQ (Kd.C_below HR0_1.out HB.out)); (case side4 => exact HC0_1.out); rintro e w14 ⟨rfl, hb⟩; refine ⟨_, rfl, ?_⟩; replace BK591 := ZW BK591 hb; replace HB := ZT hb; (try clear hb); (try clear hb2); (try clear hk); (try clear hi); obtain ⟨hcz15_0, hcz15_1⟩ := ZC2 w14 BK591; obtain ⟨hfz15_0, hfz15_1⟩ := ZF2 BK591) | ((with_reducible refine gate_callee (f := 38) rfl ?_); refine goesL_ (some 16) rfl rfl Try.func38 (by kernel_rfl) rfl #[.agg #[.slice A0_0 l0_0.length c0_0, .slice A0_1 l0_1.length c0_1]] rfl ZG ?_; (with_reducible refine (laws_toProg.calls k _ _ l0_0 _ _ l0_1 t593 t596 _ ?side1 ?side2 ?side3 ?side4 A7.out).mono ?_); (case side1 => exact ZQ (Kd.C_below HR0_0.out HB.out)); (case side2 => exact HC0_0.out); (case side3 => exact ZQ (Kd.C_below HR0_1.out HB.out)); (case side4 => exact HC0_1.out); rintro e w16 ⟨v594, v597, rfl, ho0, ho1, hb⟩; refine ⟨_, rfl, ?_⟩; have HO595 := Aside0.mk (Kd.R_lower ho0 (below_size (ZB))); have HO598 := Aside0.mk (Kd.R_lower ho1 (below_size (ZB))); replace BK591 := ZW BK591 hb; replace HB := ZT hb; (try clear hb); (try clear hb2); (try clear hk); (try clear hi); (try clear ho0); (try clear ho1); obtain ⟨Ao17, co17, eo17⟩ := Kd.R_slice HO595.out; subst eo17; obtain ⟨Ao18, co18, eo18⟩ := Kd.R_slice HO598.out; subst eo18) | ((with_reducible refine gate_callee (f := 74) rfl ?_); refine goesL_ (some 17) rfl rfl Try.func74 (by kernel_rfl) rfl #[.agg #[.slice Ao17 t593.length co17, .slice Ao18 t596.length co18]] rfl ZG ?_; (with_reducible refine (spec_TypeWhy.calls k _ _ t593 _ _ t596 t599 t600 _ ?side1 ?side2 ?side3 ?side4 A8.out).mono ?_); (case side1 => exact ZQ ((Kd.R_reads' HO595.out).2.2)); (case side2 => exact (Kd.R_reads' HO595.out).2.1); (case side3 => exact ZQ ((Kd.R_reads' HO598.out).2.2)); (case side4 => exact (Kd.R_reads' HO598.out).2.1); rintro e w19 ⟨rfl, hb⟩; refine ⟨_, rfl, ?_⟩; replace HO595 := Aside0.mk (Kd.R_below (ZR HO595.out) hb); replace HO598 := Aside0.mk (Kd.R_below (ZR HO598.out) hb); replace BK591 := ZW BK591 hb; replace HB := ZT hb; (try clear hb); (try clear hb2); (try clear hk); (try clear hi); obtain ⟨hcz20_0, hcz20_1⟩ := ZC2 w19 BK591; obtain ⟨hfz20_0, hfz20_1⟩ := ZF2 BK591) | ((with_reducible refine gate_callee (f := 38) rfl ?_); refine goesL_ (some 21) rfl rfl Try.func38 (by kernel_rfl) rfl #[.agg #[.slice A0_0 l0_0.length c0_0, .slice A0_1 l0_1.length c0_1]] rfl ZG ?_; (with_reducible refine (laws_toProg.calls k _ _ l0_0 _ _ l0_1 t601 t604 _ ?side1 ?side2 ?side3 ?side4 A9.out).mono ?_); (case side1 => exact ZQ (Kd.C_below HR0_0.out HB.out)); (case side2 => exact HC0_0.out); (case side3 => exact ZQ (Kd.C_below HR0_1.out HB.out)); (case side4 => exact HC0_1.out); rintro e w21 ⟨v602, v605, rfl, ho0, ho1, hb⟩; refine ⟨_, rfl, ?_⟩; have HO603 := Aside0.mk (Kd.R_lower (Kd.R_new' ho0 (Kd.R_lt (ZR HO595.out))) (below_size (ZB))); have HO606 := Aside0.mk (Kd.R_lower (Kd.R_new' ho1 (Kd.R_lt (ZR HO598.out))) (below_size (ZB))); replace HO595 := Aside0.mk (Kd.R_elder' (ZR HO595.out) (Kd.R_base ho0) hb); replace HO598 := Aside0.mk (Kd.R_elder' (ZR HO598.out) (Kd.R_base ho1) hb); replace BK591 := ZW BK591 hb; replace HB := ZT hb; (try clear hb); (try clear hb2); (try clear hk); (try clear hi); (try clear ho0); (try clear ho1)) | ((with_reducible refine gate_dst (N := 6) rfl ?_); refine ZX (N := 6) (cs := #[.slice none 0 0, .slice none 0 0]) (t := 26) ?_; intro gb607 hg w22 hbox hb; have BK607 := Aside0.mk (hbox); have GW607 : Aside0 (w.heap.size ≤ gb607) := ZS hg; have GE607 : Aside0 (w.heap.size ≤ gb607) := ZS hg; have NB591_607 : Aside0 (gb591 ≠ gb607) := ZN hg BK591; have NB607_591 : Aside0 (gb607 ≠ gb591) := ZM hg BK591; replace HO595 := Aside0.mk (Kd.R_below (ZR HO595.out) hb); replace HO598 := Aside0.mk (Kd.R_below (ZR HO598.out) hb); replace HO603 := Aside0.mk (Kd.R_below (ZR HO603.out) hb); replace HO606 := Aside0.mk (Kd.R_below (ZR HO606.out) hb); replace BK591 := ZW BK591 hb; replace HB := ZT hb; clear hb hbox hg; obtain ⟨Ao23, co23, eo23⟩ := Kd.R_slice HO603.out; subst eo23; have hnb24 := NB607_591.out; have hnc24 := NB591_607.out; obtain ⟨hcz25_0, hcz25_1⟩ := ZC2 w22 BK607; obtain ⟨hfz25_0, hfz25_1⟩ := ZF2 BK607; obtain ⟨Ao26, co26, eo26⟩ := Kd.R_slice HO606.out; subst eo26) | ((with_reducible refine gate_callee (f := 75) rfl ?_); refine goesL_ (some 24) rfl rfl Try.func75 (by kernel_rfl) rfl #[.agg #[.slice Ao23 t601.length co23, .slice Ao26 t604.length co26]] rfl ZG ?_; (with_reducible refine (impl_TypeWhy.calls k _ _ t601 _ _ t604 t608 t609 _ ?side1 ?side2 ?side3 ?side4 A10.out).mono ?_); (case side1 => refine (Kd.R_reads' (e := 35) (base := w.heap.size) (ok := fun k_ => (True ∧ some k_ ≠ (.slice Ao17 t593.length co17 : Value).ownBlock)) (n := t601.length) (c := co23) ?_).2.2; exact (ZR ((Kd.R_mono (Kd.R_far (p := ⟨gb607, 1, none⟩) (Kd.R_far (p := ⟨gb607, 0, none⟩) (Kd.R_types HO603.out BK607.out (by decide)) (fun _ hk => hk.2) (.slice Ao23 t601.length co23)) (fun _ hk => hk.2) (.slice Ao26 t604.length co26)) (fun _ h_ => h_.1))))); (case side2 => exact (Kd.R_reads' HO603.out).2.1); (case side3 => refine (Kd.R_reads' (e := 59) (base := w.heap.size) (ok := fun k_ => (True ∧ some k_ ≠ (.slice Ao18 t596.length co18 : Value).ownBlock)) (n := t604.length) (c := co26) ?_).2.2; exact (ZR ((Kd.R_mono (Kd.R_far (p := ⟨gb607, 1, none⟩) (Kd.R_far (p := ⟨gb607, 0, none⟩) (Kd.R_types HO606.out BK607.out (by decide)) (fun _ hk => hk.2) (.slice Ao23 t601.length co23)) (fun _ hk => hk.2) (.slice Ao26 t604.length co26)) (fun _ h_ => h_.1))))); (case side4 => exact (Kd.R_reads' HO606.out).2.1); rintro e w27 ⟨rfl, hb⟩; refine ⟨_, rfl, ?_⟩; replace HO595 := Aside0.mk (Kd.R_below (ZR ((Kd.R_mono (Kd.R_far (p := ⟨gb607, 1, none⟩) (Kd.R_far (p := ⟨gb607, 0, none⟩) (Kd.R_types HO595.out BK607.out (by decide)) (fun _ hk => hk.2) (.slice Ao23 t601.length co23)) (fun _ hk => hk.2) (.slice Ao26 t604.length co26)) (fun _ h_ => h_.1)))) hb); replace HO598 := Aside0.mk (Kd.R_below (ZR ((Kd.R_mono (Kd.R_far (p := ⟨gb607, 1, none⟩) (Kd.R_far (p := ⟨gb607, 0, none⟩) (Kd.R_types HO598.out BK607.out (by decide)) (fun _ hk => hk.2) (.slice Ao23 t601.length co23)) (fun _ hk => hk.2) (.slice Ao26 t604.length co26)) (fun _ h_ => h_.1)))) hb); replace HO603 := Aside0.mk (Kd.R_below (ZR ((Kd.R_mono (Kd.R_far (p := ⟨gb607, 1, none⟩) (Kd.R_far (p := ⟨gb607, 0, none⟩) (Kd.R_types HO603.out BK607.out (by decide)) (fun _ hk => hk.2) (.slice Ao23 t601.length co23)) (fun _ hk => hk.2) (.slice Ao26 t604.length co26)) (fun _ h_ => h_.1)))) hb); replace HO606 := Aside0.mk (Kd.R_below (ZR ((Kd.R_mono (Kd.R_far (p := ⟨gb607, 1, none⟩) (Kd.R_far (p := ⟨gb607, 0, none⟩) (Kd.R_types HO606.out BK607.out (by decide)) (fun _ hk => hk.2) (.slice Ao23 t601.length co23)) (fun _ hk => hk.2) (.slice Ao26 t604.length co26)) (fun _ h_ => h_.1)))) hb); replace BK591 := ZV #[.slice A0_0 l0_0.length c0_0, .slice A0_1 l0_1.length c0_1] BK591 hb; replace BK607 := ZV #[.slice Ao23 t601.length co23, .slice Ao26 t604.length co26] BK607 hb; replace HB := ZT hb; (try clear hb); (try clear hb2); (try clear hk); (try clear hi)))
  (try simp only [Act.put, List.setIfInBounds_toArray, List.set_cons_zero, List.set_cons_succ])
  go_cut [34] (fun v34 wc => ∃ (kq : Nat) (x34_10 : Bool), v34 = .bool x34_10 ∧ Aside0 (laws_FnExactTypeWhy.j0 kq x34_10 l0_0 l0_1 t601 t604 = some r) ∧ Aside0 (kq ≤ k) ∧ Aside0 (Kd.R k35 35 wc w.heap.size (fun _ => True) (.slice Ao23 t601.length co23) t601) ∧ Aside0 (Kd.R k59 59 wc w.heap.size (fun _ => True) (.slice Ao26 t604.length co26) t604) ∧ Aside0 (wc.heap[gb591]? = some (.cells #[(.slice A0_0 l0_0.length c0_0), (.slice A0_1 l0_1.length c0_1)] 41 (0, 0))) ∧ Aside0 (wc.heap[gb607]? = some (.cells #[(.slice Ao23 t601.length co23), (.slice Ao26 t604.length co26)] 26 (0, 0))) ∧ Aside0 (Below w.heap.size w wc))
  case first =>
   have H := HC11.out
   clear HC11
   by_cases c28 : t608 = t599
   ·rw [if_pos c28] at H
    have c28b0 : (t608 == t599) = true := beq_iff_eq.mpr c28
    have c28b1 : (t608 != t599) = false := bne_eq_false_iff_eq.mpr c28
    clear c28
    (first | rw [c28b0] | (simp only [i64_w, i32_w]; rw [c28b0]) | skip)
    have H' := Aside0.mk H
    clear H
    go_wp2
    go_meet
    case rel => exact ⟨_, ((t609 != t600)), (by first | rfl | (simp; done) | (simp [*]; done)), H', ⟨by first | omega | exact Nat.le_refl _⟩, ⟨ZR (Kd.R_mono HO603.out (fun _ hk => trivial))⟩, ⟨ZR (Kd.R_mono HO606.out (fun _ hk => trivial))⟩, ⟨ZK BK591.out⟩, ⟨ZK BK607.out⟩, ⟨ZB⟩⟩
   ·rw [if_neg c28] at H
    have c28b0 : (t608 == t599) = false := beq_eq_false_iff_ne.mpr c28
    have c28b1 : (t608 != t599) = true := bne_iff_ne.mpr c28
    (first | rw [c28b0] | (simp only [i64_w, i32_w]; rw [c28b0]) | skip)
    have H' := Aside0.mk H
    clear H
    go_wp2
    go_meet
    case rel => exact ⟨_, (true), (by first | rfl | (simp; done) | (simp [*]; done)), H', ⟨by first | omega | exact Nat.le_refl _⟩, ⟨ZR (Kd.R_mono HO603.out (fun _ hk => trivial))⟩, ⟨ZR (Kd.R_mono HO606.out (fun _ hk => trivial))⟩, ⟨ZK BK591.out⟩, ⟨ZK BK607.out⟩, ⟨ZB⟩⟩
  case rest =>
   clear HC11
   try clear c2
   try clear p2
   try clear c3
   try clear c3b0
   try clear c7
   try clear c21
   try clear c24
   try clear c28
   try clear c28b0
   try clear c28b1
   try clear hcz13_0
   try clear hcz13_1
   try clear hcz15_0
   try clear hcz15_1
   try clear hcz20_0
   try clear hcz20_1
   try clear hcz25_0
   try clear hcz25_1
   try clear hcz5_0
   try clear hcz5_1
   try clear hfz13_0
   try clear hfz13_1
   try clear hfz15_0
   try clear hfz15_1
   try clear hfz20_0
   try clear hfz20_1
   try clear hfz25_0
   try clear hfz25_1
   try clear hfz5_0
   try clear hfz5_1
   obtain ⟨kq, x34_10, rfl, HA, HJ10, HO_608000, HO_608001, BK591, BK607, HB⟩ := hcut
   cases kq with
   | zero => exact absurd HA.out (by simp [laws_FnExactTypeWhy.j0])
   | succ kj10 =>
    have H := HA.out
    clear HA
    simp only [laws_FnExactTypeWhy.j0] at H
    by_cases c29 : x34_10 = true
    ·subst c29
     have H1 : (some false) = some r := by rw [if_pos rfl] at H; exact H
     clear H
     have H := H1
     clear H1
     obtain rfl := Option.some.inj H
     go_wp2
     go_ret
     exact ⟨ZE, ZB⟩
    ·replace c29 := Bool.eq_false_iff.mpr c29
     subst c29
     have H1 : ((laws_toProg.f kj10 l0_0 l0_1).bind fun bt610 => ((laws_eqProg.f kj10 t601 t604 bt610.1 bt610.2).bind fun t616 => (if t616 = true then (some true) else (some false)))) = some r := by rw [if_neg (show ¬ (false = true) by decide)] at H; exact H
     clear H
     have H := H1
     clear H1
     replace H := Option.bind_eq_some_iff.mp H
     obtain ⟨⟨t610, t613⟩, A300, H⟩ := H
     replace H : ((laws_eqProg.f kj10 t601 t604 t610 t613).bind fun t616 => (if t616 = true then (some true) else (some false))) = some r := H
     have A30 := Aside0.mk A300
     clear A300
     replace H := Option.bind_eq_some_iff.mp H
     obtain ⟨t616, A310, H⟩ := H
     replace H : (if t616 = true then (some true) else (some false)) = some r := H
     have A31 := Aside0.mk A310
     clear A310
     by_cases c32 : t616 = true
     ·subst c32
      have H1 : (some true) = some r := by rw [if_pos rfl] at H; exact H
      clear H
      have H := H1
      clear H1
      obtain rfl := Option.some.inj H
      try go_wp2
      have n0_ := Aside0.mk (Kd.R_drew HO_608000.out)
      have n1_ := Aside0.mk (Kd.R_drew HO_608001.out)
      have n2_ := Aside0.mk (blk_drew BK591.out)
      have n3_ := Aside0.mk (blk_drew BK607.out)
      have n4_ := Aside0.mk (below_drew1 HB.out)
      clear HO_608000
      clear HO_608001
      clear BK591
      clear BK607
      clear HB
      have HO_608000 := n0_
      have HO_608001 := n1_
      have BK591 := n2_
      have BK607 := n3_
      have HB := n4_
      clear n0_ n1_ n2_ n3_ n4_
      refine start_ (n := 5) (S := fun w' => w'.cell? ⟨gb607, 0, none⟩ = some (.slice Ao23 t601.length co23) ∧ w'.cell? ⟨gb607, 1, none⟩ = some (.slice Ao26 t604.length co26) ∧ w'.cell? ⟨gb591, 0, none⟩ = some (.slice A0_0 l0_0.length c0_0) ∧ w'.cell? ⟨gb591, 1, none⟩ = some (.slice A0_1 l0_1.length c0_1)) (ds := []) #[false, false, false, false, false] (by kernel_rfl) rfl rfl ⟨(blk_cell BK607.out 0).trans rfl, (blk_cell BK607.out 1).trans rfl, (blk_cell BK591.out 0).trans rfl, (blk_cell BK591.out 1).trans rfl⟩ (fun hHeld => ?_)
      generalize wc.drew = w33 at HO_608000 HO_608001 BK591 BK607 HB hHeld ⊢
      refine take_ (i := 0) (N := some 35) (v := ?_) (a' := ?_) #[true, false, false, false, false] rfl rfl (by kernel_rfl) (fun _ _ _ h => h) (Or.inl ⟨by rfl, ?_⟩) hHeld ?_ ?_
      rotate_left
      ·rintro w' ⟨s0, s1, s2, s3⟩
       go_simp
       with_reducible rfl
      rotate_left
      ·simp only [Act.put, List.setIfInBounds_toArray, List.set_cons_zero, List.set_cons_succ, i64_w, i32_w]
       rfl
      refine take_ (i := 1) (N := some 36) (v := ?_) (a' := ?_) #[true, true, false, false, false] rfl rfl (by kernel_rfl) (fun _ _ _ h => h) (Or.inl ⟨by rfl, ?_⟩) hHeld ?_ ?_
      rotate_left
      ·rintro w' ⟨s0, s1, s2, s3⟩
       go_simp
       with_reducible rfl
      rotate_left
      ·simp only [Act.put, List.setIfInBounds_toArray, List.set_cons_zero, List.set_cons_succ, i64_w, i32_w]
       rfl
      refine one_ (i := 2) (N := some 37) #[true, true, true, false, false] rfl rfl (by kernel_rfl) (by decide) (fun K hK => ?_)
      refine goes_ Try.func38 (by kernel_rfl) rfl #[.agg #[.slice A0_0 l0_0.length c0_0, .slice A0_1 l0_1.length c0_1]] (by rfl) rfl rfl ZG ?_
      with_reducible refine (laws_toProg.calls kj10 _ _ l0_0 _ _ l0_1 t610 t613 _ ?side1 ?side2 ?side3 ?side4 A30.out).mono ?_
      (case side1 => exact ZQ (Kd.C_below HR0_0.out HB.out))
      (case side2 => exact HC0_0.out)
      (case side3 => exact ZQ (Kd.C_below HR0_1.out HB.out))
      (case side4 => exact HC0_1.out)
      rintro e w34 ⟨v611, v614, rfl, ho0, ho1, hb⟩
      refine ⟨_, rfl, ?_⟩
      have n0_ := Aside0.mk (Kd.R_elder' (ZR HO_608000.out) (Kd.R_base ho0) hb)
      have n1_ := Aside0.mk (Kd.R_elder' (ZR HO_608001.out) (Kd.R_base ho1) hb)
      have n2_ := Aside0.mk (Kd.R_lower (Kd.R_new' ho0 (Kd.R_lt (ZR HO_608000.out))) (below_size (ZB)))
      have n3_ := Aside0.mk (Kd.R_lower (Kd.R_new' ho1 (Kd.R_lt (ZR HO_608001.out))) (below_size (ZB)))
      have n4_ := ZW BK591 hb
      have n5_ := ZW BK607 hb
      have n6_ := ZT hb
      clear HO_608000
      clear HO_608001
      clear BK591
      clear BK607
      clear HB
      have HO_608000 := n0_
      have HO_608001 := n1_
      have HO612 := n2_
      have HO615 := n3_
      have BK591 := n4_
      have BK607 := n5_
      have HB := n6_
      clear n0_ n1_ n2_ n3_ n4_ n5_ n6_
      (try clear hb)
      (try clear hb2)
      (try clear hk)
      (try clear hi)
      (try clear ho0)
      (try clear ho1)
      obtain ⟨Ao35, co35, eo35⟩ := Kd.R_slice HO612.out
      (first | subst eo35 | (injection eo35 with f1_ f2_ f3_; have f4_ := f1_.symm; have f5_ := f3_.symm; clear f1_ f2_ f3_; subst f4_; subst f5_))
      obtain ⟨Ao36, co36, eo36⟩ := Kd.R_slice HO615.out
      (first | subst eo36 | (injection eo36 with f1_ f2_ f3_; have f4_ := f1_.symm; have f5_ := f3_.symm; clear f1_ f2_ f3_; subst f4_; subst f5_))
      refine hK.out _ _ ⟨(blk_cell BK607.out 0).trans rfl, (blk_cell BK607.out 1).trans rfl, (blk_cell BK591.out 0).trans rfl, (blk_cell BK591.out 1).trans rfl⟩ (fun hHeld => ?_)
      clear hK K
      refine ZNO 37 ?_
      refine one_ (i := 3) (N := some 38) #[true, true, true, true, false] rfl rfl (by kernel_rfl) (by decide) (fun K hK => ?_)
      refine goes_ Try.func39 (by kernel_rfl) rfl #[.agg #[.slice Ao23 t601.length co23, .slice Ao26 t604.length co26], .agg #[.slice Ao35 t610.length co35, .slice Ao36 t613.length co36]] (by rfl) rfl rfl ZG ?_
      with_reducible refine (laws_eqProg.calls kj10 _ _ t601 _ _ t604 _ _ t610 _ _ t613 true _ ?side1 ?side2 ?side3 ?side4 ?side5 ?side6 ?side7 ?side8 A31.out).mono ?_
      (case side1 => exact ZQ ((Kd.R_reads' HO_608000.out).2.2))
      (case side2 => exact (Kd.R_reads' HO_608000.out).2.1)
      (case side3 => exact ZQ ((Kd.R_reads' HO_608001.out).2.2))
      (case side4 => exact (Kd.R_reads' HO_608001.out).2.1)
      (case side5 => exact ZQ ((Kd.R_reads' HO612.out).2.2))
      (case side6 => exact (Kd.R_reads' HO612.out).2.1)
      (case side7 => exact ZQ ((Kd.R_reads' HO615.out).2.2))
      (case side8 => exact (Kd.R_reads' HO615.out).2.1)
      rintro e w37 ⟨rfl, hb⟩
      refine ⟨_, rfl, ?_⟩
      have n0_ := Aside0.mk (Kd.R_below (ZR HO_608000.out) hb)
      have n1_ := Aside0.mk (Kd.R_below (ZR HO_608001.out) hb)
      have n2_ := Aside0.mk (Kd.R_below (ZR HO612.out) hb)
      have n3_ := Aside0.mk (Kd.R_below (ZR HO615.out) hb)
      have n4_ := ZW BK591 hb
      have n5_ := ZW BK607 hb
      have n6_ := ZT hb
      clear HO_608000
      clear HO_608001
      clear HO612
      clear HO615
      clear BK591
      clear BK607
      clear HB
      have HO_608000 := n0_
      have HO_608001 := n1_
      have HO612 := n2_
      have HO615 := n3_
      have BK591 := n4_
      have BK607 := n5_
      have HB := n6_
      clear n0_ n1_ n2_ n3_ n4_ n5_ n6_
      (try clear hb)
      (try clear hb2)
      (try clear hk)
      (try clear hi)
      refine hK.out _ _ ⟨(blk_cell BK607.out 0).trans rfl, (blk_cell BK607.out 1).trans rfl, (blk_cell BK591.out 0).trans rfl, (blk_cell BK591.out 1).trans rfl⟩ (fun hHeld => ?_)
      clear hK K
      refine ZNO 38 ?_
      refine pure_ (i := 4) (N := some 39) (v := ?_) (a' := ?_) #[true, true, true, true, true] rfl rfl (by kernel_rfl) (fun _ _ _ h => h) (Or.inl ⟨by rfl, ?_⟩) ?_ ?_
      rotate_left
      ·intro w'
       go_simp
       with_reducible rfl
      rotate_left
      ·simp only [Act.put, List.setIfInBounds_toArray, List.set_cons_zero, List.set_cons_succ, i64_w, i32_w]
       rfl
      refine done_ (by kernel_rfl) ?_
      try go_wp2
      go_ret
      exact ⟨ZE, ZB⟩
     ·replace c32 := Bool.eq_false_iff.mpr c32
      subst c32
      have H1 : (some false) = some r := by rw [if_neg (show ¬ (false = true) by decide)] at H; exact H
      clear H
      have H := H1
      clear H1
      obtain rfl := Option.some.inj H
      try go_wp2
      have n0_ := Aside0.mk (Kd.R_drew HO_608000.out)
      have n1_ := Aside0.mk (Kd.R_drew HO_608001.out)
      have n2_ := Aside0.mk (blk_drew BK591.out)
      have n3_ := Aside0.mk (blk_drew BK607.out)
      have n4_ := Aside0.mk (below_drew1 HB.out)
      clear HO_608000
      clear HO_608001
      clear BK591
      clear BK607
      clear HB
      have HO_608000 := n0_
      have HO_608001 := n1_
      have BK591 := n2_
      have BK607 := n3_
      have HB := n4_
      clear n0_ n1_ n2_ n3_ n4_
      refine start_ (n := 5) (S := fun w' => w'.cell? ⟨gb607, 0, none⟩ = some (.slice Ao23 t601.length co23) ∧ w'.cell? ⟨gb607, 1, none⟩ = some (.slice Ao26 t604.length co26) ∧ w'.cell? ⟨gb591, 0, none⟩ = some (.slice A0_0 l0_0.length c0_0) ∧ w'.cell? ⟨gb591, 1, none⟩ = some (.slice A0_1 l0_1.length c0_1)) (ds := []) #[false, false, false, false, false] (by kernel_rfl) rfl rfl ⟨(blk_cell BK607.out 0).trans rfl, (blk_cell BK607.out 1).trans rfl, (blk_cell BK591.out 0).trans rfl, (blk_cell BK591.out 1).trans rfl⟩ (fun hHeld => ?_)
      generalize wc.drew = w38 at HO_608000 HO_608001 BK591 BK607 HB hHeld ⊢
      refine take_ (i := 0) (N := some 35) (v := ?_) (a' := ?_) #[true, false, false, false, false] rfl rfl (by kernel_rfl) (fun _ _ _ h => h) (Or.inl ⟨by rfl, ?_⟩) hHeld ?_ ?_
      rotate_left
      ·rintro w' ⟨s0, s1, s2, s3⟩
       go_simp
       with_reducible rfl
      rotate_left
      ·simp only [Act.put, List.setIfInBounds_toArray, List.set_cons_zero, List.set_cons_succ, i64_w, i32_w]
       rfl
      refine take_ (i := 1) (N := some 36) (v := ?_) (a' := ?_) #[true, true, false, false, false] rfl rfl (by kernel_rfl) (fun _ _ _ h => h) (Or.inl ⟨by rfl, ?_⟩) hHeld ?_ ?_
      rotate_left
      ·rintro w' ⟨s0, s1, s2, s3⟩
       go_simp
       with_reducible rfl
      rotate_left
      ·simp only [Act.put, List.setIfInBounds_toArray, List.set_cons_zero, List.set_cons_succ, i64_w, i32_w]
       rfl
      refine one_ (i := 2) (N := some 37) #[true, true, true, false, false] rfl rfl (by kernel_rfl) (by decide) (fun K hK => ?_)
      refine goes_ Try.func38 (by kernel_rfl) rfl #[.agg #[.slice A0_0 l0_0.length c0_0, .slice A0_1 l0_1.length c0_1]] (by rfl) rfl rfl ZG ?_
      with_reducible refine (laws_toProg.calls kj10 _ _ l0_0 _ _ l0_1 t610 t613 _ ?side1 ?side2 ?side3 ?side4 A30.out).mono ?_
      (case side1 => exact ZQ (Kd.C_below HR0_0.out HB.out))
      (case side2 => exact HC0_0.out)
      (case side3 => exact ZQ (Kd.C_below HR0_1.out HB.out))
      (case side4 => exact HC0_1.out)
      rintro e w39 ⟨v611, v614, rfl, ho0, ho1, hb⟩
      refine ⟨_, rfl, ?_⟩
      have n0_ := Aside0.mk (Kd.R_elder' (ZR HO_608000.out) (Kd.R_base ho0) hb)
      have n1_ := Aside0.mk (Kd.R_elder' (ZR HO_608001.out) (Kd.R_base ho1) hb)
      have n2_ := Aside0.mk (Kd.R_lower (Kd.R_new' ho0 (Kd.R_lt (ZR HO_608000.out))) (below_size (ZB)))
      have n3_ := Aside0.mk (Kd.R_lower (Kd.R_new' ho1 (Kd.R_lt (ZR HO_608001.out))) (below_size (ZB)))
      have n4_ := ZW BK591 hb
      have n5_ := ZW BK607 hb
      have n6_ := ZT hb
      clear HO_608000
      clear HO_608001
      clear BK591
      clear BK607
      clear HB
      have HO_608000 := n0_
      have HO_608001 := n1_
      have HO612 := n2_
      have HO615 := n3_
      have BK591 := n4_
      have BK607 := n5_
      have HB := n6_
      clear n0_ n1_ n2_ n3_ n4_ n5_ n6_
      (try clear hb)
      (try clear hb2)
      (try clear hk)
      (try clear hi)
      (try clear ho0)
      (try clear ho1)
      obtain ⟨Ao40, co40, eo40⟩ := Kd.R_slice HO612.out
      (first | subst eo40 | (injection eo40 with f1_ f2_ f3_; have f4_ := f1_.symm; have f5_ := f3_.symm; clear f1_ f2_ f3_; subst f4_; subst f5_))
      obtain ⟨Ao41, co41, eo41⟩ := Kd.R_slice HO615.out
      (first | subst eo41 | (injection eo41 with f1_ f2_ f3_; have f4_ := f1_.symm; have f5_ := f3_.symm; clear f1_ f2_ f3_; subst f4_; subst f5_))
      refine hK.out _ _ ⟨(blk_cell BK607.out 0).trans rfl, (blk_cell BK607.out 1).trans rfl, (blk_cell BK591.out 0).trans rfl, (blk_cell BK591.out 1).trans rfl⟩ (fun hHeld => ?_)
      clear hK K
      refine ZNO 37 ?_
      refine one_ (i := 3) (N := some 38) #[true, true, true, true, false] rfl rfl (by kernel_rfl) (by decide) (fun K hK => ?_)
      refine goes_ Try.func39 (by kernel_rfl) rfl #[.agg #[.slice Ao23 t601.length co23, .slice Ao26 t604.length co26], .agg #[.slice Ao40 t610.length co40, .slice Ao41 t613.length co41]] (by rfl) rfl rfl ZG ?_
      with_reducible refine (laws_eqProg.calls kj10 _ _ t601 _ _ t604 _ _ t610 _ _ t613 false _ ?side1 ?side2 ?side3 ?side4 ?side5 ?side6 ?side7 ?side8 A31.out).mono ?_
      (case side1 => exact ZQ ((Kd.R_reads' HO_608000.out).2.2))
      (case side2 => exact (Kd.R_reads' HO_608000.out).2.1)
      (case side3 => exact ZQ ((Kd.R_reads' HO_608001.out).2.2))
      (case side4 => exact (Kd.R_reads' HO_608001.out).2.1)
      (case side5 => exact ZQ ((Kd.R_reads' HO612.out).2.2))
      (case side6 => exact (Kd.R_reads' HO612.out).2.1)
      (case side7 => exact ZQ ((Kd.R_reads' HO615.out).2.2))
      (case side8 => exact (Kd.R_reads' HO615.out).2.1)
      rintro e w42 ⟨rfl, hb⟩
      refine ⟨_, rfl, ?_⟩
      have n0_ := Aside0.mk (Kd.R_below (ZR HO_608000.out) hb)
      have n1_ := Aside0.mk (Kd.R_below (ZR HO_608001.out) hb)
      have n2_ := Aside0.mk (Kd.R_below (ZR HO612.out) hb)
      have n3_ := Aside0.mk (Kd.R_below (ZR HO615.out) hb)
      have n4_ := ZW BK591 hb
      have n5_ := ZW BK607 hb
      have n6_ := ZT hb
      clear HO_608000
      clear HO_608001
      clear HO612
      clear HO615
      clear BK591
      clear BK607
      clear HB
      have HO_608000 := n0_
      have HO_608001 := n1_
      have HO612 := n2_
      have HO615 := n3_
      have BK591 := n4_
      have BK607 := n5_
      have HB := n6_
      clear n0_ n1_ n2_ n3_ n4_ n5_ n6_
      (try clear hb)
      (try clear hb2)
      (try clear hk)
      (try clear hi)
      refine hK.out _ _ ⟨(blk_cell BK607.out 0).trans rfl, (blk_cell BK607.out 1).trans rfl, (blk_cell BK591.out 0).trans rfl, (blk_cell BK591.out 1).trans rfl⟩ (fun hHeld => ?_)
      clear hK K
      refine ZNO 38 ?_
      refine pure_ (i := 4) (N := some 39) (v := ?_) (a' := ?_) #[true, true, true, true, true] rfl rfl (by kernel_rfl) (fun _ _ _ h => h) (Or.inl ⟨by rfl, ?_⟩) ?_ ?_
      rotate_left
      ·intro w'
       go_simp
       with_reducible rfl
      rotate_left
      ·simp only [Act.put, List.setIfInBounds_toArray, List.set_cons_zero, List.set_cons_succ, i64_w, i32_w]
       rfl
      refine done_ (by kernel_rfl) ?_
      try go_wp2
      go_ret
      exact ⟨ZE, ZB⟩

end Go.Proofs.Ytcffnnedghgmaaa.A
