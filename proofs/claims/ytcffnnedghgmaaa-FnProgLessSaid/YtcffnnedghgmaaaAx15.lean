/- What Go functions compute, as Lean functions, and for each its contract: for every input at which the Lean function answers the call returns that; written by wip/tools/pr.py over the kit's print. -/
import Derived.Test.YtcffnnedghgmaaaAx0
import Derived.Test.YtcffnnedghgmaaaAx14
namespace Go.Proofs.Ytcffnnedghgmaaa.A
open Go.RowKit Go.Proofs.YtcffnnedghgmaaaW.PrintWords Go.Proofs.YtcffnnedghgmaaaW.PrintLast Go.Proofs.YtcffnnedghgmaaaW.PrintMore
attribute [local go_sem] max2_int min2_int max_two min_two max_three min_three max_four min_four   -- for this text's walks alone
set_option linter.unusedVariables false
set_option linter.unusedSimpArgs false

/-! ### impl_Prog_valOk: function 127 -/
def impl_Prog_valOk.f (l0_0 : List (S35)) (l0_1 : List (S59)) (a1_0 : Int) (a1_1 : Int) (a1_2 : Int) : Option (Bool) := if a1_0 = 1 then ((impl_isNum.f a1_1).bind fun t351 => (if t351 = true then (some (a1_2 == 0)) else (some false))) else (if a1_0 = 2 then ((impl_Prog_isVar.f l0_0 l0_1 a1_1).bind fun t352 => (if t352 = true then (some (a1_2 == 0)) else (some false))) else (if a1_0 = 3 then ((impl_Prog_isVar.f l0_0 l0_1 a1_1).bind fun t353 => (if t353 = true then ((impl_Prog_isVar.f l0_0 l0_1 a1_2).bind fun t354 => (some t354)) else (some false))) else (if a1_0 = 4 then ((impl_Prog_isVar.f l0_0 l0_1 a1_1).bind fun t355 => (if t355 = true then ((impl_Prog_isVar.f l0_0 l0_1 a1_2).bind fun t356 => (some t356)) else (some false))) else (some false))))
set_option maxHeartbeats 8000000 in
set_option maxRecDepth 100000 in
theorem impl_Prog_valOk.calls (A0_0 : Option Addr) (c0_0 : Nat) (l0_0 : List (S35)) (A0_1 : Option Addr) (c0_1 : Nat) (l0_1 : List (S59)) (a1_0 : Int) (a1_1 : Int) (a1_2 : Int) (r : Bool) (w : World) (hr0_0 : Kd.C k35 w A0_0 l0_0.length l0_0) (hc0_0 : l0_0.length ≤ c0_0) (hr0_1 : Kd.C k59 w A0_1 l0_1.length l0_1) (hc0_1 : l0_1.length ≤ c0_1) (h : impl_Prog_valOk.f l0_0 l0_1 a1_0 a1_1 a1_2 = some r) :
  Calls Try.prog 127 #[.agg #[.slice A0_0 l0_0.length c0_0, .slice A0_1 l0_1.length c0_1], .agg #[.int .i64 a1_0, .int .i64 a1_1, .int .i64 a1_2]] w fun e w' => e = .returned (.bool r) ∧ Below w.heap.size w w' := by
 have hu26 := Try.underlying26
 have hu57 := Try.underlying57
 have HR0_0 := Aside0.mk hr0_0
 have HC0_0 := Aside0.mk hc0_0
 clear hr0_0 hc0_0
 have HR0_1 := Aside0.mk hr0_1
 have HC0_1 := Aside0.mk hc0_1
 clear hr0_1 hc0_1
 have HB := Aside0.mk (Below.refl w.heap.size w)
 have H : (if a1_0 = 1 then ((impl_isNum.f a1_1).bind fun t351 => (if t351 = true then (some (a1_2 == 0)) else (some false))) else (if a1_0 = 2 then ((impl_Prog_isVar.f l0_0 l0_1 a1_1).bind fun t352 => (if t352 = true then (some (a1_2 == 0)) else (some false))) else (if a1_0 = 3 then ((impl_Prog_isVar.f l0_0 l0_1 a1_1).bind fun t353 => (if t353 = true then ((impl_Prog_isVar.f l0_0 l0_1 a1_2).bind fun t354 => (some t354)) else (some false))) else (if a1_0 = 4 then ((impl_Prog_isVar.f l0_0 l0_1 a1_1).bind fun t355 => (if t355 = true then ((impl_Prog_isVar.f l0_0 l0_1 a1_2).bind fun t356 => (some t356)) else (some false))) else (some false))))) = some r := h
 clear h
 by_cases c3 : a1_0 = 1
 ·rw [if_pos c3] at H
  have c3b0 : (a1_0 == 1) = true := beq_iff_eq.mpr c3
  have c3b1 : (a1_0 != 1) = false := bne_eq_false_iff_eq.mpr c3
  clear c3
  replace H := Option.bind_eq_some_iff.mp H
  obtain ⟨t351, A40, H⟩ := H
  replace H : (if t351 = true then (some (a1_2 == 0)) else (some false)) = some r := H
  have A4 := Aside0.mk A40
  clear A40
  by_cases c5 : t351 = true
  ·subst c5
   have H1 : (some (a1_2 == 0)) = some r := by rw [if_pos rfl] at H; exact H
   clear H
   have H := H1
   clear H1
   obtain rfl := Option.some.inj H
   go_enter Try.func127, Try.ntmps127
   go_wp2_with (first | ((with_reducible refine gate_dst (N := 2) rfl ?_); refine ZX (N := 2) (cs := #[.slice A0_0 l0_0.length c0_0, .slice A0_1 l0_1.length c0_1]) (t := 26) ?_; intro gb349 hg w6 hbox hb; have BK349 := Aside0.mk (hbox); have GW349 : Aside0 (w.heap.size ≤ gb349) := ZS hg; have GE349 : Aside0 (w.heap.size ≤ gb349) := ZS hg; replace HB := ZT HB hb; clear hb hbox hg) | ((with_reducible refine gate_dst (N := 3) rfl ?_); refine ZX (N := 3) (cs := #[.int .i64 a1_0, .int .i64 a1_1, .int .i64 a1_2]) (t := 57) ?_; intro gb350 hg w7 hbox hb; have BK350 := Aside0.mk (hbox); have GW350 : Aside0 (w.heap.size ≤ gb350) := ZS hg; have GE350 : Aside0 (w.heap.size ≤ gb350) := ZS hg; have NB349_350 : Aside0 (gb349 ≠ gb350) := ZN hg BK349; have NB350_349 : Aside0 (gb350 ≠ gb349) := ZM hg BK349; replace BK349 := ZW BK349 hb; replace HB := ZT HB hb; clear hb hbox hg; have hnb8 := NB350_349.out; have hnc8 := NB349_350.out; obtain ⟨hcz9_0, hcz9_1, hcz9_2⟩ := ZC3 w7 BK350; obtain ⟨hfz9_0, hfz9_1, hfz9_2⟩ := ZF3 BK350) | ((with_reducible refine gate_callee (f := 101) rfl ?_); refine goesL_ (some 11) rfl rfl Try.func101 (by kernel_rfl) rfl #[.int .i64 a1_1] rfl ZG ?_; (with_reducible refine (impl_isNum.calls a1_1 true _ A4.out).mono ?_); rintro e w' ⟨rfl, ⟨nd, rfl⟩⟩; refine ⟨_, rfl, ?_⟩))
   go_ret
   exact ⟨ZE, ZB⟩
  ·replace c5 := Bool.eq_false_iff.mpr c5
   subst c5
   have H1 : (some false) = some r := by rw [if_neg (show ¬ (false = true) by decide)] at H; exact H
   clear H
   have H := H1
   clear H1
   obtain rfl := Option.some.inj H
   go_enter Try.func127, Try.ntmps127
   go_wp2_with (first | ((with_reducible refine gate_dst (N := 2) rfl ?_); refine ZX (N := 2) (cs := #[.slice A0_0 l0_0.length c0_0, .slice A0_1 l0_1.length c0_1]) (t := 26) ?_; intro gb349 hg w10 hbox hb; have BK349 := Aside0.mk (hbox); have GW349 : Aside0 (w.heap.size ≤ gb349) := ZS hg; have GE349 : Aside0 (w.heap.size ≤ gb349) := ZS hg; replace HB := ZT HB hb; clear hb hbox hg) | ((with_reducible refine gate_dst (N := 3) rfl ?_); refine ZX (N := 3) (cs := #[.int .i64 a1_0, .int .i64 a1_1, .int .i64 a1_2]) (t := 57) ?_; intro gb350 hg w11 hbox hb; have BK350 := Aside0.mk (hbox); have GW350 : Aside0 (w.heap.size ≤ gb350) := ZS hg; have GE350 : Aside0 (w.heap.size ≤ gb350) := ZS hg; have NB349_350 : Aside0 (gb349 ≠ gb350) := ZN hg BK349; have NB350_349 : Aside0 (gb350 ≠ gb349) := ZM hg BK349; replace BK349 := ZW BK349 hb; replace HB := ZT HB hb; clear hb hbox hg; have hnb12 := NB350_349.out; have hnc12 := NB349_350.out; obtain ⟨hcz13_0, hcz13_1, hcz13_2⟩ := ZC3 w11 BK350; obtain ⟨hfz13_0, hfz13_1, hfz13_2⟩ := ZF3 BK350) | ((with_reducible refine gate_callee (f := 101) rfl ?_); refine goesL_ (some 11) rfl rfl Try.func101 (by kernel_rfl) rfl #[.int .i64 a1_1] rfl ZG ?_; (with_reducible refine (impl_isNum.calls a1_1 false _ A4.out).mono ?_); rintro e w' ⟨rfl, ⟨nd, rfl⟩⟩; refine ⟨_, rfl, ?_⟩))
   go_ret
   exact ⟨ZE, ZB⟩
 ·rw [if_neg c3] at H
  have c3b0 : (a1_0 == 1) = false := beq_eq_false_iff_ne.mpr c3
  have c3b1 : (a1_0 != 1) = true := bne_iff_ne.mpr c3
  by_cases c14 : a1_0 = 2
  ·rw [if_pos c14] at H
   have c14b0 : (a1_0 == 2) = true := beq_iff_eq.mpr c14
   have c14b1 : (a1_0 != 2) = false := bne_eq_false_iff_eq.mpr c14
   clear c14
   replace H := Option.bind_eq_some_iff.mp H
   obtain ⟨t352, A150, H⟩ := H
   replace H : (if t352 = true then (some (a1_2 == 0)) else (some false)) = some r := H
   have A15 := Aside0.mk A150
   clear A150
   by_cases c16 : t352 = true
   ·subst c16
    have H1 : (some (a1_2 == 0)) = some r := by rw [if_pos rfl] at H; exact H
    clear H
    have H := H1
    clear H1
    obtain rfl := Option.some.inj H
    go_enter Try.func127, Try.ntmps127
    go_wp2_with (first | ((with_reducible refine gate_dst (N := 2) rfl ?_); refine ZX (N := 2) (cs := #[.slice A0_0 l0_0.length c0_0, .slice A0_1 l0_1.length c0_1]) (t := 26) ?_; intro gb349 hg w17 hbox hb; have BK349 := Aside0.mk (hbox); have GW349 : Aside0 (w.heap.size ≤ gb349) := ZS hg; have GE349 : Aside0 (w.heap.size ≤ gb349) := ZS hg; replace HB := ZT HB hb; clear hb hbox hg) | ((with_reducible refine gate_dst (N := 3) rfl ?_); refine ZX (N := 3) (cs := #[.int .i64 a1_0, .int .i64 a1_1, .int .i64 a1_2]) (t := 57) ?_; intro gb350 hg w18 hbox hb; have BK350 := Aside0.mk (hbox); have GW350 : Aside0 (w.heap.size ≤ gb350) := ZS hg; have GE350 : Aside0 (w.heap.size ≤ gb350) := ZS hg; have NB349_350 : Aside0 (gb349 ≠ gb350) := ZN hg BK349; have NB350_349 : Aside0 (gb350 ≠ gb349) := ZM hg BK349; replace BK349 := ZW BK349 hb; replace HB := ZT HB hb; clear hb hbox hg; have hnb19 := NB350_349.out; have hnc19 := NB349_350.out; obtain ⟨hcz20_0, hcz20_1, hcz20_2⟩ := ZC3 w18 BK350; obtain ⟨hfz20_0, hfz20_1, hfz20_2⟩ := ZF3 BK350; obtain ⟨hcz21_0, hcz21_1⟩ := ZC2 w18 BK349; obtain ⟨hfz21_0, hfz21_1⟩ := ZF2 BK349) | ((with_reducible refine gate_callee (f := 126) rfl ?_); refine goesL_ (some 22) rfl rfl Try.func126 (by kernel_rfl) rfl #[.agg #[.slice A0_0 l0_0.length c0_0, .slice A0_1 l0_1.length c0_1], .int .i64 a1_1] rfl ZG ?_; (with_reducible refine (impl_Prog_isVar.calls _ _ l0_0 _ _ l0_1 a1_1 true _ ?side1 ?side2 ?side3 ?side4 A15.out).mono ?_); (case side1 => exact ZQ (Kd.C_below HR0_0.out HB.out)); (case side2 => exact HC0_0.out); (case side3 => exact ZQ (Kd.C_below HR0_1.out HB.out)); (case side4 => exact HC0_1.out); rintro e w22 ⟨rfl, hb⟩; refine ⟨_, rfl, ?_⟩; replace BK349 := ZW BK349 hb; replace BK350 := ZW BK350 hb; replace HB := ZT HB hb; (try clear hb); (try clear hb2); (try clear hk); (try clear hi); obtain ⟨hcz23_0, hcz23_1, hcz23_2⟩ := ZC3 w22 BK350; obtain ⟨hfz23_0, hfz23_1, hfz23_2⟩ := ZF3 BK350))
    go_ret
    exact ⟨ZE, ZB⟩
   ·replace c16 := Bool.eq_false_iff.mpr c16
    subst c16
    have H1 : (some false) = some r := by rw [if_neg (show ¬ (false = true) by decide)] at H; exact H
    clear H
    have H := H1
    clear H1
    obtain rfl := Option.some.inj H
    go_enter Try.func127, Try.ntmps127
    go_wp2_with (first | ((with_reducible refine gate_dst (N := 2) rfl ?_); refine ZX (N := 2) (cs := #[.slice A0_0 l0_0.length c0_0, .slice A0_1 l0_1.length c0_1]) (t := 26) ?_; intro gb349 hg w24 hbox hb; have BK349 := Aside0.mk (hbox); have GW349 : Aside0 (w.heap.size ≤ gb349) := ZS hg; have GE349 : Aside0 (w.heap.size ≤ gb349) := ZS hg; replace HB := ZT HB hb; clear hb hbox hg) | ((with_reducible refine gate_dst (N := 3) rfl ?_); refine ZX (N := 3) (cs := #[.int .i64 a1_0, .int .i64 a1_1, .int .i64 a1_2]) (t := 57) ?_; intro gb350 hg w25 hbox hb; have BK350 := Aside0.mk (hbox); have GW350 : Aside0 (w.heap.size ≤ gb350) := ZS hg; have GE350 : Aside0 (w.heap.size ≤ gb350) := ZS hg; have NB349_350 : Aside0 (gb349 ≠ gb350) := ZN hg BK349; have NB350_349 : Aside0 (gb350 ≠ gb349) := ZM hg BK349; replace BK349 := ZW BK349 hb; replace HB := ZT HB hb; clear hb hbox hg; have hnb26 := NB350_349.out; have hnc26 := NB349_350.out; obtain ⟨hcz27_0, hcz27_1, hcz27_2⟩ := ZC3 w25 BK350; obtain ⟨hfz27_0, hfz27_1, hfz27_2⟩ := ZF3 BK350; obtain ⟨hcz28_0, hcz28_1⟩ := ZC2 w25 BK349; obtain ⟨hfz28_0, hfz28_1⟩ := ZF2 BK349) | ((with_reducible refine gate_callee (f := 126) rfl ?_); refine goesL_ (some 22) rfl rfl Try.func126 (by kernel_rfl) rfl #[.agg #[.slice A0_0 l0_0.length c0_0, .slice A0_1 l0_1.length c0_1], .int .i64 a1_1] rfl ZG ?_; (with_reducible refine (impl_Prog_isVar.calls _ _ l0_0 _ _ l0_1 a1_1 false _ ?side1 ?side2 ?side3 ?side4 A15.out).mono ?_); (case side1 => exact ZQ (Kd.C_below HR0_0.out HB.out)); (case side2 => exact HC0_0.out); (case side3 => exact ZQ (Kd.C_below HR0_1.out HB.out)); (case side4 => exact HC0_1.out); rintro e w29 ⟨rfl, hb⟩; refine ⟨_, rfl, ?_⟩; replace BK349 := ZW BK349 hb; replace BK350 := ZW BK350 hb; replace HB := ZT HB hb; (try clear hb); (try clear hb2); (try clear hk); (try clear hi)))
    go_ret
    exact ⟨ZE, ZB⟩
  ·rw [if_neg c14] at H
   have c14b0 : (a1_0 == 2) = false := beq_eq_false_iff_ne.mpr c14
   have c14b1 : (a1_0 != 2) = true := bne_iff_ne.mpr c14
   by_cases c30 : a1_0 = 3
   ·rw [if_pos c30] at H
    have c30b0 : (a1_0 == 3) = true := beq_iff_eq.mpr c30
    have c30b1 : (a1_0 != 3) = false := bne_eq_false_iff_eq.mpr c30
    clear c30
    replace H := Option.bind_eq_some_iff.mp H
    obtain ⟨t353, A310, H⟩ := H
    replace H : (if t353 = true then ((impl_Prog_isVar.f l0_0 l0_1 a1_2).bind fun t354 => (some t354)) else (some false)) = some r := H
    have A31 := Aside0.mk A310
    clear A310
    by_cases c32 : t353 = true
    ·subst c32
     have H1 : ((impl_Prog_isVar.f l0_0 l0_1 a1_2).bind fun t354 => (some t354)) = some r := by rw [if_pos rfl] at H; exact H
     clear H
     have H := H1
     clear H1
     replace H := Option.bind_eq_some_iff.mp H
     obtain ⟨t354, A330, H⟩ := H
     replace H : (some t354) = some r := H
     have A33 := Aside0.mk A330
     clear A330
     obtain rfl := Option.some.inj H
     go_enter Try.func127, Try.ntmps127
     go_wp2_with (first | ((with_reducible refine gate_dst (N := 2) rfl ?_); refine ZX (N := 2) (cs := #[.slice A0_0 l0_0.length c0_0, .slice A0_1 l0_1.length c0_1]) (t := 26) ?_; intro gb349 hg w34 hbox hb; have BK349 := Aside0.mk (hbox); have GW349 : Aside0 (w.heap.size ≤ gb349) := ZS hg; have GE349 : Aside0 (w.heap.size ≤ gb349) := ZS hg; replace HB := ZT HB hb; clear hb hbox hg) | ((with_reducible refine gate_dst (N := 3) rfl ?_); refine ZX (N := 3) (cs := #[.int .i64 a1_0, .int .i64 a1_1, .int .i64 a1_2]) (t := 57) ?_; intro gb350 hg w35 hbox hb; have BK350 := Aside0.mk (hbox); have GW350 : Aside0 (w.heap.size ≤ gb350) := ZS hg; have GE350 : Aside0 (w.heap.size ≤ gb350) := ZS hg; have NB349_350 : Aside0 (gb349 ≠ gb350) := ZN hg BK349; have NB350_349 : Aside0 (gb350 ≠ gb349) := ZM hg BK349; replace BK349 := ZW BK349 hb; replace HB := ZT HB hb; clear hb hbox hg; have hnb36 := NB350_349.out; have hnc36 := NB349_350.out; obtain ⟨hcz37_0, hcz37_1, hcz37_2⟩ := ZC3 w35 BK350; obtain ⟨hfz37_0, hfz37_1, hfz37_2⟩ := ZF3 BK350; obtain ⟨hcz38_0, hcz38_1⟩ := ZC2 w35 BK349; obtain ⟨hfz38_0, hfz38_1⟩ := ZF2 BK349) | (go_at_call 126; (with_reducible refine (impl_Prog_isVar.calls _ _ l0_0 _ _ l0_1 a1_1 true _ ?side1 ?side2 ?side3 ?side4 A31.out).mono ?_); (case side1 => exact ZQ (Kd.C_below HR0_0.out HB.out)); (case side2 => exact HC0_0.out); (case side3 => exact ZQ (Kd.C_below HR0_1.out HB.out)); (case side4 => exact HC0_1.out); rintro e w39 ⟨rfl, hb⟩; replace BK349 := ZW BK349 hb; replace BK350 := ZW BK350 hb; replace HB := ZT HB hb; (try clear hb); (try clear hb2); (try clear hk); (try clear hi); obtain ⟨hcz40_0, hcz40_1⟩ := ZC2 w39 BK349; obtain ⟨hfz40_0, hfz40_1⟩ := ZF2 BK349; obtain ⟨hcz41_0, hcz41_1, hcz41_2⟩ := ZC3 w39 BK350; obtain ⟨hfz41_0, hfz41_1, hfz41_2⟩ := ZF3 BK350) | (go_at_call 126; (with_reducible refine (impl_Prog_isVar.calls _ _ l0_0 _ _ l0_1 a1_2 t354 _ ?side1 ?side2 ?side3 ?side4 A33.out).mono ?_); (case side1 => exact ZQ (Kd.C_below HR0_0.out HB.out)); (case side2 => exact HC0_0.out); (case side3 => exact ZQ (Kd.C_below HR0_1.out HB.out)); (case side4 => exact HC0_1.out); rintro e w42 ⟨rfl, hb⟩; replace BK349 := ZW BK349 hb; replace BK350 := ZW BK350 hb; replace HB := ZT HB hb; (try clear hb); (try clear hb2); (try clear hk); (try clear hi)))
     go_ret
     exact ⟨ZE, ZB⟩
    ·replace c32 := Bool.eq_false_iff.mpr c32
     subst c32
     have H1 : (some false) = some r := by rw [if_neg (show ¬ (false = true) by decide)] at H; exact H
     clear H
     have H := H1
     clear H1
     obtain rfl := Option.some.inj H
     go_enter Try.func127, Try.ntmps127
     go_wp2_with (first | ((with_reducible refine gate_dst (N := 2) rfl ?_); refine ZX (N := 2) (cs := #[.slice A0_0 l0_0.length c0_0, .slice A0_1 l0_1.length c0_1]) (t := 26) ?_; intro gb349 hg w43 hbox hb; have BK349 := Aside0.mk (hbox); have GW349 : Aside0 (w.heap.size ≤ gb349) := ZS hg; have GE349 : Aside0 (w.heap.size ≤ gb349) := ZS hg; replace HB := ZT HB hb; clear hb hbox hg) | ((with_reducible refine gate_dst (N := 3) rfl ?_); refine ZX (N := 3) (cs := #[.int .i64 a1_0, .int .i64 a1_1, .int .i64 a1_2]) (t := 57) ?_; intro gb350 hg w44 hbox hb; have BK350 := Aside0.mk (hbox); have GW350 : Aside0 (w.heap.size ≤ gb350) := ZS hg; have GE350 : Aside0 (w.heap.size ≤ gb350) := ZS hg; have NB349_350 : Aside0 (gb349 ≠ gb350) := ZN hg BK349; have NB350_349 : Aside0 (gb350 ≠ gb349) := ZM hg BK349; replace BK349 := ZW BK349 hb; replace HB := ZT HB hb; clear hb hbox hg; have hnb45 := NB350_349.out; have hnc45 := NB349_350.out; obtain ⟨hcz46_0, hcz46_1, hcz46_2⟩ := ZC3 w44 BK350; obtain ⟨hfz46_0, hfz46_1, hfz46_2⟩ := ZF3 BK350; obtain ⟨hcz47_0, hcz47_1⟩ := ZC2 w44 BK349; obtain ⟨hfz47_0, hfz47_1⟩ := ZF2 BK349) | (go_at_call 126; (with_reducible refine (impl_Prog_isVar.calls _ _ l0_0 _ _ l0_1 a1_1 false _ ?side1 ?side2 ?side3 ?side4 A31.out).mono ?_); (case side1 => exact ZQ (Kd.C_below HR0_0.out HB.out)); (case side2 => exact HC0_0.out); (case side3 => exact ZQ (Kd.C_below HR0_1.out HB.out)); (case side4 => exact HC0_1.out); rintro e w48 ⟨rfl, hb⟩; replace BK349 := ZW BK349 hb; replace BK350 := ZW BK350 hb; replace HB := ZT HB hb; (try clear hb); (try clear hb2); (try clear hk); (try clear hi)))
     go_ret
     exact ⟨ZE, ZB⟩
   ·rw [if_neg c30] at H
    have c30b0 : (a1_0 == 3) = false := beq_eq_false_iff_ne.mpr c30
    have c30b1 : (a1_0 != 3) = true := bne_iff_ne.mpr c30
    by_cases c49 : a1_0 = 4
    ·rw [if_pos c49] at H
     have c49b0 : (a1_0 == 4) = true := beq_iff_eq.mpr c49
     have c49b1 : (a1_0 != 4) = false := bne_eq_false_iff_eq.mpr c49
     clear c49
     replace H := Option.bind_eq_some_iff.mp H
     obtain ⟨t355, A500, H⟩ := H
     replace H : (if t355 = true then ((impl_Prog_isVar.f l0_0 l0_1 a1_2).bind fun t356 => (some t356)) else (some false)) = some r := H
     have A50 := Aside0.mk A500
     clear A500
     by_cases c51 : t355 = true
     ·subst c51
      have H1 : ((impl_Prog_isVar.f l0_0 l0_1 a1_2).bind fun t356 => (some t356)) = some r := by rw [if_pos rfl] at H; exact H
      clear H
      have H := H1
      clear H1
      replace H := Option.bind_eq_some_iff.mp H
      obtain ⟨t356, A520, H⟩ := H
      replace H : (some t356) = some r := H
      have A52 := Aside0.mk A520
      clear A520
      obtain rfl := Option.some.inj H
      go_enter Try.func127, Try.ntmps127
      go_wp2_with (first | ((with_reducible refine gate_dst (N := 2) rfl ?_); refine ZX (N := 2) (cs := #[.slice A0_0 l0_0.length c0_0, .slice A0_1 l0_1.length c0_1]) (t := 26) ?_; intro gb349 hg w53 hbox hb; have BK349 := Aside0.mk (hbox); have GW349 : Aside0 (w.heap.size ≤ gb349) := ZS hg; have GE349 : Aside0 (w.heap.size ≤ gb349) := ZS hg; replace HB := ZT HB hb; clear hb hbox hg) | ((with_reducible refine gate_dst (N := 3) rfl ?_); refine ZX (N := 3) (cs := #[.int .i64 a1_0, .int .i64 a1_1, .int .i64 a1_2]) (t := 57) ?_; intro gb350 hg w54 hbox hb; have BK350 := Aside0.mk (hbox); have GW350 : Aside0 (w.heap.size ≤ gb350) := ZS hg; have GE350 : Aside0 (w.heap.size ≤ gb350) := ZS hg; have NB349_350 : Aside0 (gb349 ≠ gb350) := ZN hg BK349; have NB350_349 : Aside0 (gb350 ≠ gb349) := ZM hg BK349; replace BK349 := ZW BK349 hb; replace HB := ZT HB hb; clear hb hbox hg; have hnb55 := NB350_349.out; have hnc55 := NB349_350.out; obtain ⟨hcz56_0, hcz56_1, hcz56_2⟩ := ZC3 w54 BK350; obtain ⟨hfz56_0, hfz56_1, hfz56_2⟩ := ZF3 BK350; obtain ⟨hcz57_0, hcz57_1⟩ := ZC2 w54 BK349; obtain ⟨hfz57_0, hfz57_1⟩ := ZF2 BK349) | (go_at_call 126; (with_reducible refine (impl_Prog_isVar.calls _ _ l0_0 _ _ l0_1 a1_1 true _ ?side1 ?side2 ?side3 ?side4 A50.out).mono ?_); (case side1 => exact ZQ (Kd.C_below HR0_0.out HB.out)); (case side2 => exact HC0_0.out); (case side3 => exact ZQ (Kd.C_below HR0_1.out HB.out)); (case side4 => exact HC0_1.out); rintro e w58 ⟨rfl, hb⟩; replace BK349 := ZW BK349 hb; replace BK350 := ZW BK350 hb; replace HB := ZT HB hb; (try clear hb); (try clear hb2); (try clear hk); (try clear hi); obtain ⟨hcz59_0, hcz59_1⟩ := ZC2 w58 BK349; obtain ⟨hfz59_0, hfz59_1⟩ := ZF2 BK349; obtain ⟨hcz60_0, hcz60_1, hcz60_2⟩ := ZC3 w58 BK350; obtain ⟨hfz60_0, hfz60_1, hfz60_2⟩ := ZF3 BK350) | (go_at_call 126; (with_reducible refine (impl_Prog_isVar.calls _ _ l0_0 _ _ l0_1 a1_2 t356 _ ?side1 ?side2 ?side3 ?side4 A52.out).mono ?_); (case side1 => exact ZQ (Kd.C_below HR0_0.out HB.out)); (case side2 => exact HC0_0.out); (case side3 => exact ZQ (Kd.C_below HR0_1.out HB.out)); (case side4 => exact HC0_1.out); rintro e w61 ⟨rfl, hb⟩; replace BK349 := ZW BK349 hb; replace BK350 := ZW BK350 hb; replace HB := ZT HB hb; (try clear hb); (try clear hb2); (try clear hk); (try clear hi)))
      go_ret
      exact ⟨ZE, ZB⟩
     ·replace c51 := Bool.eq_false_iff.mpr c51
      subst c51
      have H1 : (some false) = some r := by rw [if_neg (show ¬ (false = true) by decide)] at H; exact H
      clear H
      have H := H1
      clear H1
      obtain rfl := Option.some.inj H
      go_enter Try.func127, Try.ntmps127
      go_wp2_with (first | ((with_reducible refine gate_dst (N := 2) rfl ?_); refine ZX (N := 2) (cs := #[.slice A0_0 l0_0.length c0_0, .slice A0_1 l0_1.length c0_1]) (t := 26) ?_; intro gb349 hg w62 hbox hb; have BK349 := Aside0.mk (hbox); have GW349 : Aside0 (w.heap.size ≤ gb349) := ZS hg; have GE349 : Aside0 (w.heap.size ≤ gb349) := ZS hg; replace HB := ZT HB hb; clear hb hbox hg) | ((with_reducible refine gate_dst (N := 3) rfl ?_); refine ZX (N := 3) (cs := #[.int .i64 a1_0, .int .i64 a1_1, .int .i64 a1_2]) (t := 57) ?_; intro gb350 hg w63 hbox hb; have BK350 := Aside0.mk (hbox); have GW350 : Aside0 (w.heap.size ≤ gb350) := ZS hg; have GE350 : Aside0 (w.heap.size ≤ gb350) := ZS hg; have NB349_350 : Aside0 (gb349 ≠ gb350) := ZN hg BK349; have NB350_349 : Aside0 (gb350 ≠ gb349) := ZM hg BK349; replace BK349 := ZW BK349 hb; replace HB := ZT HB hb; clear hb hbox hg; have hnb64 := NB350_349.out; have hnc64 := NB349_350.out; obtain ⟨hcz65_0, hcz65_1, hcz65_2⟩ := ZC3 w63 BK350; obtain ⟨hfz65_0, hfz65_1, hfz65_2⟩ := ZF3 BK350; obtain ⟨hcz66_0, hcz66_1⟩ := ZC2 w63 BK349; obtain ⟨hfz66_0, hfz66_1⟩ := ZF2 BK349) | (go_at_call 126; (with_reducible refine (impl_Prog_isVar.calls _ _ l0_0 _ _ l0_1 a1_1 false _ ?side1 ?side2 ?side3 ?side4 A50.out).mono ?_); (case side1 => exact ZQ (Kd.C_below HR0_0.out HB.out)); (case side2 => exact HC0_0.out); (case side3 => exact ZQ (Kd.C_below HR0_1.out HB.out)); (case side4 => exact HC0_1.out); rintro e w67 ⟨rfl, hb⟩; replace BK349 := ZW BK349 hb; replace BK350 := ZW BK350 hb; replace HB := ZT HB hb; (try clear hb); (try clear hb2); (try clear hk); (try clear hi)))
      go_ret
      exact ⟨ZE, ZB⟩
    ·rw [if_neg c49] at H
     have c49b0 : (a1_0 == 4) = false := beq_eq_false_iff_ne.mpr c49
     have c49b1 : (a1_0 != 4) = true := bne_iff_ne.mpr c49
     obtain rfl := Option.some.inj H
     go_enter Try.func127, Try.ntmps127
     go_wp2_with (first | ((with_reducible refine gate_dst (N := 2) rfl ?_); refine ZX (N := 2) (cs := #[.slice A0_0 l0_0.length c0_0, .slice A0_1 l0_1.length c0_1]) (t := 26) ?_; intro gb349 hg w68 hbox hb; have BK349 := Aside0.mk (hbox); have GW349 : Aside0 (w.heap.size ≤ gb349) := ZS hg; have GE349 : Aside0 (w.heap.size ≤ gb349) := ZS hg; replace HB := ZT HB hb; clear hb hbox hg) | ((with_reducible refine gate_dst (N := 3) rfl ?_); refine ZX (N := 3) (cs := #[.int .i64 a1_0, .int .i64 a1_1, .int .i64 a1_2]) (t := 57) ?_; intro gb350 hg w69 hbox hb; have BK350 := Aside0.mk (hbox); have GW350 : Aside0 (w.heap.size ≤ gb350) := ZS hg; have GE350 : Aside0 (w.heap.size ≤ gb350) := ZS hg; have NB349_350 : Aside0 (gb349 ≠ gb350) := ZN hg BK349; have NB350_349 : Aside0 (gb350 ≠ gb349) := ZM hg BK349; replace BK349 := ZW BK349 hb; replace HB := ZT HB hb; clear hb hbox hg; have hnb70 := NB350_349.out; have hnc70 := NB349_350.out; obtain ⟨hcz71_0, hcz71_1, hcz71_2⟩ := ZC3 w69 BK350; obtain ⟨hfz71_0, hfz71_1, hfz71_2⟩ := ZF3 BK350))
     go_ret
     exact ⟨ZE, ZB⟩

/-! ### impl_isHost: function 128 -/
def impl_isHost.f (a0 : Int) : Option (Bool) := (impl_in.f a0 0 2).bind fun t357 => (some t357)
set_option maxHeartbeats 8000000 in
set_option maxRecDepth 100000 in
theorem impl_isHost.calls (a0 : Int) (r : Bool) (w : World) (h : impl_isHost.f a0 = some r) :
  Calls Try.prog 128 #[.int .i64 a0] w fun e w' => e = .returned (.bool r) ∧ Drawn0 w w' := by
 have H : ((impl_in.f a0 0 2).bind fun t357 => (some t357)) = some r := h
 clear h
 replace H := Option.bind_eq_some_iff.mp H
 obtain ⟨t357, A20, H⟩ := H
 replace H : (some t357) = some r := H
 have A2 := Aside0.mk A20
 clear A20
 obtain rfl := Option.some.inj H
 go_enter Try.func128, Try.ntmps128
 go_wp2_with (first | ((with_reducible refine gate_callee (f := 112) rfl ?_); refine goesL_ (some 4) rfl rfl Try.func112 (by kernel_rfl) rfl #[.int .i64 a0, .int .i64 0, .int .i64 2] rfl ZG ?_; (with_reducible refine (impl_in.calls a0 0 2 t357 _ A2.out).mono ?_); rintro e w' ⟨rfl, ⟨nd, rfl⟩⟩; refine ⟨_, rfl, ?_⟩))
 go_ret
 exact ⟨by first | rfl | (simp; done) | (simp [*]; done), by repeat (first | exact Drawn0.refl _ | apply Drawn0.step)⟩

end Go.Proofs.Ytcffnnedghgmaaa.A
