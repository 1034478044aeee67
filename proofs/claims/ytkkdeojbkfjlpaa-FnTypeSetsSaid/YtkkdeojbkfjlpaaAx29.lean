/- By wip/tools/pr.py: Go functions as Lean functions, with contracts. -/
import Derived.Test.YtkkdeojbkfjlpaaAx0
import Derived.Test.YtkkdeojbkfjlpaaAx18
import Derived.Test.YtkkdeojbkfjlpaaAx24
import Derived.Test.YtkkdeojbkfjlpaaAx25
import Derived.Test.YtkkdeojbkfjlpaaAx26
import Derived.Test.YtkkdeojbkfjlpaaAx28
namespace Go.Proofs.Ytkkdeojbkfjlpaa.A
open Go.RowKit Go.Proofs.YtkkdeojbkfjlpaaW.PrintWords Go.Proofs.YtkkdeojbkfjlpaaW.PrintLast Go.Proofs.YtkkdeojbkfjlpaaW.PrintMore
attribute [local go_sem] max2_int min2_int max_two min_two max_three min_three max_four min_four
set_option linter.unusedVariables false
set_option linter.unusedSimpArgs false
set_option maxHeartbeats 8000000
set_option maxRecDepth 100000

/-! ### laws_FnTypeSets: function 3 -/
mutual
def laws_FnTypeSets.j0 : Nat → List Int → Bool → List (S35) → List (S40) → Option (Bool)
 | 0, _, _, _, _ => none
 | k + 1, x4, x24, x664000, x664001 => if x24 = true then ((spec_TypeSets.f k x664000 x664001).bind fun t672 => ((laws_lcInts.f k x4 t672).bind fun t675 => (some t675))) else ((impl_TypeAt.f k x664000 x664001).bind fun t676 => (laws_FnTypeSets.l0 k x4 t676 0))
def laws_FnTypeSets.l0 : Nat → List Int → List (S35) → Int → Option (Bool)
 | 0, _, _, _ => none
 | k + 1, x4, x5, x6 => if x6 < (x4.length : Int) then (laws_FnTypeSets.l1 k x4 x5 x6 0) else (some true)
def laws_FnTypeSets.l1 : Nat → List Int → List (S35) → Int → Int → Option (Bool)
 | 0, _, _, _, _ => none
 | k + 1, x4, x5, x6, x7 => if x7 < 3 then (if 0 ≤ x6 then (if x6 < (x4.length : Int) then ((laws_lcHas.f (rd x4 x6) x7).bind fun t680 => (if t680 = true then (if x6 < (x5.length : Int) then ((laws_lcHas.f ((D35 x5 x6).f1) x7).bind fun t682 => (if t682 = true then (laws_FnTypeSets.l1 k x4 x5 x6 (wrap64 (x7 + 1))) else (none))) else (none)) else (laws_FnTypeSets.l1 k x4 x5 x6 (wrap64 (x7 + 1))))) else (none)) else (none)) else (laws_FnTypeSets.l0 k x4 x5 (wrap64 (x6 + 1)))
end
def laws_FnTypeSets.f (k : Nat) (l0 : List Int) : Option (Bool) := if (l0.length : Int) > 1048576 then (some true) else ((spec_DrawTypeSets.f k l0).bind fun bt657 => ((impl_TypeSets.f k bt657.1 bt657.2).bind fun t664 => ((spec_TypeSets.f k bt657.1 bt657.2).bind fun t667 => ((laws_lcInts.f k t664 t667).bind fun t670 => (if t670 = true then ((spec_TypeOk.f k bt657.1 bt657.2).bind fun t671 => (laws_FnTypeSets.j0 k t664 (!t671) bt657.1 bt657.2)) else (laws_FnTypeSets.j0 k t664 true bt657.1 bt657.2))))))
theorem laws_FnTypeSets.calls (k : Nat) (A0 : Option Addr) (c0 : Nat) (l0 : List Int) (r : Bool) (w : World) (hr0 : Kd.C (Kd.int .u8) w A0 l0.length l0) (hc0 : l0.length ≤ c0) (h : laws_FnTypeSets.f k l0 = some r) :
  Calls Try.prog 3 #[.slice A0 l0.length c0] w fun e w' => e = .returned (.bool r) ∧ Below w.heap.size w w' := by
 have hu26 := Try.underlying26
 have HR0 := AM hr0
 have HC0 := AM hc0
 clear hr0 hc0
 have HB := AM (Below.refl w.heap.size w)
 have H := h
 unfold laws_FnTypeSets.f at H
 clear h
 by_cases c2 : (l0.length : Int) > 1048576
 ·(
 rw [if_pos c2] at H
 have c2b0 := decide_eq_true c2
 have c2b1 : decide (1048576 < l0.length) = true := decide_eq_true (by omega)
 clear c2
 obtain rfl := Option.some.inj H
 go_enter Try.func3, Try.ntmps3
 go_wp2
 go_ret
 exact ⟨ZE, ZB⟩)
 ·(
 rw [if_neg c2] at H
 have c2b0 := decide_eq_false c2
 have c2b1 : decide (1048576 < l0.length) = false := decide_eq_false (by omega)
 clear c2
 obtain ⟨⟨t657, t660⟩, A3, H⟩ := ZOB H; try dsimp only at H
 obtain ⟨t664, A4, H⟩ := ZOB H; try dsimp only at H
 have HC5 := AM H
 clear H
 go_enter Try.func3, Try.ntmps3
 go_upto_region 5 with (first | ((with_reducible refine gate_callee (f := 7) rfl ?_); refine ZGL (some 12) Try.func7 #[.slice A0 l0.length c0] ?_; (with_reducible refine (spec_DrawTypeSets.calls k _ _ l0 t657 t660 _ ?side1 HC0.out A3.out).mono ?_); (case side1 => exact ZQ HR0.out); rintro e w6 ⟨v658, v661, rfl, ho0, ho1, hb⟩; refine ⟨_, rfl, ?_⟩; have HO659 := AM (Kd.R_lower (Kd.R_mono (ok' := fun k_ => True) ho0 (fun _ hk_ => trivial)) (below_size (ZB))); have HO662 := AM (Kd.N_lower (Kd.N_mono (ok' := fun k_ => some k_ ≠ (v658 : Value).ownBlock) ho1 (fun k_ hk_ => hk_.2)) (below_size (ZB))); replace HB := ZT HB hb; clear hb; (try clear ho0); (try clear ho1)) | ((with_reducible refine gate_dst (N := 3) rfl ?_); refine ZX (N := 3) (cs := #[.slice none 0 0, .slice none 0 0]) (t := 26) ?_; intro gb663 hg w7 hbox hb; have BK663 := AM (hbox); have GW663 : Za (w.heap.size ≤ gb663) := ZS hg; have GE663 : Za (w.heap.size ≤ gb663) := ZS hg; replace HO659 := AM (Kd.R_below (ZR HO659.out) hb); replace HO662 := AM (Kd.N_below (Kd.N_elderB (ZRN HO662.out) gb663 (Nat.le_of_eq hg.symm)) hb); replace HB := ZT HB hb; clear hb hbox hg; obtain ⟨Ao8, co8, eo8⟩ := Kd.R_slice HO659.out; subst eo8; have hcz9 := ZC2 w7 BK663; have hfz9 := ZF2 BK663; obtain ⟨Ao10, co10, eo10⟩ := Kd.N_slice HO662.out; subst eo10) | ((with_reducible refine gate_callee (f := 8) rfl ?_); refine ZGL (some 14) Try.func8 #[.agg #[.slice Ao8 t657.length co8, .slice Ao10 t660.length co10]] ?_; (with_reducible refine (impl_TypeSets.calls k _ _ t657 _ _ t660 t664 _ ?side1 ?side2 ?side3 ?side4 A4.out).mono ?_); (case side1 => refine (Kd.R_reads' (e := 35) (base := w.heap.size) (ok := fun k_ => True) (n := t657.length) (c := co8) ?_).2.2; exact (ZR ((Kd.R_mono (Kd.R_far (p := ⟨gb663, 1, none⟩) (Kd.R_far (p := ⟨gb663, 0, none⟩) (Kd.R_types HO659.out BK663.out (by decide)) (fun _ hk => hk.2) (.slice Ao8 t657.length co8)) (fun _ hk => hk.2) (.slice Ao10 t660.length co10)) (fun _ h_ => h_.1))))); (case side2 => exact (Kd.R_reads' HO659.out).2.1); (case side3 => refine (Kd.N_reads' (e := 40) (base := w.heap.size) (ok := fun k_ => (some k_ ≠ (.slice Ao8 t657.length co8 : Value).ownBlock ∧ k_ ≠ gb663)) (n := t660.length) (c := co10) ?_).2.2; exact (by (with_reducible repeat (first | apply Kd.N_alloc | apply Kd.N_drewN | apply Kd.N_drew)); exact (Kd.N_mono (Kd.N_far (p := ⟨gb663, 1, none⟩) (Kd.N_far (p := ⟨gb663, 0, none⟩) (Kd.N_mono HO662.out (fun k_ hk => (⟨hk, hk.2⟩ : _ ∧ k_ ≠ gb663))) (fun _ hk => hk.2) (.slice Ao8 t657.length co8)) (fun _ hk => hk.2) (.slice Ao10 t660.length co10)) (fun _ h_ => h_.1)))); (case side4 => exact (Kd.N_reads' HO662.out).2.1); rintro e w11 ⟨v665, rfl, ho0, hb⟩; refine ⟨_, rfl, ?_⟩; have HO666 := AM (Kd.R_lower ho0 (below_size (ZB))); replace HO659 := AM (Kd.R_below (ZR ((Kd.R_mono (Kd.R_far (p := ⟨gb663, 1, none⟩) (Kd.R_far (p := ⟨gb663, 0, none⟩) (Kd.R_types HO659.out BK663.out (by decide)) (fun _ hk => hk.2) (.slice Ao8 t657.length co8)) (fun _ hk => hk.2) (.slice Ao10 t660.length co10)) (fun _ h_ => h_.1)))) hb); replace HO662 := AM (Kd.N_elder' (by (with_reducible repeat (first | apply Kd.N_alloc | apply Kd.N_drewN | apply Kd.N_drew)); exact (Kd.N_mono (Kd.N_far (p := ⟨gb663, 1, none⟩) (Kd.N_far (p := ⟨gb663, 0, none⟩) (Kd.N_mono HO662.out (fun k_ hk => (⟨hk, hk.2⟩ : _ ∧ k_ ≠ gb663))) (fun _ hk => hk.2) (.slice Ao8 t657.length co8)) (fun _ hk => hk.2) (.slice Ao10 t660.length co10)) (fun _ h_ => h_.1))) (Kd.R_base ho0) hb); replace BK663 := ZV #[.slice Ao8 t657.length co8, .slice Ao10 t660.length co10] BK663 hb; replace HB := ZT HB hb; clear hb; (try clear ho0)))
 (try simp only [Act.put, List.setIfInBounds_toArray, List.set_cons_zero, List.set_cons_succ])
 go_cut [24] (fun v24 wc => ∃ (kq : Nat) (x24_4 : Bool), v24 = .bool x24_4 ∧ Za (laws_FnTypeSets.j0 kq t664 x24_4 t657 t660 = some r) ∧ Za (kq ≤ k) ∧ Za (Kd.R (Kd.int .i64) 3 wc w.heap.size (fun _ => True) v665 t664) ∧ Za (Kd.R k35 35 wc w.heap.size (fun _ => True) (.slice Ao8 t657.length co8) t657) ∧ Za (Kd.N k40 40 wc w.heap.size (fun k_ => some k_ ≠ (v665 : Value).ownBlock ∧ some k_ ≠ ((.slice Ao8 t657.length co8) : Value).ownBlock ∧ k_ ≠ gb663) (.slice Ao10 t660.length co10) t660) ∧ Za (wc.heap[gb663]? = some (.cells #[(.slice Ao8 t657.length co8), (.slice Ao10 t660.length co10)] 26 (0, 0))) ∧ Za (Below w.heap.size w wc))
 case first => (
 have H := HC5.out
 clear HC5
 obtain ⟨t667, A12, H⟩ := ZOB H; try dsimp only at H
 obtain ⟨t670, A13, H⟩ := ZOB H; try dsimp only at H
 by_cases c14 : t670 = true
 ·(
 subst c14
 have H1 := H; rw [if_pos rfl] at H1
 clear H
 have H := H1
 clear H1
 obtain ⟨t671, A15, H⟩ := ZOB H; try dsimp only at H
 have H' := AM H
 clear H
 have hcz16 := ZC2 w11 BK663
 have hfz16 := ZF2 BK663
 go_wp2_with (first | ((with_reducible refine gate_callee (f := 10) rfl ?_); refine ZGL (some 17) Try.func10 #[.agg #[.slice Ao8 t657.length co8, .slice Ao10 t660.length co10]] ?_; (with_reducible refine (spec_TypeSets.calls k _ _ t657 _ _ t660 t667 _ ?side1 ?side2 ?side3 ?side4 A12.out).mono ?_); (case side1 => exact ZQ ((Kd.R_reads' HO659.out).2.2)); (case side2 => exact (Kd.R_reads' HO659.out).2.1); (case side3 => exact ZQ ((Kd.N_reads' HO662.out).2.2)); (case side4 => exact (Kd.N_reads' HO662.out).2.1); rintro e w17 ⟨v668, rfl, ho0, hb⟩; refine ⟨_, rfl, ?_⟩; have HO669 := AM (Kd.R_lower (Kd.R_new' ho0 (Kd.R_lt (ZR HO666.out))) (below_size (ZB))); replace HO659 := AM (Kd.R_below (ZR HO659.out) hb); replace HO662 := AM (Kd.N_elder' (ZRN HO662.out) (Kd.R_base ho0) hb); replace HO666 := AM (Kd.R_elder' (ZR HO666.out) (Kd.R_base ho0) hb); replace BK663 := ZW BK663 hb; replace HB := ZT HB hb; clear hb; (try clear ho0); obtain ⟨Ao18, co18, eo18⟩ := Kd.R_slice HO666.out; subst eo18; obtain ⟨Ao19, co19, eo19⟩ := Kd.R_slice HO669.out; subst eo19) | ((with_reducible refine gate_callee (f := 9) rfl ?_); refine ZGL (some 18) Try.func9 #[.slice Ao18 t664.length co18, .slice Ao19 t667.length co19] ?_; (with_reducible refine (laws_lcInts.calls k _ _ t664 _ _ t667 true _ ?side1 ?side2 ?side3 ?side4 A13.out).mono ?_); (case side1 => exact ZQ ((Kd.R_reads' HO666.out).2.2)); (case side2 => exact (Kd.R_reads' HO666.out).2.1); (case side3 => exact ZQ ((Kd.R_reads' HO669.out).2.2)); (case side4 => exact (Kd.R_reads' HO669.out).2.1); rintro e w' ⟨rfl, ⟨nd, rfl⟩⟩; refine ⟨_, rfl, ?_⟩; have hcz20 := ZC2 w17 BK663; have hfz20 := ZF2 BK663) | (go_at_call 11; (with_reducible refine (spec_TypeOk.calls k _ _ t657 _ _ t660 t671 _ ?side1 ?side2 ?side3 ?side4 A15.out).mono ?_); (case side1 => exact ZQ ((Kd.R_reads' HO659.out).2.2)); (case side2 => exact (Kd.R_reads' HO659.out).2.1); (case side3 => exact ZQ ((Kd.N_reads' HO662.out).2.2)); (case side4 => exact (Kd.N_reads' HO662.out).2.1); rintro e w21 ⟨rfl, hb⟩; replace HO659 := AM (Kd.R_below (ZR HO659.out) hb); replace HO662 := AM (Kd.N_below (ZRN HO662.out) hb); replace HO666 := AM (Kd.R_below (ZR HO666.out) hb); replace HO669 := AM (Kd.R_below (ZR HO669.out) hb); replace BK663 := ZW BK663 hb; replace HB := ZT HB hb; clear hb))
 go_meet
 case rel => exact ⟨_, (!t671), (by first | rfl | (simp; done) | (simp [*]; done)), H', ⟨by first | omega | exact Nat.le_refl _⟩, ⟨ZR (Kd.R_mono HO666.out (fun _ hk => trivial))⟩, ⟨ZR HO659.out⟩, ⟨by (with_reducible repeat (first | apply Kd.N_alloc | apply Kd.N_drewN | apply Kd.N_drew)); exact Kd.N_mono HO662.out (fun _ hk => ⟨hk.1.2, ⟨hk.1.1.1, hk.1.1.2⟩⟩)⟩, ⟨ZK BK663.out⟩, ⟨ZB⟩⟩)
 ·(
 replace c14 := Bool.eq_false_iff.mpr c14
 subst c14
 have H1 := H; rw [if_neg ZFT] at H1
 clear H
 have H := H1
 clear H1
 have H' := AM H
 clear H
 have hcz22 := ZC2 w11 BK663
 have hfz22 := ZF2 BK663
 go_wp2_with (first | ((with_reducible refine gate_callee (f := 10) rfl ?_); refine ZGL (some 17) Try.func10 #[.agg #[.slice Ao8 t657.length co8, .slice Ao10 t660.length co10]] ?_; (with_reducible refine (spec_TypeSets.calls k _ _ t657 _ _ t660 t667 _ ?side1 ?side2 ?side3 ?side4 A12.out).mono ?_); (case side1 => exact ZQ ((Kd.R_reads' HO659.out).2.2)); (case side2 => exact (Kd.R_reads' HO659.out).2.1); (case side3 => exact ZQ ((Kd.N_reads' HO662.out).2.2)); (case side4 => exact (Kd.N_reads' HO662.out).2.1); rintro e w23 ⟨v668, rfl, ho0, hb⟩; refine ⟨_, rfl, ?_⟩; have HO669 := AM (Kd.R_lower (Kd.R_new' ho0 (Kd.R_lt (ZR HO666.out))) (below_size (ZB))); replace HO659 := AM (Kd.R_below (ZR HO659.out) hb); replace HO662 := AM (Kd.N_elder' (ZRN HO662.out) (Kd.R_base ho0) hb); replace HO666 := AM (Kd.R_elder' (ZR HO666.out) (Kd.R_base ho0) hb); replace BK663 := ZW BK663 hb; replace HB := ZT HB hb; clear hb; (try clear ho0); obtain ⟨Ao24, co24, eo24⟩ := Kd.R_slice HO666.out; subst eo24; obtain ⟨Ao25, co25, eo25⟩ := Kd.R_slice HO669.out; subst eo25) | ((with_reducible refine gate_callee (f := 9) rfl ?_); refine ZGL (some 18) Try.func9 #[.slice Ao24 t664.length co24, .slice Ao25 t667.length co25] ?_; (with_reducible refine (laws_lcInts.calls k _ _ t664 _ _ t667 false _ ?side1 ?side2 ?side3 ?side4 A13.out).mono ?_); (case side1 => exact ZQ ((Kd.R_reads' HO666.out).2.2)); (case side2 => exact (Kd.R_reads' HO666.out).2.1); (case side3 => exact ZQ ((Kd.R_reads' HO669.out).2.2)); (case side4 => exact (Kd.R_reads' HO669.out).2.1); rintro e w' ⟨rfl, ⟨nd, rfl⟩⟩; refine ⟨_, rfl, ?_⟩))
 go_meet
 case rel => exact ⟨_, (true), (by first | rfl | (simp; done) | (simp [*]; done)), H', ⟨by first | omega | exact Nat.le_refl _⟩, ⟨ZR (Kd.R_mono HO666.out (fun _ hk => trivial))⟩, ⟨ZR HO659.out⟩, ⟨by (with_reducible repeat (first | apply Kd.N_alloc | apply Kd.N_drewN | apply Kd.N_drew)); exact Kd.N_mono HO662.out (fun _ hk => ⟨hk.1.2, ⟨hk.1.1.1, hk.1.1.2⟩⟩)⟩, ⟨ZK BK663.out⟩, ⟨ZB⟩⟩))
 case rest => (
 clear HC5
 try clear c1
 try clear c2
 try clear c2b0
 try clear c2b1
 try clear p2
 try clear c3
 try clear c7
 try clear c8
 try clear c9
 try clear c10
 try clear c14
 try clear hcz16
 try clear hcz20
 try clear hcz22
 try clear hcz9
 try clear hfz16
 try clear hfz20
 try clear hfz22
 try clear hfz9
 obtain ⟨kq, x24_4, rfl, HA, HJ4, HO_4, HO_664000, HO_664001, BK663, HB⟩ := hcut
 cases kq with
 | zero => exact absurd HA.out (by simp [laws_FnTypeSets.j0])
 | succ kj4 =>
  have H := HA.out
  clear HA
  simp only [laws_FnTypeSets.j0] at H
  by_cases c26 : x24_4 = true
  ·(
  subst c26
  have H1 := H; rw [if_pos rfl] at H1
  clear H
  have H := H1
  clear H1
  obtain ⟨t672, A27, H⟩ := ZOB H; try dsimp only at H
  obtain ⟨t675, A28, H⟩ := ZOB H; try dsimp only at H
  obtain rfl := Option.some.inj H
  have hcz29 := ZC2 wc BK663
  have hfz29 := ZF2 BK663
  go_wp2_with (first | ((with_reducible refine gate_callee (f := 10) rfl ?_); refine ZGL (some 27) Try.func10 #[.agg #[.slice Ao8 t657.length co8, .slice Ao10 t660.length co10]] ?_; (with_reducible refine (spec_TypeSets.calls kj4 _ _ t657 _ _ t660 t672 _ ?side1 ?side2 ?side3 ?side4 A27.out).mono ?_); (case side1 => exact ZQ ((Kd.R_reads' HO_664000.out).2.2)); (case side2 => exact (Kd.R_reads' HO_664000.out).2.1); (case side3 => exact ZQ ((Kd.N_reads' HO_664001.out).2.2)); (case side4 => exact (Kd.N_reads' HO_664001.out).2.1); rintro e w30 ⟨v673, rfl, ho0, hb⟩; refine ⟨_, rfl, ?_⟩; have HO674 := AM (Kd.R_lower (Kd.R_new' ho0 (Kd.R_lt (ZR HO_4.out))) (below_size (ZB))); replace HO_4 := AM (Kd.R_elder' (ZR HO_4.out) (Kd.R_base ho0) hb); replace HO_664000 := AM (Kd.R_below (ZR HO_664000.out) hb); replace HO_664001 := AM (Kd.N_elder' (ZRN HO_664001.out) (Kd.R_base ho0) hb); replace BK663 := ZW BK663 hb; replace HB := ZT HB hb; clear hb; (try clear ho0); obtain ⟨Ao31, co31, eo31⟩ := Kd.R_slice HO_4.out; subst eo31; obtain ⟨Ao32, co32, eo32⟩ := Kd.R_slice HO674.out; subst eo32) | ((with_reducible refine gate_callee (f := 9) rfl ?_); refine ZGL (some 28) Try.func9 #[.slice Ao31 t664.length co31, .slice Ao32 t672.length co32] ?_; (with_reducible refine (laws_lcInts.calls kj4 _ _ t664 _ _ t672 t675 _ ?side1 ?side2 ?side3 ?side4 A28.out).mono ?_); (case side1 => exact ZQ ((Kd.R_reads' HO_4.out).2.2)); (case side2 => exact (Kd.R_reads' HO_4.out).2.1); (case side3 => exact ZQ ((Kd.R_reads' HO674.out).2.2)); (case side4 => exact (Kd.R_reads' HO674.out).2.1); rintro e w' ⟨rfl, ⟨nd, rfl⟩⟩; refine ⟨_, rfl, ?_⟩))
  go_ret
  exact ⟨ZE, ZB⟩)
  ·(
  replace c26 := Bool.eq_false_iff.mpr c26
  subst c26
  have H1 := H; rw [if_neg ZFT] at H1
  clear H
  have H := H1
  clear H1
  obtain ⟨t676, A33, H⟩ := ZOB H; try dsimp only at H
  have H' := AM H
  clear H
  have hcz34 := ZC2 wc BK663
  have hfz34 := ZF2 BK663
  go_wp2_with (first | ((with_reducible refine gate_callee (f := 12) rfl ?_); refine ZGL (some 30) Try.func12 #[.agg #[.slice Ao8 t657.length co8, .slice Ao10 t660.length co10]] ?_; (with_reducible refine (impl_TypeAt.calls kj4 _ _ t657 _ _ t660 t676 _ ?side1 ?side2 ?side3 ?side4 A33.out).mono ?_); (case side1 => exact ZQ ((Kd.R_reads' HO_664000.out).2.2)); (case side2 => exact (Kd.R_reads' HO_664000.out).2.1); (case side3 => exact ZQ ((Kd.N_reads' HO_664001.out).2.2)); (case side4 => exact (Kd.N_reads' HO_664001.out).2.1); rintro e w35 ⟨v677, rfl, ho0, hb⟩; refine ⟨_, rfl, ?_⟩; have HO678 := AM (Kd.R_lower (Kd.R_new' ho0 (Kd.R_lt (ZR HO_664000.out))) (below_size (ZB))); replace HO_4 := AM (Kd.R_below (ZR HO_4.out) hb); replace HO_664000 := AM (Kd.R_elder' (ZR HO_664000.out) (Kd.R_base ho0) hb); replace HO_664001 := AM (Kd.N_elder' (ZRN HO_664001.out) (Kd.R_base ho0) hb); replace BK663 := ZW BK663 hb; replace HB := ZT HB hb; clear hb; (try clear ho0)))
  go_loopg [6] kj4 (fun kq v6 w' => ∃ (x6_2 : Int), v6 = .int .i64 x6_2 ∧ Za (laws_FnTypeSets.l0 kq t664 t676 x6_2 = some r) ∧ Za (kq ≤ kj4) ∧ Za (Kd.R (Kd.int .i64) 3 w' w.heap.size (fun _ => True) v665 t664) ∧ Za (Kd.R k35 35 w' w.heap.size (fun k_ => some k_ ≠ ((.slice Ao8 t657.length co8) : Value).ownBlock) v677 t676) ∧ Za (Kd.R k35 35 w' w.heap.size (fun k_ => some k_ ≠ (v677 : Value).ownBlock) (.slice Ao8 t657.length co8) t657) ∧ Za (Kd.N k40 40 w' w.heap.size (fun k_ => some k_ ≠ (v665 : Value).ownBlock ∧ some k_ ≠ (v677 : Value).ownBlock ∧ some k_ ≠ ((.slice Ao8 t657.length co8) : Value).ownBlock ∧ k_ ≠ gb663) (.slice Ao10 t660.length co10) t660) ∧ Za (w'.heap[gb663]? = some (.cells #[(.slice Ao8 t657.length co8), (.slice Ao10 t660.length co10)] 26 (0, 0))) ∧ Za (Below w.heap.size w w'))
  case atStart => exact ⟨(0), (by first | rfl | (simp; done) | (simp [*]; done)), H', ⟨Nat.le_refl _⟩, ⟨ZR HO_4.out⟩, ⟨ZR (Kd.R_mono HO678.out (fun _ hk => hk.2))⟩, ⟨ZR (Kd.R_mono HO_664000.out (fun _ hk => hk.2))⟩, ⟨by (with_reducible repeat (first | apply Kd.N_alloc | apply Kd.N_drewN | apply Kd.N_drew)); exact Kd.N_mono HO_664001.out (fun _ hk => ⟨hk.1.1, ⟨hk.2, ⟨hk.1.2.1, hk.1.2.2⟩⟩⟩)⟩, ⟨ZK BK663.out⟩, ⟨ZB⟩⟩
  case round => (
  clear H'
  try clear c1
  try clear c2
  try clear c2b0
  try clear c2b1
  try clear p2
  try clear c3
  try clear c7
  try clear c8
  try clear c9
  try clear c10
  try clear c12
  try clear c14
  try clear c26
  try clear hcz16
  try clear hcz20
  try clear hcz22
  try clear hcz29
  try clear hcz34
  try clear hcz9
  try clear hfz16
  try clear hfz20
  try clear hfz22
  try clear hfz29
  try clear hfz34
  try clear hfz9
  try clear p2
  obtain ⟨x6_2, rfl, HA, HK2, HO_4, HO_5, HO_664000, HO_664001, BK663, HB⟩ := hrel
  cases gk with
  | zero => exact absurd HA.out (by simp [laws_FnTypeSets.l0])
  | succ k2 =>
   have H := HA.out
   clear HA
   simp only [laws_FnTypeSets.l0] at H
   by_cases c36 : x6_2 < (t664.length : Int)
   ·(
   rw [if_pos c36] at H
   have c36b0 := decide_eq_true c36
   clear c36
   have H' := AM H
   clear H
   obtain ⟨Ao37, co37, eo37⟩ := Kd.R_slice HO_4.out
   subst eo37
   go_wp2
   go_loopg [7] k2 (fun kq v7 w' => ∃ (x7_3 : Int), v7 = .int .i64 x7_3 ∧ Za (laws_FnTypeSets.l1 kq t664 t676 x6_2 x7_3 = some r) ∧ Za (kq ≤ k2) ∧ Za (Kd.R (Kd.int .i64) 3 w' w.heap.size (fun _ => True) (.slice Ao37 t664.length co37) t664) ∧ Za (Kd.R k35 35 w' w.heap.size (fun k_ => some k_ ≠ ((.slice Ao8 t657.length co8) : Value).ownBlock) v677 t676) ∧ Za (Kd.R k35 35 w' w.heap.size (fun k_ => some k_ ≠ (v677 : Value).ownBlock) (.slice Ao8 t657.length co8) t657) ∧ Za (Kd.N k40 40 w' w.heap.size (fun k_ => some k_ ≠ ((.slice Ao37 t664.length co37) : Value).ownBlock ∧ some k_ ≠ (v677 : Value).ownBlock ∧ some k_ ≠ ((.slice Ao8 t657.length co8) : Value).ownBlock ∧ k_ ≠ gb663) (.slice Ao10 t660.length co10) t660) ∧ Za (w'.heap[gb663]? = some (.cells #[(.slice Ao8 t657.length co8), (.slice Ao10 t660.length co10)] 26 (0, 0))) ∧ Za (Below w.heap.size w w'))
   case atStart => exact ⟨(0), (by first | rfl | (simp; done) | (simp [*]; done)), H', ⟨Nat.le_refl _⟩, ⟨ZR HO_4.out⟩, ⟨ZR HO_5.out⟩, ⟨ZR HO_664000.out⟩, ⟨ZRN HO_664001.out⟩, ⟨ZK BK663.out⟩, ⟨ZB⟩⟩
   case round => (
   clear H'
   try clear c1
   try clear c2
   try clear c2b0
   try clear c2b1
   try clear p2
   try clear c3
   try clear c7
   try clear c8
   try clear c9
   try clear c10
   try clear c12
   try clear c14
   try clear c26
   try clear c36
   try clear c36b0
   try clear hcz16
   try clear hcz20
   try clear hcz22
   try clear hcz29
   try clear hcz34
   try clear hcz9
   try clear hfz16
   try clear hfz20
   try clear hfz22
   try clear hfz29
   try clear hfz34
   try clear hfz9
   try clear p2
   obtain ⟨x7_3, rfl, HA, HK3, HO_4, HO_5, HO_664000, HO_664001, BK663, HB⟩ := hrel
   cases gk with
   | zero => exact absurd HA.out (by simp [laws_FnTypeSets.l1])
   | succ k3 =>
    have H := HA.out
    clear HA
    simp only [laws_FnTypeSets.l1] at H
    by_cases c38 : x7_3 < 3
    ·(
    rw [if_pos c38] at H
    have c38b0 := decide_eq_true c38
    clear c38
    by_cases c39 : 0 ≤ x6_2
    ·(
    rw [if_pos c39] at H
    have c39b0 := decide_eq_true c39
    clear c39
    by_cases c40 : x6_2 < (t664.length : Int)
    ·(
    rw [if_pos c40] at H
    have c40b0 := decide_eq_true c40
    clear c40
    obtain ⟨t680, A41, H⟩ := ZOB H; try dsimp only at H
    by_cases c42 : t680 = true
    ·(
    subst c42
    have H1 := H; rw [if_pos rfl] at H1
    clear H
    have H := H1
    clear H1
    by_cases c43 : x6_2 < (t676.length : Int)
    ·(
    rw [if_pos c43] at H
    have c43b0 := decide_eq_true c43
    clear c43
    obtain ⟨t682, A44, H⟩ := ZOB H; try dsimp only at H
    by_cases c45 : t682 = true
    ·(
    subst c45
    have H1 := H; rw [if_pos rfl] at H1
    clear H
    have H := H1
    clear H1
    have H' := AM H
    clear H
    have p679 : 0 ≤ (x6_2 : Int) := ZD
    have q679 : x6_2 < (t664.length : Int) := ZD
    obtain ⟨ad679, e679, hx679_0⟩ := Kd.at_int (Kd.R_reads' HO_4.out).2.2 x6_2 p679 q679
    cases e679
    replace p679 := eq_true p679
    replace q679 := eq_true q679
    go_wp2_with (first | ((with_reducible refine gate_callee (f := 13) rfl ?_); refine ZGL (some 46) Try.func13 #[.int .i64 (rd t664 x6_2), .int .i64 x7_3] ?_; (with_reducible refine (laws_lcHas.calls (rd t664 x6_2) x7_3 true _ A41.out).mono ?_); rintro e w' ⟨rfl, ⟨nd, rfl⟩⟩; refine ⟨_, rfl, ?_⟩; obtain ⟨Ao46, co46, eo46⟩ := Kd.R_slice HO_5.out; subst eo46; have p681 : 0 ≤ (x6_2 : Int) := ZD; have q681 : x6_2 < (t676.length : Int) := ZD; obtain ⟨ad681, e681, hx681_0, hx681_1⟩ := at_T35 (Kd.R_reads' HO_5.out).2.2 x6_2 p681 q681; cases e681; replace p681 := eq_true p681; replace q681 := eq_true q681) | (go_at_call 13; (with_reducible refine (laws_lcHas.calls ((D35 t676 x6_2).f1) x7_3 true _ A44.out).mono ?_); rintro e w' ⟨rfl, ⟨nd, rfl⟩⟩))
    go_roundg k3
    case measure => have := HJ4.out; have := HK2.out; have := HK3.out; omega
    case rel => exact ⟨(wrap64 (x7_3 + 1)), (by first | rfl | (simp; done) | (simp [*]; done)), H', ⟨by have := HJ4.out; have := HK2.out; have := HK3.out; omega⟩, ⟨ZR HO_4.out⟩, ⟨ZR HO_5.out⟩, ⟨ZR HO_664000.out⟩, ⟨ZRN HO_664001.out⟩, ⟨ZK BK663.out⟩, ⟨ZB⟩⟩)
    ·(
    replace c45 := Bool.eq_false_iff.mpr c45
    subst c45
    have H1 := H; rw [if_neg ZFT] at H1
    clear H
    have H := H1
    clear H1
    exact absurd H (by simp)))
    ·(
    rw [if_neg c43] at H
    exact absurd H (by simp)))
    ·(
    replace c42 := Bool.eq_false_iff.mpr c42
    subst c42
    have H1 := H; rw [if_neg ZFT] at H1
    clear H
    have H := H1
    clear H1
    have H' := AM H
    clear H
    have p679 : 0 ≤ (x6_2 : Int) := ZD
    have q679 : x6_2 < (t664.length : Int) := ZD
    obtain ⟨ad679, e679, hx679_0⟩ := Kd.at_int (Kd.R_reads' HO_4.out).2.2 x6_2 p679 q679
    cases e679
    replace p679 := eq_true p679
    replace q679 := eq_true q679
    go_wp2_with (first | ((with_reducible refine gate_callee (f := 13) rfl ?_); refine ZGL (some 46) Try.func13 #[.int .i64 (rd t664 x6_2), .int .i64 x7_3] ?_; (with_reducible refine (laws_lcHas.calls (rd t664 x6_2) x7_3 false _ A41.out).mono ?_); rintro e w' ⟨rfl, ⟨nd, rfl⟩⟩; refine ⟨_, rfl, ?_⟩))
    go_roundg k3
    case measure => have := HJ4.out; have := HK2.out; have := HK3.out; omega
    case rel => exact ⟨(wrap64 (x7_3 + 1)), (by first | rfl | (simp; done) | (simp [*]; done)), H', ⟨by have := HJ4.out; have := HK2.out; have := HK3.out; omega⟩, ⟨ZR HO_4.out⟩, ⟨ZR HO_5.out⟩, ⟨ZR HO_664000.out⟩, ⟨ZRN HO_664001.out⟩, ⟨ZK BK663.out⟩, ⟨ZB⟩⟩))
    ·(
    rw [if_neg c40] at H
    exact absurd H (by simp)))
    ·(
    rw [if_neg c39] at H
    exact absurd H (by simp)))
    ·(
    rw [if_neg c38] at H
    have c38b0 := decide_eq_false c38
    clear c38
    have H' := AM H
    clear H
    go_wp2
    go_roundg k3
    case measure => have := HJ4.out; have := HK2.out; have := HK3.out; omega
    case rel => exact ⟨(wrap64 (x6_2 + 1)), (by first | rfl | (simp; done) | (simp [*]; done)), H', ⟨by have := HJ4.out; have := HK2.out; have := HK3.out; omega⟩, ⟨ZR HO_4.out⟩, ⟨ZR HO_5.out⟩, ⟨ZR HO_664000.out⟩, ⟨ZRN HO_664001.out⟩, ⟨ZK BK663.out⟩, ⟨ZB⟩⟩)))
   ·(
   rw [if_neg c36] at H
   have c36b0 := decide_eq_false c36
   clear c36
   obtain rfl := Option.some.inj H
   obtain ⟨Ao47, co47, eo47⟩ := Kd.R_slice HO_4.out
   subst eo47
   go_wp2
   go_ret
   exact ⟨ZE, ZB⟩)))))

end Go.Proofs.Ytkkdeojbkfjlpaa.A
