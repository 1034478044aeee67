/- Go functions as Lean functions, and for each its contract; written by wip/tools/pr.py over the kit's print. -/
import Derived.Test.YtfcmckomagaiiaaDoorAx0
import Derived.Test.YtfcmckomagaiiaaDoorAx8
namespace Go.Proofs.YtfcmckomagaiiaaDoor.A
open Go.RowKit Go.Proofs.YtfcmckomagaiiaaDoorW.PrintWords Go.Proofs.YtfcmckomagaiiaaDoorW.PrintLast Go.Proofs.YtfcmckomagaiiaaDoorW.PrintMore
attribute [local go_sem] max2_int min2_int max_two min_two max_three min_three max_four min_four
set_option linter.unusedVariables false
set_option linter.unusedSimpArgs false
set_option maxHeartbeats 8000000
set_option maxRecDepth 100000

/-! ### laws_toStep: function 38 -/
def laws_toStep.g (k : Nat) (bf : List (S67) → Option ((List (S71)))) (a0_0 : Int) (a0_1 : Int) (a0_2 : Int) (a0_3 : Int) (a0_4 : Int) (a0_5 : Int) (l0_6 : List (S67)) (l0_7 : List (S67)) : Option (Int × Int × Int × Int × Int × Int × (List (S71)) × (List (S71))) := (laws_toVal.f a0_2 a0_3 a0_4).bind fun bt195 => ((bf l0_6).bind fun t198 => ((bf l0_7).bind fun t201 => (some (a0_0, a0_1, bt195.1, bt195.2.1, bt195.2.2, a0_5, t198, t201))))
theorem laws_toStep.calls_g (k : Nat) (bf : List (S67) → Option ((List (S71)))) (ihB : ∀ (A0 : Option Addr) (c0 : Nat) (l0 : List (S67)) (r : List (S71)) (w : World) (hr0 : Kd.C k67 w A0 l0.length l0) (hc0 : l0.length ≤ c0) (h : bf l0 = some r),
  Calls Tryd.prog 18 #[.slice A0 l0.length c0] w fun e w' => ∃ v0_ : Value, e = .returned (v0_) ∧ Kd.R k71 71 w' w.heap.size (fun _ => True) v0_ r ∧ Below w.heap.size w w') (a0_0 : Int) (a0_1 : Int) (a0_2 : Int) (a0_3 : Int) (a0_4 : Int) (a0_5 : Int) (A0_6 : Option Addr) (c0_6 : Nat) (l0_6 : List (S67)) (A0_7 : Option Addr) (c0_7 : Nat) (l0_7 : List (S67)) (r1 : Int) (r2 : Int) (r3 : Int) (r4 : Int) (r5 : Int) (r6 : Int) (r7 : List (S71)) (r8 : List (S71)) (w : World) (hr0_6 : Kd.C k67 w A0_6 l0_6.length l0_6) (hc0_6 : l0_6.length ≤ c0_6) (hr0_7 : Kd.C k67 w A0_7 l0_7.length l0_7) (hc0_7 : l0_7.length ≤ c0_7) (h : laws_toStep.g k bf a0_0 a0_1 a0_2 a0_3 a0_4 a0_5 l0_6 l0_7 = some (r1, r2, r3, r4, r5, r6, r7, r8)) :
  Calls Tryd.prog 38 #[.agg #[.int .i64 a0_0, .int .i64 a0_1, .int .i64 a0_2, .int .i64 a0_3, .int .i64 a0_4, .int .i64 a0_5, .slice A0_6 l0_6.length c0_6, .slice A0_7 l0_7.length c0_7]] w fun e w' => ∃ v6_ v7_ : Value, e = .returned (.agg #[.int .i64 r1, .int .i64 r2, .int .i64 r3, .int .i64 r4, .int .i64 r5, .int .i64 r6, v6_, v7_]) ∧ Kd.R k71 71 w' w.heap.size (fun k_ => some k_ ≠ (v7_ : Value).ownBlock) v6_ r7 ∧ Kd.R k71 71 w' w.heap.size (fun k_ => some k_ ≠ (v6_ : Value).ownBlock) v7_ r8 ∧ Below w.heap.size w w' := by
 have hu67 := Tryd.underlying67
 have hu71 := Tryd.underlying71
 have hu65 := Tryd.underlying65
 have hu69 := Tryd.underlying69
 have HR0_6 := AM hr0_6
 have HC0_6 := AM hc0_6
 clear hr0_6 hc0_6
 have HR0_7 := AM hr0_7
 have HC0_7 := AM hc0_7
 clear hr0_7 hc0_7
 have HB := AM (Below.refl w.heap.size w)
 have H : ((laws_toVal.f a0_2 a0_3 a0_4).bind fun bt195 => ((bf l0_6).bind fun t198 => ((bf l0_7).bind fun t201 => (some (a0_0, a0_1, bt195.1, bt195.2.1, bt195.2.2, a0_5, t198, t201))))) = some (r1, r2, r3, r4, r5, r6, r7, r8) := h
 clear h
 obtain ⟨⟨t195, t196, t197⟩, A2, H⟩ := ZOB H; try dsimp only at H
 obtain ⟨t198, A3, H⟩ := ZOB H; try dsimp only at H
 obtain ⟨t201, A4, H⟩ := ZOB H; try dsimp only at H
 simp only [Option.some.injEq, Prod.mk.injEq] at H
 obtain ⟨rfl, rfl, rfl, rfl, rfl, rfl, rfl, rfl⟩ := H
 go_enter Tryd.func38, Tryd.ntmps38
 go_wp2_with (first | ((with_reducible refine gate_dst (N := 1) rfl ?_); refine ZX (N := 1) (cs := #[.int .i64 a0_0, .int .i64 a0_1, .int .i64 a0_2, .int .i64 a0_3, .int .i64 a0_4, .int .i64 a0_5, .slice A0_6 l0_6.length c0_6, .slice A0_7 l0_7.length c0_7]) (t := 67) ?_; intro gb192 hg w5 hbox hb; have BK192 := AM (hbox); have GW192 : Aside0 (w.heap.size ≤ gb192) := ZS hg; have GE192 : Aside0 (w.heap.size ≤ gb192) := ZS hg; replace HB := ZT HB hb; clear hb hbox hg) | ((with_reducible refine gate_dst (N := 2) rfl ?_); refine ZX (N := 2) (cs := #[.int .i64 0, .int .i64 0, .int .i64 0, .int .i64 0, .int .i64 0, .int .i64 0, .slice none 0 0, .slice none 0 0]) (t := 71) ?_; intro gb193 hg w6 hbox hb; have BK193 := AM (hbox); have GW193 : Aside0 (w.heap.size ≤ gb193) := ZS hg; have GE193 : Aside0 (w.heap.size ≤ gb193) := ZS hg; have NB192_193 : Aside0 (gb192 ≠ gb193) := ZN hg BK192; have NB193_192 : Aside0 (gb193 ≠ gb192) := ZM hg BK192; replace BK192 := ZW BK192 hb; replace HB := ZT HB hb; clear hb hbox hg) | ((with_reducible refine gate_dst (N := 3) rfl ?_); refine ZX (N := 3) (cs := #[.int .i64 0, .int .i64 0, .int .i64 0, .int .i64 0, .int .i64 0, .int .i64 0, .slice none 0 0, .slice none 0 0]) (t := 71) ?_; intro gb194 hg w7 hbox hb; have BK194 := AM (hbox); have GW194 : Aside0 (w.heap.size ≤ gb194) := ZS hg; have GE194 : Aside0 (w.heap.size ≤ gb194) := ZS hg; have NB192_194 : Aside0 (gb192 ≠ gb194) := ZN hg BK192; have NB194_192 : Aside0 (gb194 ≠ gb192) := ZM hg BK192; have NB193_194 : Aside0 (gb193 ≠ gb194) := ZN hg BK193; have NB194_193 : Aside0 (gb194 ≠ gb193) := ZM hg BK193; replace BK192 := ZW BK192 hb; replace BK193 := ZW BK193 hb; replace HB := ZT HB hb; clear hb hbox hg; have hnb8 := NB192_193.out; have hnc8 := NB193_192.out; have hnb9 := NB192_194.out; have hnc9 := NB194_192.out; have hcz10 := ZC8 w7 BK192; have hfz10 := ZF8 BK192; have hnb11 := NB194_193.out; have hnc11 := NB193_194.out; have hcz12 := ZC8 w7 BK194; have hfz12 := ZF8 BK194) | ((with_reducible refine gate_callee (f := 58) rfl ?_); refine ZGL (some 12) Tryd.func58 #[.agg #[.int .i64 a0_2, .int .i64 a0_3, .int .i64 a0_4]] ?_; (with_reducible refine (laws_toVal.calls a0_2 a0_3 a0_4 t195 t196 t197 _ A2.out).mono ?_); rintro e w13 ⟨rfl, hb⟩; refine ⟨_, rfl, ?_⟩; replace BK192 := ZV #[.int .i64 a0_0, .int .i64 a0_1, .int .i64 a0_2, .int .i64 a0_3, .int .i64 a0_4, .int .i64 a0_5, .slice A0_6 l0_6.length c0_6, .slice A0_7 l0_7.length c0_7] BK192 hb; replace BK193 := ZV #[.int .i64 0, .int .i64 0, .int .i64 0, .int .i64 0, .int .i64 0, .int .i64 0, .slice none 0 0, .slice none 0 0] BK193 hb; replace BK194 := ZV #[.int .i64 a0_0, .int .i64 a0_1, .int .i64 0, .int .i64 0, .int .i64 0, .int .i64 0, .slice none 0 0, .slice none 0 0] BK194 hb; replace HB := ZT HB hb; clear hb; have hcz14 := ZC8 w13 BK194; have hfz14 := ZF8 BK194; have hcz15 := ZC8 w13 BK192; have hfz15 := ZF8 BK192) | ((with_reducible refine gate_callee (f := 18) rfl ?_); refine ZGL (some 19) Tryd.func18 #[.slice A0_6 l0_6.length c0_6] ?_; (with_reducible refine (ihB _ _ l0_6 t198 _ ?side1 ?side2 A3.out).mono ?_); (case side1 => exact Kd.C_below HR0_6.out (ZB)); (case side2 => exact HC0_6.out); rintro e w16 ⟨v199, rfl, ho0, hb⟩; refine ⟨_, rfl, ?_⟩; have HO200 := AM (Kd.R_lower (Kd.R_newB (Kd.R_newB ho0 (g := gb193) (o := .cells #[.int .i64 0, .int .i64 0, .int .i64 0, .int .i64 0, .int .i64 0, .int .i64 0, .slice none 0 0, .slice none 0 0] 71 (0, 0)) (ZZ BK193.out)) (g := gb194) (o := .cells #[.int .i64 a0_0, .int .i64 a0_1, .int .i64 t195, .int .i64 t196, .int .i64 t197, .int .i64 a0_5, .slice none 0 0, .slice none 0 0] 71 (0, 0)) (ZZ BK194.out)) (below_size (ZB))); replace BK192 := ZV #[.int .i64 a0_0, .int .i64 a0_1, .int .i64 a0_2, .int .i64 a0_3, .int .i64 a0_4, .int .i64 a0_5, .slice A0_6 l0_6.length c0_6, .slice A0_7 l0_7.length c0_7] BK192 hb; replace BK193 := ZV #[.int .i64 0, .int .i64 0, .int .i64 0, .int .i64 0, .int .i64 0, .int .i64 0, .slice none 0 0, .slice none 0 0] BK193 hb; replace BK194 := ZV #[.int .i64 a0_0, .int .i64 a0_1, .int .i64 t195, .int .i64 t196, .int .i64 t197, .int .i64 a0_5, .slice none 0 0, .slice none 0 0] BK194 hb; replace HB := ZT HB hb; clear hb; (try clear ho0); obtain ⟨Ao17, co17, eo17⟩ := Kd.R_slice HO200.out; subst eo17; have hcz18 := ZC8 w16 BK194; have hfz18 := ZF8 BK194; have hcz19 := ZC8 w16 BK192; have hfz19 := ZF8 BK192) | ((with_reducible refine gate_callee (f := 18) rfl ?_); refine ZGL (some 23) Tryd.func18 #[.slice A0_7 l0_7.length c0_7] ?_; (with_reducible refine (ihB _ _ l0_7 t201 _ ?side1 ?side2 A4.out).mono ?_); (case side1 => exact Kd.C_below HR0_7.out (ZB)); (case side2 => exact HC0_7.out); rintro e w20 ⟨v202, rfl, ho0, hb⟩; refine ⟨_, rfl, ?_⟩; have HO203 := AM (Kd.R_lower (Kd.R_newB (Kd.R_newB (Kd.R_new' ho0 (Kd.R_lt (by (with_reducible repeat (first | apply Kd.R_alloc | apply Kd.R_drewN | apply Kd.R_drew)); exact (Kd.R_mono (Kd.R_far (p := ⟨gb194, 6, none⟩) (Kd.R_mono HO200.out (fun k_ hk => (⟨hk, hk.2⟩ : _ ∧ k_ ≠ gb194))) (fun _ hk => hk.2) (.slice Ao17 t198.length co17)) (fun _ h_ => h_.1))))) (g := gb193) (o := .cells #[.int .i64 0, .int .i64 0, .int .i64 0, .int .i64 0, .int .i64 0, .int .i64 0, .slice none 0 0, .slice none 0 0] 71 (0, 0)) (ZZ BK193.out)) (g := gb194) (o := .cells #[.int .i64 a0_0, .int .i64 a0_1, .int .i64 t195, .int .i64 t196, .int .i64 t197, .int .i64 a0_5, .slice Ao17 t198.length co17, .slice none 0 0] 71 (0, 0)) (ZZ BK194.out)) (below_size (ZB))); replace HO200 := AM (Kd.R_elder' (by (with_reducible repeat (first | apply Kd.R_alloc | apply Kd.R_drewN | apply Kd.R_drew)); exact (Kd.R_mono (Kd.R_far (p := ⟨gb194, 6, none⟩) (Kd.R_mono HO200.out (fun k_ hk => (⟨hk, hk.2⟩ : _ ∧ k_ ≠ gb194))) (fun _ hk => hk.2) (.slice Ao17 t198.length co17)) (fun _ h_ => h_.1))) (Kd.R_base ho0) hb); replace BK192 := ZV #[.int .i64 a0_0, .int .i64 a0_1, .int .i64 a0_2, .int .i64 a0_3, .int .i64 a0_4, .int .i64 a0_5, .slice A0_6 l0_6.length c0_6, .slice A0_7 l0_7.length c0_7] BK192 hb; replace BK193 := ZV #[.int .i64 0, .int .i64 0, .int .i64 0, .int .i64 0, .int .i64 0, .int .i64 0, .slice none 0 0, .slice none 0 0] BK193 hb; replace BK194 := ZV #[.int .i64 a0_0, .int .i64 a0_1, .int .i64 t195, .int .i64 t196, .int .i64 t197, .int .i64 a0_5, .slice Ao17 t198.length co17, .slice none 0 0] BK194 hb; replace HB := ZT HB hb; clear hb; (try clear ho0); obtain ⟨Ao21, co21, eo21⟩ := Kd.R_slice HO203.out; subst eo21; have hcz22 := ZC8 w20 BK194; have hfz22 := ZF8 BK194; have hcz23 := ZC8 w20 BK193; have hfz23 := ZF8 BK193))
 refine bodyPost_ret (results_cell_row rfl _ _ gb193 71 #[.int .i64 a0_0, .int .i64 a0_1, .int .i64 t195, .int .i64 t196, .int .i64 t197, .int .i64 a0_5, .slice Ao17 t198.length co17, .slice Ao21 t201.length co21] (0, 0) _ rfl (ZZ BK193.out) Tryd.underlying71 rfl (by kernel_rfl)) rfl ?_
 exact ⟨_, _, ZE, by (with_reducible repeat (first | apply Kd.R_alloc | apply Kd.R_drewN | apply Kd.R_drew)); exact Kd.R_mono (Kd.R_far (p := ⟨gb193, 7, none⟩) (Kd.R_far (p := ⟨gb193, 6, none⟩) (Kd.R_far (p := ⟨gb193, 5, none⟩) (Kd.R_far (p := ⟨gb193, 4, none⟩) (Kd.R_far (p := ⟨gb193, 3, none⟩) (Kd.R_far (p := ⟨gb193, 2, none⟩) (Kd.R_far (p := ⟨gb193, 1, none⟩) (Kd.R_far (p := ⟨gb193, 0, none⟩) (Kd.R_far (p := ⟨gb194, 7, none⟩) (Kd.R_mono (Kd.R_mono HO200.out (fun k_ hk => (⟨hk, hk.1.2⟩ : _ ∧ k_ ≠ gb194))) (fun k_ hk => (⟨hk, hk.1.1.1.2⟩ : _ ∧ k_ ≠ gb193))) (fun _ hk => hk.1.2) (.slice Ao21 t201.length co21)) (fun _ hk => hk.2) (.int .i64 a0_0)) (fun _ hk => hk.2) (.int .i64 a0_1)) (fun _ hk => hk.2) (.int .i64 t195)) (fun _ hk => hk.2) (.int .i64 t196)) (fun _ hk => hk.2) (.int .i64 t197)) (fun _ hk => hk.2) (.int .i64 a0_5)) (fun _ hk => hk.2) (.slice Ao17 t198.length co17)) (fun _ hk => hk.2) (.slice Ao21 t201.length co21)) (fun _ hk => hk.1.1.2), by (with_reducible repeat (first | apply Kd.R_alloc | apply Kd.R_drewN | apply Kd.R_drew)); exact Kd.R_mono (Kd.R_far (p := ⟨gb193, 7, none⟩) (Kd.R_far (p := ⟨gb193, 6, none⟩) (Kd.R_far (p := ⟨gb193, 5, none⟩) (Kd.R_far (p := ⟨gb193, 4, none⟩) (Kd.R_far (p := ⟨gb193, 3, none⟩) (Kd.R_far (p := ⟨gb193, 2, none⟩) (Kd.R_far (p := ⟨gb193, 1, none⟩) (Kd.R_far (p := ⟨gb193, 0, none⟩) (Kd.R_far (p := ⟨gb194, 7, none⟩) (Kd.R_mono (Kd.R_mono HO203.out (fun k_ hk => (⟨hk, hk.2⟩ : _ ∧ k_ ≠ gb194))) (fun k_ hk => (⟨hk, hk.1.1.2⟩ : _ ∧ k_ ≠ gb193))) (fun _ hk => hk.1.2) (.slice Ao21 t201.length co21)) (fun _ hk => hk.2) (.int .i64 a0_0)) (fun _ hk => hk.2) (.int .i64 a0_1)) (fun _ hk => hk.2) (.int .i64 t195)) (fun _ hk => hk.2) (.int .i64 t196)) (fun _ hk => hk.2) (.int .i64 t197)) (fun _ hk => hk.2) (.int .i64 a0_5)) (fun _ hk => hk.2) (.slice Ao17 t198.length co17)) (fun _ hk => hk.2) (.slice Ao21 t201.length co21)) (fun _ hk => hk.1.1.1.1.2), ZB⟩

/-! ### laws_toStepS: function 18 -/
mutual
def laws_toStepS.l0 : Nat → List (S67) → List (S71) → Int → Option ((List (S71)))
 | 0, _, _, _ => none
 | k + 1, x0, x3, x4 => if x4 < (x0.length : Int) then (if 0 ≤ x4 then ((laws_toStep.g k (laws_toStepS.f k) ((rd_T67 x0 x4).f0) ((rd_T67 x0 x4).f1) ((rd_T67 x0 x4).f2.f0) ((rd_T67 x0 x4).f2.f1) ((rd_T67 x0 x4).f2.f2) ((rd_T67 x0 x4).f3) ((rd_T67 x0 x4).f4) ((rd_T67 x0 x4).f5)).bind fun bt208 => (if x4 < (x3.length : Int) then (laws_toStepS.l0 k x0 (x3.set (x4 : Int).toNat (⟨bt208.1, bt208.2.1, (⟨bt208.2.2.1, bt208.2.2.2.1, bt208.2.2.2.2.1⟩ : S69), bt208.2.2.2.2.2.1, bt208.2.2.2.2.2.2.1, bt208.2.2.2.2.2.2.2⟩ : S71)) (wrap64 (x4 + 1))) else (none))) else (none)) else (some x3)
def laws_toStepS.f : Nat → List (S67) → Option ((List (S71)))
 | 0, _ => none
 | k + 1, l0 => if 0 ≤ (l0.length : Int) then (if ((l0.length : Int) : Int).toNat ≤ 2932031007402 then (laws_toStepS.l0 k l0 (List.replicate ((l0.length : Int) : Int).toNat z71) 0) else (none)) else (none)
end
theorem laws_toStep.calls_of {K : Nat} (ih : ∀ m, m < K → ∀ (A0 : Option Addr) (c0 : Nat) (l0 : List (S67)) (r : List (S71)) (w : World) (hr0 : Kd.C k67 w A0 l0.length l0) (hc0 : l0.length ≤ c0) (h : laws_toStepS.f m l0 = some r),
  Calls Tryd.prog 18 #[.slice A0 l0.length c0] w fun e w' => ∃ v0_ : Value, e = .returned (v0_) ∧ Kd.R k71 71 w' w.heap.size (fun _ => True) v0_ r ∧ Below w.heap.size w w') (k : Nat) (hk : k < K) (a0_0 : Int) (a0_1 : Int) (a0_2 : Int) (a0_3 : Int) (a0_4 : Int) (a0_5 : Int) (A0_6 : Option Addr) (c0_6 : Nat) (l0_6 : List (S67)) (A0_7 : Option Addr) (c0_7 : Nat) (l0_7 : List (S67)) (r1 : Int) (r2 : Int) (r3 : Int) (r4 : Int) (r5 : Int) (r6 : Int) (r7 : List (S71)) (r8 : List (S71)) (w : World) (hr0_6 : Kd.C k67 w A0_6 l0_6.length l0_6) (hc0_6 : l0_6.length ≤ c0_6) (hr0_7 : Kd.C k67 w A0_7 l0_7.length l0_7) (hc0_7 : l0_7.length ≤ c0_7) (h : laws_toStep.g k (laws_toStepS.f k) a0_0 a0_1 a0_2 a0_3 a0_4 a0_5 l0_6 l0_7 = some (r1, r2, r3, r4, r5, r6, r7, r8)) :
  Calls Tryd.prog 38 #[.agg #[.int .i64 a0_0, .int .i64 a0_1, .int .i64 a0_2, .int .i64 a0_3, .int .i64 a0_4, .int .i64 a0_5, .slice A0_6 l0_6.length c0_6, .slice A0_7 l0_7.length c0_7]] w fun e w' => ∃ v6_ v7_ : Value, e = .returned (.agg #[.int .i64 r1, .int .i64 r2, .int .i64 r3, .int .i64 r4, .int .i64 r5, .int .i64 r6, v6_, v7_]) ∧ Kd.R k71 71 w' w.heap.size (fun k_ => some k_ ≠ (v7_ : Value).ownBlock) v6_ r7 ∧ Kd.R k71 71 w' w.heap.size (fun k_ => some k_ ≠ (v6_ : Value).ownBlock) v7_ r8 ∧ Below w.heap.size w w' := laws_toStep.calls_g k (laws_toStepS.f k) (ih k hk) a0_0 a0_1 a0_2 a0_3 a0_4 a0_5 A0_6 c0_6 l0_6 A0_7 c0_7 l0_7 r1 r2 r3 r4 r5 r6 r7 r8 w hr0_6 hc0_6 hr0_7 hc0_7 h
theorem laws_toStepS.calls (k : Nat) : ∀ (A0 : Option Addr) (c0 : Nat) (l0 : List (S67)) (r : List (S71)) (w : World) (hr0 : Kd.C k67 w A0 l0.length l0) (hc0 : l0.length ≤ c0) (h : laws_toStepS.f k l0 = some r),
  Calls Tryd.prog 18 #[.slice A0 l0.length c0] w fun e w' => ∃ v0_ : Value, e = .returned (v0_) ∧ Kd.R k71 71 w' w.heap.size (fun _ => True) v0_ r ∧ Below w.heap.size w w' := by
 induction k using Nat.strongRecOn with
 | _ k ih =>
 intro A0 c0 l0 r w hr0 hc0 h
 cases k with
 | zero => exact absurd h (by simp [laws_toStepS.f])
 | succ k =>
 simp only [laws_toStepS.f] at h
 have hu67 := Tryd.underlying67
 have hu71 := Tryd.underlying71
 have HR0 := AM hr0
 have HC0 := AM hc0
 clear hr0 hc0
 have HB := AM (Below.refl w.heap.size w)
 have H : (if 0 ≤ (l0.length : Int) then (if ((l0.length : Int) : Int).toNat ≤ 2932031007402 then (laws_toStepS.l0 k l0 (List.replicate ((l0.length : Int) : Int).toNat z71) 0) else (none)) else (none)) = some r := h
 clear h
 by_cases c2 : 0 ≤ (l0.length : Int)
 ·(
 rw [if_pos c2] at H
 have c2b0 := eq_true c2
 have c2b1 := decide_eq_true c2
 clear c2
 by_cases c3 : ((l0.length : Int) : Int).toNat ≤ 2932031007402
 ·(
 rw [if_pos c3] at H
 have c3b0 := eq_true c3
 have c3b1 := decide_eq_true c3
 clear c3
 obtain ⟨y204, hy204⟩ : ∃ y_ : List (S71), y_ = (List.replicate ((l0.length : Int) : Int).toNat z71) := ⟨_, rfl⟩
 replace H : (laws_toStepS.l0 k l0 y204 0) = some r := by first | (rw [hy204]; with_reducible exact H) | (have H2_ := (Option.bind_some _ _).symm.trans H; rw [hy204]; with_reducible exact H2_) | (have H2_ := (Option.bind_some _ _).symm.trans H; with_reducible exact H2_) | with_reducible exact H | (rw [hy204]; exact H) | exact H
 have Ny204 := AM hy204
 clear hy204
 have H' := AM H
 clear H
 go_enter Tryd.func18, Tryd.ntmps18
 go_wp2_with (first | ((with_reducible refine gate_dst (N := 7) rfl ?_); refine Kd.R_make k71 _ 71 rfl (N := 7) rfl 29 _ _ rfl (l0.length : Int) rfl rfl Tryd.underlying29 (.agg #[(.int .i64 0), (.int .i64 0), (.int .i64 0), (.int .i64 0), (.int .i64 0), (.int .i64 0), (.slice none 0 0), (.slice none 0 0)]) 96 info71 rfl (by decide) (by omega) z71 (ok := fun _ => True) (okp := fun _ => True) (k71_mkM _ _ _ z71 (Kd.R_nil _ _ _ _ _) (Kd.R_nil _ _ _ _ _)) (fun _ hk => hk) trivial (ZD) (Nat.le_trans (Nat.mul_le_mul_right _ (ZD : (l0.length : Int).toNat ≤ 2932031007402)) (by omega)) (Below.refl _ _) (Nat.le_refl _) ?_; intro v205 w4 ho5 hb hg_ hnew_; clear hg_ hnew_; (first | rw [← Ny204.out] at ho5 | (simp only [Int.reduceToNat] at ho5; rw [← Ny204.out] at ho5)); have HO206 := AM (Kd.R_lower ho5 (below_size (ZB))); replace HB := ZT HB hb; clear hb ho5))
 go_loopg [4] k (fun kq v4 w' => ∃ (x3_1 : List (S71)) (x4_1 : Int), v4 = .int .i64 x4_1 ∧ Aside0 (laws_toStepS.l0 kq l0 x3_1 x4_1 = some r) ∧ Aside0 (kq ≤ k) ∧ Aside0 (Kd.R k71 71 w' w.heap.size (fun _ => True) v205 x3_1) ∧ Aside0 (Below w.heap.size w w'))
 case atStart => exact ⟨(y204), (0), (by first | rfl | (simp; done) | (simp [*]; done)), H', ⟨Nat.le_refl _⟩, ⟨ZR HO206.out⟩, ⟨ZB⟩⟩
 case round => (
 clear H'
 try clear c1
 try clear c2
 try clear c2b0
 try clear c2b1
 try clear p2
 try clear c3
 try clear c3b0
 try clear c3b1
 obtain ⟨x3_1, x4_1, rfl, HA, HK1, HO_3, HB⟩ := hrel
 cases gk with
 | zero => exact absurd HA.out (by simp [laws_toStepS.l0])
 | succ k1 =>
  have H := HA.out
  clear HA
  simp only [laws_toStepS.l0] at H
  by_cases c6 : x4_1 < (l0.length : Int)
  ·(
  rw [if_pos c6] at H
  have c6b0 := decide_eq_true c6
  clear c6
  by_cases c7 : 0 ≤ x4_1
  ·(
  rw [if_pos c7] at H
  have c7b0 := decide_eq_true c7
  clear c7
  obtain ⟨⟨t208, t209, t210, t211, t212, t213, t214, t217⟩, A8, H⟩ := ZOB H; try dsimp only at H
  by_cases c9 : x4_1 < (x3_1.length : Int)
  ·(
  rw [if_pos c9] at H
  have c9b0 := decide_eq_true c9
  clear c9
  obtain ⟨y220, hy220⟩ : ∃ y_ : List (S71), y_ = (x3_1.set (x4_1 : Int).toNat (⟨t208, t209, (⟨t210, t211, t212⟩ : S69), t213, t214, t217⟩ : S71)) := ⟨_, rfl⟩
  replace H : (laws_toStepS.l0 k1 l0 y220 (wrap64 (x4_1 + 1))) = some r := by first | (rw [hy220]; with_reducible exact H) | (have H2_ := (Option.bind_some _ _).symm.trans H; rw [hy220]; with_reducible exact H2_) | (have H2_ := (Option.bind_some _ _).symm.trans H; with_reducible exact H2_) | with_reducible exact H | (rw [hy220]; exact H) | exact H
  have Ny220 := AM hy220
  clear hy220
  have H' := AM H
  clear H
  have p207 : 0 ≤ (x4_1 : Int) := ZD
  have q207 : x4_1 < (l0.length : Int) := ZD
  obtain ⟨ad207, A207_6, c207_6, A207_7, c207_7, e207, hx207_0, hx207_1, hx207_2, hx207_3, hx207_4, hx207_5, hx207_6, hx207_7, hl207_6, hi207_6, hl207_7, hi207_7⟩ := at_T67 HR0.out x4_1 p207 q207
  cases e207
  replace hx207_0 := ZHX HB hx207_0
  replace hx207_1 := ZHX HB hx207_1
  replace hx207_2 := ZHX HB hx207_2
  replace hx207_3 := ZHX HB hx207_3
  replace hx207_4 := ZHX HB hx207_4
  replace hx207_5 := ZHX HB hx207_5
  replace hx207_6 := ZHX HB hx207_6
  replace hx207_7 := ZHX HB hx207_7
  have HR207_6 := AM hi207_6
  have HC207_6 := AM hl207_6
  clear hi207_6 hl207_6
  have HR207_7 := AM hi207_7
  have HC207_7 := AM hl207_7
  clear hi207_7 hl207_7
  replace p207 := eq_true p207
  replace q207 := eq_true q207
  go_wp2_with (first | ((with_reducible refine gate_callee (f := 38) rfl ?_); refine ZGL (some 20) Tryd.func38 #[.agg #[.int .i64 ((rd_T67 l0 x4_1).f0), .int .i64 ((rd_T67 l0 x4_1).f1), .int .i64 ((rd_T67 l0 x4_1).f2.f0), .int .i64 ((rd_T67 l0 x4_1).f2.f1), .int .i64 ((rd_T67 l0 x4_1).f2.f2), .int .i64 ((rd_T67 l0 x4_1).f3), .slice A207_6 ((rd_T67 l0 x4_1).f4).length c207_6, .slice A207_7 ((rd_T67 l0 x4_1).f5).length c207_7]] ?_; (with_reducible refine ((laws_toStep.calls_of ih) k1 (by have := HK1.out; omega) ((rd_T67 l0 x4_1).f0) ((rd_T67 l0 x4_1).f1) ((rd_T67 l0 x4_1).f2.f0) ((rd_T67 l0 x4_1).f2.f1) ((rd_T67 l0 x4_1).f2.f2) ((rd_T67 l0 x4_1).f3) _ _ ((rd_T67 l0 x4_1).f4) _ _ ((rd_T67 l0 x4_1).f5) t208 t209 t210 t211 t212 t213 t214 t217 _ ?side1 ?side2 ?side3 ?side4 A8.out).mono ?_); (case side1 => exact ZQ (Kd.C_below HR207_6.out HB.out)); (case side2 => exact HC207_6.out); (case side3 => exact ZQ (Kd.C_below HR207_7.out HB.out)); (case side4 => exact HC207_7.out); rintro e w11 ⟨v215, v218, rfl, ho0, ho1, hb⟩; refine ⟨_, rfl, ?_⟩; have hst0_ := Kd.R_st ho0; have hst1_ := Kd.R_st ho1; have HO216 := AM (Kd.R_lower (Kd.R_new' ho0 (Kd.R_lt (ZR HO_3.out))) (below_size (ZB))); have HO219 := AM (Kd.R_lower (Kd.R_new' ho1 (Kd.R_lt (ZR HO_3.out))) (below_size (ZB))); replace HO_3 := AM (Kd.R_mono (Kd.R_told (Kd.R_told (Kd.R_old (ZR HO_3.out) hb) (Kd.R_base ho0)) (Kd.R_base ho1)) (fun _ h_ => h_.1)); replace HB := ZT HB hb; clear hb; (try clear ho0); (try clear ho1); have p10 : 0 ≤ (x4_1 : Int) := ZD; have q10 : (x4_1 : Int) < ((x3_1.length : Int) : Int) := ZD; obtain ⟨go10, co10, eo10, gb10, gl10, cl10, HG10⟩ := Kd.R_form HO_3.out (by omega); (first | cases eo10 | (injection eo10 with ea_ en_ ec_; (first | subst ea_ | (injection ea_ with ea_; subst ea_)); subst ec_; clear en_)); have GB10 := AM gb10; have GG10 := AM HG10; clear gb10 gl10 HG10; obtain ⟨ce10, hcl10, hM10, hcc10, hfr10⟩ := Kd.R_elem HO_3.out z71 (x4_1 : Int) p10 q10; obtain ⟨ve10_6, ve10_7, rfl, ge10_6, ge10_7⟩ := k71_openM hM10; have hx10_0 : w11.cell? ⟨go10, (x4_1 : Int).toNat * 8, none⟩ = some (.int .i64 ((rd_T71 x3_1 x4_1).f0)) := hcc10 0 _ rfl; have hx10_1 : w11.cell? ⟨go10, (x4_1 : Int).toNat * 8 + 1, none⟩ = some (.int .i64 ((rd_T71 x3_1 x4_1).f1)) := hcc10 1 _ rfl; have hx10_2 : w11.cell? ⟨go10, (x4_1 : Int).toNat * 8 + 2, none⟩ = some (.int .i64 ((rd_T71 x3_1 x4_1).f2.f0)) := hcc10 2 _ rfl; have hx10_3 : w11.cell? ⟨go10, (x4_1 : Int).toNat * 8 + 3, none⟩ = some (.int .i64 ((rd_T71 x3_1 x4_1).f2.f1)) := hcc10 3 _ rfl; have hx10_4 : w11.cell? ⟨go10, (x4_1 : Int).toNat * 8 + 4, none⟩ = some (.int .i64 ((rd_T71 x3_1 x4_1).f2.f2)) := hcc10 4 _ rfl; have hx10_5 : w11.cell? ⟨go10, (x4_1 : Int).toNat * 8 + 5, none⟩ = some (.int .i64 ((rd_T71 x3_1 x4_1).f3)) := hcc10 5 _ rfl; have hx10_6 : w11.cell? ⟨go10, (x4_1 : Int).toNat * 8 + 6, none⟩ = some (ve10_6) := hcc10 6 _ rfl; have hx10_7 : w11.cell? ⟨go10, (x4_1 : Int).toNat * 8 + 7, none⟩ = some (ve10_7) := hcc10 7 _ rfl; have hf10_0 : w11.frozen? ⟨go10, (x4_1 : Int).toNat * 8, none⟩ = false := hfr10 0; have hf10_1 : w11.frozen? ⟨go10, (x4_1 : Int).toNat * 8 + 1, none⟩ = false := hfr10 1; have hf10_2 : w11.frozen? ⟨go10, (x4_1 : Int).toNat * 8 + 2, none⟩ = false := hfr10 2; have hf10_3 : w11.frozen? ⟨go10, (x4_1 : Int).toNat * 8 + 3, none⟩ = false := hfr10 3; have hf10_4 : w11.frozen? ⟨go10, (x4_1 : Int).toNat * 8 + 4, none⟩ = false := hfr10 4; have hf10_5 : w11.frozen? ⟨go10, (x4_1 : Int).toNat * 8 + 5, none⟩ = false := hfr10 5; have hf10_6 : w11.frozen? ⟨go10, (x4_1 : Int).toNat * 8 + 6, none⟩ = false := hfr10 6; have hf10_7 : w11.frozen? ⟨go10, (x4_1 : Int).toNat * 8 + 7, none⟩ = false := hfr10 7; clear hcl10 hcc10 hfr10 hM10; replace p10 := eq_true p10; replace q10 := eq_true q10; have n_ := AM (Kd.R_mono (ok' := (fun k_ => some k_ ≠ (v215 : Value).ownBlock ∧ some k_ ≠ (v218 : Value).ownBlock)) HO_3.out (fun k_ hk => ⟨hk.1.2, hk.2⟩)); clear HO_3; have HO_3 := n_; clear n_; have HX12 := AM (show Kd.R k71 71 w11 w.heap.size (fun _ => True) (.slice (some ⟨go10, 0, none⟩) x3_1.length co10) x3_1 from (ZR (Kd.R_mono HO_3.out (fun _ hk => trivial)))); obtain ⟨ce12, hcl12, hM12, hcc12, hfr12⟩ := Kd.R_elem HX12.out z71 (x4_1 : Int) (ZD) (by have h_ : (x4_1 : Int) < ((x3_1.length : Int) : Int) := ZD; first | exact h_ | (have e_ := (Kd.R_reads' HO_3.out).1; omega) | simpa using h_); obtain ⟨ve12_6, ve12_7, rfl, ge12_6, ge12_7⟩ := k71_openM hM12; have HP12 := Kd.R_seg HX12.out (x4_1 : Int) (ZD) (by have h_ : (x4_1 : Int) < ((x3_1.length : Int) : Int) := ZD; first | exact h_ | (have e_ := (Kd.R_reads' HO_3.out).1; omega) | simpa using h_) (seg := [.int .i64 t208, .int .i64 t209, .int .i64 t210, .int .i64 t211, .int .i64 t212, .int .i64 t213, v215, v218]) (j := 0) hcl12 hcc12 (show 8 ≤ 8 from by decide) (x' := (⟨t208, t209, (⟨t210, t211, t212⟩ : S69), t213, t214, t217⟩ : S71)) (k71_mkM _ _ _ (⟨t208, t209, (⟨t210, t211, t212⟩ : S69), t213, t214, t217⟩ : S71) (Kd.R_mono (HO216.out) (fun k_ hk => ⟨trivial, fun e_ => (hk.2) (by rw [e_]; rfl)⟩)) (Kd.R_mono (HO219.out) (fun k_ hk => ⟨trivial, fun e_ => (hk.2) (by rw [e_]; rfl)⟩))) (fun _ hk => hk); have hx12_0 := hcc12 0 _ rfl; (try simp only [show (k71).sz = 8 from rfl, Nat.mul_one, Nat.add_zero] at hx12_0); have hf12_0 := hfr12 0; (try simp only [show (k71).sz = 8 from rfl, Nat.mul_one, Nat.add_zero] at hf12_0); have hx12_1 := hcc12 1 _ rfl; (try simp only [show (k71).sz = 8 from rfl, Nat.mul_one, Nat.add_zero] at hx12_1); have hf12_1 := hfr12 1; (try simp only [show (k71).sz = 8 from rfl, Nat.mul_one, Nat.add_zero] at hf12_1); have hx12_2 := hcc12 2 _ rfl; (try simp only [show (k71).sz = 8 from rfl, Nat.mul_one, Nat.add_zero] at hx12_2); have hf12_2 := hfr12 2; (try simp only [show (k71).sz = 8 from rfl, Nat.mul_one, Nat.add_zero] at hf12_2); have hx12_3 := hcc12 3 _ rfl; (try simp only [show (k71).sz = 8 from rfl, Nat.mul_one, Nat.add_zero] at hx12_3); have hf12_3 := hfr12 3; (try simp only [show (k71).sz = 8 from rfl, Nat.mul_one, Nat.add_zero] at hf12_3); have hx12_4 := hcc12 4 _ rfl; (try simp only [show (k71).sz = 8 from rfl, Nat.mul_one, Nat.add_zero] at hx12_4); have hf12_4 := hfr12 4; (try simp only [show (k71).sz = 8 from rfl, Nat.mul_one, Nat.add_zero] at hf12_4); have hx12_5 := hcc12 5 _ rfl; (try simp only [show (k71).sz = 8 from rfl, Nat.mul_one, Nat.add_zero] at hx12_5); have hf12_5 := hfr12 5; (try simp only [show (k71).sz = 8 from rfl, Nat.mul_one, Nat.add_zero] at hf12_5); have hx12_6 := hcc12 6 _ rfl; (try simp only [show (k71).sz = 8 from rfl, Nat.mul_one, Nat.add_zero] at hx12_6); have hf12_6 := hfr12 6; (try simp only [show (k71).sz = 8 from rfl, Nat.mul_one, Nat.add_zero] at hf12_6); have hx12_7 := hcc12 7 _ rfl; (try simp only [show (k71).sz = 8 from rfl, Nat.mul_one, Nat.add_zero] at hx12_7); have hf12_7 := hfr12 7; (try simp only [show (k71).sz = 8 from rfl, Nat.mul_one, Nat.add_zero] at hf12_7); clear hcl12 hcc12 hfr12 hM12) | ((with_reducible refine gate_store (t := 71) (p := 21) rfl ?_); refine store_event (t := 71) (p := 21) (v := ?vo_w13) (w1 := ((((((((w11.setCell ⟨go10, (x4_1 : Int).toNat * 8, none⟩ (.int .i64 t208)).setCell ⟨go10, (x4_1 : Int).toNat * 8 + 1, none⟩ (.int .i64 t209)).setCell ⟨go10, (x4_1 : Int).toNat * 8 + 2, none⟩ (.int .i64 t210)).setCell ⟨go10, (x4_1 : Int).toNat * 8 + 3, none⟩ (.int .i64 t211)).setCell ⟨go10, (x4_1 : Int).toNat * 8 + 4, none⟩ (.int .i64 t212)).setCell ⟨go10, (x4_1 : Int).toNat * 8 + 5, none⟩ (.int .i64 t213)).setCell ⟨go10, (x4_1 : Int).toNat * 8 + 6, none⟩ (v215)).setCell ⟨go10, (x4_1 : Int).toNat * 8 + 7, none⟩ (v218))) ?hg ?ho ?hn ?hr ?_; (case ho => rfl); (case hg => rfl); (case hn => rfl); (case hr => first | (go_simp; done) | (go_simp; rfl)); intro w13 hw; have hg : w11.grownBy w13 (some go10) := (by rw [hw]; exact HP12.2); have hp_ : Kd.R k71 71 w13 w.heap.size (fun _ => True) (.slice (some ⟨go10, 0, none⟩) x3_1.length co10) y220 := (by rw [hw, Ny220.out]; exact HP12.1); clear HP12; have n0_ := AM (hp_); have n1_ := AM ((by rw [hw]; exact below_set (below_set (below_set (below_set (below_set (below_set (below_set (below_set (HB.out) GB10.out) GB10.out) GB10.out) GB10.out) GB10.out) GB10.out) GB10.out) GB10.out : Below w.heap.size w w13)); clear HO_3 HB HO216 HO219; have HO_3 := n0_; have HB := n1_; clear n0_ n1_ hg hw hp_))
  go_roundg k1
  case measure => have := HK1.out; omega
  case rel => exact ⟨(y220), (wrap64 (x4_1 + 1)), (by first | rfl | (simp; done) | (simp [*]; done)), H', ⟨by have := HK1.out; omega⟩, ⟨ZR HO_3.out⟩, ⟨ZB⟩⟩)
  ·(
  rw [if_neg c9] at H
  exact absurd H (by simp)))
  ·(
  rw [if_neg c7] at H
  exact absurd H (by simp)))
  ·(
  rw [if_neg c6] at H
  have c6b0 := decide_eq_false c6
  clear c6
  obtain rfl := Option.some.inj H
  go_wp2
  go_ret
  exact ⟨_, ZE, by (with_reducible repeat (first | apply Kd.R_alloc | apply Kd.R_drewN | apply Kd.R_drew)); exact HO_3.out, ZB⟩)))
 ·(
 rw [if_neg c3] at H
 exact absurd H (by simp)))
 ·(
 rw [if_neg c2] at H
 exact absurd H (by simp))

def laws_toStep.f (k : Nat) := laws_toStep.g k (laws_toStepS.f k)
theorem laws_toStep.calls (k : Nat) (a0_0 : Int) (a0_1 : Int) (a0_2 : Int) (a0_3 : Int) (a0_4 : Int) (a0_5 : Int) (A0_6 : Option Addr) (c0_6 : Nat) (l0_6 : List (S67)) (A0_7 : Option Addr) (c0_7 : Nat) (l0_7 : List (S67)) (r1 : Int) (r2 : Int) (r3 : Int) (r4 : Int) (r5 : Int) (r6 : Int) (r7 : List (S71)) (r8 : List (S71)) (w : World) (hr0_6 : Kd.C k67 w A0_6 l0_6.length l0_6) (hc0_6 : l0_6.length ≤ c0_6) (hr0_7 : Kd.C k67 w A0_7 l0_7.length l0_7) (hc0_7 : l0_7.length ≤ c0_7) (h : laws_toStep.f k a0_0 a0_1 a0_2 a0_3 a0_4 a0_5 l0_6 l0_7 = some (r1, r2, r3, r4, r5, r6, r7, r8)) :
  Calls Tryd.prog 38 #[.agg #[.int .i64 a0_0, .int .i64 a0_1, .int .i64 a0_2, .int .i64 a0_3, .int .i64 a0_4, .int .i64 a0_5, .slice A0_6 l0_6.length c0_6, .slice A0_7 l0_7.length c0_7]] w fun e w' => ∃ v6_ v7_ : Value, e = .returned (.agg #[.int .i64 r1, .int .i64 r2, .int .i64 r3, .int .i64 r4, .int .i64 r5, .int .i64 r6, v6_, v7_]) ∧ Kd.R k71 71 w' w.heap.size (fun k_ => some k_ ≠ (v7_ : Value).ownBlock) v6_ r7 ∧ Kd.R k71 71 w' w.heap.size (fun k_ => some k_ ≠ (v6_ : Value).ownBlock) v7_ r8 ∧ Below w.heap.size w w' := laws_toStep.calls_g k (laws_toStepS.f k) (laws_toStepS.calls k) a0_0 a0_1 a0_2 a0_3 a0_4 a0_5 A0_6 c0_6 l0_6 A0_7 c0_7 l0_7 r1 r2 r3 r4 r5 r6 r7 r8 w hr0_6 hc0_6 hr0_7 hc0_7 h

/-! ### laws_toProg: function 7 -/
def laws_toProg.f (k : Nat) (l0_0 : List (S74)) (l0_1 : List (S67)) : Option ((List (S43)) × (List (S71))) := (laws_toLabelS.f k l0_0).bind fun t224 => ((laws_toStepS.f k l0_1).bind fun t227 => (some (t224, t227)))
theorem laws_toProg.calls (k : Nat) (A0_0 : Option Addr) (c0_0 : Nat) (l0_0 : List (S74)) (A0_1 : Option Addr) (c0_1 : Nat) (l0_1 : List (S67)) (r1 : List (S43)) (r2 : List (S71)) (w : World) (hr0_0 : Kd.C k74 w A0_0 l0_0.length l0_0) (hc0_0 : l0_0.length ≤ c0_0) (hr0_1 : Kd.C k67 w A0_1 l0_1.length l0_1) (hc0_1 : l0_1.length ≤ c0_1) (h : laws_toProg.f k l0_0 l0_1 = some (r1, r2)) :
  Calls Tryd.prog 7 #[.agg #[.slice A0_0 l0_0.length c0_0, .slice A0_1 l0_1.length c0_1]] w fun e w' => ∃ v0_ v1_ : Value, e = .returned (.agg #[v0_, v1_]) ∧ Kd.R k43 43 w' w.heap.size (fun _ => True) v0_ r1 ∧ Kd.R k71 71 w' w.heap.size (fun _ => True) v1_ r2 ∧ Below w.heap.size w w' := by
 have hu25 := Tryd.underlying25
 have hu31 := Tryd.underlying31
 have HR0_0 := AM hr0_0
 have HC0_0 := AM hc0_0
 clear hr0_0 hc0_0
 have HR0_1 := AM hr0_1
 have HC0_1 := AM hc0_1
 clear hr0_1 hc0_1
 have HB := AM (Below.refl w.heap.size w)
 have H := h
 unfold laws_toProg.f at H
 clear h
 obtain ⟨t224, A2, H⟩ := ZOB H; try dsimp only at H
 obtain ⟨t227, A3, H⟩ := ZOB H; try dsimp only at H
 simp only [Option.some.injEq, Prod.mk.injEq] at H
 obtain ⟨rfl, rfl⟩ := H
 go_enter Tryd.func7, Tryd.ntmps7
 go_wp2_with (first | ((with_reducible refine gate_dst (N := 1) rfl ?_); refine ZX (N := 1) (cs := #[.slice A0_0 l0_0.length c0_0, .slice A0_1 l0_1.length c0_1]) (t := 25) ?_; intro gb221 hg w4 hbox hb; have BK221 := AM (hbox); have GW221 : Aside0 (w.heap.size ≤ gb221) := ZS hg; have GE221 : Aside0 (w.heap.size ≤ gb221) := ZS hg; replace HB := ZT HB hb; clear hb hbox hg) | ((with_reducible refine gate_dst (N := 2) rfl ?_); refine ZX (N := 2) (cs := #[.slice none 0 0, .slice none 0 0]) (t := 31) ?_; intro gb222 hg w5 hbox hb; have BK222 := AM (hbox); have GW222 : Aside0 (w.heap.size ≤ gb222) := ZS hg; have GE222 : Aside0 (w.heap.size ≤ gb222) := ZS hg; have NB221_222 : Aside0 (gb221 ≠ gb222) := ZN hg BK221; have NB222_221 : Aside0 (gb222 ≠ gb221) := ZM hg BK221; replace BK221 := ZW BK221 hb; replace HB := ZT HB hb; clear hb hbox hg) | ((with_reducible refine gate_dst (N := 3) rfl ?_); refine ZX (N := 3) (cs := #[.slice none 0 0, .slice none 0 0]) (t := 31) ?_; intro gb223 hg w6 hbox hb; have BK223 := AM (hbox); have GW223 : Aside0 (w.heap.size ≤ gb223) := ZS hg; have GE223 : Aside0 (w.heap.size ≤ gb223) := ZS hg; have NB221_223 : Aside0 (gb221 ≠ gb223) := ZN hg BK221; have NB223_221 : Aside0 (gb223 ≠ gb221) := ZM hg BK221; have NB222_223 : Aside0 (gb222 ≠ gb223) := ZN hg BK222; have NB223_222 : Aside0 (gb223 ≠ gb222) := ZM hg BK222; replace BK221 := ZW BK221 hb; replace BK222 := ZW BK222 hb; replace HB := ZT HB hb; clear hb hbox hg; have hnb7 := NB221_222.out; have hnc7 := NB222_221.out; have hnb8 := NB221_223.out; have hnc8 := NB223_221.out; have hcz9 := ZC2 w6 BK221; have hfz9 := ZF2 BK221) | ((with_reducible refine gate_callee (f := 17) rfl ?_); refine ZGL (some 6) Tryd.func17 #[.slice A0_0 l0_0.length c0_0] ?_; (with_reducible refine (laws_toLabelS.calls k _ _ l0_0 t224 _ ?side1 ?side2 A2.out).mono ?_); (case side1 => exact ZQ (Kd.C_below HR0_0.out HB.out)); (case side2 => exact HC0_0.out); rintro e w10 ⟨v225, rfl, ho0, hb⟩; refine ⟨_, rfl, ?_⟩; have HO226 := AM (Kd.R_lower ho0 (below_size (ZB))); replace BK221 := ZW BK221 hb; replace BK222 := ZW BK222 hb; replace BK223 := ZW BK223 hb; replace HB := ZT HB hb; clear hb; (try clear ho0); obtain ⟨Ao11, co11, eo11⟩ := Kd.R_slice HO226.out; subst eo11; have hnb12 := NB223_222.out; have hnc12 := NB222_223.out; have hcz13 := ZC2 w10 BK223; have hfz13 := ZF2 BK223; have hcz14 := ZC2 w10 BK221; have hfz14 := ZF2 BK221) | ((with_reducible refine gate_callee (f := 18) rfl ?_); refine ZGL (some 10) Tryd.func18 #[.slice A0_1 l0_1.length c0_1] ?_; (with_reducible refine (laws_toStepS.calls k _ _ l0_1 t227 _ ?side1 ?side2 A3.out).mono ?_); (case side1 => exact Kd.C_below HR0_1.out (ZB)); (case side2 => exact HC0_1.out); rintro e w15 ⟨v228, rfl, ho0, hb⟩; refine ⟨_, rfl, ?_⟩; have HO229 := AM (Kd.R_lower ho0 (below_size (ZB))); replace HO226 := AM (Kd.R_below (ZR ((Kd.R_mono (Kd.R_far (p := ⟨gb223, 0, none⟩) (Kd.R_types HO226.out BK223.out (by decide)) (fun _ hk => hk.2) (.slice Ao11 t224.length co11)) (fun _ h_ => h_.1)))) hb); replace BK221 := ZV #[.slice A0_0 l0_0.length c0_0, .slice A0_1 l0_1.length c0_1] BK221 hb; replace BK222 := ZV #[.slice none 0 0, .slice none 0 0] BK222 hb; replace BK223 := ZV #[.slice Ao11 t224.length co11, .slice none 0 0] BK223 hb; replace HB := ZT HB hb; clear hb; (try clear ho0); obtain ⟨Ao16, co16, eo16⟩ := Kd.R_slice HO229.out; subst eo16; have hcz17 := ZC2 w15 BK223; have hfz17 := ZF2 BK223; have hcz18 := ZC2 w15 BK222; have hfz18 := ZF2 BK222))
 refine bodyPost_ret (results_cell_row rfl _ _ gb222 31 #[.slice Ao11 t224.length co11, .slice Ao16 t227.length co16] (0, 0) _ rfl (ZZ BK222.out) Tryd.underlying31 rfl (by kernel_rfl)) rfl ?_
 exact ⟨_, _, ZE, by (with_reducible repeat (first | apply Kd.R_alloc | apply Kd.R_drewN | apply Kd.R_drew)); exact Kd.R_mono (Kd.R_far (p := ⟨gb222, 1, none⟩) (Kd.R_far (p := ⟨gb222, 0, none⟩) (Kd.R_far (p := ⟨gb223, 1, none⟩) (Kd.R_types (Kd.R_types HO226.out BK223.out (by decide)) BK222.out (by decide)) (fun _ hk => hk.1.2) (.slice Ao16 t227.length co16)) (fun _ hk => hk.2) (.slice Ao11 t224.length co11)) (fun _ hk => hk.2) (.slice Ao16 t227.length co16)) (fun _ hk => trivial), by (with_reducible repeat (first | apply Kd.R_alloc | apply Kd.R_drewN | apply Kd.R_drew)); exact Kd.R_mono (Kd.R_far (p := ⟨gb222, 1, none⟩) (Kd.R_far (p := ⟨gb222, 0, none⟩) (Kd.R_far (p := ⟨gb223, 1, none⟩) (Kd.R_types (Kd.R_types HO229.out BK223.out (by decide)) BK222.out (by decide)) (fun _ hk => hk.1.2) (.slice Ao16 t227.length co16)) (fun _ hk => hk.2) (.slice Ao11 t224.length co11)) (fun _ hk => hk.2) (.slice Ao16 t227.length co16)) (fun _ hk => trivial), ZB⟩

/-! ### impl_in: function 77 -/
def impl_in.f (a0 : Int) (a1 : Int) (a2 : Int) : Option (Bool) := if a1 ≤ a0 then (some (decide (a0 ≤ a2))) else (some false)
theorem impl_in.calls (a0 : Int) (a1 : Int) (a2 : Int) (r : Bool) (w : World) (h : impl_in.f a0 a1 a2 = some r) :
  Calls Tryd.prog 77 #[.int .i64 a0, .int .i64 a1, .int .i64 a2] w fun e w' => e = .returned (.bool r) ∧ Drawn0 w w' := by
 have H := h
 unfold impl_in.f at H
 clear h
 by_cases c4 : a1 ≤ a0
 ·(
 rw [if_pos c4] at H
 have c4b0 := decide_eq_true c4
 clear c4
 obtain rfl := Option.some.inj H
 go_enter Tryd.func77, Tryd.ntmps77
 go_wp2
 go_ret
 exact ⟨by first | rfl | (simp; done) | (simp [*]; done), by repeat (first | exact Drawn0.refl _ | apply Drawn0.step)⟩)
 ·(
 rw [if_neg c4] at H
 have c4b0 := decide_eq_false c4
 clear c4
 obtain rfl := Option.some.inj H
 go_enter Tryd.func77, Tryd.ntmps77
 go_wp2
 go_ret
 exact ⟨by first | rfl | (simp; done) | (simp [*]; done), by repeat (first | exact Drawn0.refl _ | apply Drawn0.step)⟩)

/-! ### impl_isSet: function 60 -/
def impl_isSet.f (a0 : Int) : Option (Bool) := (impl_in.f a0 0 7).bind fun t230 => (some t230)
theorem impl_isSet.calls (a0 : Int) (r : Bool) (w : World) (h : impl_isSet.f a0 = some r) :
  Calls Tryd.prog 60 #[.int .i64 a0] w fun e w' => e = .returned (.bool r) ∧ Drawn0 w w' := by
 have H := h
 unfold impl_isSet.f at H
 clear h
 obtain ⟨t230, A2, H⟩ := ZOB H; try dsimp only at H
 obtain rfl := Option.some.inj H
 go_enter Tryd.func60, Tryd.ntmps60
 go_wp2_with (first | ((with_reducible refine gate_callee (f := 77) rfl ?_); refine ZGL (some 4) Tryd.func77 #[.int .i64 a0, .int .i64 0, .int .i64 7] ?_; (with_reducible refine (impl_in.calls a0 0 7 t230 _ A2.out).mono ?_); rintro e w' ⟨rfl, ⟨nd, rfl⟩⟩; refine ⟨_, rfl, ?_⟩))
 go_ret
 exact ⟨by first | rfl | (simp; done) | (simp [*]; done), by repeat (first | exact Drawn0.refl _ | apply Drawn0.step)⟩

/-! ### impl_LabelOk: function 41 -/
def impl_LabelOk.f (a0_0 : Int) (a0_1 : Int) : Option (Bool) := (impl_isSet.f a0_0).bind fun t232 => (if t232 = true then ((impl_isSet.f a0_1).bind fun t233 => (some t233)) else (some false))
theorem impl_LabelOk.calls (a0_0 : Int) (a0_1 : Int) (r : Bool) (w : World) (h : impl_LabelOk.f a0_0 a0_1 = some r) :
  Calls Tryd.prog 41 #[.agg #[.int .i64 a0_0, .int .i64 a0_1]] w fun e w' => e = .returned (.bool r) ∧ Below w.heap.size w w' := by
 have hu43 := Tryd.underlying43
 have HB := AM (Below.refl w.heap.size w)
 have H := h
 unfold impl_LabelOk.f at H
 clear h
 obtain ⟨t232, A2, H⟩ := ZOB H; try dsimp only at H
 by_cases c3 : t232 = true
 ·(
 subst c3
 have H1 := H; rw [if_pos rfl] at H1
 clear H
 have H := H1
 clear H1
 obtain ⟨t233, A4, H⟩ := ZOB H; try dsimp only at H
 obtain rfl := Option.some.inj H
 go_enter Tryd.func41, Tryd.ntmps41
 go_wp2_with (first | ((with_reducible refine gate_dst (N := 1) rfl ?_); refine ZX (N := 1) (cs := #[.int .i64 a0_0, .int .i64 a0_1]) (t := 43) ?_; intro gb231 hg w5 hbox hb; have BK231 := AM (hbox); have GW231 : Aside0 (w.heap.size ≤ gb231) := ZS hg; have GE231 : Aside0 (w.heap.size ≤ gb231) := ZS hg; replace HB := ZT HB hb; clear hb hbox hg; have hcz6 := ZC2 w5 BK231; have hfz6 := ZF2 BK231) | ((with_reducible refine gate_callee (f := 60) rfl ?_); refine ZGL (some 5) Tryd.func60 #[.int .i64 a0_0] ?_; (with_reducible refine (impl_isSet.calls a0_0 true _ A2.out).mono ?_); rintro e w' ⟨rfl, ⟨nd, rfl⟩⟩; refine ⟨_, rfl, ?_⟩) | (go_at_call 60; (with_reducible refine (impl_isSet.calls a0_1 t233 _ A4.out).mono ?_); rintro e w' ⟨rfl, ⟨nd, rfl⟩⟩))
 go_ret
 exact ⟨ZE, ZB⟩)
 ·(
 replace c3 := Bool.eq_false_iff.mpr c3
 subst c3
 have H1 := H; rw [if_neg ZFT] at H1
 clear H
 have H := H1
 clear H1
 obtain rfl := Option.some.inj H
 go_enter Tryd.func41, Tryd.ntmps41
 go_wp2_with (first | ((with_reducible refine gate_dst (N := 1) rfl ?_); refine ZX (N := 1) (cs := #[.int .i64 a0_0, .int .i64 a0_1]) (t := 43) ?_; intro gb231 hg w7 hbox hb; have BK231 := AM (hbox); have GW231 : Aside0 (w.heap.size ≤ gb231) := ZS hg; have GE231 : Aside0 (w.heap.size ≤ gb231) := ZS hg; replace HB := ZT HB hb; clear hb hbox hg; have hcz8 := ZC2 w7 BK231; have hfz8 := ZF2 BK231) | ((with_reducible refine gate_callee (f := 60) rfl ?_); refine ZGL (some 5) Tryd.func60 #[.int .i64 a0_0] ?_; (with_reducible refine (impl_isSet.calls a0_0 false _ A2.out).mono ?_); rintro e w' ⟨rfl, ⟨nd, rfl⟩⟩; refine ⟨_, rfl, ?_⟩))
 go_ret
 exact ⟨ZE, ZB⟩)

end Go.Proofs.YtfcmckomagaiiaaDoor.A
