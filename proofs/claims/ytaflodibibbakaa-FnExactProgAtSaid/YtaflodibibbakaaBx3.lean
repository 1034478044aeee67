/- Go functions as Lean functions, and for each its contract; written by wip/tools/pr.py over the kit's print. -/
import Derived.Test.YtaflodibibbakaaBx0
import Derived.Test.YtaflodibibbakaaBx2
namespace Go.Proofs.Ytaflodibibbakaa.B
open Go.RowKit Go.Proofs.YtaflodibibbakaaW.PrintWords Go.Proofs.YtaflodibibbakaaW.PrintLast Go.Proofs.YtaflodibibbakaaW.PrintMore
attribute [local go_sem] max2_int min2_int max_two min_two max_three min_three max_four min_four
set_option linter.unusedVariables false
set_option linter.unusedSimpArgs false
set_option maxHeartbeats 8000000
set_option maxRecDepth 100000

/-! ### laws_toStep: function 66 -/
def laws_toStep.g (k : Nat) (bf : List (S79) → Option ((List (S50)))) (a0_0 : Int) (a0_1 : Int) (a0_2 : Int) (a0_3 : Int) (a0_4 : Int) (a0_5 : Int) (l0_6 : List (S79)) (l0_7 : List (S79)) : Option (Int × Int × Int × Int × Int × Int × (List (S50)) × (List (S50))) := (laws_toVal.f a0_2 a0_3 a0_4).bind fun bt125 => ((bf l0_6).bind fun t128 => ((bf l0_7).bind fun t131 => (some (a0_0, a0_1, bt125.1, bt125.2.1, bt125.2.2, a0_5, t128, t131))))
theorem laws_toStep.calls_g (k : Nat) (bf : List (S79) → Option ((List (S50)))) (ihB : ∀ (A0 : Option Addr) (c0 : Nat) (l0 : List (S79)) (r : List (S50)) (w : World) (hr0 : Kd.C k79 w A0 l0.length l0) (hc0 : l0.length ≤ c0) (h : bf l0 = some r),
  Calls Try.prog 39 #[.slice A0 l0.length c0] w fun e w' => ∃ v0_ : Value, e = .returned (v0_) ∧ Kd.R k50 50 w' w.heap.size (fun _ => True) v0_ r ∧ Below w.heap.size w w') (a0_0 : Int) (a0_1 : Int) (a0_2 : Int) (a0_3 : Int) (a0_4 : Int) (a0_5 : Int) (A0_6 : Option Addr) (c0_6 : Nat) (l0_6 : List (S79)) (A0_7 : Option Addr) (c0_7 : Nat) (l0_7 : List (S79)) (r1 : Int) (r2 : Int) (r3 : Int) (r4 : Int) (r5 : Int) (r6 : Int) (r7 : List (S50)) (r8 : List (S50)) (w : World) (hr0_6 : Kd.C k79 w A0_6 l0_6.length l0_6) (hc0_6 : l0_6.length ≤ c0_6) (hr0_7 : Kd.C k79 w A0_7 l0_7.length l0_7) (hc0_7 : l0_7.length ≤ c0_7) (h : laws_toStep.g k bf a0_0 a0_1 a0_2 a0_3 a0_4 a0_5 l0_6 l0_7 = some (r1, r2, r3, r4, r5, r6, r7, r8)) :
  Calls Try.prog 66 #[.agg #[.int .i64 a0_0, .int .i64 a0_1, .int .i64 a0_2, .int .i64 a0_3, .int .i64 a0_4, .int .i64 a0_5, .slice A0_6 l0_6.length c0_6, .slice A0_7 l0_7.length c0_7]] w fun e w' => ∃ v6_ v7_ : Value, e = .returned (.agg #[.int .i64 r1, .int .i64 r2, .int .i64 r3, .int .i64 r4, .int .i64 r5, .int .i64 r6, v6_, v7_]) ∧ Kd.R k50 50 w' w.heap.size (fun k_ => some k_ ≠ (v7_ : Value).ownBlock) v6_ r7 ∧ Kd.R k50 50 w' w.heap.size (fun k_ => some k_ ≠ (v6_ : Value).ownBlock) v7_ r8 ∧ Below w.heap.size w w' := by
 have hu79 := Try.underlying79
 have hu50 := Try.underlying50
 have hu77 := Try.underlying77
 have hu48 := Try.underlying48
 have HR0_6 := AM hr0_6
 have HC0_6 := AM hc0_6
 clear hr0_6 hc0_6
 have HR0_7 := AM hr0_7
 have HC0_7 := AM hc0_7
 clear hr0_7 hc0_7
 have HB := AM (Below.refl w.heap.size w)
 have H : ((laws_toVal.f a0_2 a0_3 a0_4).bind fun bt125 => ((bf l0_6).bind fun t128 => ((bf l0_7).bind fun t131 => (some (a0_0, a0_1, bt125.1, bt125.2.1, bt125.2.2, a0_5, t128, t131))))) = some (r1, r2, r3, r4, r5, r6, r7, r8) := h
 clear h
 obtain ⟨⟨t125, t126, t127⟩, A2, H⟩ := ZOB H; try dsimp only at H
 obtain ⟨t128, A3, H⟩ := ZOB H; try dsimp only at H
 obtain ⟨t131, A4, H⟩ := ZOB H; try dsimp only at H
 simp only [Option.some.injEq, Prod.mk.injEq] at H
 obtain ⟨rfl, rfl, rfl, rfl, rfl, rfl, rfl, rfl⟩ := H
 go_enter Try.func66, Try.ntmps66
 go_wp2_with (first | ((with_reducible refine gate_dst (N := 1) rfl ?_); refine ZX (N := 1) (cs := #[.int .i64 a0_0, .int .i64 a0_1, .int .i64 a0_2, .int .i64 a0_3, .int .i64 a0_4, .int .i64 a0_5, .slice A0_6 l0_6.length c0_6, .slice A0_7 l0_7.length c0_7]) (t := 79) ?_; intro gb122 hg w5 hbox hb; have BK122 := AM (hbox); have GW122 : Aside0 (w.heap.size ≤ gb122) := ZS hg; have GE122 : Aside0 (w.heap.size ≤ gb122) := ZS hg; replace HB := ZT HB hb; clear hb hbox hg) | ((with_reducible refine gate_dst (N := 2) rfl ?_); refine ZX (N := 2) (cs := #[.int .i64 0, .int .i64 0, .int .i64 0, .int .i64 0, .int .i64 0, .int .i64 0, .slice none 0 0, .slice none 0 0]) (t := 50) ?_; intro gb123 hg w6 hbox hb; have BK123 := AM (hbox); have GW123 : Aside0 (w.heap.size ≤ gb123) := ZS hg; have GE123 : Aside0 (w.heap.size ≤ gb123) := ZS hg; have NB122_123 : Aside0 (gb122 ≠ gb123) := ZN hg BK122; have NB123_122 : Aside0 (gb123 ≠ gb122) := ZM hg BK122; replace BK122 := ZW BK122 hb; replace HB := ZT HB hb; clear hb hbox hg) | ((with_reducible refine gate_dst (N := 3) rfl ?_); refine ZX (N := 3) (cs := #[.int .i64 0, .int .i64 0, .int .i64 0, .int .i64 0, .int .i64 0, .int .i64 0, .slice none 0 0, .slice none 0 0]) (t := 50) ?_; intro gb124 hg w7 hbox hb; have BK124 := AM (hbox); have GW124 : Aside0 (w.heap.size ≤ gb124) := ZS hg; have GE124 : Aside0 (w.heap.size ≤ gb124) := ZS hg; have NB122_124 : Aside0 (gb122 ≠ gb124) := ZN hg BK122; have NB124_122 : Aside0 (gb124 ≠ gb122) := ZM hg BK122; have NB123_124 : Aside0 (gb123 ≠ gb124) := ZN hg BK123; have NB124_123 : Aside0 (gb124 ≠ gb123) := ZM hg BK123; replace BK122 := ZW BK122 hb; replace BK123 := ZW BK123 hb; replace HB := ZT HB hb; clear hb hbox hg; have hnb8 := NB122_123.out; have hnc8 := NB123_122.out; have hnb9 := NB122_124.out; have hnc9 := NB124_122.out; have hcz10 := ZC8 w7 BK122; have hfz10 := ZF8 BK122; have hnb11 := NB124_123.out; have hnc11 := NB123_124.out; have hcz12 := ZC8 w7 BK124; have hfz12 := ZF8 BK124) | ((with_reducible refine gate_callee (f := 79) rfl ?_); refine ZGL (some 12) Try.func79 #[.agg #[.int .i64 a0_2, .int .i64 a0_3, .int .i64 a0_4]] ?_; (with_reducible refine (laws_toVal.calls a0_2 a0_3 a0_4 t125 t126 t127 _ A2.out).mono ?_); rintro e w13 ⟨rfl, hb⟩; refine ⟨_, rfl, ?_⟩; replace BK122 := ZV #[.int .i64 a0_0, .int .i64 a0_1, .int .i64 a0_2, .int .i64 a0_3, .int .i64 a0_4, .int .i64 a0_5, .slice A0_6 l0_6.length c0_6, .slice A0_7 l0_7.length c0_7] BK122 hb; replace BK123 := ZV #[.int .i64 0, .int .i64 0, .int .i64 0, .int .i64 0, .int .i64 0, .int .i64 0, .slice none 0 0, .slice none 0 0] BK123 hb; replace BK124 := ZV #[.int .i64 a0_0, .int .i64 a0_1, .int .i64 0, .int .i64 0, .int .i64 0, .int .i64 0, .slice none 0 0, .slice none 0 0] BK124 hb; replace HB := ZT HB hb; clear hb; have hcz14 := ZC8 w13 BK124; have hfz14 := ZF8 BK124; have hcz15 := ZC8 w13 BK122; have hfz15 := ZF8 BK122) | ((with_reducible refine gate_callee (f := 39) rfl ?_); refine ZGL (some 19) Try.func39 #[.slice A0_6 l0_6.length c0_6] ?_; (with_reducible refine (ihB _ _ l0_6 t128 _ ?side1 ?side2 A3.out).mono ?_); (case side1 => exact Kd.C_below HR0_6.out (ZB)); (case side2 => exact HC0_6.out); rintro e w16 ⟨v129, rfl, ho0, hb⟩; refine ⟨_, rfl, ?_⟩; have HO130 := AM (Kd.R_lower (Kd.R_newB (Kd.R_newB ho0 (g := gb123) (o := .cells #[.int .i64 0, .int .i64 0, .int .i64 0, .int .i64 0, .int .i64 0, .int .i64 0, .slice none 0 0, .slice none 0 0] 50 (0, 0)) (ZZ BK123.out)) (g := gb124) (o := .cells #[.int .i64 a0_0, .int .i64 a0_1, .int .i64 t125, .int .i64 t126, .int .i64 t127, .int .i64 a0_5, .slice none 0 0, .slice none 0 0] 50 (0, 0)) (ZZ BK124.out)) (below_size (ZB))); replace BK122 := ZV #[.int .i64 a0_0, .int .i64 a0_1, .int .i64 a0_2, .int .i64 a0_3, .int .i64 a0_4, .int .i64 a0_5, .slice A0_6 l0_6.length c0_6, .slice A0_7 l0_7.length c0_7] BK122 hb; replace BK123 := ZV #[.int .i64 0, .int .i64 0, .int .i64 0, .int .i64 0, .int .i64 0, .int .i64 0, .slice none 0 0, .slice none 0 0] BK123 hb; replace BK124 := ZV #[.int .i64 a0_0, .int .i64 a0_1, .int .i64 t125, .int .i64 t126, .int .i64 t127, .int .i64 a0_5, .slice none 0 0, .slice none 0 0] BK124 hb; replace HB := ZT HB hb; clear hb; (try clear ho0); obtain ⟨Ao17, co17, eo17⟩ := Kd.R_slice HO130.out; subst eo17; have hcz18 := ZC8 w16 BK124; have hfz18 := ZF8 BK124; have hcz19 := ZC8 w16 BK122; have hfz19 := ZF8 BK122) | ((with_reducible refine gate_callee (f := 39) rfl ?_); refine ZGL (some 23) Try.func39 #[.slice A0_7 l0_7.length c0_7] ?_; (with_reducible refine (ihB _ _ l0_7 t131 _ ?side1 ?side2 A4.out).mono ?_); (case side1 => exact Kd.C_below HR0_7.out (ZB)); (case side2 => exact HC0_7.out); rintro e w20 ⟨v132, rfl, ho0, hb⟩; refine ⟨_, rfl, ?_⟩; have HO133 := AM (Kd.R_lower (Kd.R_newB (Kd.R_newB (Kd.R_new' ho0 (Kd.R_lt (by (with_reducible repeat (first | apply Kd.R_alloc | apply Kd.R_drewN | apply Kd.R_drew)); exact (Kd.R_mono (Kd.R_far (p := ⟨gb124, 6, none⟩) (Kd.R_mono HO130.out (fun k_ hk => (⟨hk, hk.2⟩ : _ ∧ k_ ≠ gb124))) (fun _ hk => hk.2) (.slice Ao17 t128.length co17)) (fun _ h_ => h_.1))))) (g := gb123) (o := .cells #[.int .i64 0, .int .i64 0, .int .i64 0, .int .i64 0, .int .i64 0, .int .i64 0, .slice none 0 0, .slice none 0 0] 50 (0, 0)) (ZZ BK123.out)) (g := gb124) (o := .cells #[.int .i64 a0_0, .int .i64 a0_1, .int .i64 t125, .int .i64 t126, .int .i64 t127, .int .i64 a0_5, .slice Ao17 t128.length co17, .slice none 0 0] 50 (0, 0)) (ZZ BK124.out)) (below_size (ZB))); replace HO130 := AM (Kd.R_elder' (by (with_reducible repeat (first | apply Kd.R_alloc | apply Kd.R_drewN | apply Kd.R_drew)); exact (Kd.R_mono (Kd.R_far (p := ⟨gb124, 6, none⟩) (Kd.R_mono HO130.out (fun k_ hk => (⟨hk, hk.2⟩ : _ ∧ k_ ≠ gb124))) (fun _ hk => hk.2) (.slice Ao17 t128.length co17)) (fun _ h_ => h_.1))) (Kd.R_base ho0) hb); replace BK122 := ZV #[.int .i64 a0_0, .int .i64 a0_1, .int .i64 a0_2, .int .i64 a0_3, .int .i64 a0_4, .int .i64 a0_5, .slice A0_6 l0_6.length c0_6, .slice A0_7 l0_7.length c0_7] BK122 hb; replace BK123 := ZV #[.int .i64 0, .int .i64 0, .int .i64 0, .int .i64 0, .int .i64 0, .int .i64 0, .slice none 0 0, .slice none 0 0] BK123 hb; replace BK124 := ZV #[.int .i64 a0_0, .int .i64 a0_1, .int .i64 t125, .int .i64 t126, .int .i64 t127, .int .i64 a0_5, .slice Ao17 t128.length co17, .slice none 0 0] BK124 hb; replace HB := ZT HB hb; clear hb; (try clear ho0); obtain ⟨Ao21, co21, eo21⟩ := Kd.R_slice HO133.out; subst eo21; have hcz22 := ZC8 w20 BK124; have hfz22 := ZF8 BK124; have hcz23 := ZC8 w20 BK123; have hfz23 := ZF8 BK123))
 refine bodyPost_ret (results_cell_row rfl _ _ gb123 50 #[.int .i64 a0_0, .int .i64 a0_1, .int .i64 t125, .int .i64 t126, .int .i64 t127, .int .i64 a0_5, .slice Ao17 t128.length co17, .slice Ao21 t131.length co21] (0, 0) _ rfl (ZZ BK123.out) Try.underlying50 rfl (by kernel_rfl)) rfl ?_
 exact ⟨_, _, ZE, by (with_reducible repeat (first | apply Kd.R_alloc | apply Kd.R_drewN | apply Kd.R_drew)); exact Kd.R_mono (Kd.R_far (p := ⟨gb123, 7, none⟩) (Kd.R_far (p := ⟨gb123, 6, none⟩) (Kd.R_far (p := ⟨gb123, 5, none⟩) (Kd.R_far (p := ⟨gb123, 4, none⟩) (Kd.R_far (p := ⟨gb123, 3, none⟩) (Kd.R_far (p := ⟨gb123, 2, none⟩) (Kd.R_far (p := ⟨gb123, 1, none⟩) (Kd.R_far (p := ⟨gb123, 0, none⟩) (Kd.R_far (p := ⟨gb124, 7, none⟩) (Kd.R_mono (Kd.R_mono HO130.out (fun k_ hk => (⟨hk, hk.1.2⟩ : _ ∧ k_ ≠ gb124))) (fun k_ hk => (⟨hk, hk.1.1.1.2⟩ : _ ∧ k_ ≠ gb123))) (fun _ hk => hk.1.2) (.slice Ao21 t131.length co21)) (fun _ hk => hk.2) (.int .i64 a0_0)) (fun _ hk => hk.2) (.int .i64 a0_1)) (fun _ hk => hk.2) (.int .i64 t125)) (fun _ hk => hk.2) (.int .i64 t126)) (fun _ hk => hk.2) (.int .i64 t127)) (fun _ hk => hk.2) (.int .i64 a0_5)) (fun _ hk => hk.2) (.slice Ao17 t128.length co17)) (fun _ hk => hk.2) (.slice Ao21 t131.length co21)) (fun _ hk => hk.1.1.2), by (with_reducible repeat (first | apply Kd.R_alloc | apply Kd.R_drewN | apply Kd.R_drew)); exact Kd.R_mono (Kd.R_far (p := ⟨gb123, 7, none⟩) (Kd.R_far (p := ⟨gb123, 6, none⟩) (Kd.R_far (p := ⟨gb123, 5, none⟩) (Kd.R_far (p := ⟨gb123, 4, none⟩) (Kd.R_far (p := ⟨gb123, 3, none⟩) (Kd.R_far (p := ⟨gb123, 2, none⟩) (Kd.R_far (p := ⟨gb123, 1, none⟩) (Kd.R_far (p := ⟨gb123, 0, none⟩) (Kd.R_far (p := ⟨gb124, 7, none⟩) (Kd.R_mono (Kd.R_mono HO133.out (fun k_ hk => (⟨hk, hk.2⟩ : _ ∧ k_ ≠ gb124))) (fun k_ hk => (⟨hk, hk.1.1.2⟩ : _ ∧ k_ ≠ gb123))) (fun _ hk => hk.1.2) (.slice Ao21 t131.length co21)) (fun _ hk => hk.2) (.int .i64 a0_0)) (fun _ hk => hk.2) (.int .i64 a0_1)) (fun _ hk => hk.2) (.int .i64 t125)) (fun _ hk => hk.2) (.int .i64 t126)) (fun _ hk => hk.2) (.int .i64 t127)) (fun _ hk => hk.2) (.int .i64 a0_5)) (fun _ hk => hk.2) (.slice Ao17 t128.length co17)) (fun _ hk => hk.2) (.slice Ao21 t131.length co21)) (fun _ hk => hk.1.1.1.1.2), ZB⟩

/-! ### laws_toStepS: function 39 -/
mutual
def laws_toStepS.l0 : Nat → List (S79) → List (S50) → Int → Option ((List (S50)))
 | 0, _, _, _ => none
 | k + 1, x0, x3, x4 => if x4 < (x0.length : Int) then (if 0 ≤ x4 then ((laws_toStep.g k (laws_toStepS.f k) ((rd_T79 x0 x4).f0) ((rd_T79 x0 x4).f1) ((rd_T79 x0 x4).f2.f0) ((rd_T79 x0 x4).f2.f1) ((rd_T79 x0 x4).f2.f2) ((rd_T79 x0 x4).f3) ((rd_T79 x0 x4).f4) ((rd_T79 x0 x4).f5)).bind fun bt138 => (if x4 < (x3.length : Int) then (laws_toStepS.l0 k x0 (x3.set (x4 : Int).toNat (⟨bt138.1, bt138.2.1, (⟨bt138.2.2.1, bt138.2.2.2.1, bt138.2.2.2.2.1⟩ : S48), bt138.2.2.2.2.2.1, bt138.2.2.2.2.2.2.1, bt138.2.2.2.2.2.2.2⟩ : S50)) (wrap64 (x4 + 1))) else (none))) else (none)) else (some x3)
def laws_toStepS.f : Nat → List (S79) → Option ((List (S50)))
 | 0, _ => none
 | k + 1, l0 => if 0 ≤ (l0.length : Int) then (if ((l0.length : Int) : Int).toNat ≤ 2932031007402 then (laws_toStepS.l0 k l0 (List.replicate ((l0.length : Int) : Int).toNat z50) 0) else (none)) else (none)
end
theorem laws_toStep.calls_of {K : Nat} (ih : ∀ m, m < K → ∀ (A0 : Option Addr) (c0 : Nat) (l0 : List (S79)) (r : List (S50)) (w : World) (hr0 : Kd.C k79 w A0 l0.length l0) (hc0 : l0.length ≤ c0) (h : laws_toStepS.f m l0 = some r),
  Calls Try.prog 39 #[.slice A0 l0.length c0] w fun e w' => ∃ v0_ : Value, e = .returned (v0_) ∧ Kd.R k50 50 w' w.heap.size (fun _ => True) v0_ r ∧ Below w.heap.size w w') (k : Nat) (hk : k < K) (a0_0 : Int) (a0_1 : Int) (a0_2 : Int) (a0_3 : Int) (a0_4 : Int) (a0_5 : Int) (A0_6 : Option Addr) (c0_6 : Nat) (l0_6 : List (S79)) (A0_7 : Option Addr) (c0_7 : Nat) (l0_7 : List (S79)) (r1 : Int) (r2 : Int) (r3 : Int) (r4 : Int) (r5 : Int) (r6 : Int) (r7 : List (S50)) (r8 : List (S50)) (w : World) (hr0_6 : Kd.C k79 w A0_6 l0_6.length l0_6) (hc0_6 : l0_6.length ≤ c0_6) (hr0_7 : Kd.C k79 w A0_7 l0_7.length l0_7) (hc0_7 : l0_7.length ≤ c0_7) (h : laws_toStep.g k (laws_toStepS.f k) a0_0 a0_1 a0_2 a0_3 a0_4 a0_5 l0_6 l0_7 = some (r1, r2, r3, r4, r5, r6, r7, r8)) :
  Calls Try.prog 66 #[.agg #[.int .i64 a0_0, .int .i64 a0_1, .int .i64 a0_2, .int .i64 a0_3, .int .i64 a0_4, .int .i64 a0_5, .slice A0_6 l0_6.length c0_6, .slice A0_7 l0_7.length c0_7]] w fun e w' => ∃ v6_ v7_ : Value, e = .returned (.agg #[.int .i64 r1, .int .i64 r2, .int .i64 r3, .int .i64 r4, .int .i64 r5, .int .i64 r6, v6_, v7_]) ∧ Kd.R k50 50 w' w.heap.size (fun k_ => some k_ ≠ (v7_ : Value).ownBlock) v6_ r7 ∧ Kd.R k50 50 w' w.heap.size (fun k_ => some k_ ≠ (v6_ : Value).ownBlock) v7_ r8 ∧ Below w.heap.size w w' := laws_toStep.calls_g k (laws_toStepS.f k) (ih k hk) a0_0 a0_1 a0_2 a0_3 a0_4 a0_5 A0_6 c0_6 l0_6 A0_7 c0_7 l0_7 r1 r2 r3 r4 r5 r6 r7 r8 w hr0_6 hc0_6 hr0_7 hc0_7 h
theorem laws_toStepS.calls (k : Nat) : ∀ (A0 : Option Addr) (c0 : Nat) (l0 : List (S79)) (r : List (S50)) (w : World) (hr0 : Kd.C k79 w A0 l0.length l0) (hc0 : l0.length ≤ c0) (h : laws_toStepS.f k l0 = some r),
  Calls Try.prog 39 #[.slice A0 l0.length c0] w fun e w' => ∃ v0_ : Value, e = .returned (v0_) ∧ Kd.R k50 50 w' w.heap.size (fun _ => True) v0_ r ∧ Below w.heap.size w w' := by
 induction k using Nat.strongRecOn with
 | _ k ih =>
 intro A0 c0 l0 r w hr0 hc0 h
 cases k with
 | zero => exact absurd h (by simp [laws_toStepS.f])
 | succ k =>
 simp only [laws_toStepS.f] at h
 have hu79 := Try.underlying79
 have hu50 := Try.underlying50
 have HR0 := AM hr0
 have HC0 := AM hc0
 clear hr0 hc0
 have HB := AM (Below.refl w.heap.size w)
 have H : (if 0 ≤ (l0.length : Int) then (if ((l0.length : Int) : Int).toNat ≤ 2932031007402 then (laws_toStepS.l0 k l0 (List.replicate ((l0.length : Int) : Int).toNat z50) 0) else (none)) else (none)) = some r := h
 clear h
 by_cases c2 : 0 ≤ (l0.length : Int)
 ·(
 rw [if_pos c2] at H
 have c2b0 := eq_true c2
 have c2b1 := decide_eq_true c2
 clear c2
 by_cases c3 : ((l0.length : Int) : Int).toNat ≤ 2932031007402
 ·(
 rw [if_pos c3] at H
 have c3b0 := eq_true c3
 have c3b1 := decide_eq_true c3
 clear c3
 obtain ⟨y134, hy134⟩ : ∃ y_ : List (S50), y_ = (List.replicate ((l0.length : Int) : Int).toNat z50) := ⟨_, rfl⟩
 replace H : (laws_toStepS.l0 k l0 y134 0) = some r := by first | (rw [hy134]; with_reducible exact H) | (have H2_ := (Option.bind_some _ _).symm.trans H; rw [hy134]; with_reducible exact H2_) | (have H2_ := (Option.bind_some _ _).symm.trans H; with_reducible exact H2_) | with_reducible exact H | (rw [hy134]; exact H) | exact H
 have Ny134 := AM hy134
 clear hy134
 have H' := AM H
 clear H
 go_enter Try.func39, Try.ntmps39
 go_wp2_with (first | ((with_reducible refine gate_dst (N := 7) rfl ?_); refine Kd.R_make k50 _ 50 rfl (N := 7) rfl 30 _ _ rfl (l0.length : Int) rfl rfl Try.underlying30 (.agg #[(.int .i64 0), (.int .i64 0), (.int .i64 0), (.int .i64 0), (.int .i64 0), (.int .i64 0), (.slice none 0 0), (.slice none 0 0)]) 96 info50 rfl (by decide) (by omega) z50 (ok := fun _ => True) (okp := fun _ => True) (k50_mkM _ _ _ z50 (Kd.R_nil _ _ _ _ _) (Kd.R_nil _ _ _ _ _)) (fun _ hk => hk) trivial (ZD) (Nat.le_trans (Nat.mul_le_mul_right _ (ZD : (l0.length : Int).toNat ≤ 2932031007402)) (by omega)) (Below.refl _ _) (Nat.le_refl _) ?_; intro v135 w4 ho5 hb hg_ hnew_; clear hg_ hnew_; (first | rw [← Ny134.out] at ho5 | (simp only [Int.reduceToNat] at ho5; rw [← Ny134.out] at ho5)); have HO136 := AM (Kd.R_lower ho5 (below_size (ZB))); replace HB := ZT HB hb; clear hb ho5))
 go_loopg [4] k (fun kq v4 w' => ∃ (x3_1 : List (S50)) (x4_1 : Int), v4 = .int .i64 x4_1 ∧ Aside0 (laws_toStepS.l0 kq l0 x3_1 x4_1 = some r) ∧ Aside0 (kq ≤ k) ∧ Aside0 (Kd.R k50 50 w' w.heap.size (fun _ => True) v135 x3_1) ∧ Aside0 (Below w.heap.size w w'))
 case atStart => exact ⟨(y134), (0), (by first | rfl | (simp; done) | (simp [*]; done)), H', ⟨Nat.le_refl _⟩, ⟨ZR HO136.out⟩, ⟨ZB⟩⟩
 case round => (
 clear H'
 try clear c2
 try clear c2b0
 try clear c2b1
 try clear p2
 try clear c3
 try clear c3b0
 try clear c3b1
 obtain ⟨x3_1, x4_1, rfl, HA, HK1, HO_3, HB⟩ := hrel
 cases gk with
 | zero => exact absurd HA.out (by simp [laws_toStepS.l0])
 | succ k1 =>
  have H := HA.out
  clear HA
  simp only [laws_toStepS.l0] at H
  by_cases c6 : x4_1 < (l0.length : Int)
  ·(
  rw [if_pos c6] at H
  have c6b0 := decide_eq_true c6
  clear c6
  by_cases c7 : 0 ≤ x4_1
  ·(
  rw [if_pos c7] at H
  have c7b0 := decide_eq_true c7
  clear c7
  obtain ⟨⟨t138, t139, t140, t141, t142, t143, t144, t147⟩, A8, H⟩ := ZOB H; try dsimp only at H
  by_cases c9 : x4_1 < (x3_1.length : Int)
  ·(
  rw [if_pos c9] at H
  have c9b0 := decide_eq_true c9
  clear c9
  obtain ⟨y150, hy150⟩ : ∃ y_ : List (S50), y_ = (x3_1.set (x4_1 : Int).toNat (⟨t138, t139, (⟨t140, t141, t142⟩ : S48), t143, t144, t147⟩ : S50)) := ⟨_, rfl⟩
  replace H : (laws_toStepS.l0 k1 l0 y150 (wrap64 (x4_1 + 1))) = some r := by first | (rw [hy150]; with_reducible exact H) | (have H2_ := (Option.bind_some _ _).symm.trans H; rw [hy150]; with_reducible exact H2_) | (have H2_ := (Option.bind_some _ _).symm.trans H; with_reducible exact H2_) | with_reducible exact H | (rw [hy150]; exact H) | exact H
  have Ny150 := AM hy150
  clear hy150
  have H' := AM H
  clear H
  have p137 : 0 ≤ (x4_1 : Int) := ZD
  have q137 : x4_1 < (l0.length : Int) := ZD
  obtain ⟨ad137, A137_6, c137_6, A137_7, c137_7, e137, hx137_0, hx137_1, hx137_2, hx137_3, hx137_4, hx137_5, hx137_6, hx137_7, hl137_6, hi137_6, hl137_7, hi137_7⟩ := at_T79 HR0.out x4_1 p137 q137
  cases e137
  replace hx137_0 := ZHX HB hx137_0
  replace hx137_1 := ZHX HB hx137_1
  replace hx137_2 := ZHX HB hx137_2
  replace hx137_3 := ZHX HB hx137_3
  replace hx137_4 := ZHX HB hx137_4
  replace hx137_5 := ZHX HB hx137_5
  replace hx137_6 := ZHX HB hx137_6
  replace hx137_7 := ZHX HB hx137_7
  have HR137_6 := AM hi137_6
  have HC137_6 := AM hl137_6
  clear hi137_6 hl137_6
  have HR137_7 := AM hi137_7
  have HC137_7 := AM hl137_7
  clear hi137_7 hl137_7
  replace p137 := eq_true p137
  replace q137 := eq_true q137
  go_wp2_with (first | ((with_reducible refine gate_callee (f := 66) rfl ?_); refine ZGL (some 20) Try.func66 #[.agg #[.int .i64 ((rd_T79 l0 x4_1).f0), .int .i64 ((rd_T79 l0 x4_1).f1), .int .i64 ((rd_T79 l0 x4_1).f2.f0), .int .i64 ((rd_T79 l0 x4_1).f2.f1), .int .i64 ((rd_T79 l0 x4_1).f2.f2), .int .i64 ((rd_T79 l0 x4_1).f3), .slice A137_6 ((rd_T79 l0 x4_1).f4).length c137_6, .slice A137_7 ((rd_T79 l0 x4_1).f5).length c137_7]] ?_; (with_reducible refine ((laws_toStep.calls_of ih) k1 (by have := HK1.out; omega) ((rd_T79 l0 x4_1).f0) ((rd_T79 l0 x4_1).f1) ((rd_T79 l0 x4_1).f2.f0) ((rd_T79 l0 x4_1).f2.f1) ((rd_T79 l0 x4_1).f2.f2) ((rd_T79 l0 x4_1).f3) _ _ ((rd_T79 l0 x4_1).f4) _ _ ((rd_T79 l0 x4_1).f5) t138 t139 t140 t141 t142 t143 t144 t147 _ ?side1 ?side2 ?side3 ?side4 A8.out).mono ?_); (case side1 => exact ZQ (Kd.C_below HR137_6.out HB.out)); (case side2 => exact HC137_6.out); (case side3 => exact ZQ (Kd.C_below HR137_7.out HB.out)); (case side4 => exact HC137_7.out); rintro e w11 ⟨v145, v148, rfl, ho0, ho1, hb⟩; refine ⟨_, rfl, ?_⟩; have hst0_ := Kd.R_st ho0; have hst1_ := Kd.R_st ho1; have HO146 := AM (Kd.R_lower (Kd.R_new' ho0 (Kd.R_lt (ZR HO_3.out))) (below_size (ZB))); have HO149 := AM (Kd.R_lower (Kd.R_new' ho1 (Kd.R_lt (ZR HO_3.out))) (below_size (ZB))); replace HO_3 := AM (Kd.R_mono (Kd.R_told (Kd.R_told (Kd.R_old (ZR HO_3.out) hb) (Kd.R_base ho0)) (Kd.R_base ho1)) (fun _ h_ => h_.1)); replace HB := ZT HB hb; clear hb; (try clear ho0); (try clear ho1); have p10 : 0 ≤ (x4_1 : Int) := ZD; have q10 : (x4_1 : Int) < ((x3_1.length : Int) : Int) := ZD; obtain ⟨go10, co10, eo10, gb10, gl10, cl10, HG10⟩ := Kd.R_form HO_3.out (by omega); (first | cases eo10 | (injection eo10 with ea_ en_ ec_; (first | subst ea_ | (injection ea_ with ea_; subst ea_)); subst ec_; clear en_)); have GB10 := AM gb10; have GG10 := AM HG10; clear gb10 gl10 HG10; obtain ⟨ce10, hcl10, hM10, hcc10, hfr10⟩ := Kd.R_elem HO_3.out z50 (x4_1 : Int) p10 q10; obtain ⟨ve10_6, ve10_7, rfl, ge10_6, ge10_7⟩ := k50_openM hM10; have hx10_0 : w11.cell? ⟨go10, (x4_1 : Int).toNat * 8, none⟩ = some (.int .i64 ((rd_T50 x3_1 x4_1).f0)) := hcc10 0 _ rfl; have hx10_1 : w11.cell? ⟨go10, (x4_1 : Int).toNat * 8 + 1, none⟩ = some (.int .i64 ((rd_T50 x3_1 x4_1).f1)) := hcc10 1 _ rfl; have hx10_2 : w11.cell? ⟨go10, (x4_1 : Int).toNat * 8 + 2, none⟩ = some (.int .i64 ((rd_T50 x3_1 x4_1).f2.f0)) := hcc10 2 _ rfl; have hx10_3 : w11.cell? ⟨go10, (x4_1 : Int).toNat * 8 + 3, none⟩ = some (.int .i64 ((rd_T50 x3_1 x4_1).f2.f1)) := hcc10 3 _ rfl; have hx10_4 : w11.cell? ⟨go10, (x4_1 : Int).toNat * 8 + 4, none⟩ = some (.int .i64 ((rd_T50 x3_1 x4_1).f2.f2)) := hcc10 4 _ rfl; have hx10_5 : w11.cell? ⟨go10, (x4_1 : Int).toNat * 8 + 5, none⟩ = some (.int .i64 ((rd_T50 x3_1 x4_1).f3)) := hcc10 5 _ rfl; have hx10_6 : w11.cell? ⟨go10, (x4_1 : Int).toNat * 8 + 6, none⟩ = some (ve10_6) := hcc10 6 _ rfl; have hx10_7 : w11.cell? ⟨go10, (x4_1 : Int).toNat * 8 + 7, none⟩ = some (ve10_7) := hcc10 7 _ rfl; have hf10_0 : w11.frozen? ⟨go10, (x4_1 : Int).toNat * 8, none⟩ = false := hfr10 0; have hf10_1 : w11.frozen? ⟨go10, (x4_1 : Int).toNat * 8 + 1, none⟩ = false := hfr10 1; have hf10_2 : w11.frozen? ⟨go10, (x4_1 : Int).toNat * 8 + 2, none⟩ = false := hfr10 2; have hf10_3 : w11.frozen? ⟨go10, (x4_1 : Int).toNat * 8 + 3, none⟩ = false := hfr10 3; have hf10_4 : w11.frozen? ⟨go10, (x4_1 : Int).toNat * 8 + 4, none⟩ = false := hfr10 4; have hf10_5 : w11.frozen? ⟨go10, (x4_1 : Int).toNat * 8 + 5, none⟩ = false := hfr10 5; have hf10_6 : w11.frozen? ⟨go10, (x4_1 : Int).toNat * 8 + 6, none⟩ = false := hfr10 6; have hf10_7 : w11.frozen? ⟨go10, (x4_1 : Int).toNat * 8 + 7, none⟩ = false := hfr10 7; clear hcl10 hcc10 hfr10 hM10; replace p10 := eq_true p10; replace q10 := eq_true q10; have n_ := AM (Kd.R_mono (ok' := (fun k_ => some k_ ≠ (v145 : Value).ownBlock ∧ some k_ ≠ (v148 : Value).ownBlock)) HO_3.out (fun k_ hk => ⟨hk.1.2, hk.2⟩)); clear HO_3; have HO_3 := n_; clear n_; have HX12 := AM (show Kd.R k50 50 w11 w.heap.size (fun _ => True) (.slice (some ⟨go10, 0, none⟩) x3_1.length co10) x3_1 from (ZR (Kd.R_mono HO_3.out (fun _ hk => trivial)))); obtain ⟨ce12, hcl12, hM12, hcc12, hfr12⟩ := Kd.R_elem HX12.out z50 (x4_1 : Int) (ZD) (by have h_ : (x4_1 : Int) < ((x3_1.length : Int) : Int) := ZD; first | exact h_ | (have e_ := (Kd.R_reads' HO_3.out).1; omega) | simpa using h_); obtain ⟨ve12_6, ve12_7, rfl, ge12_6, ge12_7⟩ := k50_openM hM12; have HP12 := Kd.R_seg HX12.out (x4_1 : Int) (ZD) (by have h_ : (x4_1 : Int) < ((x3_1.length : Int) : Int) := ZD; first | exact h_ | (have e_ := (Kd.R_reads' HO_3.out).1; omega) | simpa using h_) (seg := [.int .i64 t138, .int .i64 t139, .int .i64 t140, .int .i64 t141, .int .i64 t142, .int .i64 t143, v145, v148]) (j := 0) hcl12 hcc12 (show 8 ≤ 8 from by decide) (x' := (⟨t138, t139, (⟨t140, t141, t142⟩ : S48), t143, t144, t147⟩ : S50)) (k50_mkM _ _ _ (⟨t138, t139, (⟨t140, t141, t142⟩ : S48), t143, t144, t147⟩ : S50) (Kd.R_mono (HO146.out) (fun k_ hk => ⟨trivial, fun e_ => (hk.2) (by rw [e_]; rfl)⟩)) (Kd.R_mono (HO149.out) (fun k_ hk => ⟨trivial, fun e_ => (hk.2) (by rw [e_]; rfl)⟩))) (fun _ hk => hk); have hx12_0 := hcc12 0 _ rfl; (try simp only [show (k50).sz = 8 from rfl, Nat.mul_one, Nat.add_zero] at hx12_0); have hf12_0 := hfr12 0; (try simp only [show (k50).sz = 8 from rfl, Nat.mul_one, Nat.add_zero] at hf12_0); have hx12_1 := hcc12 1 _ rfl; (try simp only [show (k50).sz = 8 from rfl, Nat.mul_one, Nat.add_zero] at hx12_1); have hf12_1 := hfr12 1; (try simp only [show (k50).sz = 8 from rfl, Nat.mul_one, Nat.add_zero] at hf12_1); have hx12_2 := hcc12 2 _ rfl; (try simp only [show (k50).sz = 8 from rfl, Nat.mul_one, Nat.add_zero] at hx12_2); have hf12_2 := hfr12 2; (try simp only [show (k50).sz = 8 from rfl, Nat.mul_one, Nat.add_zero] at hf12_2); have hx12_3 := hcc12 3 _ rfl; (try simp only [show (k50).sz = 8 from rfl, Nat.mul_one, Nat.add_zero] at hx12_3); have hf12_3 := hfr12 3; (try simp only [show (k50).sz = 8 from rfl, Nat.mul_one, Nat.add_zero] at hf12_3); have hx12_4 := hcc12 4 _ rfl; (try simp only [show (k50).sz = 8 from rfl, Nat.mul_one, Nat.add_zero] at hx12_4); have hf12_4 := hfr12 4; (try simp only [show (k50).sz = 8 from rfl, Nat.mul_one, Nat.add_zero] at hf12_4); have hx12_5 := hcc12 5 _ rfl; (try simp only [show (k50).sz = 8 from rfl, Nat.mul_one, Nat.add_zero] at hx12_5); have hf12_5 := hfr12 5; (try simp only [show (k50).sz = 8 from rfl, Nat.mul_one, Nat.add_zero] at hf12_5); have hx12_6 := hcc12 6 _ rfl; (try simp only [show (k50).sz = 8 from rfl, Nat.mul_one, Nat.add_zero] at hx12_6); have hf12_6 := hfr12 6; (try simp only [show (k50).sz = 8 from rfl, Nat.mul_one, Nat.add_zero] at hf12_6); have hx12_7 := hcc12 7 _ rfl; (try simp only [show (k50).sz = 8 from rfl, Nat.mul_one, Nat.add_zero] at hx12_7); have hf12_7 := hfr12 7; (try simp only [show (k50).sz = 8 from rfl, Nat.mul_one, Nat.add_zero] at hf12_7); clear hcl12 hcc12 hfr12 hM12) | ((with_reducible refine gate_store (t := 50) (p := 21) rfl ?_); refine store_event (t := 50) (p := 21) (v := ?vo_w13) (w1 := ((((((((w11.setCell ⟨go10, (x4_1 : Int).toNat * 8, none⟩ (.int .i64 t138)).setCell ⟨go10, (x4_1 : Int).toNat * 8 + 1, none⟩ (.int .i64 t139)).setCell ⟨go10, (x4_1 : Int).toNat * 8 + 2, none⟩ (.int .i64 t140)).setCell ⟨go10, (x4_1 : Int).toNat * 8 + 3, none⟩ (.int .i64 t141)).setCell ⟨go10, (x4_1 : Int).toNat * 8 + 4, none⟩ (.int .i64 t142)).setCell ⟨go10, (x4_1 : Int).toNat * 8 + 5, none⟩ (.int .i64 t143)).setCell ⟨go10, (x4_1 : Int).toNat * 8 + 6, none⟩ (v145)).setCell ⟨go10, (x4_1 : Int).toNat * 8 + 7, none⟩ (v148))) ?hg ?ho ?hn ?hr ?_; (case ho => rfl); (case hg => rfl); (case hn => rfl); (case hr => first | (go_simp; done) | (go_simp; rfl)); intro w13 hw; have hg : w11.grownBy w13 (some go10) := (by rw [hw]; exact HP12.2); have hp_ : Kd.R k50 50 w13 w.heap.size (fun _ => True) (.slice (some ⟨go10, 0, none⟩) x3_1.length co10) y150 := (by rw [hw, Ny150.out]; exact HP12.1); clear HP12; have n0_ := AM (hp_); have n1_ := AM ((by rw [hw]; exact below_set (below_set (below_set (below_set (below_set (below_set (below_set (below_set (HB.out) GB10.out) GB10.out) GB10.out) GB10.out) GB10.out) GB10.out) GB10.out) GB10.out : Below w.heap.size w w13)); clear HO_3 HB HO146 HO149; have HO_3 := n0_; have HB := n1_; clear n0_ n1_ hg hw hp_))
  go_roundg k1
  case measure => have := HK1.out; omega
  case rel => exact ⟨(y150), (wrap64 (x4_1 + 1)), (by first | rfl | (simp; done) | (simp [*]; done)), H', ⟨by have := HK1.out; omega⟩, ⟨ZR HO_3.out⟩, ⟨ZB⟩⟩)
  ·(
  rw [if_neg c9] at H
  exact absurd H (by simp)))
  ·(
  rw [if_neg c7] at H
  exact absurd H (by simp)))
  ·(
  rw [if_neg c6] at H
  have c6b0 := decide_eq_false c6
  clear c6
  obtain rfl := Option.some.inj H
  go_wp2
  go_ret
  exact ⟨_, ZE, by (with_reducible repeat (first | apply Kd.R_alloc | apply Kd.R_drewN | apply Kd.R_drew)); exact HO_3.out, ZB⟩)))
 ·(
 rw [if_neg c3] at H
 exact absurd H (by simp)))
 ·(
 rw [if_neg c2] at H
 exact absurd H (by simp))

def laws_toStep.f (k : Nat) := laws_toStep.g k (laws_toStepS.f k)
theorem laws_toStep.calls (k : Nat) (a0_0 : Int) (a0_1 : Int) (a0_2 : Int) (a0_3 : Int) (a0_4 : Int) (a0_5 : Int) (A0_6 : Option Addr) (c0_6 : Nat) (l0_6 : List (S79)) (A0_7 : Option Addr) (c0_7 : Nat) (l0_7 : List (S79)) (r1 : Int) (r2 : Int) (r3 : Int) (r4 : Int) (r5 : Int) (r6 : Int) (r7 : List (S50)) (r8 : List (S50)) (w : World) (hr0_6 : Kd.C k79 w A0_6 l0_6.length l0_6) (hc0_6 : l0_6.length ≤ c0_6) (hr0_7 : Kd.C k79 w A0_7 l0_7.length l0_7) (hc0_7 : l0_7.length ≤ c0_7) (h : laws_toStep.f k a0_0 a0_1 a0_2 a0_3 a0_4 a0_5 l0_6 l0_7 = some (r1, r2, r3, r4, r5, r6, r7, r8)) :
  Calls Try.prog 66 #[.agg #[.int .i64 a0_0, .int .i64 a0_1, .int .i64 a0_2, .int .i64 a0_3, .int .i64 a0_4, .int .i64 a0_5, .slice A0_6 l0_6.length c0_6, .slice A0_7 l0_7.length c0_7]] w fun e w' => ∃ v6_ v7_ : Value, e = .returned (.agg #[.int .i64 r1, .int .i64 r2, .int .i64 r3, .int .i64 r4, .int .i64 r5, .int .i64 r6, v6_, v7_]) ∧ Kd.R k50 50 w' w.heap.size (fun k_ => some k_ ≠ (v7_ : Value).ownBlock) v6_ r7 ∧ Kd.R k50 50 w' w.heap.size (fun k_ => some k_ ≠ (v6_ : Value).ownBlock) v7_ r8 ∧ Below w.heap.size w w' := laws_toStep.calls_g k (laws_toStepS.f k) (laws_toStepS.calls k) a0_0 a0_1 a0_2 a0_3 a0_4 a0_5 A0_6 c0_6 l0_6 A0_7 c0_7 l0_7 r1 r2 r3 r4 r5 r6 r7 r8 w hr0_6 hc0_6 hr0_7 hc0_7 h

/-! ### laws_toProg: function 10 -/
def laws_toProg.f (k : Nat) (l0_0 : List (S83)) (l0_1 : List (S79)) : Option ((List (S60)) × (List (S50))) := (laws_toLabelS.f k l0_0).bind fun t154 => ((laws_toStepS.f k l0_1).bind fun t157 => (some (t154, t157)))
theorem laws_toProg.calls (k : Nat) (A0_0 : Option Addr) (c0_0 : Nat) (l0_0 : List (S83)) (A0_1 : Option Addr) (c0_1 : Nat) (l0_1 : List (S79)) (r1 : List (S60)) (r2 : List (S50)) (w : World) (hr0_0 : Kd.C k83 w A0_0 l0_0.length l0_0) (hc0_0 : l0_0.length ≤ c0_0) (hr0_1 : Kd.C k79 w A0_1 l0_1.length l0_1) (hc0_1 : l0_1.length ≤ c0_1) (h : laws_toProg.f k l0_0 l0_1 = some (r1, r2)) :
  Calls Try.prog 10 #[.agg #[.slice A0_0 l0_0.length c0_0, .slice A0_1 l0_1.length c0_1]] w fun e w' => ∃ v0_ v1_ : Value, e = .returned (.agg #[v0_, v1_]) ∧ Kd.R k60 60 w' w.heap.size (fun _ => True) v0_ r1 ∧ Kd.R k50 50 w' w.heap.size (fun _ => True) v1_ r2 ∧ Below w.heap.size w w' := by
 have hu25 := Try.underlying25
 have hu32 := Try.underlying32
 have HR0_0 := AM hr0_0
 have HC0_0 := AM hc0_0
 clear hr0_0 hc0_0
 have HR0_1 := AM hr0_1
 have HC0_1 := AM hc0_1
 clear hr0_1 hc0_1
 have HB := AM (Below.refl w.heap.size w)
 have H := h
 unfold laws_toProg.f at H
 clear h
 obtain ⟨t154, A2, H⟩ := ZOB H; try dsimp only at H
 obtain ⟨t157, A3, H⟩ := ZOB H; try dsimp only at H
 simp only [Option.some.injEq, Prod.mk.injEq] at H
 obtain ⟨rfl, rfl⟩ := H
 go_enter Try.func10, Try.ntmps10
 go_wp2_with (first | ((with_reducible refine gate_dst (N := 1) rfl ?_); refine ZX (N := 1) (cs := #[.slice A0_0 l0_0.length c0_0, .slice A0_1 l0_1.length c0_1]) (t := 25) ?_; intro gb151 hg w4 hbox hb; have BK151 := AM (hbox); have GW151 : Aside0 (w.heap.size ≤ gb151) := ZS hg; have GE151 : Aside0 (w.heap.size ≤ gb151) := ZS hg; replace HB := ZT HB hb; clear hb hbox hg) | ((with_reducible refine gate_dst (N := 2) rfl ?_); refine ZX (N := 2) (cs := #[.slice none 0 0, .slice none 0 0]) (t := 32) ?_; intro gb152 hg w5 hbox hb; have BK152 := AM (hbox); have GW152 : Aside0 (w.heap.size ≤ gb152) := ZS hg; have GE152 : Aside0 (w.heap.size ≤ gb152) := ZS hg; have NB151_152 : Aside0 (gb151 ≠ gb152) := ZN hg BK151; have NB152_151 : Aside0 (gb152 ≠ gb151) := ZM hg BK151; replace BK151 := ZW BK151 hb; replace HB := ZT HB hb; clear hb hbox hg) | ((with_reducible refine gate_dst (N := 3) rfl ?_); refine ZX (N := 3) (cs := #[.slice none 0 0, .slice none 0 0]) (t := 32) ?_; intro gb153 hg w6 hbox hb; have BK153 := AM (hbox); have GW153 : Aside0 (w.heap.size ≤ gb153) := ZS hg; have GE153 : Aside0 (w.heap.size ≤ gb153) := ZS hg; have NB151_153 : Aside0 (gb151 ≠ gb153) := ZN hg BK151; have NB153_151 : Aside0 (gb153 ≠ gb151) := ZM hg BK151; have NB152_153 : Aside0 (gb152 ≠ gb153) := ZN hg BK152; have NB153_152 : Aside0 (gb153 ≠ gb152) := ZM hg BK152; replace BK151 := ZW BK151 hb; replace BK152 := ZW BK152 hb; replace HB := ZT HB hb; clear hb hbox hg; have hnb7 := NB151_152.out; have hnc7 := NB152_151.out; have hnb8 := NB151_153.out; have hnc8 := NB153_151.out; have hcz9 := ZC2 w6 BK151; have hfz9 := ZF2 BK151) | ((with_reducible refine gate_callee (f := 38) rfl ?_); refine ZGL (some 6) Try.func38 #[.slice A0_0 l0_0.length c0_0] ?_; (with_reducible refine (laws_toLabelS.calls k _ _ l0_0 t154 _ ?side1 ?side2 A2.out).mono ?_); (case side1 => exact ZQ (Kd.C_below HR0_0.out HB.out)); (case side2 => exact HC0_0.out); rintro e w10 ⟨v155, rfl, ho0, hb⟩; refine ⟨_, rfl, ?_⟩; have HO156 := AM (Kd.R_lower ho0 (below_size (ZB))); replace BK151 := ZW BK151 hb; replace BK152 := ZW BK152 hb; replace BK153 := ZW BK153 hb; replace HB := ZT HB hb; clear hb; (try clear ho0); obtain ⟨Ao11, co11, eo11⟩ := Kd.R_slice HO156.out; subst eo11; have hnb12 := NB153_152.out; have hnc12 := NB152_153.out; have hcz13 := ZC2 w10 BK153; have hfz13 := ZF2 BK153; have hcz14 := ZC2 w10 BK151; have hfz14 := ZF2 BK151) | ((with_reducible refine gate_callee (f := 39) rfl ?_); refine ZGL (some 10) Try.func39 #[.slice A0_1 l0_1.length c0_1] ?_; (with_reducible refine (laws_toStepS.calls k _ _ l0_1 t157 _ ?side1 ?side2 A3.out).mono ?_); (case side1 => exact Kd.C_below HR0_1.out (ZB)); (case side2 => exact HC0_1.out); rintro e w15 ⟨v158, rfl, ho0, hb⟩; refine ⟨_, rfl, ?_⟩; have HO159 := AM (Kd.R_lower ho0 (below_size (ZB))); replace HO156 := AM (Kd.R_below (ZR ((Kd.R_mono (Kd.R_far (p := ⟨gb153, 0, none⟩) (Kd.R_types HO156.out BK153.out (by decide)) (fun _ hk => hk.2) (.slice Ao11 t154.length co11)) (fun _ h_ => h_.1)))) hb); replace BK151 := ZV #[.slice A0_0 l0_0.length c0_0, .slice A0_1 l0_1.length c0_1] BK151 hb; replace BK152 := ZV #[.slice none 0 0, .slice none 0 0] BK152 hb; replace BK153 := ZV #[.slice Ao11 t154.length co11, .slice none 0 0] BK153 hb; replace HB := ZT HB hb; clear hb; (try clear ho0); obtain ⟨Ao16, co16, eo16⟩ := Kd.R_slice HO159.out; subst eo16; have hcz17 := ZC2 w15 BK153; have hfz17 := ZF2 BK153; have hcz18 := ZC2 w15 BK152; have hfz18 := ZF2 BK152))
 refine bodyPost_ret (results_cell_row rfl _ _ gb152 32 #[.slice Ao11 t154.length co11, .slice Ao16 t157.length co16] (0, 0) _ rfl (ZZ BK152.out) Try.underlying32 rfl (by kernel_rfl)) rfl ?_
 exact ⟨_, _, ZE, by (with_reducible repeat (first | apply Kd.R_alloc | apply Kd.R_drewN | apply Kd.R_drew)); exact Kd.R_mono (Kd.R_far (p := ⟨gb152, 1, none⟩) (Kd.R_far (p := ⟨gb152, 0, none⟩) (Kd.R_far (p := ⟨gb153, 1, none⟩) (Kd.R_types (Kd.R_types HO156.out BK153.out (by decide)) BK152.out (by decide)) (fun _ hk => hk.1.2) (.slice Ao16 t157.length co16)) (fun _ hk => hk.2) (.slice Ao11 t154.length co11)) (fun _ hk => hk.2) (.slice Ao16 t157.length co16)) (fun _ hk => trivial), by (with_reducible repeat (first | apply Kd.R_alloc | apply Kd.R_drewN | apply Kd.R_drew)); exact Kd.R_mono (Kd.R_far (p := ⟨gb152, 1, none⟩) (Kd.R_far (p := ⟨gb152, 0, none⟩) (Kd.R_far (p := ⟨gb153, 1, none⟩) (Kd.R_types (Kd.R_types HO159.out BK153.out (by decide)) BK152.out (by decide)) (fun _ hk => hk.1.2) (.slice Ao16 t157.length co16)) (fun _ hk => hk.2) (.slice Ao11 t154.length co11)) (fun _ hk => hk.2) (.slice Ao16 t157.length co16)) (fun _ hk => trivial), ZB⟩

/-! ### laws_eqLabel: function 49 -/
def laws_eqLabel.f (a0_0 : Int) (a0_1 : Int) (a1_0 : Int) (a1_1 : Int) : Option (Bool) := if a0_0 = a1_0 then (if a0_1 = a1_1 then (some true) else (some false)) else (some false)
theorem laws_eqLabel.calls (a0_0 : Int) (a0_1 : Int) (a1_0 : Int) (a1_1 : Int) (r : Bool) (w : World) (h : laws_eqLabel.f a0_0 a0_1 a1_0 a1_1 = some r) :
  Calls Try.prog 49 #[.agg #[.int .i64 a0_0, .int .i64 a0_1], .agg #[.int .i64 a1_0, .int .i64 a1_1]] w fun e w' => e = .returned (.bool r) ∧ Below w.heap.size w w' := by
 have hu60 := Try.underlying60
 have HB := AM (Below.refl w.heap.size w)
 have H := h
 unfold laws_eqLabel.f at H
 clear h
 by_cases c3 : a0_0 = a1_0
 focus (
 rw [if_pos c3] at H
 have c3b0 := beq_iff_eq.mpr c3
 have c3b1 := bne_eq_false_iff_eq.mpr c3
 clear c3
 by_cases c4 : a0_1 = a1_1
 focus (
 rw [if_pos c4] at H
 have c4b0 := beq_iff_eq.mpr c4
 have c4b1 := bne_eq_false_iff_eq.mpr c4
 clear c4
 obtain rfl := Option.some.inj H
 have tag0_ : Aside0 True := ⟨trivial⟩)
 rotate_left
 focus (
 rw [if_neg c4] at H
 have c4b0 := beq_eq_false_iff_ne.mpr c4
 have c4b1 := bne_iff_ne.mpr c4
 obtain rfl := Option.some.inj H
 have tag1_ : Aside0 True := ⟨trivial⟩)
 rotate_left)
 rotate_left 2
 focus (
 rw [if_neg c3] at H
 have c3b0 := beq_eq_false_iff_ne.mpr c3
 have c3b1 := bne_iff_ne.mpr c3
 obtain rfl := Option.some.inj H
 have tag2_ : Aside0 True := ⟨trivial⟩)
 rotate_left
 all_goals (
 go_enter Try.func49, Try.ntmps49
 go_wp2_with (first | ((with_reducible refine gate_dst (N := 2) rfl ?_); refine ZX (N := 2) (cs := #[.int .i64 a0_0, .int .i64 a0_1]) (t := 60) ?_; intro gbq0 hg wq0 hbox hb; have BKq0 := AM (hbox); have GWq0 : Aside0 (w.heap.size ≤ gbq0) := ZS hg; have GEq0 : Aside0 (w.heap.size ≤ gbq0) := ZS hg; replace HB := ZT HB hb; clear hb hbox hg) | ((with_reducible refine gate_dst (N := 3) rfl ?_); refine ZX (N := 3) (cs := #[.int .i64 a1_0, .int .i64 a1_1]) (t := 60) ?_; intro gbq1 hg wq1 hbox hb; have BKq1 := AM (hbox); have GWq1 : Aside0 (w.heap.size ≤ gbq1) := ZS hg; have GEq1 : Aside0 (w.heap.size ≤ gbq1) := ZS hg; have NBq0_161 : Aside0 (gbq0 ≠ gbq1) := ZN hg BKq0; have NBq1_160 : Aside0 (gbq1 ≠ gbq0) := ZM hg BKq0; replace BKq0 := ZW BKq0 hb; replace HB := ZT HB hb; clear hb hbox hg; have hnbq0 := NBq0_161.out; have hncq0 := NBq1_160.out; have hczq0 := ZC2 wq1 BKq0; have hfzq0 := ZF2 BKq0; have hczq1 := ZC2 wq1 BKq1; have hfzq1 := ZF2 BKq1))
 go_ret
 exact ⟨ZE, ZB⟩)

end Go.Proofs.Ytaflodibibbakaa.B
