/- Go functions as Lean functions, and for each its contract; written by wip/tools/pr.py over the kit's print. -/
import Derived.Test.YtfcmckomagaiiaaDoorAx0
import Derived.Test.YtfcmckomagaiiaaDoorAx5
namespace Go.Proofs.YtfcmckomagaiiaaDoor.A
open Go.RowKit Go.Proofs.YtfcmckomagaiiaaDoorW.PrintWords Go.Proofs.YtfcmckomagaiiaaDoorW.PrintLast Go.Proofs.YtfcmckomagaiiaaDoorW.PrintMore
attribute [local go_sem] max2_int min2_int max_two min_two max_three min_three max_four min_four
set_option linter.unusedVariables false
set_option linter.unusedSimpArgs false
set_option maxHeartbeats 8000000
set_option maxRecDepth 100000

/-! ### spec_l2All: function 81 -/
mutual
def spec_l2All.l0 : Nat → List (S71) → List (S71) → Int → Option ((List (S71)))
 | 0, _, _, _ => none
 | k + 1, x0, x3, x4 => if x4 < (x0.length : Int) then (if 0 ≤ x4 then (if x3.length < 1466015503701 then ((some (x3 ++ [(⟨(D71 x0 x4).f0, (D71 x0 x4).f1, (⟨(D71 x0 x4).f2.f0, (D71 x0 x4).f2.f1, (D71 x0 x4).f2.f2⟩ : S69), (D71 x0 x4).f3, (D71 x0 x4).f4, (D71 x0 x4).f5⟩ : S71)] : List (S71))).bind fun y348 => ((spec_l2All.f k ((D71 x0 x4).f4)).bind fun t352 => (if y348.length + t352.length < 1466015503701 then ((some (y348 ++ t352 : List (S71))).bind fun y355 => ((spec_l2All.f k ((D71 x0 x4).f5)).bind fun t359 => (if y355.length + t359.length < 1466015503701 then (spec_l2All.l0 k x0 (y355 ++ t359) (wrap64 (x4 + 1))) else (none)))) else (none)))) else (none)) else (none)) else (some x3)
def spec_l2All.f : Nat → List (S71) → Option ((List (S71)))
 | 0, _ => none
 | k + 1, l0 => spec_l2All.l0 k l0 (([] : List (S71))) 0
end
theorem spec_l2All.calls (k : Nat) : ∀ (P0_ : Nat → Prop) (A0 : Option Addr) (c0 : Nat) (l0 : List (S71)) (r : List (S71)) (w : World) (hs0 : Kd.V k71 71 w w.heap.size (fun k_ => P0_ k_) (.slice A0 l0.length c0) l0) (h : spec_l2All.f k l0 = some r),
  Calls Tryd.prog 81 #[.slice A0 l0.length c0] w fun e w' => ∃ v0_ : Value, e = .returned (v0_) ∧ Kd.N k71 71 w' w.heap.size (fun k_ => (P0_ k_ ∨ w.heap.size ≤ k_)) v0_ r ∧ Below w.heap.size w w' := by
 induction k using Nat.strongRecOn with
 | _ k ih =>
 intro P0_ A0 c0 l0 r w hs0 h
 cases k with
 | zero => exact absurd h (by simp [spec_l2All.f])
 | succ k =>
 simp only [spec_l2All.f] at h
 have hu71 := Tryd.underlying71
 have HO0 := AM (show Kd.V k71 71 w w.heap.size (fun k_ => (P0_ k_ ∨ w.heap.size ≤ k_)) (.slice A0 l0.length c0) l0 from Kd.V_mono hs0 (fun k_ hk => .inl hk))
 have HB := AM (Below.refl w.heap.size w)
 have H : (spec_l2All.l0 k l0 (([] : List (S71))) 0) = some r := h
 clear h
 obtain ⟨y344, hy344⟩ : ∃ y_ : List (S71), y_ = (([] : List (S71))) := ⟨_, rfl⟩
 replace H : (spec_l2All.l0 k l0 y344 0) = some r := by rw [hy344]; exact H
 have Ny344 := AM hy344
 clear hy344
 have H' := AM H
 clear H
 go_enter Tryd.func81, Tryd.ntmps81
 go_wp2_with (first | ((with_reducible refine gate_dst (N := 5) rfl ?_); refine Kd.N_lit k71 _ 71 ?hg (N' := 5) ?hd (xs := ([] : List (S71))) (inner := []) (ok := (fun k_ => (P0_ k_ ∨ w.heap.size ≤ k_))) (okp := (fun k_ => (P0_ k_ ∨ w.heap.size ≤ k_))) ?hr ?hp (fun _ hk => hk) ((show ∀ k_, w.heap.size ≤ k_ → (fun k_ => (P0_ k_ ∨ w.heap.size ≤ k_)) k_ from fun k_ hk => (.inr (Nat.le_trans (below_size (ZB)) hk))) _ (Nat.le_refl _)) (Below.refl _ _) (Nat.le_refl _) (by simp) ?_; (case hd => rfl); (case hg => rfl); (case hr => first | (go_simp; done) | (go_simp; rfl)); (case hp => exact (Reps.none _ _)); intro v345 w2 ho3 hb hg_ hnew_; clear hg_ hnew_; (first | rw [← Ny344.out] at ho3 | (simp only [Int.reduceToNat] at ho3; rw [← Ny344.out] at ho3)); have HO346 := AM (Kd.N_lower ho3 (below_size (ZB))); replace HO0 := AM (Kd.V_elder' (ZRV HO0.out) (Kd.N_base ho3) hb); replace HB := ZT HB hb; clear hb ho3))
 go_loopg [3, 4] k (fun kq v3 v4 w' => ∃ (x3_1 : List (S71)) (x4_1 : Int), v4 = .int .i64 x4_1 ∧ Za (spec_l2All.l0 kq l0 x3_1 x4_1 = some r) ∧ Za (kq ≤ k) ∧ Za (Kd.V k71 71 w' w.heap.size (fun k_ => (P0_ k_ ∨ w.heap.size ≤ k_) ∧ some k_ ≠ (v3 : Value).ownBlock) (.slice A0 l0.length c0) l0) ∧ Za (Kd.N k71 71 w' w.heap.size (fun k_ => (P0_ k_ ∨ w.heap.size ≤ k_)) v3 x3_1) ∧ Za (Below w.heap.size w w'))
 case atStart => exact ⟨(y344), (0), ZSM, H', ⟨Nat.le_refl _⟩, ⟨ZRV HO0.out⟩, ⟨ZRN HO346.out⟩, ⟨ZB⟩⟩
 case round => (
 clear H'
 try clear p2
 obtain ⟨x3_1, x4_1, rfl, HA, HK1, HO_0, HO_3, HB⟩ := hrel
 cases gk with
 | zero => exact absurd HA.out (by simp [spec_l2All.l0])
 | succ k1 =>
  have H := HA.out
  clear HA
  simp only [spec_l2All.l0] at H
  by_cases c4 : x4_1 < (l0.length : Int)
  ·(
  rw [if_pos c4] at H
  have c4b0 := decide_eq_true c4
  clear c4
  by_cases c5 : 0 ≤ x4_1
  ·(
  rw [if_pos c5] at H
  have c5b0 := decide_eq_true c5
  clear c5
  by_cases c6 : x3_1.length < 1466015503701
  ·(
  rw [if_pos c6] at H
  have LMc6 := AM c6
  clear c6
  obtain ⟨y348, Ny348, H⟩ := ZLET H; try dsimp only at H
  obtain ⟨t352, A7, H⟩ := ZOB H; try dsimp only at H
  by_cases c8 : y348.length + t352.length < 1466015503701
  ·(
  rw [if_pos c8] at H
  have LMc8 := AM c8
  clear c8
  obtain ⟨y355, Ny355, H⟩ := ZLET H; try dsimp only at H
  obtain ⟨t359, A9, H⟩ := ZOB H; try dsimp only at H
  by_cases c10 : y355.length + t359.length < 1466015503701
  ·(
  rw [if_pos c10] at H
  have LMc10 := AM c10
  clear c10
  obtain ⟨y362, hy362⟩ : ∃ y_ : List (S71), y_ = (y355 ++ t359) := ⟨_, rfl⟩
  replace H : (spec_l2All.l0 k1 l0 y362 (wrap64 (x4_1 + 1))) = some r := by rw [hy362]; exact H
  have Ny362 := AM hy362
  clear hy362
  have H' := AM H
  clear H
  have p347 : 0 ≤ (x4_1 : Int) := ZD
  have q347 : x4_1 < (l0.length : Int) := ZD
  obtain ⟨ad347, A347_6, c347_6, A347_7, c347_7, e347, hx347_0, hx347_1, hx347_2, hx347_3, hx347_4, hx347_5, hx347_6, hx347_7, hl347_6, hi347_6, hl347_7, hi347_7⟩ := at_T71 (Kd.V_reads' HO_0.out).2.2 x4_1 p347 q347
  cases e347
  obtain ⟨ce347, hce347, hMe347, hcc347⟩ := Kd.V_get HO_0.out z71 x4_1 p347 (by first | exact q347 | exact ZD | (have e_ := (Kd.V_reads' HO_0.out).1; omega))
  obtain ⟨ua347_6, uc347_6, ua347_7, uc347_7, rfl, ul347_6, ge347_6, ul347_7, ge347_7⟩ := k71_openF hMe347
  have hv347_6 := hcc347 6 _ rfl
  rw [add_field _ _ 6 (by omega)] at hv347_6
  replace hv347_6 := Option.some.inj (hv347_6.symm.trans hx347_6)
  injection hv347_6 with hva_ hvn_ hvc_
  rw [hva_] at ge347_6
  rw [hvc_] at ul347_6
  have HL347_6 := AM (show Kd.V k71 71 _ w.heap.size _ _ ((D71 l0 x4_1).f4) from Kd.V_mk ul347_6 ge347_6)
  clear hva_ hvn_ hvc_ ge347_6 ul347_6
  have hv347_7 := hcc347 7 _ rfl
  rw [add_field _ _ 7 (by omega)] at hv347_7
  replace hv347_7 := Option.some.inj (hv347_7.symm.trans hx347_7)
  injection hv347_7 with hva_ hvn_ hvc_
  rw [hva_] at ge347_7
  rw [hvc_] at ul347_7
  have HL347_7 := AM (show Kd.V k71 71 _ w.heap.size _ _ ((D71 l0 x4_1).f5) from Kd.V_mk ul347_7 ge347_7)
  clear hva_ hvn_ hvc_ ge347_7 ul347_7 hcc347 hce347
  have HR347_6 := AM hi347_6
  have HC347_6 := AM hl347_6
  clear hi347_6 hl347_6
  have HR347_7 := AM hi347_7
  have HC347_7 := AM hl347_7
  clear hi347_7 hl347_7
  replace p347 := eq_true p347
  replace q347 := eq_true q347
  go_wp2_with (first | ((with_reducible refine gate_builtin (b := .append) (xs := #[.tmp 12, .tmp 17]) rfl ?_); at_builtin; refine Kd.N_append k71 (w0 := w) w.heap.size rfl (.tmp 12) (.tmp 17) 29 71 (.agg #[(.int .i64 0), (.int .i64 0), (.int .i64 0), (.int .i64 0), (.int .i64 0), (.int .i64 0), (.slice none 0 0), (.slice none 0 0)]) 96 rfl Tryd.underlying29 info71 rfl (by decide) (by omega) u3 x3_1 (⟨(D71 l0 x4_1).f0, (D71 l0 x4_1).f1, (⟨(D71 l0 x4_1).f2.f0, (D71 l0 x4_1).f2.f1, (D71 l0 x4_1).f2.f2⟩ : S69), (D71 l0 x4_1).f3, (D71 l0 x4_1).f4, (D71 l0 x4_1).f5⟩ : S71) [.int .i64 ((D71 l0 x4_1).f0), .int .i64 ((D71 l0 x4_1).f1), .int .i64 ((D71 l0 x4_1).f2.f0), .int .i64 ((D71 l0 x4_1).f2.f1), .int .i64 ((D71 l0 x4_1).f2.f2), .int .i64 ((D71 l0 x4_1).f3), .slice A347_6 ((D71 l0 x4_1).f4).length c347_6, .slice A347_7 ((D71 l0 x4_1).f5).length c347_7] (fun k_ => (P0_ k_ ∨ w.heap.size ≤ k_)) (fun k_ => ((fun k_ => (P0_ k_ ∨ w.heap.size ≤ k_))) k_ ∧ some k_ ≠ (u3 : Value).ownBlock) rfl rfl ?aP (fun _ hk => hk) ?aF ?aO ?aB ?aS ?aL ?_; (case aP => exact (k71_mkF _ _ (⟨(D71 l0 x4_1).f0, (D71 l0 x4_1).f1, (⟨(D71 l0 x4_1).f2.f0, (D71 l0 x4_1).f2.f1, (D71 l0 x4_1).f2.f2⟩ : S69), (D71 l0 x4_1).f3, (D71 l0 x4_1).f4, (D71 l0 x4_1).f5⟩ : S71) (Kd.V_reads' (Kd.V_mono (ok' := (fun k_ => ((fun k_ => (P0_ k_ ∨ w.heap.size ≤ k_))) k_ ∧ some k_ ≠ (u3 : Value).ownBlock)) (HL347_6.out) (fun k_ hk => ⟨hk.1, hk.2⟩))).2.1 (Kd.V_F (Kd.V_mono (ok' := (fun k_ => ((fun k_ => (P0_ k_ ∨ w.heap.size ≤ k_))) k_ ∧ some k_ ≠ (u3 : Value).ownBlock)) (HL347_6.out) (fun k_ hk => ⟨hk.1, hk.2⟩))) (Kd.V_reads' (Kd.V_mono (ok' := (fun k_ => ((fun k_ => (P0_ k_ ∨ w.heap.size ≤ k_))) k_ ∧ some k_ ≠ (u3 : Value).ownBlock)) (HL347_7.out) (fun k_ hk => ⟨hk.1, hk.2⟩))).2.1 (Kd.V_F (Kd.V_mono (ok' := (fun k_ => ((fun k_ => (P0_ k_ ∨ w.heap.size ≤ k_))) k_ ∧ some k_ ≠ (u3 : Value).ownBlock)) (HL347_7.out) (fun k_ hk => ⟨hk.1, hk.2⟩))))); (case aB => exact (ZB)); (case aF => exact (fun k_ hk => (.inr (Nat.le_trans (below_size (ZB)) hk)))); (case aO => exact (ZRN HO_3.out)); (case aS => exact (below_size (ZB))); (case aL => have := LMc6.out; omega); intro v349 w11 ho hb hg hat; rw [← Ny348.out] at ho; have n0_ := AM (Kd.V_afterv (ok := (fun k_ => (P0_ k_ ∨ w.heap.size ≤ k_))) (ZRV HO_0.out) hg hat); have n1_ := AM (Kd.V_afterv (ok := (fun k_ => (P0_ k_ ∨ w.heap.size ≤ k_))) (ZRV HL347_6.out) hg hat); have n2_ := AM (Kd.V_afterv (ok := (fun k_ => (P0_ k_ ∨ w.heap.size ≤ k_))) (ZRV HL347_7.out) hg hat); have n3_ := AM (hb); have n4_ := AM (ho); clear HO_0 HL347_6 HL347_7 HB HO_3; have HO_0 := n0_; have HL347_6 := n1_; have HL347_7 := n2_; have HB := n3_; have HO350 := n4_; clear n0_ n1_ n2_ n3_ n4_ ho hb hg hat; have p351 : 0 ≤ (x4_1 : Int) := ZD; have q351 : x4_1 < (l0.length : Int) := ZD; obtain ⟨ad351, A351_6, c351_6, A351_7, c351_7, e351, hx351_0, hx351_1, hx351_2, hx351_3, hx351_4, hx351_5, hx351_6, hx351_7, hl351_6, hi351_6, hl351_7, hi351_7⟩ := at_T71 (Kd.V_reads' HO_0.out).2.2 x4_1 p351 q351; obtain rfl : ad347 = ad351 := (by injection e351); obtain ⟨ce351, hce351, hMe351, hcc351⟩ := Kd.V_get HO_0.out z71 x4_1 p351 (by first | exact q351 | exact ZD | (have e_ := (Kd.V_reads' HO_0.out).1; omega)); obtain ⟨ua351_6, uc351_6, ua351_7, uc351_7, rfl, ul351_6, ge351_6, ul351_7, ge351_7⟩ := k71_openF hMe351; have hv351_6 := hcc351 6 _ rfl; rw [add_field _ _ 6 (by omega)] at hv351_6; replace hv351_6 := Option.some.inj (hv351_6.symm.trans hx351_6); injection hv351_6 with hva_ hvn_ hvc_; rw [hva_] at ge351_6; rw [hvc_] at ul351_6; have HL351_6 := AM (show Kd.V k71 71 _ w.heap.size _ _ ((D71 l0 x4_1).f4) from Kd.V_mk ul351_6 ge351_6); clear hva_ hvn_ hvc_ ge351_6 ul351_6; have hv351_7 := hcc351 7 _ rfl; rw [add_field _ _ 7 (by omega)] at hv351_7; replace hv351_7 := Option.some.inj (hv351_7.symm.trans hx351_7); injection hv351_7 with hva_ hvn_ hvc_; rw [hva_] at ge351_7; rw [hvc_] at ul351_7; have HL351_7 := AM (show Kd.V k71 71 _ w.heap.size _ _ ((D71 l0 x4_1).f5) from Kd.V_mk ul351_7 ge351_7); clear hva_ hvn_ hvc_ ge351_7 ul351_7 hcc351 hce351; have HR351_6 := AM hi351_6; have HC351_6 := AM hl351_6; clear hi351_6 hl351_6; have HR351_7 := AM hi351_7; have HC351_7 := AM hl351_7; clear hi351_7 hl351_7; replace p351 := eq_true p351; replace q351 := eq_true q351) | ((with_reducible refine gate_callee (f := 81) rfl ?_); refine ZGL (some 25) Tryd.func81 #[.slice A351_6 ((D71 l0 x4_1).f4).length c351_6] ?_; (with_reducible refine (ih k1 (by have := HK1.out; omega) (fun k_ => ((P0_ k_ ∨ w.heap.size ≤ k_) ∧ some k_ ≠ (v349 : Value).ownBlock)) _ _ ((D71 l0 x4_1).f4) t352 _ ?side1 A7.out).mono ?_); (case side1 => exact HL351_6.out); rintro e w12 ⟨v353, rfl, ho0, hb⟩; refine ZV1 ?_; have HO354 := AM (Kd.N_lower (Kd.N_mono (ok' := fun k_ => (P0_ k_ ∨ w.heap.size ≤ k_) ∧ some k_ ≠ (v349 : Value).ownBlock) ho0 (fun k_ hk_ => ⟨Or.elim hk_ (fun hs_ => hs_.1) (fun hn_ => (.inr (Nat.le_trans (below_size (ZB)) hn_))), Or.elim hk_ (fun hs_ => hs_.2) (fun hn_ => (Kd.fresh' (Kd.N_lt (ZRN HO350.out)) k_ hn_))⟩)) (below_size (ZB))); replace HO_0 := AM (Kd.V_elder' (ZRV HO_0.out) (Kd.N_base ho0) hb); replace HL347_6 := AM (Kd.V_elder' (ZRV HL347_6.out) (Kd.N_base ho0) hb); replace HL347_7 := AM (Kd.V_elder' (ZRV HL347_7.out) (Kd.N_base ho0) hb); replace HO350 := AM (Kd.N_elder' (ZRN HO350.out) (Kd.N_base ho0) hb); replace HL351_6 := AM (Kd.V_elder' (ZRV HL351_6.out) (Kd.N_base ho0) hb); replace HL351_7 := AM (Kd.V_elder' (ZRV HL351_7.out) (Kd.N_base ho0) hb); replace HR351_6 := AM (Kd.C_below (ZQ HR351_6.out) hb); replace HR351_7 := AM (Kd.C_below (ZQ HR351_7.out) hb); replace HB := ZT HB hb; clear hb; (try clear ho0); obtain ⟨Ao14, co14, eo14⟩ := Kd.N_slice HO354.out; subst eo14) | ((with_reducible refine gate_builtin (b := .append) (xs := #[.tmp 19, .tmp 25]) rfl ?_); at_builtin; refine Kd.N_append_rows k71 (w0 := w) w.heap.size rfl (.tmp 19) (.tmp 25) 29 71 (.agg #[(.int .i64 0), (.int .i64 0), (.int .i64 0), (.int .i64 0), (.int .i64 0), (.int .i64 0), (.slice none 0 0), (.slice none 0 0)]) 96 rfl Tryd.underlying29 info71 rfl (by decide) (by omega) v349 y348 t352 _ _ _ (fun k_ => (P0_ k_ ∨ w.heap.size ≤ k_)) (fun k_ => ((fun k_ => (P0_ k_ ∨ w.heap.size ≤ k_))) k_ ∧ some k_ ≠ (v349 : Value).ownBlock) rfl rfl ?aO ?aR (fun _ hk => hk) ?aF ?aB ?aS ?aL ?_; (case aR => exact (by skip; exact Kd.N_F (Kd.N_mono (ok' := (fun k_ => ((fun k_ => (P0_ k_ ∨ w.heap.size ≤ k_))) k_ ∧ some k_ ≠ (v349 : Value).ownBlock)) (HO354.out) (fun k_ hk => ⟨hk.1, hk.2⟩)))); (case aB => exact (ZB)); (case aF => exact (fun k_ hk => (.inr (Nat.le_trans (below_size (ZB)) hk)))); (case aO => exact (ZRN (Kd.N_mono HO350.out (fun _ hk => hk.1)))); (case aS => exact (below_size (ZB))); (case aL => have := LMc8.out; omega); intro v356 w13 ho hb hg hat; rw [← Ny355.out] at ho; have n0_ := AM (Kd.V_afterv (ok := (fun k_ => (P0_ k_ ∨ w.heap.size ≤ k_) ∧ some k_ ≠ (.slice Ao14 t352.length co14 : Value).ownBlock)) (ZVm HO_0.out (fun _ hk => ⟨⟨hk.1.1, hk.2⟩, hk.1.2⟩)) hg hat); have n1_ := AM (Kd.V_afterv (ok := (fun k_ => (P0_ k_ ∨ w.heap.size ≤ k_) ∧ some k_ ≠ (.slice Ao14 t352.length co14 : Value).ownBlock)) (ZVm HL347_6.out (fun _ hk => ⟨⟨hk.1.1, hk.2⟩, hk.1.2⟩)) hg hat); have n2_ := AM (Kd.V_afterv (ok := (fun k_ => (P0_ k_ ∨ w.heap.size ≤ k_) ∧ some k_ ≠ (.slice Ao14 t352.length co14 : Value).ownBlock)) (ZVm HL347_7.out (fun _ hk => ⟨⟨hk.1.1, hk.2⟩, hk.1.2⟩)) hg hat); have n3_ := AM (Kd.V_afterv (ok := (fun k_ => (P0_ k_ ∨ w.heap.size ≤ k_) ∧ some k_ ≠ (.slice Ao14 t352.length co14 : Value).ownBlock)) (ZVm HL351_6.out (fun _ hk => ⟨⟨hk.1.1, hk.2⟩, hk.1.2⟩)) hg hat); have n4_ := AM (Kd.V_afterv (ok := (fun k_ => (P0_ k_ ∨ w.heap.size ≤ k_) ∧ some k_ ≠ (.slice Ao14 t352.length co14 : Value).ownBlock)) (ZVm HL351_7.out (fun _ hk => ⟨⟨hk.1.1, hk.2⟩, hk.1.2⟩)) hg hat); have n5_ := AM (Kd.N_afterv (ok := (fun k_ => (P0_ k_ ∨ w.heap.size ≤ k_))) (ZRN HO354.out) hg hat); have n6_ := AM (hb); have n7_ := AM (ho); clear HO_0 HL347_6 HL347_7 HL351_6 HL351_7 HO354 HB HO350; have HO_0 := n0_; have HL347_6 := n1_; have HL347_7 := n2_; have HL351_6 := n3_; have HL351_7 := n4_; have HO354 := n5_; have HB := n6_; have HO357 := n7_; clear n0_ n1_ n2_ n3_ n4_ n5_ n6_ n7_ ho hb hg hat; have p358 : 0 ≤ (x4_1 : Int) := ZD; have q358 : x4_1 < (l0.length : Int) := ZD; obtain ⟨ad358, A358_6, c358_6, A358_7, c358_7, e358, hx358_0, hx358_1, hx358_2, hx358_3, hx358_4, hx358_5, hx358_6, hx358_7, hl358_6, hi358_6, hl358_7, hi358_7⟩ := at_T71 (Kd.V_reads' HO_0.out).2.2 x4_1 p358 q358; obtain rfl : ad347 = ad358 := (by injection e358); obtain ⟨ce358, hce358, hMe358, hcc358⟩ := Kd.V_get HO_0.out z71 x4_1 p358 (by first | exact q358 | exact ZD | (have e_ := (Kd.V_reads' HO_0.out).1; omega)); obtain ⟨ua358_6, uc358_6, ua358_7, uc358_7, rfl, ul358_6, ge358_6, ul358_7, ge358_7⟩ := k71_openF hMe358; have hv358_6 := hcc358 6 _ rfl; rw [add_field _ _ 6 (by omega)] at hv358_6; replace hv358_6 := Option.some.inj (hv358_6.symm.trans hx358_6); injection hv358_6 with hva_ hvn_ hvc_; rw [hva_] at ge358_6; rw [hvc_] at ul358_6; have HL358_6 := AM (show Kd.V k71 71 _ w.heap.size _ _ ((D71 l0 x4_1).f4) from Kd.V_mk ul358_6 ge358_6); clear hva_ hvn_ hvc_ ge358_6 ul358_6; have hv358_7 := hcc358 7 _ rfl; rw [add_field _ _ 7 (by omega)] at hv358_7; replace hv358_7 := Option.some.inj (hv358_7.symm.trans hx358_7); injection hv358_7 with hva_ hvn_ hvc_; rw [hva_] at ge358_7; rw [hvc_] at ul358_7; have HL358_7 := AM (show Kd.V k71 71 _ w.heap.size _ _ ((D71 l0 x4_1).f5) from Kd.V_mk ul358_7 ge358_7); clear hva_ hvn_ hvc_ ge358_7 ul358_7 hcc358 hce358; have HR358_6 := AM hi358_6; have HC358_6 := AM hl358_6; clear hi358_6 hl358_6; have HR358_7 := AM hi358_7; have HC358_7 := AM hl358_7; clear hi358_7 hl358_7; replace p358 := eq_true p358; replace q358 := eq_true q358) | ((with_reducible refine gate_callee (f := 81) rfl ?_); refine ZGL (some 33) Tryd.func81 #[.slice A358_7 ((D71 l0 x4_1).f5).length c358_7] ?_; (with_reducible refine (ih k1 (by have := HK1.out; omega) (fun k_ => (((P0_ k_ ∨ w.heap.size ≤ k_) ∧ some k_ ≠ (.slice Ao14 t352.length co14 : Value).ownBlock) ∧ some k_ ≠ (v356 : Value).ownBlock)) _ _ ((D71 l0 x4_1).f5) t359 _ ?side1 A9.out).mono ?_); (case side1 => exact HL358_7.out); rintro e w15 ⟨v360, rfl, ho0, hb⟩; refine ZV1 ?_; have HO361 := AM (Kd.N_lower (Kd.N_mono (ok' := fun k_ => (P0_ k_ ∨ w.heap.size ≤ k_) ∧ some k_ ≠ (.slice Ao14 t352.length co14 : Value).ownBlock ∧ some k_ ≠ (v356 : Value).ownBlock) ho0 (fun k_ hk_ => ⟨Or.elim hk_ (fun hs_ => hs_.1.1) (fun hn_ => (.inr (Nat.le_trans (below_size (ZB)) hn_))), Or.elim hk_ (fun hs_ => hs_.1.2) (fun hn_ => (Kd.fresh' (Kd.N_lt (ZRN HO354.out)) k_ hn_)), Or.elim hk_ (fun hs_ => hs_.2) (fun hn_ => (Kd.fresh' (Kd.N_lt (ZRN HO357.out)) k_ hn_))⟩)) (below_size (ZB))); replace HO_0 := AM (Kd.V_elder' (ZRV HO_0.out) (Kd.N_base ho0) hb); replace HL347_6 := AM (Kd.V_elder' (ZRV HL347_6.out) (Kd.N_base ho0) hb); replace HL347_7 := AM (Kd.V_elder' (ZRV HL347_7.out) (Kd.N_base ho0) hb); replace HL351_6 := AM (Kd.V_elder' (ZRV HL351_6.out) (Kd.N_base ho0) hb); replace HL351_7 := AM (Kd.V_elder' (ZRV HL351_7.out) (Kd.N_base ho0) hb); replace HO354 := AM (Kd.N_elder' (ZRN HO354.out) (Kd.N_base ho0) hb); replace HO357 := AM (Kd.N_elder' (ZRN HO357.out) (Kd.N_base ho0) hb); replace HL358_6 := AM (Kd.V_elder' (ZRV HL358_6.out) (Kd.N_base ho0) hb); replace HL358_7 := AM (Kd.V_elder' (ZRV HL358_7.out) (Kd.N_base ho0) hb); replace HR358_6 := AM (Kd.C_below (ZQ HR358_6.out) hb); replace HR358_7 := AM (Kd.C_below (ZQ HR358_7.out) hb); replace HB := ZT HB hb; clear hb; (try clear ho0); obtain ⟨Ao17, co17, eo17⟩ := Kd.N_slice HO361.out; subst eo17) | ((with_reducible refine gate_builtin (b := .append) (xs := #[.tmp 27, .tmp 33]) rfl ?_); at_builtin; refine Kd.N_append_rows k71 (w0 := w) w.heap.size rfl (.tmp 27) (.tmp 33) 29 71 (.agg #[(.int .i64 0), (.int .i64 0), (.int .i64 0), (.int .i64 0), (.int .i64 0), (.int .i64 0), (.slice none 0 0), (.slice none 0 0)]) 96 rfl Tryd.underlying29 info71 rfl (by decide) (by omega) v356 y355 t359 _ _ _ (fun k_ => (P0_ k_ ∨ w.heap.size ≤ k_)) (fun k_ => ((fun k_ => (P0_ k_ ∨ w.heap.size ≤ k_))) k_ ∧ some k_ ≠ (v356 : Value).ownBlock) rfl rfl ?aO ?aR (fun _ hk => hk) ?aF ?aB ?aS ?aL ?_; (case aR => exact (by skip; exact Kd.N_F (Kd.N_mono (ok' := (fun k_ => ((fun k_ => (P0_ k_ ∨ w.heap.size ≤ k_))) k_ ∧ some k_ ≠ (v356 : Value).ownBlock)) (HO361.out) (fun k_ hk => ⟨hk.1, hk.2.2⟩)))); (case aB => exact (ZB)); (case aF => exact (fun k_ hk => (.inr (Nat.le_trans (below_size (ZB)) hk)))); (case aO => exact (ZRN (Kd.N_mono HO357.out (fun _ hk => hk.1)))); (case aS => exact (below_size (ZB))); (case aL => have := LMc10.out; omega); intro v363 w16 ho hb hg hat; rw [← Ny362.out] at ho; have n0_ := AM (Kd.V_afterv (ok := (fun k_ => (P0_ k_ ∨ w.heap.size ≤ k_) ∧ some k_ ≠ (.slice Ao14 t352.length co14 : Value).ownBlock ∧ some k_ ≠ (.slice Ao17 t359.length co17 : Value).ownBlock)) (ZVm HO_0.out (fun _ hk => ⟨⟨hk.1.1.1, ⟨hk.1.1.2, hk.2⟩⟩, hk.1.2⟩)) hg hat); have n1_ := AM (Kd.V_afterv (ok := (fun k_ => (P0_ k_ ∨ w.heap.size ≤ k_) ∧ some k_ ≠ (.slice Ao14 t352.length co14 : Value).ownBlock ∧ some k_ ≠ (.slice Ao17 t359.length co17 : Value).ownBlock)) (ZVm HL347_6.out (fun _ hk => ⟨⟨hk.1.1.1, ⟨hk.1.1.2, hk.2⟩⟩, hk.1.2⟩)) hg hat); have n2_ := AM (Kd.V_afterv (ok := (fun k_ => (P0_ k_ ∨ w.heap.size ≤ k_) ∧ some k_ ≠ (.slice Ao14 t352.length co14 : Value).ownBlock ∧ some k_ ≠ (.slice Ao17 t359.length co17 : Value).ownBlock)) (ZVm HL347_7.out (fun _ hk => ⟨⟨hk.1.1.1, ⟨hk.1.1.2, hk.2⟩⟩, hk.1.2⟩)) hg hat); have n3_ := AM (Kd.V_afterv (ok := (fun k_ => (P0_ k_ ∨ w.heap.size ≤ k_) ∧ some k_ ≠ (.slice Ao14 t352.length co14 : Value).ownBlock ∧ some k_ ≠ (.slice Ao17 t359.length co17 : Value).ownBlock)) (ZVm HL351_6.out (fun _ hk => ⟨⟨hk.1.1.1, ⟨hk.1.1.2, hk.2⟩⟩, hk.1.2⟩)) hg hat); have n4_ := AM (Kd.V_afterv (ok := (fun k_ => (P0_ k_ ∨ w.heap.size ≤ k_) ∧ some k_ ≠ (.slice Ao14 t352.length co14 : Value).ownBlock ∧ some k_ ≠ (.slice Ao17 t359.length co17 : Value).ownBlock)) (ZVm HL351_7.out (fun _ hk => ⟨⟨hk.1.1.1, ⟨hk.1.1.2, hk.2⟩⟩, hk.1.2⟩)) hg hat); have n5_ := AM (Kd.N_afterv (ok := (fun k_ => (P0_ k_ ∨ w.heap.size ≤ k_) ∧ some k_ ≠ (.slice Ao17 t359.length co17 : Value).ownBlock)) (ZNm HO354.out (fun _ hk => ⟨⟨hk.1.1, hk.2⟩, hk.1.2⟩)) hg hat); have n6_ := AM (Kd.V_afterv (ok := (fun k_ => (P0_ k_ ∨ w.heap.size ≤ k_) ∧ some k_ ≠ (.slice Ao14 t352.length co14 : Value).ownBlock ∧ some k_ ≠ (.slice Ao17 t359.length co17 : Value).ownBlock)) (ZVm HL358_6.out (fun _ hk => ⟨⟨hk.1.1.1, ⟨hk.1.1.2, hk.2⟩⟩, hk.1.2⟩)) hg hat); have n7_ := AM (Kd.V_afterv (ok := (fun k_ => (P0_ k_ ∨ w.heap.size ≤ k_) ∧ some k_ ≠ (.slice Ao14 t352.length co14 : Value).ownBlock ∧ some k_ ≠ (.slice Ao17 t359.length co17 : Value).ownBlock)) (ZVm HL358_7.out (fun _ hk => ⟨⟨hk.1.1.1, ⟨hk.1.1.2, hk.2⟩⟩, hk.1.2⟩)) hg hat); have n8_ := AM (Kd.N_afterv (ok := (fun k_ => (P0_ k_ ∨ w.heap.size ≤ k_) ∧ some k_ ≠ (.slice Ao14 t352.length co14 : Value).ownBlock)) (ZNm HO361.out (fun _ hk => ⟨⟨hk.1, hk.2.1⟩, hk.2.2⟩)) hg hat); have n9_ := AM (hb); have n10_ := AM (ho); clear HO_0 HL347_6 HL347_7 HL351_6 HL351_7 HO354 HL358_6 HL358_7 HO361 HB HO357; have HO_0 := n0_; have HL347_6 := n1_; have HL347_7 := n2_; have HL351_6 := n3_; have HL351_7 := n4_; have HO354 := n5_; have HL358_6 := n6_; have HL358_7 := n7_; have HO361 := n8_; have HB := n9_; have HO364 := n10_; clear n0_ n1_ n2_ n3_ n4_ n5_ n6_ n7_ n8_ n9_ n10_ ho hb hg hat))
  go_roundg k1
  case measure => have := HK1.out; omega
  case rel => exact ⟨(y362), (wrap64 (x4_1 + 1)), ZSM, H', ⟨by have := HK1.out; omega⟩, ⟨ZVm HO_0.out (fun _ hk => ⟨hk.1.1, hk.2⟩)⟩, ⟨ZRN HO364.out⟩, ⟨ZB⟩⟩)
  ·(
  rw [if_neg c10] at H
  exact absurd H (by simp)))
  ·(
  rw [if_neg c8] at H
  exact absurd H (by simp)))
  ·(
  rw [if_neg c6] at H
  exact absurd H (by simp)))
  ·(
  rw [if_neg c5] at H
  exact absurd H (by simp)))
  ·(
  rw [if_neg c4] at H
  have c4b0 := decide_eq_false c4
  clear c4
  obtain rfl := Option.some.inj H
  go_wp2
  go_ret
  exact ⟨_, ZE, by (with_reducible repeat (first | apply Kd.N_alloc | apply Kd.N_drewN | apply Kd.N_drew)); exact HO_3.out, ZB⟩))

/-! ### spec_l1Both: function 93 -/
def spec_l1Both.l0 : Nat → Int → Int → Int → Int → Option (Int)
 | 0, _, _, _, _ => none
 | k + 1, x0, x1, x5, x6 => if x6 < 3 then ((spec_l1Has.f x0 x6).bind fun t365 => (if t365 = true then ((spec_l1Has.f x1 x6).bind fun t366 => (if t366 = true then (if 0 ≤ x6 then (spec_l1Both.l0 k x0 x1 (wrap64 (x5 + (shl .i64 1 x6))) (wrap64 (x6 + 1))) else (none)) else (spec_l1Both.l0 k x0 x1 x5 (wrap64 (x6 + 1))))) else (spec_l1Both.l0 k x0 x1 x5 (wrap64 (x6 + 1))))) else (some x5)
def spec_l1Both.f (k : Nat) (a0 : Int) (a1 : Int) : Option (Int) := spec_l1Both.l0 k a0 a1 0 0
theorem spec_l1Both.mono_l : ∀ k, (∀ y0 y1 y2 y3, LeO (spec_l1Both.l0 k y0 y1 y2 y3) (spec_l1Both.l0 (k + 1) y0 y1 y2 y3))
 | 0 => fun _ _ _ _ r h => by simp [spec_l1Both.l0] at h
 | k + 1 => by
  have ih0 := spec_l1Both.mono_l k
  ·intro y0 y1 y2 y3
   unfold spec_l1Both.l0
   repeat' first
   | (with_reducible exact ih0 _ _ _ _)
   | (with_reducible exact LeO.refl _)
   | (with_reducible exact LeO.none _)
   | (with_reducible refine LeO.ite ?_ ?_)
   | (with_reducible refine LeO.bind ?_ (fun _ => ?_))
   | exact ih0 _ _ _ _
   | exact LeO.none _
   | refine LeO.ite ?_ ?_
   | refine LeO.bind ?_ (fun _ => ?_)
theorem spec_l1Both.mono : ∀ a0 a1 k, LeO (spec_l1Both.f k a0 a1) (spec_l1Both.f (k + 1) a0 a1) := by
 intro a0 a1 k
 have ih0 := spec_l1Both.mono_l k
 unfold spec_l1Both.f
 repeat' first
   | (with_reducible exact ih0 _ _ _ _)
   | (with_reducible exact LeO.refl _)
   | (with_reducible exact LeO.none _)
   | (with_reducible refine LeO.ite ?_ ?_)
   | (with_reducible refine LeO.bind ?_ (fun _ => ?_))
   | exact ih0 _ _ _ _
   | exact LeO.none _
   | refine LeO.ite ?_ ?_
   | refine LeO.bind ?_ (fun _ => ?_)
theorem spec_l1Both.calls (k : Nat) (a0 : Int) (a1 : Int) (r : Int) (w : World) (h : spec_l1Both.f k a0 a1 = some r) :
  Calls Tryd.prog 93 #[.int .i64 a0, .int .i64 a1] w fun e w' => e = .returned (.int .i64 r) ∧ Drawn0 w w' := by
 have H := h
 unfold spec_l1Both.f at H
 clear h
 have H' := AM H
 clear H
 go_enter Tryd.func93, Tryd.ntmps93
 go_wp2
 go_loopg [5, 6] k (fun kq v5 v6 w' => ∃ (x5_1 : Int) (x6_1 : Int), v5 = .int .i64 x5_1 ∧ v6 = .int .i64 x6_1 ∧ Za (spec_l1Both.l0 kq a0 a1 x5_1 x6_1 = some r) ∧ Za (kq ≤ k) ∧ Drawn0 w w')
 case atStart => exact ⟨(0), (0), ZSM, ZSM, H', ⟨Nat.le_refl _⟩, by repeat (first | exact Drawn0.refl _ | apply Drawn0.step)⟩
 case round => (
 clear H'
 try clear p2
 obtain ⟨x5_1, x6_1, rfl, rfl, HA, HK1, ⟨m1, rfl⟩⟩ := hrel
 cases gk with
 | zero => exact absurd HA.out (by simp [spec_l1Both.l0])
 | succ k1 =>
  have H := HA.out
  clear HA
  simp only [spec_l1Both.l0] at H
  by_cases c3 : x6_1 < 3
  ·(
  rw [if_pos c3] at H
  have c3b0 := decide_eq_true c3
  clear c3
  obtain ⟨t365, A4, H⟩ := ZOB H; try dsimp only at H
  by_cases c5 : t365 = true
  ·(
  subst c5
  have H1 := H; rw [if_pos rfl] at H1
  clear H
  have H := H1
  clear H1
  obtain ⟨t366, A6, H⟩ := ZOB H; try dsimp only at H
  by_cases c7 : t366 = true
  ·(
  subst c7
  have H1 := H; rw [if_pos rfl] at H1
  clear H
  have H := H1
  clear H1
  by_cases c8 : 0 ≤ x6_1
  ·(
  rw [if_pos c8] at H
  have c8b0 := eq_true c8
  have c8b1 := decide_eq_true c8
  clear c8
  obtain ⟨ji9, hji9⟩ : ∃ j_ : Int, (shl .i64 1 x6_1) = j_ := ⟨_, rfl⟩
  replace H : (spec_l1Both.l0 k1 a0 a1 (wrap64 (x5_1 + (ji9))) (wrap64 (x6_1 + 1))) = some r := by first | (rw [hji9] at H; exact H) | (simp only [hji9] at H ⊢; exact H)
  (try rw [hji9] at A4)
  (try rw [hji9] at A6)
  have hji9_ : (IntKind.i64.wrap (1 * 2 ^ min x6_1.toNat 64)) = ji9 := hji9
  have hji9z : x6_1 ≤ 64 → (IntKind.i64.wrap (1 * 2 ^ x6_1.toNat)) = ji9 := shl_small hji9
  have hji9u : (IntKind.i64.wrap (2 ^ min x6_1.toNat 64)) = ji9 := by have h_ := hji9_; rw [Int.one_mul] at h_; exact h_
  have hji9v : x6_1 ≤ 64 → (IntKind.i64.wrap (2 ^ x6_1.toNat)) = ji9 := fun hle_ => by have h_ := hji9z hle_; rw [Int.one_mul] at h_; exact h_
  have hji9y : (wrap64 (1 * 2 ^ min x6_1.toNat 64)) = ji9 := (i64_w _).symm.trans hji9_
  have hji9x : x6_1 ≤ 64 → (wrap64 (1 * 2 ^ x6_1.toNat)) = ji9 := fun h_ => (i64_w _).symm.trans (hji9z h_)
  have H' := AM H
  clear H
  go_wp2_with (first | ((with_reducible refine gate_callee (f := 57) rfl ?_); refine ZGL (some 13) Tryd.func57 #[.int .i64 a0, .int .i64 x6_1] ?_; (with_reducible refine (spec_l1Has.calls a0 x6_1 true _ A4.out).mono ?_); rintro e w' ⟨rfl, ⟨nd, rfl⟩⟩; refine ZV1 ?_) | (go_at_call 57; (with_reducible refine (spec_l1Has.calls a1 x6_1 true _ A6.out).mono ?_); rintro e w' ⟨rfl, ⟨nd, rfl⟩⟩))
  go_roundg k1
  case measure => have := HK1.out; omega
  case rel => exact ⟨(wrap64 (x5_1 + (ji9))), (wrap64 (x6_1 + 1)), (by first | rfl | (simp; done) | (simp only [← hji9] <;> (first | rfl | simp)) | (simp [*]; done)), ZSM, H', ⟨by have := HK1.out; omega⟩, by repeat (first | exact Drawn0.refl _ | apply Drawn0.step)⟩)
  ·(
  rw [if_neg c8] at H
  exact absurd H (by simp)))
  ·(
  replace c7 := Bool.eq_false_iff.mpr c7
  subst c7
  have H1 := H; rw [if_neg ZFT] at H1
  clear H
  have H := H1
  clear H1
  have H' := AM H
  clear H
  go_wp2_with (first | ((with_reducible refine gate_callee (f := 57) rfl ?_); refine ZGL (some 13) Tryd.func57 #[.int .i64 a0, .int .i64 x6_1] ?_; (with_reducible refine (spec_l1Has.calls a0 x6_1 true _ A4.out).mono ?_); rintro e w' ⟨rfl, ⟨nd, rfl⟩⟩; refine ZV1 ?_) | (go_at_call 57; (with_reducible refine (spec_l1Has.calls a1 x6_1 false _ A6.out).mono ?_); rintro e w' ⟨rfl, ⟨nd, rfl⟩⟩))
  go_roundg k1
  case measure => have := HK1.out; omega
  case rel => exact ⟨(x5_1), (wrap64 (x6_1 + 1)), ZSM, ZSM, H', ⟨by have := HK1.out; omega⟩, by repeat (first | exact Drawn0.refl _ | apply Drawn0.step)⟩))
  ·(
  replace c5 := Bool.eq_false_iff.mpr c5
  subst c5
  have H1 := H; rw [if_neg ZFT] at H1
  clear H
  have H := H1
  clear H1
  have H' := AM H
  clear H
  go_wp2_with (first | ((with_reducible refine gate_callee (f := 57) rfl ?_); refine ZGL (some 13) Tryd.func57 #[.int .i64 a0, .int .i64 x6_1] ?_; (with_reducible refine (spec_l1Has.calls a0 x6_1 false _ A4.out).mono ?_); rintro e w' ⟨rfl, ⟨nd, rfl⟩⟩; refine ZV1 ?_))
  go_roundg k1
  case measure => have := HK1.out; omega
  case rel => exact ⟨(x5_1), (wrap64 (x6_1 + 1)), ZSM, ZSM, H', ⟨by have := HK1.out; omega⟩, by repeat (first | exact Drawn0.refl _ | apply Drawn0.step)⟩))
  ·(
  rw [if_neg c3] at H
  have c3b0 := decide_eq_false c3
  clear c3
  obtain rfl := Option.some.inj H
  go_wp2
  go_ret
  exact ⟨by first | rfl | (simp; done) | (simp [*]; done), by repeat (first | exact Drawn0.refl _ | apply Drawn0.step)⟩))

end Go.Proofs.YtfcmckomagaiiaaDoor.A
