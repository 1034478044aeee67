/- What Go functions compute, as Lean functions, and for each its contract: for every input at which the Lean function answers the call returns that; written by wip/tools/pr.py over the kit's print. -/
import Derived.Test.YtcffnnedghgmaaaAx0
namespace Go.Proofs.Ytcffnnedghgmaaa.A
open Go.RowKit Go.Proofs.YtcffnnedghgmaaaW.PrintWords Go.Proofs.YtcffnnedghgmaaaW.PrintLast Go.Proofs.YtcffnnedghgmaaaW.PrintMore
attribute [local go_sem] max2_int min2_int max_two min_two max_three min_three max_four min_four   -- for this text's walks alone
set_option linter.unusedVariables false
set_option linter.unusedSimpArgs false

/-! ### spec_l2All: function 81 -/
mutual
def spec_l2All.l0 : Nat → List (S59) → List (S59) → Int → Option ((List (S59)))
 | 0, _, _, _ => none
 | k + 1, x0, x3, x4 => if x4 < (x0.length : Int) then (if 0 ≤ x4 then (if x3.length < 1466015503701 then ((some (x3 ++ [(⟨(rd_T59 x0 x4).f0, (rd_T59 x0 x4).f1, (⟨(rd_T59 x0 x4).f2.f0, (rd_T59 x0 x4).f2.f1, (rd_T59 x0 x4).f2.f2⟩ : S57), (rd_T59 x0 x4).f3, (rd_T59 x0 x4).f4, (rd_T59 x0 x4).f5⟩ : S59)] : List (S59))).bind fun y398 => ((spec_l2All.f k ((rd_T59 x0 x4).f4)).bind fun t402 => (if y398.length + t402.length < 1466015503701 then ((some (y398 ++ t402 : List (S59))).bind fun y405 => ((spec_l2All.f k ((rd_T59 x0 x4).f5)).bind fun t409 => (if y405.length + t409.length < 1466015503701 then (spec_l2All.l0 k x0 (y405 ++ t409) (wrap64 (x4 + 1))) else (none)))) else (none)))) else (none)) else (none)) else (some x3)
def spec_l2All.f : Nat → List (S59) → Option ((List (S59)))
 | 0, _ => none
 | k + 1, l0 => spec_l2All.l0 k l0 (([] : List (S59))) 0
end
set_option maxHeartbeats 8000000 in
set_option maxRecDepth 100000 in
theorem spec_l2All.calls (k : Nat) : ∀ (P0_ : Nat → Prop) (A0 : Option Addr) (c0 : Nat) (l0 : List (S59)) (r : List (S59)) (w : World) (hs0 : Kd.V k59 59 w w.heap.size (fun k_ => P0_ k_) (.slice A0 l0.length c0) l0) (h : spec_l2All.f k l0 = some r),
  Calls Try.prog 81 #[.slice A0 l0.length c0] w fun e w' => ∃ v0_ : Value, e = .returned (v0_) ∧ Kd.N k59 59 w' w.heap.size (fun k_ => (P0_ k_ ∨ w.heap.size ≤ k_)) v0_ r ∧ Below w.heap.size w w' := by
 induction k using Nat.strongRecOn with
 | _ k ih =>
 intro P0_ A0 c0 l0 r w hs0 h
 cases k with
 | zero => exact absurd h (by simp [spec_l2All.f])
 | succ k =>
 simp only [spec_l2All.f] at h
 have hu59 := Try.underlying59
 have HO0 := Aside0.mk (show Kd.V k59 59 w w.heap.size (fun k_ => (P0_ k_ ∨ w.heap.size ≤ k_)) (.slice A0 l0.length c0) l0 from Kd.V_mono hs0 (fun k_ hk => .inl hk))
 have HB := Aside0.mk (Below.refl w.heap.size w)
 have H : (spec_l2All.l0 k l0 (([] : List (S59))) 0) = some r := h
 clear h
 obtain ⟨y394, hy394⟩ : ∃ y_ : List (S59), y_ = (([] : List (S59))) := ⟨_, rfl⟩
 replace H : (spec_l2All.l0 k l0 y394 0) = some r := by first | (rw [hy394]; with_reducible exact H) | (have H2_ := (Option.bind_some _ _).symm.trans H; rw [hy394]; with_reducible exact H2_) | (have H2_ := (Option.bind_some _ _).symm.trans H; with_reducible exact H2_) | with_reducible exact H | (rw [hy394]; exact H) | exact H
 have Ny394 := Aside0.mk hy394
 clear hy394
 have H' := Aside0.mk H
 clear H
 go_enter Try.func81, Try.ntmps81
 go_wp2_with (first | ((with_reducible refine gate_dst (N := 5) rfl ?_); refine Kd.N_lit k59 _ 59 ?hg (N' := 5) ?hd (xs := ([] : List (S59))) (inner := []) (ok := (fun k_ => (P0_ k_ ∨ w.heap.size ≤ k_))) (okp := (fun k_ => (P0_ k_ ∨ w.heap.size ≤ k_))) ?hr ?hp (fun _ hk => hk) ((show ∀ k_, w.heap.size ≤ k_ → (fun k_ => (P0_ k_ ∨ w.heap.size ≤ k_)) k_ from fun k_ hk => (.inr (Nat.le_trans (below_size (ZB)) hk))) _ (Nat.le_refl _)) (Below.refl _ _) (Nat.le_refl _) (by simp) ?_; (case hd => rfl); (case hg => rfl); (case hr => first | (go_simp; done) | (go_simp; rfl)); (case hp => exact (Reps.none _ _)); intro v395 w2 ho3 hb hg_ hnew_; clear hg_ hnew_; (first | rw [← Ny394.out] at ho3 | (simp only [Int.reduceToNat] at ho3; rw [← Ny394.out] at ho3)); have HO396 := Aside0.mk (Kd.N_lower ho3 (below_size (ZB))); replace HO0 := Aside0.mk (Kd.V_elder' (ZRV HO0.out) (Kd.N_base ho3) hb); replace HB := ZT hb; clear hb ho3))
 go_loopg [3, 4] k (fun kq v3 v4 w' => ∃ (x3_1 : List (S59)) (x4_1 : Int), v4 = .int .i64 x4_1 ∧ Aside0 (spec_l2All.l0 kq l0 x3_1 x4_1 = some r) ∧ Aside0 (kq ≤ k) ∧ Aside0 (Kd.V k59 59 w' w.heap.size (fun k_ => (P0_ k_ ∨ w.heap.size ≤ k_) ∧ some k_ ≠ (v3 : Value).ownBlock) (.slice A0 l0.length c0) l0) ∧ Aside0 (Kd.N k59 59 w' w.heap.size (fun k_ => (P0_ k_ ∨ w.heap.size ≤ k_)) v3 x3_1) ∧ Aside0 (Below w.heap.size w w'))
 case atStart => exact ⟨(y394), (0), (by first | rfl | (simp; done) | (simp [*]; done)), H', ⟨Nat.le_refl _⟩, ⟨ZRV HO0.out⟩, ⟨ZRN HO396.out⟩, ⟨ZB⟩⟩
 case round =>
  clear H'
  try clear p2
  obtain ⟨x3_1, x4_1, rfl, HA, HK1, HO_0, HO_3, HB⟩ := hrel
  cases gk with
  | zero => exact absurd HA.out (by simp [spec_l2All.l0])
  | succ k1 =>
   have H := HA.out
   clear HA
   simp only [spec_l2All.l0] at H
   by_cases c4 : x4_1 < (l0.length : Int)
   ·rw [if_pos c4] at H
    have c4b0 : decide (x4_1 < (l0.length : Int)) = true := decide_eq_true c4
    clear c4
    by_cases c5 : 0 ≤ x4_1
    ·rw [if_pos c5] at H
     have c5b0 : decide (0 ≤ x4_1) = true := decide_eq_true c5
     clear c5
     by_cases c6 : x3_1.length < 1466015503701
     ·rw [if_pos c6] at H
      have LMc6 := Aside0.mk c6
      clear c6
      obtain ⟨y398, hy398⟩ : ∃ y_ : List (S59), y_ = (x3_1 ++ [(⟨(rd_T59 l0 x4_1).f0, (rd_T59 l0 x4_1).f1, (⟨(rd_T59 l0 x4_1).f2.f0, (rd_T59 l0 x4_1).f2.f1, (rd_T59 l0 x4_1).f2.f2⟩ : S57), (rd_T59 l0 x4_1).f3, (rd_T59 l0 x4_1).f4, (rd_T59 l0 x4_1).f5⟩ : S59)]) := ⟨_, rfl⟩
      replace H : ((spec_l2All.f k1 ((rd_T59 l0 x4_1).f4)).bind fun t402 => (if y398.length + t402.length < 1466015503701 then ((some (y398 ++ t402 : List (S59))).bind fun y405 => ((spec_l2All.f k1 ((rd_T59 l0 x4_1).f5)).bind fun t409 => (if y405.length + t409.length < 1466015503701 then (spec_l2All.l0 k1 l0 (y405 ++ t409) (wrap64 (x4_1 + 1))) else (none)))) else (none))) = some r := by first | (rw [hy398]; with_reducible exact H) | (have H2_ := (Option.bind_some _ _).symm.trans H; rw [hy398]; with_reducible exact H2_) | (have H2_ := (Option.bind_some _ _).symm.trans H; with_reducible exact H2_) | with_reducible exact H | (rw [hy398]; exact H) | exact H
      have Ny398 := Aside0.mk hy398
      clear hy398
      replace H := Option.bind_eq_some_iff.mp H
      obtain ⟨t402, A70, H⟩ := H
      replace H : (if y398.length + t402.length < 1466015503701 then ((some (y398 ++ t402 : List (S59))).bind fun y405 => ((spec_l2All.f k1 ((rd_T59 l0 x4_1).f5)).bind fun t409 => (if y405.length + t409.length < 1466015503701 then (spec_l2All.l0 k1 l0 (y405 ++ t409) (wrap64 (x4_1 + 1))) else (none)))) else (none)) = some r := H
      have A7 := Aside0.mk A70
      clear A70
      by_cases c8 : y398.length + t402.length < 1466015503701
      ·rw [if_pos c8] at H
       have LMc8 := Aside0.mk c8
       clear c8
       obtain ⟨y405, hy405⟩ : ∃ y_ : List (S59), y_ = (y398 ++ t402) := ⟨_, rfl⟩
       replace H : ((spec_l2All.f k1 ((rd_T59 l0 x4_1).f5)).bind fun t409 => (if y405.length + t409.length < 1466015503701 then (spec_l2All.l0 k1 l0 (y405 ++ t409) (wrap64 (x4_1 + 1))) else (none))) = some r := by first | (rw [hy405]; with_reducible exact H) | (have H2_ := (Option.bind_some _ _).symm.trans H; rw [hy405]; with_reducible exact H2_) | (have H2_ := (Option.bind_some _ _).symm.trans H; with_reducible exact H2_) | with_reducible exact H | (rw [hy405]; exact H) | exact H
       have Ny405 := Aside0.mk hy405
       clear hy405
       replace H := Option.bind_eq_some_iff.mp H
       obtain ⟨t409, A90, H⟩ := H
       replace H : (if y405.length + t409.length < 1466015503701 then (spec_l2All.l0 k1 l0 (y405 ++ t409) (wrap64 (x4_1 + 1))) else (none)) = some r := H
       have A9 := Aside0.mk A90
       clear A90
       by_cases c10 : y405.length + t409.length < 1466015503701
       ·rw [if_pos c10] at H
        have LMc10 := Aside0.mk c10
        clear c10
        obtain ⟨y412, hy412⟩ : ∃ y_ : List (S59), y_ = (y405 ++ t409) := ⟨_, rfl⟩
        replace H : (spec_l2All.l0 k1 l0 y412 (wrap64 (x4_1 + 1))) = some r := by first | (rw [hy412]; with_reducible exact H) | (have H2_ := (Option.bind_some _ _).symm.trans H; rw [hy412]; with_reducible exact H2_) | (have H2_ := (Option.bind_some _ _).symm.trans H; with_reducible exact H2_) | with_reducible exact H | (rw [hy412]; exact H) | exact H
        have Ny412 := Aside0.mk hy412
        clear hy412
        have H' := Aside0.mk H
        clear H
        have p397 : 0 ≤ (x4_1 : Int) := ZD
        have q397 : x4_1 < (l0.length : Int) := ZD
        obtain ⟨ad397, A397_6, c397_6, A397_7, c397_7, e397, hx397_0, hx397_1, hx397_2, hx397_3, hx397_4, hx397_5, hx397_6, hx397_7, hl397_6, hi397_6, hl397_7, hi397_7⟩ := at_T59 (Kd.V_reads' HO_0.out).2.2 x4_1 p397 q397
        cases e397
        obtain ⟨ce397, hce397, hMe397, hcc397⟩ := Kd.V_get HO_0.out z59 x4_1 p397 (by first | exact q397 | exact ZD | (have e_ := (Kd.V_reads' HO_0.out).1; omega))
        obtain ⟨ua397_6, uc397_6, ua397_7, uc397_7, rfl, ul397_6, ge397_6, ul397_7, ge397_7⟩ := k59_openF hMe397
        have hv397_6 := hcc397 6 _ rfl
        rw [add_field _ _ 6 (by omega)] at hv397_6
        replace hv397_6 := Option.some.inj (hv397_6.symm.trans hx397_6)
        injection hv397_6 with hva_ hvn_ hvc_
        rw [hva_] at ge397_6
        rw [hvc_] at ul397_6
        have HL397_6 := Aside0.mk (show Kd.V k59 59 _ w.heap.size _ _ ((rd_T59 l0 x4_1).f4) from Kd.V_mk ul397_6 ge397_6)
        clear hva_ hvn_ hvc_ ge397_6 ul397_6
        have hv397_7 := hcc397 7 _ rfl
        rw [add_field _ _ 7 (by omega)] at hv397_7
        replace hv397_7 := Option.some.inj (hv397_7.symm.trans hx397_7)
        injection hv397_7 with hva_ hvn_ hvc_
        rw [hva_] at ge397_7
        rw [hvc_] at ul397_7
        have HL397_7 := Aside0.mk (show Kd.V k59 59 _ w.heap.size _ _ ((rd_T59 l0 x4_1).f5) from Kd.V_mk ul397_7 ge397_7)
        clear hva_ hvn_ hvc_ ge397_7 ul397_7
        clear hcc397 hce397
        have HR397_6 := Aside0.mk hi397_6
        have HC397_6 := Aside0.mk hl397_6
        clear hi397_6 hl397_6
        have HR397_7 := Aside0.mk hi397_7
        have HC397_7 := Aside0.mk hl397_7
        clear hi397_7 hl397_7
        replace p397 := eq_true p397
        replace q397 := eq_true q397
        go_wp2_with (first | ((with_reducible refine gate_builtin (b := .append) (xs := #[.tmp 12, .tmp 17]) rfl ?_); at_builtin; refine Kd.N_append k59 (w0 := w) w.heap.size rfl (.tmp 12) (.tmp 17) 24 59 (.agg #[(.int .i64 0), (.int .i64 0), (.int .i64 0), (.int .i64 0), (.int .i64 0), (.int .i64 0), (.slice none 0 0), (.slice none 0 0)]) 96 rfl Try.underlying24 info59 rfl (by decide) (by omega) u3 x3_1 (⟨(rd_T59 l0 x4_1).f0, (rd_T59 l0 x4_1).f1, (⟨(rd_T59 l0 x4_1).f2.f0, (rd_T59 l0 x4_1).f2.f1, (rd_T59 l0 x4_1).f2.f2⟩ : S57), (rd_T59 l0 x4_1).f3, (rd_T59 l0 x4_1).f4, (rd_T59 l0 x4_1).f5⟩ : S59) [.int .i64 ((rd_T59 l0 x4_1).f0), .int .i64 ((rd_T59 l0 x4_1).f1), .int .i64 ((rd_T59 l0 x4_1).f2.f0), .int .i64 ((rd_T59 l0 x4_1).f2.f1), .int .i64 ((rd_T59 l0 x4_1).f2.f2), .int .i64 ((rd_T59 l0 x4_1).f3), .slice A397_6 ((rd_T59 l0 x4_1).f4).length c397_6, .slice A397_7 ((rd_T59 l0 x4_1).f5).length c397_7] (fun k_ => (P0_ k_ ∨ w.heap.size ≤ k_)) (fun k_ => ((fun k_ => (P0_ k_ ∨ w.heap.size ≤ k_))) k_ ∧ some k_ ≠ (u3 : Value).ownBlock) rfl rfl ?aP (fun _ hk => hk) ?aF ?aO ?aB ?aS ?aL ?_; (case aP => exact (k59_mkF _ _ (⟨(rd_T59 l0 x4_1).f0, (rd_T59 l0 x4_1).f1, (⟨(rd_T59 l0 x4_1).f2.f0, (rd_T59 l0 x4_1).f2.f1, (rd_T59 l0 x4_1).f2.f2⟩ : S57), (rd_T59 l0 x4_1).f3, (rd_T59 l0 x4_1).f4, (rd_T59 l0 x4_1).f5⟩ : S59) (Kd.V_reads' (Kd.V_mono (ok' := (fun k_ => ((fun k_ => (P0_ k_ ∨ w.heap.size ≤ k_))) k_ ∧ some k_ ≠ (u3 : Value).ownBlock)) (HL397_6.out) (fun k_ hk => ⟨hk.1, hk.2⟩))).2.1 (Kd.V_F (Kd.V_mono (ok' := (fun k_ => ((fun k_ => (P0_ k_ ∨ w.heap.size ≤ k_))) k_ ∧ some k_ ≠ (u3 : Value).ownBlock)) (HL397_6.out) (fun k_ hk => ⟨hk.1, hk.2⟩))) (Kd.V_reads' (Kd.V_mono (ok' := (fun k_ => ((fun k_ => (P0_ k_ ∨ w.heap.size ≤ k_))) k_ ∧ some k_ ≠ (u3 : Value).ownBlock)) (HL397_7.out) (fun k_ hk => ⟨hk.1, hk.2⟩))).2.1 (Kd.V_F (Kd.V_mono (ok' := (fun k_ => ((fun k_ => (P0_ k_ ∨ w.heap.size ≤ k_))) k_ ∧ some k_ ≠ (u3 : Value).ownBlock)) (HL397_7.out) (fun k_ hk => ⟨hk.1, hk.2⟩))))); (case aB => exact (ZB)); (case aF => exact (fun k_ hk => (.inr (Nat.le_trans (below_size (ZB)) hk)))); (case aO => exact (ZRN HO_3.out)); (case aS => exact (below_size (ZB))); (case aL => have := LMc6.out; omega); intro v399 w11 ho hb hg hat; rw [← Ny398.out] at ho; have n0_ := Aside0.mk (Kd.V_afterv (ok := (fun k_ => (P0_ k_ ∨ w.heap.size ≤ k_))) (ZRV HO_0.out) hg hat); have n1_ := Aside0.mk (Kd.V_afterv (ok := (fun k_ => (P0_ k_ ∨ w.heap.size ≤ k_))) (ZRV HL397_6.out) hg hat); have n2_ := Aside0.mk (Kd.V_afterv (ok := (fun k_ => (P0_ k_ ∨ w.heap.size ≤ k_))) (ZRV HL397_7.out) hg hat); have n3_ := Aside0.mk (hb); have n4_ := Aside0.mk (ho); clear HO_0; clear HL397_6; clear HL397_7; clear HB; clear HO_3; have HO_0 := n0_; have HL397_6 := n1_; have HL397_7 := n2_; have HB := n3_; have HO400 := n4_; clear n0_ n1_ n2_ n3_ n4_; clear ho hb hg hat; have p401 : 0 ≤ (x4_1 : Int) := ZD; have q401 : x4_1 < (l0.length : Int) := ZD; obtain ⟨ad401, A401_6, c401_6, A401_7, c401_7, e401, hx401_0, hx401_1, hx401_2, hx401_3, hx401_4, hx401_5, hx401_6, hx401_7, hl401_6, hi401_6, hl401_7, hi401_7⟩ := at_T59 (Kd.V_reads' HO_0.out).2.2 x4_1 p401 q401; obtain rfl : ad397 = ad401 := (by injection e401); obtain ⟨ce401, hce401, hMe401, hcc401⟩ := Kd.V_get HO_0.out z59 x4_1 p401 (by first | exact q401 | exact ZD | (have e_ := (Kd.V_reads' HO_0.out).1; omega)); obtain ⟨ua401_6, uc401_6, ua401_7, uc401_7, rfl, ul401_6, ge401_6, ul401_7, ge401_7⟩ := k59_openF hMe401; have hv401_6 := hcc401 6 _ rfl; rw [add_field _ _ 6 (by omega)] at hv401_6; replace hv401_6 := Option.some.inj (hv401_6.symm.trans hx401_6); injection hv401_6 with hva_ hvn_ hvc_; rw [hva_] at ge401_6; rw [hvc_] at ul401_6; have HL401_6 := Aside0.mk (show Kd.V k59 59 _ w.heap.size _ _ ((rd_T59 l0 x4_1).f4) from Kd.V_mk ul401_6 ge401_6); clear hva_ hvn_ hvc_ ge401_6 ul401_6; have hv401_7 := hcc401 7 _ rfl; rw [add_field _ _ 7 (by omega)] at hv401_7; replace hv401_7 := Option.some.inj (hv401_7.symm.trans hx401_7); injection hv401_7 with hva_ hvn_ hvc_; rw [hva_] at ge401_7; rw [hvc_] at ul401_7; have HL401_7 := Aside0.mk (show Kd.V k59 59 _ w.heap.size _ _ ((rd_T59 l0 x4_1).f5) from Kd.V_mk ul401_7 ge401_7); clear hva_ hvn_ hvc_ ge401_7 ul401_7; clear hcc401 hce401; have HR401_6 := Aside0.mk hi401_6; have HC401_6 := Aside0.mk hl401_6; clear hi401_6 hl401_6; have HR401_7 := Aside0.mk hi401_7; have HC401_7 := Aside0.mk hl401_7; clear hi401_7 hl401_7; replace p401 := eq_true p401; replace q401 := eq_true q401) | ((with_reducible refine gate_callee (f := 81) rfl ?_); refine goesL_ (some 25) rfl rfl Try.func81 (by kernel_rfl) rfl #[.slice A401_6 ((rd_T59 l0 x4_1).f4).length c401_6] rfl ZG ?_; (with_reducible refine (ih k1 (by have := HK1.out; omega) (fun k_ => ((P0_ k_ ∨ w.heap.size ≤ k_) ∧ some k_ ≠ (v399 : Value).ownBlock)) _ _ ((rd_T59 l0 x4_1).f4) t402 _ ?side1 A7.out).mono ?_); (case side1 => exact HL401_6.out); rintro e w12 ⟨v403, rfl, ho0, hb⟩; refine ⟨_, rfl, ?_⟩; have HO404 := Aside0.mk (Kd.N_lower (Kd.N_mono (ok' := fun k_ => (P0_ k_ ∨ w.heap.size ≤ k_) ∧ some k_ ≠ (v399 : Value).ownBlock) ho0 (fun k_ hk_ => ⟨Or.elim hk_ (fun hs_ => hs_.1) (fun hn_ => (.inr (Nat.le_trans (below_size (ZB)) hn_))), Or.elim hk_ (fun hs_ => hs_.2) (fun hn_ => (Kd.fresh' (Kd.N_lt (ZRN HO400.out)) k_ hn_))⟩)) (below_size (ZB))); replace HO_0 := Aside0.mk (Kd.V_elder' (ZRV HO_0.out) (Kd.N_base ho0) hb); replace HL397_6 := Aside0.mk (Kd.V_elder' (ZRV HL397_6.out) (Kd.N_base ho0) hb); replace HL397_7 := Aside0.mk (Kd.V_elder' (ZRV HL397_7.out) (Kd.N_base ho0) hb); replace HO400 := Aside0.mk (Kd.N_elder' (ZRN HO400.out) (Kd.N_base ho0) hb); replace HL401_6 := Aside0.mk (Kd.V_elder' (ZRV HL401_6.out) (Kd.N_base ho0) hb); replace HL401_7 := Aside0.mk (Kd.V_elder' (ZRV HL401_7.out) (Kd.N_base ho0) hb); replace HR401_6 := Aside0.mk (Kd.C_below (ZQ HR401_6.out) hb); replace HR401_7 := Aside0.mk (Kd.C_below (ZQ HR401_7.out) hb); replace HB := ZT hb; (try clear hb); (try clear hb2); (try clear hk); (try clear hi); (try clear ho0); obtain ⟨Ao14, co14, eo14⟩ := Kd.N_slice HO404.out; subst eo14) | ((with_reducible refine gate_builtin (b := .append) (xs := #[.tmp 19, .tmp 25]) rfl ?_); at_builtin; refine Kd.N_append_rows k59 (w0 := w) w.heap.size rfl (.tmp 19) (.tmp 25) 24 59 (.agg #[(.int .i64 0), (.int .i64 0), (.int .i64 0), (.int .i64 0), (.int .i64 0), (.int .i64 0), (.slice none 0 0), (.slice none 0 0)]) 96 rfl Try.underlying24 info59 rfl (by decide) (by omega) v399 y398 t402 _ _ _ (fun k_ => (P0_ k_ ∨ w.heap.size ≤ k_)) (fun k_ => ((fun k_ => (P0_ k_ ∨ w.heap.size ≤ k_))) k_ ∧ some k_ ≠ (v399 : Value).ownBlock) rfl rfl ?aO ?aR (fun _ hk => hk) ?aF ?aB ?aS ?aL ?_; (case aR => exact (by skip; exact Kd.N_F (Kd.N_mono (ok' := (fun k_ => ((fun k_ => (P0_ k_ ∨ w.heap.size ≤ k_))) k_ ∧ some k_ ≠ (v399 : Value).ownBlock)) (HO404.out) (fun k_ hk => ⟨hk.1, hk.2⟩)))); (case aB => exact (ZB)); (case aF => exact (fun k_ hk => (.inr (Nat.le_trans (below_size (ZB)) hk)))); (case aO => exact (ZRN (Kd.N_mono HO400.out (fun _ hk => hk.1)))); (case aS => exact (below_size (ZB))); (case aL => have := LMc8.out; omega); intro v406 w13 ho hb hg hat; rw [← Ny405.out] at ho; have n0_ := Aside0.mk (Kd.V_afterv (ok := (fun k_ => (P0_ k_ ∨ w.heap.size ≤ k_) ∧ some k_ ≠ (.slice Ao14 t402.length co14 : Value).ownBlock)) (by (with_reducible repeat (first | apply Kd.V_alloc | apply Kd.V_drewN | apply Kd.V_drew)); exact Kd.V_mono HO_0.out (fun _ hk => ⟨⟨hk.1.1, hk.2⟩, hk.1.2⟩)) hg hat); have n1_ := Aside0.mk (Kd.V_afterv (ok := (fun k_ => (P0_ k_ ∨ w.heap.size ≤ k_) ∧ some k_ ≠ (.slice Ao14 t402.length co14 : Value).ownBlock)) (by (with_reducible repeat (first | apply Kd.V_alloc | apply Kd.V_drewN | apply Kd.V_drew)); exact Kd.V_mono HL397_6.out (fun _ hk => ⟨⟨hk.1.1, hk.2⟩, hk.1.2⟩)) hg hat); have n2_ := Aside0.mk (Kd.V_afterv (ok := (fun k_ => (P0_ k_ ∨ w.heap.size ≤ k_) ∧ some k_ ≠ (.slice Ao14 t402.length co14 : Value).ownBlock)) (by (with_reducible repeat (first | apply Kd.V_alloc | apply Kd.V_drewN | apply Kd.V_drew)); exact Kd.V_mono HL397_7.out (fun _ hk => ⟨⟨hk.1.1, hk.2⟩, hk.1.2⟩)) hg hat); have n3_ := Aside0.mk (Kd.V_afterv (ok := (fun k_ => (P0_ k_ ∨ w.heap.size ≤ k_) ∧ some k_ ≠ (.slice Ao14 t402.length co14 : Value).ownBlock)) (by (with_reducible repeat (first | apply Kd.V_alloc | apply Kd.V_drewN | apply Kd.V_drew)); exact Kd.V_mono HL401_6.out (fun _ hk => ⟨⟨hk.1.1, hk.2⟩, hk.1.2⟩)) hg hat); have n4_ := Aside0.mk (Kd.V_afterv (ok := (fun k_ => (P0_ k_ ∨ w.heap.size ≤ k_) ∧ some k_ ≠ (.slice Ao14 t402.length co14 : Value).ownBlock)) (by (with_reducible repeat (first | apply Kd.V_alloc | apply Kd.V_drewN | apply Kd.V_drew)); exact Kd.V_mono HL401_7.out (fun _ hk => ⟨⟨hk.1.1, hk.2⟩, hk.1.2⟩)) hg hat); have n5_ := Aside0.mk (Kd.N_afterv (ok := (fun k_ => (P0_ k_ ∨ w.heap.size ≤ k_))) (ZRN HO404.out) hg hat); have n6_ := Aside0.mk (hb); have n7_ := Aside0.mk (ho); clear HO_0; clear HL397_6; clear HL397_7; clear HL401_6; clear HL401_7; clear HO404; clear HB; clear HO400; have HO_0 := n0_; have HL397_6 := n1_; have HL397_7 := n2_; have HL401_6 := n3_; have HL401_7 := n4_; have HO404 := n5_; have HB := n6_; have HO407 := n7_; clear n0_ n1_ n2_ n3_ n4_ n5_ n6_ n7_; clear ho hb hg hat; have p408 : 0 ≤ (x4_1 : Int) := ZD; have q408 : x4_1 < (l0.length : Int) := ZD; obtain ⟨ad408, A408_6, c408_6, A408_7, c408_7, e408, hx408_0, hx408_1, hx408_2, hx408_3, hx408_4, hx408_5, hx408_6, hx408_7, hl408_6, hi408_6, hl408_7, hi408_7⟩ := at_T59 (Kd.V_reads' HO_0.out).2.2 x4_1 p408 q408; obtain rfl : ad397 = ad408 := (by injection e408); obtain ⟨ce408, hce408, hMe408, hcc408⟩ := Kd.V_get HO_0.out z59 x4_1 p408 (by first | exact q408 | exact ZD | (have e_ := (Kd.V_reads' HO_0.out).1; omega)); obtain ⟨ua408_6, uc408_6, ua408_7, uc408_7, rfl, ul408_6, ge408_6, ul408_7, ge408_7⟩ := k59_openF hMe408; have hv408_6 := hcc408 6 _ rfl; rw [add_field _ _ 6 (by omega)] at hv408_6; replace hv408_6 := Option.some.inj (hv408_6.symm.trans hx408_6); injection hv408_6 with hva_ hvn_ hvc_; rw [hva_] at ge408_6; rw [hvc_] at ul408_6; have HL408_6 := Aside0.mk (show Kd.V k59 59 _ w.heap.size _ _ ((rd_T59 l0 x4_1).f4) from Kd.V_mk ul408_6 ge408_6); clear hva_ hvn_ hvc_ ge408_6 ul408_6; have hv408_7 := hcc408 7 _ rfl; rw [add_field _ _ 7 (by omega)] at hv408_7; replace hv408_7 := Option.some.inj (hv408_7.symm.trans hx408_7); injection hv408_7 with hva_ hvn_ hvc_; rw [hva_] at ge408_7; rw [hvc_] at ul408_7; have HL408_7 := Aside0.mk (show Kd.V k59 59 _ w.heap.size _ _ ((rd_T59 l0 x4_1).f5) from Kd.V_mk ul408_7 ge408_7); clear hva_ hvn_ hvc_ ge408_7 ul408_7; clear hcc408 hce408; have HR408_6 := Aside0.mk hi408_6; have HC408_6 := Aside0.mk hl408_6; clear hi408_6 hl408_6; have HR408_7 := Aside0.mk hi408_7; have HC408_7 := Aside0.mk hl408_7; clear hi408_7 hl408_7; replace p408 := eq_true p408; replace q408 := eq_true q408) | ((with_reducible refine gate_callee (f := 81) rfl ?_); refine goesL_ (some 33) rfl rfl Try.func81 (by kernel_rfl) rfl #[.slice A408_7 ((rd_T59 l0 x4_1).f5).length c408_7] rfl ZG ?_; (with_reducible refine (ih k1 (by have := HK1.out; omega) (fun k_ => (((P0_ k_ ∨ w.heap.size ≤ k_) ∧ some k_ ≠ (.slice Ao14 t402.length co14 : Value).ownBlock) ∧ some k_ ≠ (v406 : Value).ownBlock)) _ _ ((rd_T59 l0 x4_1).f5) t409 _ ?side1 A9.out).mono ?_); (case side1 => exact HL408_7.out); rintro e w15 ⟨v410, rfl, ho0, hb⟩; refine ⟨_, rfl, ?_⟩; have HO411 := Aside0.mk (Kd.N_lower (Kd.N_mono (ok' := fun k_ => (P0_ k_ ∨ w.heap.size ≤ k_) ∧ some k_ ≠ (.slice Ao14 t402.length co14 : Value).ownBlock ∧ some k_ ≠ (v406 : Value).ownBlock) ho0 (fun k_ hk_ => ⟨Or.elim hk_ (fun hs_ => hs_.1.1) (fun hn_ => (.inr (Nat.le_trans (below_size (ZB)) hn_))), Or.elim hk_ (fun hs_ => hs_.1.2) (fun hn_ => (Kd.fresh' (Kd.N_lt (ZRN HO404.out)) k_ hn_)), Or.elim hk_ (fun hs_ => hs_.2) (fun hn_ => (Kd.fresh' (Kd.N_lt (ZRN HO407.out)) k_ hn_))⟩)) (below_size (ZB))); replace HO_0 := Aside0.mk (Kd.V_elder' (ZRV HO_0.out) (Kd.N_base ho0) hb); replace HL397_6 := Aside0.mk (Kd.V_elder' (ZRV HL397_6.out) (Kd.N_base ho0) hb); replace HL397_7 := Aside0.mk (Kd.V_elder' (ZRV HL397_7.out) (Kd.N_base ho0) hb); replace HL401_6 := Aside0.mk (Kd.V_elder' (ZRV HL401_6.out) (Kd.N_base ho0) hb); replace HL401_7 := Aside0.mk (Kd.V_elder' (ZRV HL401_7.out) (Kd.N_base ho0) hb); replace HO404 := Aside0.mk (Kd.N_elder' (ZRN HO404.out) (Kd.N_base ho0) hb); replace HO407 := Aside0.mk (Kd.N_elder' (ZRN HO407.out) (Kd.N_base ho0) hb); replace HL408_6 := Aside0.mk (Kd.V_elder' (ZRV HL408_6.out) (Kd.N_base ho0) hb); replace HL408_7 := Aside0.mk (Kd.V_elder' (ZRV HL408_7.out) (Kd.N_base ho0) hb); replace HR408_6 := Aside0.mk (Kd.C_below (ZQ HR408_6.out) hb); replace HR408_7 := Aside0.mk (Kd.C_below (ZQ HR408_7.out) hb); replace HB := ZT hb; (try clear hb); (try clear hb2); (try clear hk); (try clear hi); (try clear ho0); obtain ⟨Ao17, co17, eo17⟩ := Kd.N_slice HO411.out; subst eo17) | ((with_reducible refine gate_builtin (b := .append) (xs := #[.tmp 27, .tmp 33]) rfl ?_); at_builtin; refine Kd.N_append_rows k59 (w0 := w) w.heap.size rfl (.tmp 27) (.tmp 33) 24 59 (.agg #[(.int .i64 0), (.int .i64 0), (.int .i64 0), (.int .i64 0), (.int .i64 0), (.int .i64 0), (.slice none 0 0), (.slice none 0 0)]) 96 rfl Try.underlying24 info59 rfl (by decide) (by omega) v406 y405 t409 _ _ _ (fun k_ => (P0_ k_ ∨ w.heap.size ≤ k_)) (fun k_ => ((fun k_ => (P0_ k_ ∨ w.heap.size ≤ k_))) k_ ∧ some k_ ≠ (v406 : Value).ownBlock) rfl rfl ?aO ?aR (fun _ hk => hk) ?aF ?aB ?aS ?aL ?_; (case aR => exact (by skip; exact Kd.N_F (Kd.N_mono (ok' := (fun k_ => ((fun k_ => (P0_ k_ ∨ w.heap.size ≤ k_))) k_ ∧ some k_ ≠ (v406 : Value).ownBlock)) (HO411.out) (fun k_ hk => ⟨hk.1, hk.2.2⟩)))); (case aB => exact (ZB)); (case aF => exact (fun k_ hk => (.inr (Nat.le_trans (below_size (ZB)) hk)))); (case aO => exact (ZRN (Kd.N_mono HO407.out (fun _ hk => hk.1)))); (case aS => exact (below_size (ZB))); (case aL => have := LMc10.out; omega); intro v413 w16 ho hb hg hat; rw [← Ny412.out] at ho; have n0_ := Aside0.mk (Kd.V_afterv (ok := (fun k_ => (P0_ k_ ∨ w.heap.size ≤ k_) ∧ some k_ ≠ (.slice Ao14 t402.length co14 : Value).ownBlock ∧ some k_ ≠ (.slice Ao17 t409.length co17 : Value).ownBlock)) (by (with_reducible repeat (first | apply Kd.V_alloc | apply Kd.V_drewN | apply Kd.V_drew)); exact Kd.V_mono HO_0.out (fun _ hk => ⟨⟨hk.1.1.1, ⟨hk.1.1.2, hk.2⟩⟩, hk.1.2⟩)) hg hat); have n1_ := Aside0.mk (Kd.V_afterv (ok := (fun k_ => (P0_ k_ ∨ w.heap.size ≤ k_) ∧ some k_ ≠ (.slice Ao14 t402.length co14 : Value).ownBlock ∧ some k_ ≠ (.slice Ao17 t409.length co17 : Value).ownBlock)) (by (with_reducible repeat (first | apply Kd.V_alloc | apply Kd.V_drewN | apply Kd.V_drew)); exact Kd.V_mono HL397_6.out (fun _ hk => ⟨⟨hk.1.1.1, ⟨hk.1.1.2, hk.2⟩⟩, hk.1.2⟩)) hg hat); have n2_ := Aside0.mk (Kd.V_afterv (ok := (fun k_ => (P0_ k_ ∨ w.heap.size ≤ k_) ∧ some k_ ≠ (.slice Ao14 t402.length co14 : Value).ownBlock ∧ some k_ ≠ (.slice Ao17 t409.length co17 : Value).ownBlock)) (by (with_reducible repeat (first | apply Kd.V_alloc | apply Kd.V_drewN | apply Kd.V_drew)); exact Kd.V_mono HL397_7.out (fun _ hk => ⟨⟨hk.1.1.1, ⟨hk.1.1.2, hk.2⟩⟩, hk.1.2⟩)) hg hat); have n3_ := Aside0.mk (Kd.V_afterv (ok := (fun k_ => (P0_ k_ ∨ w.heap.size ≤ k_) ∧ some k_ ≠ (.slice Ao14 t402.length co14 : Value).ownBlock ∧ some k_ ≠ (.slice Ao17 t409.length co17 : Value).ownBlock)) (by (with_reducible repeat (first | apply Kd.V_alloc | apply Kd.V_drewN | apply Kd.V_drew)); exact Kd.V_mono HL401_6.out (fun _ hk => ⟨⟨hk.1.1.1, ⟨hk.1.1.2, hk.2⟩⟩, hk.1.2⟩)) hg hat); have n4_ := Aside0.mk (Kd.V_afterv (ok := (fun k_ => (P0_ k_ ∨ w.heap.size ≤ k_) ∧ some k_ ≠ (.slice Ao14 t402.length co14 : Value).ownBlock ∧ some k_ ≠ (.slice Ao17 t409.length co17 : Value).ownBlock)) (by (with_reducible repeat (first | apply Kd.V_alloc | apply Kd.V_drewN | apply Kd.V_drew)); exact Kd.V_mono HL401_7.out (fun _ hk => ⟨⟨hk.1.1.1, ⟨hk.1.1.2, hk.2⟩⟩, hk.1.2⟩)) hg hat); have n5_ := Aside0.mk (Kd.N_afterv (ok := (fun k_ => (P0_ k_ ∨ w.heap.size ≤ k_) ∧ some k_ ≠ (.slice Ao17 t409.length co17 : Value).ownBlock)) (by (with_reducible repeat (first | apply Kd.N_alloc | apply Kd.N_drewN | apply Kd.N_drew)); exact Kd.N_mono HO404.out (fun _ hk => ⟨⟨hk.1.1, hk.2⟩, hk.1.2⟩)) hg hat); have n6_ := Aside0.mk (Kd.V_afterv (ok := (fun k_ => (P0_ k_ ∨ w.heap.size ≤ k_) ∧ some k_ ≠ (.slice Ao14 t402.length co14 : Value).ownBlock ∧ some k_ ≠ (.slice Ao17 t409.length co17 : Value).ownBlock)) (by (with_reducible repeat (first | apply Kd.V_alloc | apply Kd.V_drewN | apply Kd.V_drew)); exact Kd.V_mono HL408_6.out (fun _ hk => ⟨⟨hk.1.1.1, ⟨hk.1.1.2, hk.2⟩⟩, hk.1.2⟩)) hg hat); have n7_ := Aside0.mk (Kd.V_afterv (ok := (fun k_ => (P0_ k_ ∨ w.heap.size ≤ k_) ∧ some k_ ≠ (.slice Ao14 t402.length co14 : Value).ownBlock ∧ some k_ ≠ (.slice Ao17 t409.length co17 : Value).ownBlock)) (by (with_reducible repeat (first | apply Kd.V_alloc | apply Kd.V_drewN | apply Kd.V_drew)); exact Kd.V_mono HL408_7.out (fun _ hk => ⟨⟨hk.1.1.1, ⟨hk.1.1.2, hk.2⟩⟩, hk.1.2⟩)) hg hat); have n8_ := Aside0.mk (Kd.N_afterv (ok := (fun k_ => (P0_ k_ ∨ w.heap.size ≤ k_) ∧ some k_ ≠ (.slice Ao14 t402.length co14 : Value).ownBlock)) (by (with_reducible repeat (first | apply Kd.N_alloc | apply Kd.N_drewN | apply Kd.N_drew)); exact Kd.N_mono HO411.out (fun _ hk => ⟨⟨hk.1, hk.2.1⟩, hk.2.2⟩)) hg hat); have n9_ := Aside0.mk (hb); have n10_ := Aside0.mk (ho); clear HO_0; clear HL397_6; clear HL397_7; clear HL401_6; clear HL401_7; clear HO404; clear HL408_6; clear HL408_7; clear HO411; clear HB; clear HO407; have HO_0 := n0_; have HL397_6 := n1_; have HL397_7 := n2_; have HL401_6 := n3_; have HL401_7 := n4_; have HO404 := n5_; have HL408_6 := n6_; have HL408_7 := n7_; have HO411 := n8_; have HB := n9_; have HO414 := n10_; clear n0_ n1_ n2_ n3_ n4_ n5_ n6_ n7_ n8_ n9_ n10_; clear ho hb hg hat))
        go_roundg k1
        case measure => have := HK1.out; omega
        case rel => exact ⟨(y412), (wrap64 (x4_1 + 1)), (by first | rfl | (simp; done) | (simp [*]; done)), H', ⟨by have := HK1.out; omega⟩, ⟨by (with_reducible repeat (first | apply Kd.V_alloc | apply Kd.V_drewN | apply Kd.V_drew)); exact Kd.V_mono HO_0.out (fun _ hk => ⟨hk.1.1, hk.2⟩)⟩, ⟨ZRN HO414.out⟩, ⟨ZB⟩⟩
       ·rw [if_neg c10] at H
        exact absurd H (by simp)
      ·rw [if_neg c8] at H
       exact absurd H (by simp)
     ·rw [if_neg c6] at H
      exact absurd H (by simp)
    ·rw [if_neg c5] at H
     exact absurd H (by simp)
   ·rw [if_neg c4] at H
    have c4b0 : decide (x4_1 < (l0.length : Int)) = false := decide_eq_false c4
    clear c4
    obtain rfl := Option.some.inj H
    go_wp2
    go_ret
    exact ⟨_, ZE, by (with_reducible repeat (first | apply Kd.N_alloc | apply Kd.N_drewN | apply Kd.N_drew)); exact HO_3.out, ZB⟩

end Go.Proofs.Ytcffnnedghgmaaa.A
