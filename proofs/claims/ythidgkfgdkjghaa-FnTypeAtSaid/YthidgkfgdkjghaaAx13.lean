/- By wip/tools/pr.py: Go functions as Lean functions, with contracts. -/
import Derived.Test.YthidgkfgdkjghaaAx0
import Derived.Test.YthidgkfgdkjghaaAx8
import Derived.Test.YthidgkfgdkjghaaAx5
import Derived.Test.YthidgkfgdkjghaaAx11
namespace Go.Proofs.Ythidgkfgdkjghaa.A
open Go.RowKit Go.Proofs.YthidgkfgdkjghaaW.PrintWords Go.Proofs.YthidgkfgdkjghaaW.PrintLast Go.Proofs.YthidgkfgdkjghaaW.PrintMore
attribute [local go_sem] max2_int min2_int max_two min_two max_three min_three max_four min_four
set_option linter.unusedVariables false
set_option linter.unusedSimpArgs false
set_option maxHeartbeats 8000000
set_option maxRecDepth 100000

/-! ### spec_l2All: function 41 -/
mutual
def spec_l2All.l0 : Nat → List (S32) → List (S32) → Int → Option ((List (S32)))
 | 0, _, _, _ => none
 | k + 1, x0, x3, x4 => if x4 < (x0.length : Int) then (if 0 ≤ x4 then (if x3.length < 1466015503701 then ((some (x3 ++ [(⟨(D32 x0 x4).f0, (D32 x0 x4).f1, (⟨(D32 x0 x4).f2.f0, (D32 x0 x4).f2.f1, (D32 x0 x4).f2.f2⟩ : S30), (D32 x0 x4).f3, (D32 x0 x4).f4, (D32 x0 x4).f5⟩ : S32)] : List (S32))).bind fun y293 => ((spec_l2All.f k ((D32 x0 x4).f4)).bind fun t297 => (if y293.length + t297.length < 1466015503701 then ((some (y293 ++ t297 : List (S32))).bind fun y300 => ((spec_l2All.f k ((D32 x0 x4).f5)).bind fun t304 => (if y300.length + t304.length < 1466015503701 then (spec_l2All.l0 k x0 (y300 ++ t304) (wrap64 (x4 + 1))) else (none)))) else (none)))) else (none)) else (none)) else (some x3)
def spec_l2All.f : Nat → List (S32) → Option ((List (S32)))
 | 0, _ => none
 | k + 1, l0 => spec_l2All.l0 k l0 (([] : List (S32))) 0
end
theorem spec_l2All.calls (k : Nat) : ∀ (P0_ : Nat → Prop) (A0 : Option Addr) (c0 : Nat) (l0 : List (S32)) (r : List (S32)) (w : World) (hs0 : Kd.V k32 32 w w.heap.size (fun k_ => P0_ k_) (.slice A0 l0.length c0) l0) (h : spec_l2All.f k l0 = some r),
  Calls Try.prog 41 #[.slice A0 l0.length c0] w fun e w' => ∃ v0_ : Value, e = .returned (v0_) ∧ Kd.N k32 32 w' w.heap.size (fun k_ => (P0_ k_ ∨ w.heap.size ≤ k_)) v0_ r ∧ Below w.heap.size w w' := by
 induction k using Nat.strongRecOn with
 | _ k ih =>
 intro P0_ A0 c0 l0 r w hs0 h
 cases k with
 | zero => exact absurd h (by simp [spec_l2All.f])
 | succ k =>
 simp only [spec_l2All.f] at h
 have hu32 := Try.underlying32
 have HO0 := AM (show Kd.V k32 32 w w.heap.size (fun k_ => (P0_ k_ ∨ w.heap.size ≤ k_)) (.slice A0 l0.length c0) l0 from Kd.V_mono hs0 (fun k_ hk => .inl hk))
 have HB := AM (Below.refl w.heap.size w)
 have H : (spec_l2All.l0 k l0 (([] : List (S32))) 0) = some r := h
 clear h
 obtain ⟨y289, hy289⟩ : ∃ y_ : List (S32), y_ = (([] : List (S32))) := ⟨_, rfl⟩
 replace H : (spec_l2All.l0 k l0 y289 0) = some r := by first | (rw [hy289]; with_reducible exact H) | (have H2_ := (Option.bind_some _ _).symm.trans H; rw [hy289]; with_reducible exact H2_) | (have H2_ := (Option.bind_some _ _).symm.trans H; with_reducible exact H2_) | with_reducible exact H | (rw [hy289]; exact H) | exact H
 have Ny289 := AM hy289
 clear hy289
 have H' := AM H
 clear H
 go_enter Try.func41, Try.ntmps41
 go_wp2_with (first | ((with_reducible refine gate_dst (N := 5) rfl ?_); refine Kd.N_lit k32 _ 32 ?hg (N' := 5) ?hd (xs := ([] : List (S32))) (inner := []) (ok := (fun k_ => (P0_ k_ ∨ w.heap.size ≤ k_))) (okp := (fun k_ => (P0_ k_ ∨ w.heap.size ≤ k_))) ?hr ?hp (fun _ hk => hk) ((show ∀ k_, w.heap.size ≤ k_ → (fun k_ => (P0_ k_ ∨ w.heap.size ≤ k_)) k_ from fun k_ hk => (.inr (Nat.le_trans (below_size (ZB)) hk))) _ (Nat.le_refl _)) (Below.refl _ _) (Nat.le_refl _) (by simp) ?_; (case hd => rfl); (case hg => rfl); (case hr => first | (go_simp; done) | (go_simp; rfl)); (case hp => exact (Reps.none _ _)); intro v290 w2 ho3 hb hg_ hnew_; clear hg_ hnew_; (first | rw [← Ny289.out] at ho3 | (simp only [Int.reduceToNat] at ho3; rw [← Ny289.out] at ho3)); have HO291 := AM (Kd.N_lower ho3 (below_size (ZB))); replace HO0 := AM (Kd.V_elder' (ZRV HO0.out) (Kd.N_base ho3) hb); replace HB := ZT HB hb; clear hb ho3))
 go_loopg [3, 4] k (fun kq v3 v4 w' => ∃ (x3_1 : List (S32)) (x4_1 : Int), v4 = .int .i64 x4_1 ∧ Za (spec_l2All.l0 kq l0 x3_1 x4_1 = some r) ∧ Za (kq ≤ k) ∧ Za (Kd.V k32 32 w' w.heap.size (fun k_ => (P0_ k_ ∨ w.heap.size ≤ k_) ∧ some k_ ≠ (v3 : Value).ownBlock) (.slice A0 l0.length c0) l0) ∧ Za (Kd.N k32 32 w' w.heap.size (fun k_ => (P0_ k_ ∨ w.heap.size ≤ k_)) v3 x3_1) ∧ Za (Below w.heap.size w w'))
 case atStart => exact ⟨(y289), (0), (by first | rfl | (simp; done) | (simp [*]; done)), H', ⟨Nat.le_refl _⟩, ⟨ZRV HO0.out⟩, ⟨ZRN HO291.out⟩, ⟨ZB⟩⟩
 case round => (
 clear H'
 try clear p2
 obtain ⟨x3_1, x4_1, rfl, HA, HK1, HO_0, HO_3, HB⟩ := hrel
 cases gk with
 | zero => exact absurd HA.out (by simp [spec_l2All.l0])
 | succ k1 =>
  have H := HA.out
  clear HA
  simp only [spec_l2All.l0] at H
  by_cases c4 : x4_1 < (l0.length : Int)
  ·(
  rw [if_pos c4] at H
  have c4b0 := decide_eq_true c4
  clear c4
  by_cases c5 : 0 ≤ x4_1
  ·(
  rw [if_pos c5] at H
  have c5b0 := decide_eq_true c5
  clear c5
  by_cases c6 : x3_1.length < 1466015503701
  ·(
  rw [if_pos c6] at H
  have LMc6 := AM c6
  clear c6
  obtain ⟨y293, hy293⟩ : ∃ y_ : List (S32), y_ = (x3_1 ++ [(⟨(D32 l0 x4_1).f0, (D32 l0 x4_1).f1, (⟨(D32 l0 x4_1).f2.f0, (D32 l0 x4_1).f2.f1, (D32 l0 x4_1).f2.f2⟩ : S30), (D32 l0 x4_1).f3, (D32 l0 x4_1).f4, (D32 l0 x4_1).f5⟩ : S32)]) := ⟨_, rfl⟩
  replace H : ((spec_l2All.f k1 ((D32 l0 x4_1).f4)).bind fun t297 => (if y293.length + t297.length < 1466015503701 then ((some (y293 ++ t297 : List (S32))).bind fun y300 => ((spec_l2All.f k1 ((D32 l0 x4_1).f5)).bind fun t304 => (if y300.length + t304.length < 1466015503701 then (spec_l2All.l0 k1 l0 (y300 ++ t304) (wrap64 (x4_1 + 1))) else (none)))) else (none))) = some r := by first | (rw [hy293]; with_reducible exact H) | (have H2_ := (Option.bind_some _ _).symm.trans H; rw [hy293]; with_reducible exact H2_) | (have H2_ := (Option.bind_some _ _).symm.trans H; with_reducible exact H2_) | with_reducible exact H | (rw [hy293]; exact H) | exact H
  have Ny293 := AM hy293
  clear hy293
  obtain ⟨t297, A7, H⟩ := ZOB H; try dsimp only at H
  by_cases c8 : y293.length + t297.length < 1466015503701
  ·(
  rw [if_pos c8] at H
  have LMc8 := AM c8
  clear c8
  obtain ⟨y300, hy300⟩ : ∃ y_ : List (S32), y_ = (y293 ++ t297) := ⟨_, rfl⟩
  replace H : ((spec_l2All.f k1 ((D32 l0 x4_1).f5)).bind fun t304 => (if y300.length + t304.length < 1466015503701 then (spec_l2All.l0 k1 l0 (y300 ++ t304) (wrap64 (x4_1 + 1))) else (none))) = some r := by first | (rw [hy300]; with_reducible exact H) | (have H2_ := (Option.bind_some _ _).symm.trans H; rw [hy300]; with_reducible exact H2_) | (have H2_ := (Option.bind_some _ _).symm.trans H; with_reducible exact H2_) | with_reducible exact H | (rw [hy300]; exact H) | exact H
  have Ny300 := AM hy300
  clear hy300
  obtain ⟨t304, A9, H⟩ := ZOB H; try dsimp only at H
  by_cases c10 : y300.length + t304.length < 1466015503701
  ·(
  rw [if_pos c10] at H
  have LMc10 := AM c10
  clear c10
  obtain ⟨y307, hy307⟩ : ∃ y_ : List (S32), y_ = (y300 ++ t304) := ⟨_, rfl⟩
  replace H : (spec_l2All.l0 k1 l0 y307 (wrap64 (x4_1 + 1))) = some r := by first | (rw [hy307]; with_reducible exact H) | (have H2_ := (Option.bind_some _ _).symm.trans H; rw [hy307]; with_reducible exact H2_) | (have H2_ := (Option.bind_some _ _).symm.trans H; with_reducible exact H2_) | with_reducible exact H | (rw [hy307]; exact H) | exact H
  have Ny307 := AM hy307
  clear hy307
  have H' := AM H
  clear H
  have p292 : 0 ≤ (x4_1 : Int) := ZD
  have q292 : x4_1 < (l0.length : Int) := ZD
  obtain ⟨ad292, A292_6, c292_6, A292_7, c292_7, e292, hx292_0, hx292_1, hx292_2, hx292_3, hx292_4, hx292_5, hx292_6, hx292_7, hl292_6, hi292_6, hl292_7, hi292_7⟩ := at_T32 (Kd.V_reads' HO_0.out).2.2 x4_1 p292 q292
  cases e292
  obtain ⟨ce292, hce292, hMe292, hcc292⟩ := Kd.V_get HO_0.out z32 x4_1 p292 (by first | exact q292 | exact ZD | (have e_ := (Kd.V_reads' HO_0.out).1; omega))
  obtain ⟨ua292_6, uc292_6, ua292_7, uc292_7, rfl, ul292_6, ge292_6, ul292_7, ge292_7⟩ := k32_openF hMe292
  have hv292_6 := hcc292 6 _ rfl
  rw [add_field _ _ 6 (by omega)] at hv292_6
  replace hv292_6 := Option.some.inj (hv292_6.symm.trans hx292_6)
  injection hv292_6 with hva_ hvn_ hvc_
  rw [hva_] at ge292_6
  rw [hvc_] at ul292_6
  have HL292_6 := AM (show Kd.V k32 32 _ w.heap.size _ _ ((D32 l0 x4_1).f4) from Kd.V_mk ul292_6 ge292_6)
  clear hva_ hvn_ hvc_ ge292_6 ul292_6
  have hv292_7 := hcc292 7 _ rfl
  rw [add_field _ _ 7 (by omega)] at hv292_7
  replace hv292_7 := Option.some.inj (hv292_7.symm.trans hx292_7)
  injection hv292_7 with hva_ hvn_ hvc_
  rw [hva_] at ge292_7
  rw [hvc_] at ul292_7
  have HL292_7 := AM (show Kd.V k32 32 _ w.heap.size _ _ ((D32 l0 x4_1).f5) from Kd.V_mk ul292_7 ge292_7)
  clear hva_ hvn_ hvc_ ge292_7 ul292_7 hcc292 hce292
  have HR292_6 := AM hi292_6
  have HC292_6 := AM hl292_6
  clear hi292_6 hl292_6
  have HR292_7 := AM hi292_7
  have HC292_7 := AM hl292_7
  clear hi292_7 hl292_7
  replace p292 := eq_true p292
  replace q292 := eq_true q292
  go_wp2_with (first | ((with_reducible refine gate_builtin (b := .append) (xs := #[.tmp 12, .tmp 17]) rfl ?_); at_builtin; refine Kd.N_append k32 (w0 := w) w.heap.size rfl (.tmp 12) (.tmp 17) 24 32 (.agg #[(.int .i64 0), (.int .i64 0), (.int .i64 0), (.int .i64 0), (.int .i64 0), (.int .i64 0), (.slice none 0 0), (.slice none 0 0)]) 96 rfl Try.underlying24 info32 rfl (by decide) (by omega) u3 x3_1 (⟨(D32 l0 x4_1).f0, (D32 l0 x4_1).f1, (⟨(D32 l0 x4_1).f2.f0, (D32 l0 x4_1).f2.f1, (D32 l0 x4_1).f2.f2⟩ : S30), (D32 l0 x4_1).f3, (D32 l0 x4_1).f4, (D32 l0 x4_1).f5⟩ : S32) [.int .i64 ((D32 l0 x4_1).f0), .int .i64 ((D32 l0 x4_1).f1), .int .i64 ((D32 l0 x4_1).f2.f0), .int .i64 ((D32 l0 x4_1).f2.f1), .int .i64 ((D32 l0 x4_1).f2.f2), .int .i64 ((D32 l0 x4_1).f3), .slice A292_6 ((D32 l0 x4_1).f4).length c292_6, .slice A292_7 ((D32 l0 x4_1).f5).length c292_7] (fun k_ => (P0_ k_ ∨ w.heap.size ≤ k_)) (fun k_ => ((fun k_ => (P0_ k_ ∨ w.heap.size ≤ k_))) k_ ∧ some k_ ≠ (u3 : Value).ownBlock) rfl rfl ?aP (fun _ hk => hk) ?aF ?aO ?aB ?aS ?aL ?_; (case aP => exact (k32_mkF _ _ (⟨(D32 l0 x4_1).f0, (D32 l0 x4_1).f1, (⟨(D32 l0 x4_1).f2.f0, (D32 l0 x4_1).f2.f1, (D32 l0 x4_1).f2.f2⟩ : S30), (D32 l0 x4_1).f3, (D32 l0 x4_1).f4, (D32 l0 x4_1).f5⟩ : S32) (Kd.V_reads' (Kd.V_mono (ok' := (fun k_ => ((fun k_ => (P0_ k_ ∨ w.heap.size ≤ k_))) k_ ∧ some k_ ≠ (u3 : Value).ownBlock)) (HL292_6.out) (fun k_ hk => ⟨hk.1, hk.2⟩))).2.1 (Kd.V_F (Kd.V_mono (ok' := (fun k_ => ((fun k_ => (P0_ k_ ∨ w.heap.size ≤ k_))) k_ ∧ some k_ ≠ (u3 : Value).ownBlock)) (HL292_6.out) (fun k_ hk => ⟨hk.1, hk.2⟩))) (Kd.V_reads' (Kd.V_mono (ok' := (fun k_ => ((fun k_ => (P0_ k_ ∨ w.heap.size ≤ k_))) k_ ∧ some k_ ≠ (u3 : Value).ownBlock)) (HL292_7.out) (fun k_ hk => ⟨hk.1, hk.2⟩))).2.1 (Kd.V_F (Kd.V_mono (ok' := (fun k_ => ((fun k_ => (P0_ k_ ∨ w.heap.size ≤ k_))) k_ ∧ some k_ ≠ (u3 : Value).ownBlock)) (HL292_7.out) (fun k_ hk => ⟨hk.1, hk.2⟩))))); (case aB => exact (ZB)); (case aF => exact (fun k_ hk => (.inr (Nat.le_trans (below_size (ZB)) hk)))); (case aO => exact (ZRN HO_3.out)); (case aS => exact (below_size (ZB))); (case aL => have := LMc6.out; omega); intro v294 w11 ho hb hg hat; rw [← Ny293.out] at ho; have n0_ := AM (Kd.V_afterv (ok := (fun k_ => (P0_ k_ ∨ w.heap.size ≤ k_))) (ZRV HO_0.out) hg hat); have n1_ := AM (Kd.V_afterv (ok := (fun k_ => (P0_ k_ ∨ w.heap.size ≤ k_))) (ZRV HL292_6.out) hg hat); have n2_ := AM (Kd.V_afterv (ok := (fun k_ => (P0_ k_ ∨ w.heap.size ≤ k_))) (ZRV HL292_7.out) hg hat); have n3_ := AM (hb); have n4_ := AM (ho); clear HO_0 HL292_6 HL292_7 HB HO_3; have HO_0 := n0_; have HL292_6 := n1_; have HL292_7 := n2_; have HB := n3_; have HO295 := n4_; clear n0_ n1_ n2_ n3_ n4_ ho hb hg hat; have p296 : 0 ≤ (x4_1 : Int) := ZD; have q296 : x4_1 < (l0.length : Int) := ZD; obtain ⟨ad296, A296_6, c296_6, A296_7, c296_7, e296, hx296_0, hx296_1, hx296_2, hx296_3, hx296_4, hx296_5, hx296_6, hx296_7, hl296_6, hi296_6, hl296_7, hi296_7⟩ := at_T32 (Kd.V_reads' HO_0.out).2.2 x4_1 p296 q296; obtain rfl : ad292 = ad296 := (by injection e296); obtain ⟨ce296, hce296, hMe296, hcc296⟩ := Kd.V_get HO_0.out z32 x4_1 p296 (by first | exact q296 | exact ZD | (have e_ := (Kd.V_reads' HO_0.out).1; omega)); obtain ⟨ua296_6, uc296_6, ua296_7, uc296_7, rfl, ul296_6, ge296_6, ul296_7, ge296_7⟩ := k32_openF hMe296; have hv296_6 := hcc296 6 _ rfl; rw [add_field _ _ 6 (by omega)] at hv296_6; replace hv296_6 := Option.some.inj (hv296_6.symm.trans hx296_6); injection hv296_6 with hva_ hvn_ hvc_; rw [hva_] at ge296_6; rw [hvc_] at ul296_6; have HL296_6 := AM (show Kd.V k32 32 _ w.heap.size _ _ ((D32 l0 x4_1).f4) from Kd.V_mk ul296_6 ge296_6); clear hva_ hvn_ hvc_ ge296_6 ul296_6; have hv296_7 := hcc296 7 _ rfl; rw [add_field _ _ 7 (by omega)] at hv296_7; replace hv296_7 := Option.some.inj (hv296_7.symm.trans hx296_7); injection hv296_7 with hva_ hvn_ hvc_; rw [hva_] at ge296_7; rw [hvc_] at ul296_7; have HL296_7 := AM (show Kd.V k32 32 _ w.heap.size _ _ ((D32 l0 x4_1).f5) from Kd.V_mk ul296_7 ge296_7); clear hva_ hvn_ hvc_ ge296_7 ul296_7 hcc296 hce296; have HR296_6 := AM hi296_6; have HC296_6 := AM hl296_6; clear hi296_6 hl296_6; have HR296_7 := AM hi296_7; have HC296_7 := AM hl296_7; clear hi296_7 hl296_7; replace p296 := eq_true p296; replace q296 := eq_true q296) | ((with_reducible refine gate_callee (f := 41) rfl ?_); refine ZGL (some 25) Try.func41 #[.slice A296_6 ((D32 l0 x4_1).f4).length c296_6] ?_; (with_reducible refine (ih k1 (by have := HK1.out; omega) (fun k_ => ((P0_ k_ ∨ w.heap.size ≤ k_) ∧ some k_ ≠ (v294 : Value).ownBlock)) _ _ ((D32 l0 x4_1).f4) t297 _ ?side1 A7.out).mono ?_); (case side1 => exact HL296_6.out); rintro e w12 ⟨v298, rfl, ho0, hb⟩; refine ⟨_, rfl, ?_⟩; have HO299 := AM (Kd.N_lower (Kd.N_mono (ok' := fun k_ => (P0_ k_ ∨ w.heap.size ≤ k_) ∧ some k_ ≠ (v294 : Value).ownBlock) ho0 (fun k_ hk_ => ⟨Or.elim hk_ (fun hs_ => hs_.1) (fun hn_ => (.inr (Nat.le_trans (below_size (ZB)) hn_))), Or.elim hk_ (fun hs_ => hs_.2) (fun hn_ => (Kd.fresh' (Kd.N_lt (ZRN HO295.out)) k_ hn_))⟩)) (below_size (ZB))); replace HO_0 := AM (Kd.V_elder' (ZRV HO_0.out) (Kd.N_base ho0) hb); replace HL292_6 := AM (Kd.V_elder' (ZRV HL292_6.out) (Kd.N_base ho0) hb); replace HL292_7 := AM (Kd.V_elder' (ZRV HL292_7.out) (Kd.N_base ho0) hb); replace HO295 := AM (Kd.N_elder' (ZRN HO295.out) (Kd.N_base ho0) hb); replace HL296_6 := AM (Kd.V_elder' (ZRV HL296_6.out) (Kd.N_base ho0) hb); replace HL296_7 := AM (Kd.V_elder' (ZRV HL296_7.out) (Kd.N_base ho0) hb); replace HR296_6 := AM (Kd.C_below (ZQ HR296_6.out) hb); replace HR296_7 := AM (Kd.C_below (ZQ HR296_7.out) hb); replace HB := ZT HB hb; clear hb; (try clear ho0); obtain ⟨Ao14, co14, eo14⟩ := Kd.N_slice HO299.out; subst eo14) | ((with_reducible refine gate_builtin (b := .append) (xs := #[.tmp 19, .tmp 25]) rfl ?_); at_builtin; refine Kd.N_append_rows k32 (w0 := w) w.heap.size rfl (.tmp 19) (.tmp 25) 24 32 (.agg #[(.int .i64 0), (.int .i64 0), (.int .i64 0), (.int .i64 0), (.int .i64 0), (.int .i64 0), (.slice none 0 0), (.slice none 0 0)]) 96 rfl Try.underlying24 info32 rfl (by decide) (by omega) v294 y293 t297 _ _ _ (fun k_ => (P0_ k_ ∨ w.heap.size ≤ k_)) (fun k_ => ((fun k_ => (P0_ k_ ∨ w.heap.size ≤ k_))) k_ ∧ some k_ ≠ (v294 : Value).ownBlock) rfl rfl ?aO ?aR (fun _ hk => hk) ?aF ?aB ?aS ?aL ?_; (case aR => exact (by skip; exact Kd.N_F (Kd.N_mono (ok' := (fun k_ => ((fun k_ => (P0_ k_ ∨ w.heap.size ≤ k_))) k_ ∧ some k_ ≠ (v294 : Value).ownBlock)) (HO299.out) (fun k_ hk => ⟨hk.1, hk.2⟩)))); (case aB => exact (ZB)); (case aF => exact (fun k_ hk => (.inr (Nat.le_trans (below_size (ZB)) hk)))); (case aO => exact (ZRN (Kd.N_mono HO295.out (fun _ hk => hk.1)))); (case aS => exact (below_size (ZB))); (case aL => have := LMc8.out; omega); intro v301 w13 ho hb hg hat; rw [← Ny300.out] at ho; have n0_ := AM (Kd.V_afterv (ok := (fun k_ => (P0_ k_ ∨ w.heap.size ≤ k_) ∧ some k_ ≠ (.slice Ao14 t297.length co14 : Value).ownBlock)) (by (with_reducible repeat (first | apply Kd.V_alloc | apply Kd.V_drewN | apply Kd.V_drew)); exact Kd.V_mono HO_0.out (fun _ hk => ⟨⟨hk.1.1, hk.2⟩, hk.1.2⟩)) hg hat); have n1_ := AM (Kd.V_afterv (ok := (fun k_ => (P0_ k_ ∨ w.heap.size ≤ k_) ∧ some k_ ≠ (.slice Ao14 t297.length co14 : Value).ownBlock)) (by (with_reducible repeat (first | apply Kd.V_alloc | apply Kd.V_drewN | apply Kd.V_drew)); exact Kd.V_mono HL292_6.out (fun _ hk => ⟨⟨hk.1.1, hk.2⟩, hk.1.2⟩)) hg hat); have n2_ := AM (Kd.V_afterv (ok := (fun k_ => (P0_ k_ ∨ w.heap.size ≤ k_) ∧ some k_ ≠ (.slice Ao14 t297.length co14 : Value).ownBlock)) (by (with_reducible repeat (first | apply Kd.V_alloc | apply Kd.V_drewN | apply Kd.V_drew)); exact Kd.V_mono HL292_7.out (fun _ hk => ⟨⟨hk.1.1, hk.2⟩, hk.1.2⟩)) hg hat); have n3_ := AM (Kd.V_afterv (ok := (fun k_ => (P0_ k_ ∨ w.heap.size ≤ k_) ∧ some k_ ≠ (.slice Ao14 t297.length co14 : Value).ownBlock)) (by (with_reducible repeat (first | apply Kd.V_alloc | apply Kd.V_drewN | apply Kd.V_drew)); exact Kd.V_mono HL296_6.out (fun _ hk => ⟨⟨hk.1.1, hk.2⟩, hk.1.2⟩)) hg hat); have n4_ := AM (Kd.V_afterv (ok := (fun k_ => (P0_ k_ ∨ w.heap.size ≤ k_) ∧ some k_ ≠ (.slice Ao14 t297.length co14 : Value).ownBlock)) (by (with_reducible repeat (first | apply Kd.V_alloc | apply Kd.V_drewN | apply Kd.V_drew)); exact Kd.V_mono HL296_7.out (fun _ hk => ⟨⟨hk.1.1, hk.2⟩, hk.1.2⟩)) hg hat); have n5_ := AM (Kd.N_afterv (ok := (fun k_ => (P0_ k_ ∨ w.heap.size ≤ k_))) (ZRN HO299.out) hg hat); have n6_ := AM (hb); have n7_ := AM (ho); clear HO_0 HL292_6 HL292_7 HL296_6 HL296_7 HO299 HB HO295; have HO_0 := n0_; have HL292_6 := n1_; have HL292_7 := n2_; have HL296_6 := n3_; have HL296_7 := n4_; have HO299 := n5_; have HB := n6_; have HO302 := n7_; clear n0_ n1_ n2_ n3_ n4_ n5_ n6_ n7_ ho hb hg hat; have p303 : 0 ≤ (x4_1 : Int) := ZD; have q303 : x4_1 < (l0.length : Int) := ZD; obtain ⟨ad303, A303_6, c303_6, A303_7, c303_7, e303, hx303_0, hx303_1, hx303_2, hx303_3, hx303_4, hx303_5, hx303_6, hx303_7, hl303_6, hi303_6, hl303_7, hi303_7⟩ := at_T32 (Kd.V_reads' HO_0.out).2.2 x4_1 p303 q303; obtain rfl : ad292 = ad303 := (by injection e303); obtain ⟨ce303, hce303, hMe303, hcc303⟩ := Kd.V_get HO_0.out z32 x4_1 p303 (by first | exact q303 | exact ZD | (have e_ := (Kd.V_reads' HO_0.out).1; omega)); obtain ⟨ua303_6, uc303_6, ua303_7, uc303_7, rfl, ul303_6, ge303_6, ul303_7, ge303_7⟩ := k32_openF hMe303; have hv303_6 := hcc303 6 _ rfl; rw [add_field _ _ 6 (by omega)] at hv303_6; replace hv303_6 := Option.some.inj (hv303_6.symm.trans hx303_6); injection hv303_6 with hva_ hvn_ hvc_; rw [hva_] at ge303_6; rw [hvc_] at ul303_6; have HL303_6 := AM (show Kd.V k32 32 _ w.heap.size _ _ ((D32 l0 x4_1).f4) from Kd.V_mk ul303_6 ge303_6); clear hva_ hvn_ hvc_ ge303_6 ul303_6; have hv303_7 := hcc303 7 _ rfl; rw [add_field _ _ 7 (by omega)] at hv303_7; replace hv303_7 := Option.some.inj (hv303_7.symm.trans hx303_7); injection hv303_7 with hva_ hvn_ hvc_; rw [hva_] at ge303_7; rw [hvc_] at ul303_7; have HL303_7 := AM (show Kd.V k32 32 _ w.heap.size _ _ ((D32 l0 x4_1).f5) from Kd.V_mk ul303_7 ge303_7); clear hva_ hvn_ hvc_ ge303_7 ul303_7 hcc303 hce303; have HR303_6 := AM hi303_6; have HC303_6 := AM hl303_6; clear hi303_6 hl303_6; have HR303_7 := AM hi303_7; have HC303_7 := AM hl303_7; clear hi303_7 hl303_7; replace p303 := eq_true p303; replace q303 := eq_true q303) | ((with_reducible refine gate_callee (f := 41) rfl ?_); refine ZGL (some 33) Try.func41 #[.slice A303_7 ((D32 l0 x4_1).f5).length c303_7] ?_; (with_reducible refine (ih k1 (by have := HK1.out; omega) (fun k_ => (((P0_ k_ ∨ w.heap.size ≤ k_) ∧ some k_ ≠ (.slice Ao14 t297.length co14 : Value).ownBlock) ∧ some k_ ≠ (v301 : Value).ownBlock)) _ _ ((D32 l0 x4_1).f5) t304 _ ?side1 A9.out).mono ?_); (case side1 => exact HL303_7.out); rintro e w15 ⟨v305, rfl, ho0, hb⟩; refine ⟨_, rfl, ?_⟩; have HO306 := AM (Kd.N_lower (Kd.N_mono (ok' := fun k_ => (P0_ k_ ∨ w.heap.size ≤ k_) ∧ some k_ ≠ (.slice Ao14 t297.length co14 : Value).ownBlock ∧ some k_ ≠ (v301 : Value).ownBlock) ho0 (fun k_ hk_ => ⟨Or.elim hk_ (fun hs_ => hs_.1.1) (fun hn_ => (.inr (Nat.le_trans (below_size (ZB)) hn_))), Or.elim hk_ (fun hs_ => hs_.1.2) (fun hn_ => (Kd.fresh' (Kd.N_lt (ZRN HO299.out)) k_ hn_)), Or.elim hk_ (fun hs_ => hs_.2) (fun hn_ => (Kd.fresh' (Kd.N_lt (ZRN HO302.out)) k_ hn_))⟩)) (below_size (ZB))); replace HO_0 := AM (Kd.V_elder' (ZRV HO_0.out) (Kd.N_base ho0) hb); replace HL292_6 := AM (Kd.V_elder' (ZRV HL292_6.out) (Kd.N_base ho0) hb); replace HL292_7 := AM (Kd.V_elder' (ZRV HL292_7.out) (Kd.N_base ho0) hb); replace HL296_6 := AM (Kd.V_elder' (ZRV HL296_6.out) (Kd.N_base ho0) hb); replace HL296_7 := AM (Kd.V_elder' (ZRV HL296_7.out) (Kd.N_base ho0) hb); replace HO299 := AM (Kd.N_elder' (ZRN HO299.out) (Kd.N_base ho0) hb); replace HO302 := AM (Kd.N_elder' (ZRN HO302.out) (Kd.N_base ho0) hb); replace HL303_6 := AM (Kd.V_elder' (ZRV HL303_6.out) (Kd.N_base ho0) hb); replace HL303_7 := AM (Kd.V_elder' (ZRV HL303_7.out) (Kd.N_base ho0) hb); replace HR303_6 := AM (Kd.C_below (ZQ HR303_6.out) hb); replace HR303_7 := AM (Kd.C_below (ZQ HR303_7.out) hb); replace HB := ZT HB hb; clear hb; (try clear ho0); obtain ⟨Ao17, co17, eo17⟩ := Kd.N_slice HO306.out; subst eo17) | ((with_reducible refine gate_builtin (b := .append) (xs := #[.tmp 27, .tmp 33]) rfl ?_); at_builtin; refine Kd.N_append_rows k32 (w0 := w) w.heap.size rfl (.tmp 27) (.tmp 33) 24 32 (.agg #[(.int .i64 0), (.int .i64 0), (.int .i64 0), (.int .i64 0), (.int .i64 0), (.int .i64 0), (.slice none 0 0), (.slice none 0 0)]) 96 rfl Try.underlying24 info32 rfl (by decide) (by omega) v301 y300 t304 _ _ _ (fun k_ => (P0_ k_ ∨ w.heap.size ≤ k_)) (fun k_ => ((fun k_ => (P0_ k_ ∨ w.heap.size ≤ k_))) k_ ∧ some k_ ≠ (v301 : Value).ownBlock) rfl rfl ?aO ?aR (fun _ hk => hk) ?aF ?aB ?aS ?aL ?_; (case aR => exact (by skip; exact Kd.N_F (Kd.N_mono (ok' := (fun k_ => ((fun k_ => (P0_ k_ ∨ w.heap.size ≤ k_))) k_ ∧ some k_ ≠ (v301 : Value).ownBlock)) (HO306.out) (fun k_ hk => ⟨hk.1, hk.2.2⟩)))); (case aB => exact (ZB)); (case aF => exact (fun k_ hk => (.inr (Nat.le_trans (below_size (ZB)) hk)))); (case aO => exact (ZRN (Kd.N_mono HO302.out (fun _ hk => hk.1)))); (case aS => exact (below_size (ZB))); (case aL => have := LMc10.out; omega); intro v308 w16 ho hb hg hat; rw [← Ny307.out] at ho; have n0_ := AM (Kd.V_afterv (ok := (fun k_ => (P0_ k_ ∨ w.heap.size ≤ k_) ∧ some k_ ≠ (.slice Ao14 t297.length co14 : Value).ownBlock ∧ some k_ ≠ (.slice Ao17 t304.length co17 : Value).ownBlock)) (by (with_reducible repeat (first | apply Kd.V_alloc | apply Kd.V_drewN | apply Kd.V_drew)); exact Kd.V_mono HO_0.out (fun _ hk => ⟨⟨hk.1.1.1, ⟨hk.1.1.2, hk.2⟩⟩, hk.1.2⟩)) hg hat); have n1_ := AM (Kd.V_afterv (ok := (fun k_ => (P0_ k_ ∨ w.heap.size ≤ k_) ∧ some k_ ≠ (.slice Ao14 t297.length co14 : Value).ownBlock ∧ some k_ ≠ (.slice Ao17 t304.length co17 : Value).ownBlock)) (by (with_reducible repeat (first | apply Kd.V_alloc | apply Kd.V_drewN | apply Kd.V_drew)); exact Kd.V_mono HL292_6.out (fun _ hk => ⟨⟨hk.1.1.1, ⟨hk.1.1.2, hk.2⟩⟩, hk.1.2⟩)) hg hat); have n2_ := AM (Kd.V_afterv (ok := (fun k_ => (P0_ k_ ∨ w.heap.size ≤ k_) ∧ some k_ ≠ (.slice Ao14 t297.length co14 : Value).ownBlock ∧ some k_ ≠ (.slice Ao17 t304.length co17 : Value).ownBlock)) (by (with_reducible repeat (first | apply Kd.V_alloc | apply Kd.V_drewN | apply Kd.V_drew)); exact Kd.V_mono HL292_7.out (fun _ hk => ⟨⟨hk.1.1.1, ⟨hk.1.1.2, hk.2⟩⟩, hk.1.2⟩)) hg hat); have n3_ := AM (Kd.V_afterv (ok := (fun k_ => (P0_ k_ ∨ w.heap.size ≤ k_) ∧ some k_ ≠ (.slice Ao14 t297.length co14 : Value).ownBlock ∧ some k_ ≠ (.slice Ao17 t304.length co17 : Value).ownBlock)) (by (with_reducible repeat (first | apply Kd.V_alloc | apply Kd.V_drewN | apply Kd.V_drew)); exact Kd.V_mono HL296_6.out (fun _ hk => ⟨⟨hk.1.1.1, ⟨hk.1.1.2, hk.2⟩⟩, hk.1.2⟩)) hg hat); have n4_ := AM (Kd.V_afterv (ok := (fun k_ => (P0_ k_ ∨ w.heap.size ≤ k_) ∧ some k_ ≠ (.slice Ao14 t297.length co14 : Value).ownBlock ∧ some k_ ≠ (.slice Ao17 t304.length co17 : Value).ownBlock)) (by (with_reducible repeat (first | apply Kd.V_alloc | apply Kd.V_drewN | apply Kd.V_drew)); exact Kd.V_mono HL296_7.out (fun _ hk => ⟨⟨hk.1.1.1, ⟨hk.1.1.2, hk.2⟩⟩, hk.1.2⟩)) hg hat); have n5_ := AM (Kd.N_afterv (ok := (fun k_ => (P0_ k_ ∨ w.heap.size ≤ k_) ∧ some k_ ≠ (.slice Ao17 t304.length co17 : Value).ownBlock)) (by (with_reducible repeat (first | apply Kd.N_alloc | apply Kd.N_drewN | apply Kd.N_drew)); exact Kd.N_mono HO299.out (fun _ hk => ⟨⟨hk.1.1, hk.2⟩, hk.1.2⟩)) hg hat); have n6_ := AM (Kd.V_afterv (ok := (fun k_ => (P0_ k_ ∨ w.heap.size ≤ k_) ∧ some k_ ≠ (.slice Ao14 t297.length co14 : Value).ownBlock ∧ some k_ ≠ (.slice Ao17 t304.length co17 : Value).ownBlock)) (by (with_reducible repeat (first | apply Kd.V_alloc | apply Kd.V_drewN | apply Kd.V_drew)); exact Kd.V_mono HL303_6.out (fun _ hk => ⟨⟨hk.1.1.1, ⟨hk.1.1.2, hk.2⟩⟩, hk.1.2⟩)) hg hat); have n7_ := AM (Kd.V_afterv (ok := (fun k_ => (P0_ k_ ∨ w.heap.size ≤ k_) ∧ some k_ ≠ (.slice Ao14 t297.length co14 : Value).ownBlock ∧ some k_ ≠ (.slice Ao17 t304.length co17 : Value).ownBlock)) (by (with_reducible repeat (first | apply Kd.V_alloc | apply Kd.V_drewN | apply Kd.V_drew)); exact Kd.V_mono HL303_7.out (fun _ hk => ⟨⟨hk.1.1.1, ⟨hk.1.1.2, hk.2⟩⟩, hk.1.2⟩)) hg hat); have n8_ := AM (Kd.N_afterv (ok := (fun k_ => (P0_ k_ ∨ w.heap.size ≤ k_) ∧ some k_ ≠ (.slice Ao14 t297.length co14 : Value).ownBlock)) (by (with_reducible repeat (first | apply Kd.N_alloc | apply Kd.N_drewN | apply Kd.N_drew)); exact Kd.N_mono HO306.out (fun _ hk => ⟨⟨hk.1, hk.2.1⟩, hk.2.2⟩)) hg hat); have n9_ := AM (hb); have n10_ := AM (ho); clear HO_0 HL292_6 HL292_7 HL296_6 HL296_7 HO299 HL303_6 HL303_7 HO306 HB HO302; have HO_0 := n0_; have HL292_6 := n1_; have HL292_7 := n2_; have HL296_6 := n3_; have HL296_7 := n4_; have HO299 := n5_; have HL303_6 := n6_; have HL303_7 := n7_; have HO306 := n8_; have HB := n9_; have HO309 := n10_; clear n0_ n1_ n2_ n3_ n4_ n5_ n6_ n7_ n8_ n9_ n10_ ho hb hg hat))
  go_roundg k1
  case measure => have := HK1.out; omega
  case rel => exact ⟨(y307), (wrap64 (x4_1 + 1)), (by first | rfl | (simp; done) | (simp [*]; done)), H', ⟨by have := HK1.out; omega⟩, ⟨by (with_reducible repeat (first | apply Kd.V_alloc | apply Kd.V_drewN | apply Kd.V_drew)); exact Kd.V_mono HO_0.out (fun _ hk => ⟨hk.1.1, hk.2⟩)⟩, ⟨ZRN HO309.out⟩, ⟨ZB⟩⟩)
  ·(
  rw [if_neg c10] at H
  exact absurd H (by simp)))
  ·(
  rw [if_neg c8] at H
  exact absurd H (by simp)))
  ·(
  rw [if_neg c6] at H
  exact absurd H (by simp)))
  ·(
  rw [if_neg c5] at H
  exact absurd H (by simp)))
  ·(
  rw [if_neg c4] at H
  have c4b0 := decide_eq_false c4
  clear c4
  obtain rfl := Option.some.inj H
  go_wp2
  go_ret
  exact ⟨_, ZE, by (with_reducible repeat (first | apply Kd.N_alloc | apply Kd.N_drewN | apply Kd.N_drew)); exact HO_3.out, ZB⟩))

/-! ### spec_l1Within: function 83 -/
def spec_l1Within.l0 : Nat → Int → Int → Int → Option (Bool)
 | 0, _, _, _ => none
 | k + 1, x0, x1, x5 => if x5 < 3 then ((spec_l1Has.f x0 x5).bind fun t310 => (if t310 = true then ((spec_l1Has.f x1 x5).bind fun t311 => (if t311 = true then (spec_l1Within.l0 k x0 x1 (wrap64 (x5 + 1))) else (some false))) else (spec_l1Within.l0 k x0 x1 (wrap64 (x5 + 1))))) else (some true)
def spec_l1Within.f (k : Nat) (a0 : Int) (a1 : Int) : Option (Bool) := spec_l1Within.l0 k a0 a1 0
theorem spec_l1Within.mono_l : ∀ k, (∀ y0 y1 y2, LeO (spec_l1Within.l0 k y0 y1 y2) (spec_l1Within.l0 (k + 1) y0 y1 y2))
 | 0 => fun _ _ _ r h => by simp [spec_l1Within.l0] at h
 | k + 1 => by
  have ih0 := spec_l1Within.mono_l k
  ·intro y0 y1 y2
   unfold spec_l1Within.l0
   repeat' first
   | (with_reducible exact ih0 _ _ _)
   | (with_reducible exact LeO.refl _)
   | (with_reducible exact LeO.none _)
   | (with_reducible refine LeO.ite ?_ ?_)
   | (with_reducible refine LeO.bind ?_ (fun _ => ?_))
   | exact ih0 _ _ _
   | exact LeO.none _
   | refine LeO.ite ?_ ?_
   | refine LeO.bind ?_ (fun _ => ?_)
theorem spec_l1Within.mono : ∀ a0 a1 k, LeO (spec_l1Within.f k a0 a1) (spec_l1Within.f (k + 1) a0 a1) := by
 intro a0 a1 k
 have ih0 := spec_l1Within.mono_l k
 unfold spec_l1Within.f
 repeat' first
   | (with_reducible exact ih0 _ _ _)
   | (with_reducible exact LeO.refl _)
   | (with_reducible exact LeO.none _)
   | (with_reducible refine LeO.ite ?_ ?_)
   | (with_reducible refine LeO.bind ?_ (fun _ => ?_))
   | exact ih0 _ _ _
   | exact LeO.none _
   | refine LeO.ite ?_ ?_
   | refine LeO.bind ?_ (fun _ => ?_)
theorem spec_l1Within.calls (k : Nat) (a0 : Int) (a1 : Int) (r : Bool) (w : World) (h : spec_l1Within.f k a0 a1 = some r) :
  Calls Try.prog 83 #[.int .i64 a0, .int .i64 a1] w fun e w' => e = .returned (.bool r) ∧ Drawn0 w w' := by
 have H := h
 unfold spec_l1Within.f at H
 clear h
 have H' := AM H
 clear H
 go_enter Try.func83, Try.ntmps83
 go_wp2
 go_loopg [5] k (fun kq v5 w' => ∃ (x5_1 : Int), v5 = .int .i64 x5_1 ∧ Za (spec_l1Within.l0 kq a0 a1 x5_1 = some r) ∧ Za (kq ≤ k) ∧ Drawn0 w w')
 case atStart => exact ⟨(0), (by first | rfl | (simp; done) | (simp [*]; done)), H', ⟨Nat.le_refl _⟩, by repeat (first | exact Drawn0.refl _ | apply Drawn0.step)⟩
 case round => (
 clear H'
 try clear p2
 obtain ⟨x5_1, rfl, HA, HK1, ⟨m1, rfl⟩⟩ := hrel
 cases gk with
 | zero => exact absurd HA.out (by simp [spec_l1Within.l0])
 | succ k1 =>
  have H := HA.out
  clear HA
  simp only [spec_l1Within.l0] at H
  by_cases c3 : x5_1 < 3
  ·(
  rw [if_pos c3] at H
  have c3b0 := decide_eq_true c3
  clear c3
  obtain ⟨t310, A4, H⟩ := ZOB H; try dsimp only at H
  by_cases c5 : t310 = true
  ·(
  subst c5
  have H1 := H; rw [if_pos rfl] at H1
  clear H
  have H := H1
  clear H1
  obtain ⟨t311, A6, H⟩ := ZOB H; try dsimp only at H
  by_cases c7 : t311 = true
  ·(
  subst c7
  have H1 := H; rw [if_pos rfl] at H1
  clear H
  have H := H1
  clear H1
  have H' := AM H
  clear H
  go_wp2_with (first | ((with_reducible refine gate_callee (f := 50) rfl ?_); refine ZGL (some 12) Try.func50 #[.int .i64 a0, .int .i64 x5_1] ?_; (with_reducible refine (spec_l1Has.calls a0 x5_1 true _ A4.out).mono ?_); rintro e w' ⟨rfl, ⟨nd, rfl⟩⟩; refine ⟨_, rfl, ?_⟩) | (go_at_call 50; (with_reducible refine (spec_l1Has.calls a1 x5_1 true _ A6.out).mono ?_); rintro e w' ⟨rfl, ⟨nd, rfl⟩⟩))
  go_roundg k1
  case measure => have := HK1.out; omega
  case rel => exact ⟨(wrap64 (x5_1 + 1)), (by first | rfl | (simp; done) | (simp [*]; done)), H', ⟨by have := HK1.out; omega⟩, by repeat (first | exact Drawn0.refl _ | apply Drawn0.step)⟩)
  ·(
  replace c7 := Bool.eq_false_iff.mpr c7
  subst c7
  have H1 := H; rw [if_neg ZFT] at H1
  clear H
  have H := H1
  clear H1
  obtain rfl := Option.some.inj H
  go_wp2_with (first | ((with_reducible refine gate_callee (f := 50) rfl ?_); refine ZGL (some 12) Try.func50 #[.int .i64 a0, .int .i64 x5_1] ?_; (with_reducible refine (spec_l1Has.calls a0 x5_1 true _ A4.out).mono ?_); rintro e w' ⟨rfl, ⟨nd, rfl⟩⟩; refine ⟨_, rfl, ?_⟩) | (go_at_call 50; (with_reducible refine (spec_l1Has.calls a1 x5_1 false _ A6.out).mono ?_); rintro e w' ⟨rfl, ⟨nd, rfl⟩⟩))
  go_ret
  exact ⟨by first | rfl | (simp; done) | (simp [*]; done), by repeat (first | exact Drawn0.refl _ | apply Drawn0.step)⟩))
  ·(
  replace c5 := Bool.eq_false_iff.mpr c5
  subst c5
  have H1 := H; rw [if_neg ZFT] at H1
  clear H
  have H := H1
  clear H1
  have H' := AM H
  clear H
  go_wp2_with (first | ((with_reducible refine gate_callee (f := 50) rfl ?_); refine ZGL (some 12) Try.func50 #[.int .i64 a0, .int .i64 x5_1] ?_; (with_reducible refine (spec_l1Has.calls a0 x5_1 false _ A4.out).mono ?_); rintro e w' ⟨rfl, ⟨nd, rfl⟩⟩; refine ⟨_, rfl, ?_⟩))
  go_roundg k1
  case measure => have := HK1.out; omega
  case rel => exact ⟨(wrap64 (x5_1 + 1)), (by first | rfl | (simp; done) | (simp [*]; done)), H', ⟨by have := HK1.out; omega⟩, by repeat (first | exact Drawn0.refl _ | apply Drawn0.step)⟩))
  ·(
  rw [if_neg c3] at H
  have c3b0 := decide_eq_false c3
  clear c3
  obtain rfl := Option.some.inj H
  go_wp2
  go_ret
  exact ⟨by first | rfl | (simp; done) | (simp [*]; done), by repeat (first | exact Drawn0.refl _ | apply Drawn0.step)⟩))

/-! ### spec_LabelFlows: function 62 -/
def spec_LabelFlows.f (k : Nat) (a0_0 : Int) (a0_1 : Int) (a1_0 : Int) (a1_1 : Int) : Option (Bool) := (spec_LabelOk.f a0_0 a0_1).bind fun t314 => (if t314 = true then ((spec_LabelOk.f a1_0 a1_1).bind fun t315 => (if t315 = true then ((spec_l1Within.f k a1_0 a0_0).bind fun t316 => (if t316 = true then ((spec_l1Within.f k a1_1 a0_1).bind fun t317 => (some t317)) else (some false))) else (some false))) else (some false))
theorem spec_LabelFlows.calls (k : Nat) (a0_0 : Int) (a0_1 : Int) (a1_0 : Int) (a1_1 : Int) (r : Bool) (w : World) (h : spec_LabelFlows.f k a0_0 a0_1 a1_0 a1_1 = some r) :
  Calls Try.prog 62 #[.agg #[.int .i64 a0_0, .int .i64 a0_1], .agg #[.int .i64 a1_0, .int .i64 a1_1]] w fun e w' => e = .returned (.bool r) ∧ Below w.heap.size w w' := by
 have hu39 := Try.underlying39
 have HB := AM (Below.refl w.heap.size w)
 have H := h
 unfold spec_LabelFlows.f at H
 clear h
 obtain ⟨t314, A3, H⟩ := ZOB H; try dsimp only at H
 by_cases c4 : t314 = true
 ·(
 subst c4
 have H1 := H; rw [if_pos rfl] at H1
 clear H
 have H := H1
 clear H1
 obtain ⟨t315, A5, H⟩ := ZOB H; try dsimp only at H
 by_cases c6 : t315 = true
 ·(
 subst c6
 have H1 := H; rw [if_pos rfl] at H1
 clear H
 have H := H1
 clear H1
 obtain ⟨t316, A7, H⟩ := ZOB H; try dsimp only at H
 by_cases c8 : t316 = true
 ·(
 subst c8
 have H1 := H; rw [if_pos rfl] at H1
 clear H
 have H := H1
 clear H1
 obtain ⟨t317, A9, H⟩ := ZOB H; try dsimp only at H
 obtain rfl := Option.some.inj H
 go_enter Try.func62, Try.ntmps62
 go_wp2_with (first | ((with_reducible refine gate_dst (N := 2) rfl ?_); refine ZX (N := 2) (cs := #[.int .i64 a0_0, .int .i64 a0_1]) (t := 39) ?_; intro gb312 hg w10 hbox hb; have BK312 := AM (hbox); have GW312 : Za (w.heap.size ≤ gb312) := ZS hg; replace HB := ZT HB hb; clear hb hbox hg) | ((with_reducible refine gate_dst (N := 3) rfl ?_); refine ZX (N := 3) (cs := #[.int .i64 a1_0, .int .i64 a1_1]) (t := 39) ?_; intro gb313 hg w11 hbox hb; have BK313 := AM (hbox); have GW313 : Za (w.heap.size ≤ gb313) := ZS hg; have NB312_313 : Za (gb312 ≠ gb313) := ZN hg BK312; have NB313_312 : Za (gb313 ≠ gb312) := ZM hg BK312; replace BK312 := ZW BK312 hb; replace HB := ZT HB hb; clear hb hbox hg; have hnb12 := NB312_313.out; have hnc12 := NB313_312.out; have hcz13 := ZC2 w11 BK312; have hfz13 := ZF2 BK312) | ((with_reducible refine gate_callee (f := 44) rfl ?_); refine ZGL (some 6) Try.func44 #[.agg #[.int .i64 a0_0, .int .i64 a0_1]] ?_; (with_reducible refine (spec_LabelOk.calls a0_0 a0_1 true _ A3.out).mono ?_); rintro e w14 ⟨rfl, hb⟩; refine ⟨_, rfl, ?_⟩; replace BK312 := ZW BK312 hb; replace BK313 := ZW BK313 hb; replace HB := ZT HB hb; clear hb; have hcz15 := ZC2 w14 BK313; have hfz15 := ZF2 BK313) | (go_at_call 44; (with_reducible refine (spec_LabelOk.calls a1_0 a1_1 true _ A5.out).mono ?_); rintro e w16 ⟨rfl, hb⟩; replace BK312 := ZW BK312 hb; replace BK313 := ZW BK313 hb; replace HB := ZT HB hb; clear hb; have hcz17 := ZC2 w16 BK313; have hfz17 := ZF2 BK313; have hcz18 := ZC2 w16 BK312; have hfz18 := ZF2 BK312) | (go_at_call 83; (with_reducible refine (spec_l1Within.calls k a1_0 a0_0 true _ A7.out).mono ?_); rintro e w' ⟨rfl, ⟨nd, rfl⟩⟩) | (go_at_call 83; (with_reducible refine (spec_l1Within.calls k a1_1 a0_1 t317 _ A9.out).mono ?_); rintro e w' ⟨rfl, ⟨nd, rfl⟩⟩))
 go_ret
 exact ⟨ZE, ZB⟩)
 ·(
 replace c8 := Bool.eq_false_iff.mpr c8
 subst c8
 have H1 := H; rw [if_neg ZFT] at H1
 clear H
 have H := H1
 clear H1
 obtain rfl := Option.some.inj H
 go_enter Try.func62, Try.ntmps62
 go_wp2_with (first | ((with_reducible refine gate_dst (N := 2) rfl ?_); refine ZX (N := 2) (cs := #[.int .i64 a0_0, .int .i64 a0_1]) (t := 39) ?_; intro gb312 hg w19 hbox hb; have BK312 := AM (hbox); have GW312 : Za (w.heap.size ≤ gb312) := ZS hg; replace HB := ZT HB hb; clear hb hbox hg) | ((with_reducible refine gate_dst (N := 3) rfl ?_); refine ZX (N := 3) (cs := #[.int .i64 a1_0, .int .i64 a1_1]) (t := 39) ?_; intro gb313 hg w20 hbox hb; have BK313 := AM (hbox); have GW313 : Za (w.heap.size ≤ gb313) := ZS hg; have NB312_313 : Za (gb312 ≠ gb313) := ZN hg BK312; have NB313_312 : Za (gb313 ≠ gb312) := ZM hg BK312; replace BK312 := ZW BK312 hb; replace HB := ZT HB hb; clear hb hbox hg; have hnb21 := NB312_313.out; have hnc21 := NB313_312.out; have hcz22 := ZC2 w20 BK312; have hfz22 := ZF2 BK312) | ((with_reducible refine gate_callee (f := 44) rfl ?_); refine ZGL (some 6) Try.func44 #[.agg #[.int .i64 a0_0, .int .i64 a0_1]] ?_; (with_reducible refine (spec_LabelOk.calls a0_0 a0_1 true _ A3.out).mono ?_); rintro e w23 ⟨rfl, hb⟩; refine ⟨_, rfl, ?_⟩; replace BK312 := ZW BK312 hb; replace BK313 := ZW BK313 hb; replace HB := ZT HB hb; clear hb; have hcz24 := ZC2 w23 BK313; have hfz24 := ZF2 BK313) | (go_at_call 44; (with_reducible refine (spec_LabelOk.calls a1_0 a1_1 true _ A5.out).mono ?_); rintro e w25 ⟨rfl, hb⟩; replace BK312 := ZW BK312 hb; replace BK313 := ZW BK313 hb; replace HB := ZT HB hb; clear hb; have hcz26 := ZC2 w25 BK313; have hfz26 := ZF2 BK313; have hcz27 := ZC2 w25 BK312; have hfz27 := ZF2 BK312) | (go_at_call 83; (with_reducible refine (spec_l1Within.calls k a1_0 a0_0 false _ A7.out).mono ?_); rintro e w' ⟨rfl, ⟨nd, rfl⟩⟩))
 go_ret
 exact ⟨ZE, ZB⟩))
 ·(
 replace c6 := Bool.eq_false_iff.mpr c6
 subst c6
 have H1 := H; rw [if_neg ZFT] at H1
 clear H
 have H := H1
 clear H1
 obtain rfl := Option.some.inj H
 go_enter Try.func62, Try.ntmps62
 go_wp2_with (first | ((with_reducible refine gate_dst (N := 2) rfl ?_); refine ZX (N := 2) (cs := #[.int .i64 a0_0, .int .i64 a0_1]) (t := 39) ?_; intro gb312 hg w28 hbox hb; have BK312 := AM (hbox); have GW312 : Za (w.heap.size ≤ gb312) := ZS hg; replace HB := ZT HB hb; clear hb hbox hg) | ((with_reducible refine gate_dst (N := 3) rfl ?_); refine ZX (N := 3) (cs := #[.int .i64 a1_0, .int .i64 a1_1]) (t := 39) ?_; intro gb313 hg w29 hbox hb; have BK313 := AM (hbox); have GW313 : Za (w.heap.size ≤ gb313) := ZS hg; have NB312_313 : Za (gb312 ≠ gb313) := ZN hg BK312; have NB313_312 : Za (gb313 ≠ gb312) := ZM hg BK312; replace BK312 := ZW BK312 hb; replace HB := ZT HB hb; clear hb hbox hg; have hnb30 := NB312_313.out; have hnc30 := NB313_312.out; have hcz31 := ZC2 w29 BK312; have hfz31 := ZF2 BK312) | ((with_reducible refine gate_callee (f := 44) rfl ?_); refine ZGL (some 6) Try.func44 #[.agg #[.int .i64 a0_0, .int .i64 a0_1]] ?_; (with_reducible refine (spec_LabelOk.calls a0_0 a0_1 true _ A3.out).mono ?_); rintro e w32 ⟨rfl, hb⟩; refine ⟨_, rfl, ?_⟩; replace BK312 := ZW BK312 hb; replace BK313 := ZW BK313 hb; replace HB := ZT HB hb; clear hb; have hcz33 := ZC2 w32 BK313; have hfz33 := ZF2 BK313) | (go_at_call 44; (with_reducible refine (spec_LabelOk.calls a1_0 a1_1 false _ A5.out).mono ?_); rintro e w34 ⟨rfl, hb⟩; replace BK312 := ZW BK312 hb; replace BK313 := ZW BK313 hb; replace HB := ZT HB hb; clear hb))
 go_ret
 exact ⟨ZE, ZB⟩))
 ·(
 replace c4 := Bool.eq_false_iff.mpr c4
 subst c4
 have H1 := H; rw [if_neg ZFT] at H1
 clear H
 have H := H1
 clear H1
 obtain rfl := Option.some.inj H
 go_enter Try.func62, Try.ntmps62
 go_wp2_with (first | ((with_reducible refine gate_dst (N := 2) rfl ?_); refine ZX (N := 2) (cs := #[.int .i64 a0_0, .int .i64 a0_1]) (t := 39) ?_; intro gb312 hg w35 hbox hb; have BK312 := AM (hbox); have GW312 : Za (w.heap.size ≤ gb312) := ZS hg; replace HB := ZT HB hb; clear hb hbox hg) | ((with_reducible refine gate_dst (N := 3) rfl ?_); refine ZX (N := 3) (cs := #[.int .i64 a1_0, .int .i64 a1_1]) (t := 39) ?_; intro gb313 hg w36 hbox hb; have BK313 := AM (hbox); have GW313 : Za (w.heap.size ≤ gb313) := ZS hg; have NB312_313 : Za (gb312 ≠ gb313) := ZN hg BK312; have NB313_312 : Za (gb313 ≠ gb312) := ZM hg BK312; replace BK312 := ZW BK312 hb; replace HB := ZT HB hb; clear hb hbox hg; have hnb37 := NB312_313.out; have hnc37 := NB313_312.out; have hcz38 := ZC2 w36 BK312; have hfz38 := ZF2 BK312) | ((with_reducible refine gate_callee (f := 44) rfl ?_); refine ZGL (some 6) Try.func44 #[.agg #[.int .i64 a0_0, .int .i64 a0_1]] ?_; (with_reducible refine (spec_LabelOk.calls a0_0 a0_1 false _ A3.out).mono ?_); rintro e w39 ⟨rfl, hb⟩; refine ⟨_, rfl, ?_⟩; replace BK312 := ZW BK312 hb; replace BK313 := ZW BK313 hb; replace HB := ZT HB hb; clear hb))
 go_ret
 exact ⟨ZE, ZB⟩)


/-! ### spec_l11Fine: function 42 -/
def spec_l11Fine.f (k : Nat) (l0_0 : List (S39)) (l0_1 : List (S32)) (a1_0 : Int) (a1_1 : Int) (a1_2 : Int) (a1_3 : Int) (a1_4 : Int) (a1_5 : Int) (l1_6 : List (S32)) (l1_7 : List (S32)) (a2_0 : Int) (a2_1 : Int) : Option (Bool) := if a1_0 = 1 then ((spec_l11Val.f k l0_0 l0_1 a1_2 a1_3 a1_4).bind fun bt342 => ((spec_LabelBoth.f k a2_0 a2_1 bt342.1 bt342.2).bind fun bt344 => (if 0 ≤ a1_1 then (if a1_1 < (l0_0.length : Int) then ((spec_LabelFlows.f k bt344.1 bt344.2 ((D39 l0_0 a1_1).f0) ((D39 l0_0 a1_1).f1)).bind fun t347 => (some t347)) else (none)) else (none)))) else (if a1_0 = 3 then (if 0 ≤ a1_1 then (if a1_1 < (l0_0.length : Int) then ((spec_l1Both.f k a2_0 ((D39 l0_0 a1_1).f0)).bind fun t349 => ((spec_l1Has.f t349 a1_5).bind fun t350 => (some t350))) else (none)) else (none)) else (some true))
def spec_l11Fine.T3 : Bool × List (List Nat × List Nat) := (true, [([], []), ([], []), ([], []), ([2], [2]), ([1, 3], [1, 3]), ([0, 4, 4], [0, 4]), ([], []), ([6], [6]), ([], []), ([8], [8]), ([7, 9], [7, 9]), ([10], [10]), ([5, 11, 5], [5, 11]), ([12, 12, 0, 1, 2, 3, 4, 5, 6, 7, 8, 9, 10, 11, 12], [12])])
def spec_l11Fine.B3 : List Nat := [0, 0, 0, 4, 14, 31, 0, 64, 0, 256, 960, 1984, 4095, 8191]
theorem spec_l11Fine.tab3 : rtab .any (opsOf Try.f42 3) = spec_l11Fine.T3 := by kernel_rfl
theorem spec_l11Fine.bits3 : waitsOk spec_l11Fine.T3.2 spec_l11Fine.B3 = true := by kernel_rfl
def spec_l11Fine.T5 : Bool × List (List Nat × List Nat) := (true, [([], []), ([0], [0]), ([], []), ([2], [2]), ([], []), ([4], [4]), ([3, 5], [3, 5]), ([6], [6]), ([7], [7]), ([1, 8], [1, 8]), ([], []), ([10], [10]), ([9, 11, 9], [9, 11]), ([12, 12, 0, 1, 2, 3, 4, 5, 6, 7, 8, 9, 10, 11, 12], [12])])
def spec_l11Fine.B5 : List Nat := [0, 1, 0, 4, 0, 16, 60, 124, 252, 511, 0, 1024, 4095, 8191]
theorem spec_l11Fine.tab5 : rtab .any (opsOf Try.f42 5) = spec_l11Fine.T5 := by kernel_rfl
theorem spec_l11Fine.bits5 : waitsOk spec_l11Fine.T5.2 spec_l11Fine.B5 = true := by kernel_rfl
theorem spec_l11Fine.calls (k : Nat) (A0_0 : Option Addr) (c0_0 : Nat) (l0_0 : List (S39)) (A0_1 : Option Addr) (c0_1 : Nat) (l0_1 : List (S32)) (a1_0 : Int) (a1_1 : Int) (a1_2 : Int) (a1_3 : Int) (a1_4 : Int) (a1_5 : Int) (A1_6 : Option Addr) (c1_6 : Nat) (l1_6 : List (S32)) (A1_7 : Option Addr) (c1_7 : Nat) (l1_7 : List (S32)) (a2_0 : Int) (a2_1 : Int) (r : Bool) (w : World) (hr0_0 : Kd.C k39 w A0_0 l0_0.length l0_0) (hc0_0 : l0_0.length ≤ c0_0) (hr0_1 : Kd.C k32 w A0_1 l0_1.length l0_1) (hc0_1 : l0_1.length ≤ c0_1) (hr1_6 : Kd.C k32 w A1_6 l1_6.length l1_6) (hc1_6 : l1_6.length ≤ c1_6) (hr1_7 : Kd.C k32 w A1_7 l1_7.length l1_7) (hc1_7 : l1_7.length ≤ c1_7) (h : spec_l11Fine.f k l0_0 l0_1 a1_0 a1_1 a1_2 a1_3 a1_4 a1_5 l1_6 l1_7 a2_0 a2_1 = some r) :
  Calls Try.prog 42 #[.agg #[.slice A0_0 l0_0.length c0_0, .slice A0_1 l0_1.length c0_1], .agg #[.int .i64 a1_0, .int .i64 a1_1, .int .i64 a1_2, .int .i64 a1_3, .int .i64 a1_4, .int .i64 a1_5, .slice A1_6 l1_6.length c1_6, .slice A1_7 l1_7.length c1_7], .agg #[.int .i64 a2_0, .int .i64 a2_1]] w fun e w' => e = .returned (.bool r) ∧ Below w.heap.size w w' := by
 have hu26 := Try.underlying26
 have hu32 := Try.underlying32
 have hu39 := Try.underlying39
 have hu30 := Try.underlying30
 have HR0_0 := AM hr0_0
 have HC0_0 := AM hc0_0
 clear hr0_0 hc0_0
 have HR0_1 := AM hr0_1
 have HC0_1 := AM hc0_1
 clear hr0_1 hc0_1
 have HR1_6 := AM hr1_6
 have HC1_6 := AM hc1_6
 clear hr1_6 hc1_6
 have HR1_7 := AM hr1_7
 have HC1_7 := AM hc1_7
 clear hr1_7 hc1_7
 have HB := AM (Below.refl w.heap.size w)
 have H := h
 unfold spec_l11Fine.f at H
 clear h
 by_cases c4 : a1_0 = 1
 ·(
 rw [if_pos c4] at H
 have c4b0 := beq_iff_eq.mpr c4
 have c4b1 := bne_eq_false_iff_eq.mpr c4
 clear c4
 obtain ⟨⟨t342, t343⟩, A5, H⟩ := ZOB H; try dsimp only at H
 obtain ⟨⟨t344, t345⟩, A6, H⟩ := ZOB H; try dsimp only at H
 by_cases c7 : 0 ≤ a1_1
 ·(
 rw [if_pos c7] at H
 have c7b0 := decide_eq_true c7
 clear c7
 by_cases c8 : a1_1 < (l0_0.length : Int)
 ·(
 rw [if_pos c8] at H
 have c8b0 := decide_eq_true c8
 clear c8
 obtain ⟨t347, A9, H⟩ := ZOB H; try dsimp only at H
 obtain rfl := Option.some.inj H
 go_enter Try.func42, Try.ntmps42
 try go_wp2_with (first | ((with_reducible refine gate_dst (N := 3) rfl ?_); refine ZX (N := 3) (cs := #[.slice A0_0 l0_0.length c0_0, .slice A0_1 l0_1.length c0_1]) (t := 26) ?_; intro gb339 hg w10 hbox hb; have BK339 := AM (hbox); have GW339 : Za (w.heap.size ≤ gb339) := ZS hg; replace HB := ZT HB hb; clear hb hbox hg) | ((with_reducible refine gate_dst (N := 4) rfl ?_); refine ZX (N := 4) (cs := #[.int .i64 a1_0, .int .i64 a1_1, .int .i64 a1_2, .int .i64 a1_3, .int .i64 a1_4, .int .i64 a1_5, .slice A1_6 l1_6.length c1_6, .slice A1_7 l1_7.length c1_7]) (t := 32) ?_; intro gb340 hg w11 hbox hb; have BK340 := AM (hbox); have GW340 : Za (w.heap.size ≤ gb340) := ZS hg; have NB339_340 : Za (gb339 ≠ gb340) := ZN hg BK339; have NB340_339 : Za (gb340 ≠ gb339) := ZM hg BK339; replace BK339 := ZW BK339 hb; replace HB := ZT HB hb; clear hb hbox hg) | ((with_reducible refine gate_dst (N := 5) rfl ?_); refine ZX (N := 5) (cs := #[.int .i64 a2_0, .int .i64 a2_1]) (t := 39) ?_; intro gb341 hg w12 hbox hb; have BK341 := AM (hbox); have GW341 : Za (w.heap.size ≤ gb341) := ZS hg; have NB339_341 : Za (gb339 ≠ gb341) := ZN hg BK339; have NB341_339 : Za (gb341 ≠ gb339) := ZM hg BK339; have NB340_341 : Za (gb340 ≠ gb341) := ZN hg BK340; have NB341_340 : Za (gb341 ≠ gb340) := ZM hg BK340; replace BK339 := ZW BK339 hb; replace BK340 := ZW BK340 hb; replace HB := ZT HB hb; clear hb hbox hg; have hnb13 := NB340_339.out; have hnc13 := NB339_340.out; have hnb14 := NB340_341.out; have hnc14 := NB341_340.out; have hcz15 := ZC8 w12 BK340; have hfz15 := ZF8 BK340))
 replace BK339 := AM (blk_drew BK339.out)
 replace BK340 := AM (blk_drew BK340.out)
 replace BK341 := AM (blk_drew BK341.out)
 replace HB := AM (below_drew1 HB.out)
 have p346 : 0 ≤ (a1_1 : Int) := ZD
 have q346 : a1_1 < (l0_0.length : Int) := ZD
 obtain ⟨ad346, e346, hx346_0, hx346_1⟩ := at_T39 HR0_0.out a1_1 p346 q346
 have hw346_1 := hx346_1
 have hw346_0 := hx346_0
 cases e346
 replace hx346_0 := ZHX HB hx346_0
 replace hx346_1 := ZHX HB hx346_1
 replace p346 := eq_true p346
 replace q346 := eq_true q346
 refine start_ (n := 14) (S := fun w' => w'.cell? ⟨gb341, 0, none⟩ = some (.int .i64 a2_0) ∧ w'.cell? ⟨gb341, 1, none⟩ = some (.int .i64 a2_1) ∧ w'.cell? ⟨gb339, 0, none⟩ = some (.slice (some ad346) l0_0.length c0_0) ∧ w'.cell? ⟨gb339, 1, none⟩ = some (.slice A0_1 l0_1.length c0_1) ∧ w'.cell? ⟨gb340, 0, none⟩ = some (.int .i64 a1_0) ∧ w'.cell? ⟨gb340, 1, none⟩ = some (.int .i64 a1_1) ∧ w'.cell? ⟨gb340, 2, none⟩ = some (.int .i64 a1_2) ∧ w'.cell? ⟨gb340, 3, none⟩ = some (.int .i64 a1_3) ∧ w'.cell? ⟨gb340, 4, none⟩ = some (.int .i64 a1_4) ∧ w'.cell? ⟨gb340, 5, none⟩ = some (.int .i64 a1_5) ∧ w'.cell? ⟨gb340, 6, none⟩ = some (.slice A1_6 l1_6.length c1_6) ∧ w'.cell? ⟨gb340, 7, none⟩ = some (.slice A1_7 l1_7.length c1_7) ∧ w'.cell? (ad346.add ((a1_1).toNat * 2)) = some (.int .i64 ((D39 l0_0 a1_1).f0)) ∧ w'.cell? ⟨(ad346.add ((a1_1).toNat * 2)).block, (ad346.add ((a1_1).toNat * 2)).off + 1, none⟩ = some (.int .i64 ((D39 l0_0 a1_1).f1))) (ds := []) #[F,F,F,F,F,F,F,F,F,F,F,F,F,F] (by kernel_rfl) rfl rfl ⟨ZA BK341 0, ZA BK341 1, ZA BK339 0, ZA BK339 1, ZA BK340 0, ZA BK340 1, ZA BK340 2, ZA BK340 3, ZA BK340 4, ZA BK340 5, ZA BK340 6, ZA BK340 7, ((HB.out.cell (World.block_lt_of_cell? w _ hw346_0)).trans hw346_0), ((HB.out.cell (World.block_lt_of_cell? w _ hw346_1)).trans hw346_1)⟩ (fun hHeld => ?_); refine with_tabW spec_l11Fine.tab3 spec_l11Fine.bits3 (fun HT_ HW_ => ?_)
 generalize w12.drew = w16 at BK339 BK340 BK341 HB hx346_0 hx346_1 hHeld ⊢
 refine ZU 2 13 #[F,F,T,F,F,F,F,F,F,F,F,F,F,F] ?_
 refine ZU 6 17 #[F,F,T,F,F,F,T,F,F,F,F,F,F,F] ?_
 refine ZU 8 19 #[F,F,T,F,F,F,T,F,T,F,F,F,F,F] ?_
 refine ZTK 0 11 #[T,F,T,F,F,F,T,F,T,F,F,F,F,F] hHeld ?_
 refine ZTK 1 12 #[T,T,T,F,F,F,T,F,T,F,F,F,F,F] hHeld ?_
 refine ZTK 3 14 #[T,T,T,T,F,F,T,F,T,F,F,F,F,F] hHeld ?_
 refine ZTK 7 18 #[T,T,T,T,F,F,T,T,T,F,F,F,F,F] hHeld ?_
 refine ZTK 9 20 #[T,T,T,T,F,F,T,T,T,T,F,F,F,F] hHeld ?_
 refine ZU 10 21 #[T,T,T,T,F,F,T,T,T,T,T,F,F,F] ?_
 refine ZTK 11 22 #[T,T,T,T,F,F,T,T,T,T,T,T,F,F] hHeld ?_
 refine one_ (i := 4) (N := some 15) #[T,T,T,T,T,F,T,T,T,T,T,T,F,F] rfl rfl (one_of HT_.out (by kernel_rfl)) (by decide) (fun K hK => ?_)
 refine ZGO Try.func64 #[.agg #[.slice (some ad346) l0_0.length c0_0, .slice A0_1 l0_1.length c0_1], .agg #[.int .i64 a1_2, .int .i64 a1_3, .int .i64 a1_4]] ?_
 with_reducible refine (spec_l11Val.calls k _ _ l0_0 _ _ l0_1 a1_2 a1_3 a1_4 t342 t343 _ ?side1 ?side2 ?side3 ?side4 A5.out).mono ?_
 (case side1 => exact ZQ (Kd.C_below HR0_0.out HB.out))
 (case side2 => exact HC0_0.out)
 (case side3 => exact ZQ (Kd.C_below HR0_1.out HB.out))
 (case side4 => exact HC0_1.out)
 rintro e w17 ⟨rfl, hb⟩
 refine ⟨_, rfl, ?_⟩
 replace BK339 := ZW BK339 hb
 replace BK340 := ZW BK340 hb
 replace BK341 := ZW BK341 hb
 replace HB := ZT HB hb
 (try clear hb)
 (try clear hb2)
 (try clear hk)
 (try clear hi)
 refine hK.out _ _ ⟨ZA BK341 0, ZA BK341 1, ZA BK339 0, ZA BK339 1, ZA BK340 0, ZA BK340 1, ZA BK340 2, ZA BK340 3, ZA BK340 4, ZA BK340 5, ZA BK340 6, ZA BK340 7, ((HB.out.cell (World.block_lt_of_cell? w _ hw346_0)).trans hw346_0), ((HB.out.cell (World.block_lt_of_cell? w _ hw346_1)).trans hw346_1)⟩ (fun hHeld => ?_)
 clear hK K
 refine ZNO 15 ?_
 refine one_ (i := 5) (N := some 16) #[T,T,T,T,T,T,T,T,T,T,T,T,F,F] rfl rfl (one_of HT_.out (by kernel_rfl)) (by decide) (fun K hK => ?_)
 refine ZGO Try.func63 #[.agg #[.int .i64 a2_0, .int .i64 a2_1], .agg #[.int .i64 t342, .int .i64 t343]] ?_
 with_reducible refine (spec_LabelBoth.calls k a2_0 a2_1 t342 t343 t344 t345 _ A6.out).mono ?_
 rintro e w18 ⟨rfl, hb⟩
 refine ⟨_, rfl, ?_⟩
 replace BK339 := ZW BK339 hb
 replace BK340 := ZW BK340 hb
 replace BK341 := ZW BK341 hb
 replace HB := ZT HB hb
 (try clear hb)
 (try clear hb2)
 (try clear hk)
 (try clear hi)
 refine hK.out _ _ ⟨ZA BK341 0, ZA BK341 1, ZA BK339 0, ZA BK339 1, ZA BK340 0, ZA BK340 1, ZA BK340 2, ZA BK340 3, ZA BK340 4, ZA BK340 5, ZA BK340 6, ZA BK340 7, ((HB.out.cell (World.block_lt_of_cell? w _ hw346_0)).trans hw346_0), ((HB.out.cell (World.block_lt_of_cell? w _ hw346_1)).trans hw346_1)⟩ (fun hHeld => ?_)
 clear hK K
 refine ZNO 16 ?_
 refine one_ (i := 12) (N := some 23) #[T,T,T,T,T,T,T,T,T,T,T,T,T,F] rfl rfl (one_of HT_.out (by kernel_rfl)) (by decide) (fun K hK => ?_)
 refine ZGO Try.func62 #[.agg #[.int .i64 t344, .int .i64 t345], .agg #[.int .i64 ((D39 l0_0 a1_1).f0), .int .i64 ((D39 l0_0 a1_1).f1)]] ?_
 with_reducible refine (spec_LabelFlows.calls k t344 t345 ((D39 l0_0 a1_1).f0) ((D39 l0_0 a1_1).f1) t347 _ A9.out).mono ?_
 rintro e w19 ⟨rfl, hb⟩
 refine ⟨_, rfl, ?_⟩
 replace BK339 := ZW BK339 hb
 replace BK340 := ZW BK340 hb
 replace BK341 := ZW BK341 hb
 replace HB := ZT HB hb
 (try clear hb)
 (try clear hb2)
 (try clear hk)
 (try clear hi)
 refine hK.out _ _ ⟨ZA BK341 0, ZA BK341 1, ZA BK339 0, ZA BK339 1, ZA BK340 0, ZA BK340 1, ZA BK340 2, ZA BK340 3, ZA BK340 4, ZA BK340 5, ZA BK340 6, ZA BK340 7, ((HB.out.cell (World.block_lt_of_cell? w _ hw346_0)).trans hw346_0), ((HB.out.cell (World.block_lt_of_cell? w _ hw346_1)).trans hw346_1)⟩ (fun hHeld => ?_)
 clear hK K
 refine ZNO 23 ?_
 refine ZU 13 6 #[T,T,T,T,T,T,T,T,T,T,T,T,T,T] ?_
 refine done_ (done_of HT_.out (by kernel_rfl)) ?_
 try go_wp2
 go_ret
 exact ⟨ZE, ZB⟩)
 ·(
 rw [if_neg c8] at H
 exact absurd H (by simp)))
 ·(
 rw [if_neg c7] at H
 exact absurd H (by simp)))
 ·(
 rw [if_neg c4] at H
 have c4b0 := beq_eq_false_iff_ne.mpr c4
 have c4b1 := bne_iff_ne.mpr c4
 by_cases c20 : a1_0 = 3
 ·(
 rw [if_pos c20] at H
 have c20b0 := beq_iff_eq.mpr c20
 have c20b1 := bne_eq_false_iff_eq.mpr c20
 clear c20
 by_cases c21 : 0 ≤ a1_1
 ·(
 rw [if_pos c21] at H
 have c21b0 := decide_eq_true c21
 clear c21
 by_cases c22 : a1_1 < (l0_0.length : Int)
 ·(
 rw [if_pos c22] at H
 have c22b0 := decide_eq_true c22
 clear c22
 obtain ⟨t349, A23, H⟩ := ZOB H; try dsimp only at H
 obtain ⟨t350, A24, H⟩ := ZOB H; try dsimp only at H
 obtain rfl := Option.some.inj H
 go_enter Try.func42, Try.ntmps42
 try go_wp2_with (first | ((with_reducible refine gate_dst (N := 3) rfl ?_); refine ZX (N := 3) (cs := #[.slice A0_0 l0_0.length c0_0, .slice A0_1 l0_1.length c0_1]) (t := 26) ?_; intro gb339 hg w25 hbox hb; have BK339 := AM (hbox); have GW339 : Za (w.heap.size ≤ gb339) := ZS hg; replace HB := ZT HB hb; clear hb hbox hg) | ((with_reducible refine gate_dst (N := 4) rfl ?_); refine ZX (N := 4) (cs := #[.int .i64 a1_0, .int .i64 a1_1, .int .i64 a1_2, .int .i64 a1_3, .int .i64 a1_4, .int .i64 a1_5, .slice A1_6 l1_6.length c1_6, .slice A1_7 l1_7.length c1_7]) (t := 32) ?_; intro gb340 hg w26 hbox hb; have BK340 := AM (hbox); have GW340 : Za (w.heap.size ≤ gb340) := ZS hg; have NB339_340 : Za (gb339 ≠ gb340) := ZN hg BK339; have NB340_339 : Za (gb340 ≠ gb339) := ZM hg BK339; replace BK339 := ZW BK339 hb; replace HB := ZT HB hb; clear hb hbox hg) | ((with_reducible refine gate_dst (N := 5) rfl ?_); refine ZX (N := 5) (cs := #[.int .i64 a2_0, .int .i64 a2_1]) (t := 39) ?_; intro gb341 hg w27 hbox hb; have BK341 := AM (hbox); have GW341 : Za (w.heap.size ≤ gb341) := ZS hg; have NB339_341 : Za (gb339 ≠ gb341) := ZN hg BK339; have NB341_339 : Za (gb341 ≠ gb339) := ZM hg BK339; have NB340_341 : Za (gb340 ≠ gb341) := ZN hg BK340; have NB341_340 : Za (gb341 ≠ gb340) := ZM hg BK340; replace BK339 := ZW BK339 hb; replace BK340 := ZW BK340 hb; replace HB := ZT HB hb; clear hb hbox hg; have hnb28 := NB340_339.out; have hnc28 := NB339_340.out; have hnb29 := NB340_341.out; have hnc29 := NB341_340.out; have hcz30 := ZC8 w27 BK340; have hfz30 := ZF8 BK340))
 replace BK339 := AM (blk_drew BK339.out)
 replace BK340 := AM (blk_drew BK340.out)
 replace BK341 := AM (blk_drew BK341.out)
 replace HB := AM (below_drew1 HB.out)
 have p348 : 0 ≤ (a1_1 : Int) := ZD
 have q348 : a1_1 < (l0_0.length : Int) := ZD
 obtain ⟨ad348, e348, hx348_0, hx348_1⟩ := at_T39 HR0_0.out a1_1 p348 q348
 have hw348_1 := hx348_1
 have hw348_0 := hx348_0
 cases e348
 replace hx348_0 := ZHX HB hx348_0
 replace hx348_1 := ZHX HB hx348_1
 replace p348 := eq_true p348
 replace q348 := eq_true q348
 refine start_ (n := 14) (S := fun w' => w'.cell? ⟨gb341, 0, none⟩ = some (.int .i64 a2_0) ∧ w'.cell? ⟨gb341, 1, none⟩ = some (.int .i64 a2_1) ∧ w'.cell? ⟨gb339, 0, none⟩ = some (.slice (some ad348) l0_0.length c0_0) ∧ w'.cell? ⟨gb339, 1, none⟩ = some (.slice A0_1 l0_1.length c0_1) ∧ w'.cell? ⟨gb340, 0, none⟩ = some (.int .i64 a1_0) ∧ w'.cell? ⟨gb340, 1, none⟩ = some (.int .i64 a1_1) ∧ w'.cell? ⟨gb340, 2, none⟩ = some (.int .i64 a1_2) ∧ w'.cell? ⟨gb340, 3, none⟩ = some (.int .i64 a1_3) ∧ w'.cell? ⟨gb340, 4, none⟩ = some (.int .i64 a1_4) ∧ w'.cell? ⟨gb340, 5, none⟩ = some (.int .i64 a1_5) ∧ w'.cell? ⟨gb340, 6, none⟩ = some (.slice A1_6 l1_6.length c1_6) ∧ w'.cell? ⟨gb340, 7, none⟩ = some (.slice A1_7 l1_7.length c1_7) ∧ w'.cell? (ad348.add ((a1_1).toNat * 2)) = some (.int .i64 ((D39 l0_0 a1_1).f0)) ∧ w'.cell? ⟨(ad348.add ((a1_1).toNat * 2)).block, (ad348.add ((a1_1).toNat * 2)).off + 1, none⟩ = some (.int .i64 ((D39 l0_0 a1_1).f1))) (ds := []) #[F,F,F,F,F,F,F,F,F,F,F,F,F,F] (by kernel_rfl) rfl rfl ⟨ZA BK341 0, ZA BK341 1, ZA BK339 0, ZA BK339 1, ZA BK340 0, ZA BK340 1, ZA BK340 2, ZA BK340 3, ZA BK340 4, ZA BK340 5, ZA BK340 6, ZA BK340 7, ((HB.out.cell (World.block_lt_of_cell? w _ hw348_0)).trans hw348_0), ((HB.out.cell (World.block_lt_of_cell? w _ hw348_1)).trans hw348_1)⟩ (fun hHeld => ?_); refine with_tabW spec_l11Fine.tab5 spec_l11Fine.bits5 (fun HT_ HW_ => ?_)
 generalize w27.drew = w31 at BK339 BK340 BK341 HB hx348_0 hx348_1 hHeld ⊢
 refine ZU 0 26 #[T,F,F,F,F,F,F,F,F,F,F,F,F,F] ?_
 refine ZU 2 28 #[T,F,T,F,F,F,F,F,F,F,F,F,F,F] ?_
 refine ZU 4 30 #[T,F,T,F,T,F,F,F,F,F,F,F,F,F] ?_
 refine ZU 10 36 #[T,F,T,F,T,F,F,F,F,F,T,F,F,F] ?_
 refine ZTK 1 27 #[T,T,T,F,T,F,F,F,F,F,T,F,F,F] hHeld ?_
 refine ZTK 3 29 #[T,T,T,T,T,F,F,F,F,F,T,F,F,F] hHeld ?_
 refine ZTK 5 31 #[T,T,T,T,T,T,F,F,F,F,T,F,F,F] hHeld ?_
 refine ZU 6 32 #[T,T,T,T,T,T,T,F,F,F,T,F,F,F] ?_
 refine ZU 7 33 #[T,T,T,T,T,T,T,T,F,F,T,F,F,F] ?_
 refine ZTK 8 34 #[T,T,T,T,T,T,T,T,T,F,T,F,F,F] hHeld ?_
 refine ZTK 11 37 #[T,T,T,T,T,T,T,T,T,F,T,T,F,F] hHeld ?_
 refine one_ (i := 9) (N := some 35) #[T,T,T,T,T,T,T,T,T,T,T,T,F,F] rfl rfl (one_of HT_.out (by kernel_rfl)) (by decide) (fun K hK => ?_)
 refine ZGO Try.func65 #[.int .i64 a2_0, .int .i64 ((D39 l0_0 a1_1).f0)] ?_
 with_reducible refine (spec_l1Both.calls k a2_0 ((D39 l0_0 a1_1).f0) t349 _ A23.out).mono ?_
 rintro e w' ⟨rfl, ⟨nd, rfl⟩⟩
 refine ⟨_, rfl, ?_⟩
 refine hK.out _ _ ⟨ZA BK341 0, ZA BK341 1, ZA BK339 0, ZA BK339 1, ZA BK340 0, ZA BK340 1, ZA BK340 2, ZA BK340 3, ZA BK340 4, ZA BK340 5, ZA BK340 6, ZA BK340 7, ((HB.out.cell (World.block_lt_of_cell? w _ hw348_0)).trans hw348_0), ((HB.out.cell (World.block_lt_of_cell? w _ hw348_1)).trans hw348_1)⟩ (fun hHeld => ?_)
 clear hK K
 refine ZNO 35 ?_
 refine one_ (i := 12) (N := some 38) #[T,T,T,T,T,T,T,T,T,T,T,T,T,F] rfl rfl (one_of HT_.out (by kernel_rfl)) (by decide) (fun K hK => ?_)
 refine ZGO Try.func50 #[.int .i64 t349, .int .i64 a1_5] ?_
 with_reducible refine (spec_l1Has.calls t349 a1_5 t350 _ A24.out).mono ?_
 rintro e w' ⟨rfl, ⟨nd, rfl⟩⟩
 refine ⟨_, rfl, ?_⟩
 refine hK.out _ _ ⟨ZA BK341 0, ZA BK341 1, ZA BK339 0, ZA BK339 1, ZA BK340 0, ZA BK340 1, ZA BK340 2, ZA BK340 3, ZA BK340 4, ZA BK340 5, ZA BK340 6, ZA BK340 7, ((HB.out.cell (World.block_lt_of_cell? w _ hw348_0)).trans hw348_0), ((HB.out.cell (World.block_lt_of_cell? w _ hw348_1)).trans hw348_1)⟩ (fun hHeld => ?_)
 clear hK K
 refine ZNO 38 ?_
 refine ZU 13 6 #[T,T,T,T,T,T,T,T,T,T,T,T,T,T] ?_
 refine done_ (done_of HT_.out (by kernel_rfl)) ?_
 try go_wp2
 go_ret
 exact ⟨ZE, ZB⟩)
 ·(
 rw [if_neg c22] at H
 exact absurd H (by simp)))
 ·(
 rw [if_neg c21] at H
 exact absurd H (by simp)))
 ·(
 rw [if_neg c20] at H
 have c20b0 := beq_eq_false_iff_ne.mpr c20
 have c20b1 := bne_iff_ne.mpr c20
 obtain rfl := Option.some.inj H
 go_enter Try.func42, Try.ntmps42
 go_wp2_with (first | ((with_reducible refine gate_dst (N := 3) rfl ?_); refine ZX (N := 3) (cs := #[.slice A0_0 l0_0.length c0_0, .slice A0_1 l0_1.length c0_1]) (t := 26) ?_; intro gb339 hg w32 hbox hb; have BK339 := AM (hbox); have GW339 : Za (w.heap.size ≤ gb339) := ZS hg; replace HB := ZT HB hb; clear hb hbox hg) | ((with_reducible refine gate_dst (N := 4) rfl ?_); refine ZX (N := 4) (cs := #[.int .i64 a1_0, .int .i64 a1_1, .int .i64 a1_2, .int .i64 a1_3, .int .i64 a1_4, .int .i64 a1_5, .slice A1_6 l1_6.length c1_6, .slice A1_7 l1_7.length c1_7]) (t := 32) ?_; intro gb340 hg w33 hbox hb; have BK340 := AM (hbox); have GW340 : Za (w.heap.size ≤ gb340) := ZS hg; have NB339_340 : Za (gb339 ≠ gb340) := ZN hg BK339; have NB340_339 : Za (gb340 ≠ gb339) := ZM hg BK339; replace BK339 := ZW BK339 hb; replace HB := ZT HB hb; clear hb hbox hg) | ((with_reducible refine gate_dst (N := 5) rfl ?_); refine ZX (N := 5) (cs := #[.int .i64 a2_0, .int .i64 a2_1]) (t := 39) ?_; intro gb341 hg w34 hbox hb; have BK341 := AM (hbox); have GW341 : Za (w.heap.size ≤ gb341) := ZS hg; have NB339_341 : Za (gb339 ≠ gb341) := ZN hg BK339; have NB341_339 : Za (gb341 ≠ gb339) := ZM hg BK339; have NB340_341 : Za (gb340 ≠ gb341) := ZN hg BK340; have NB341_340 : Za (gb341 ≠ gb340) := ZM hg BK340; replace BK339 := ZW BK339 hb; replace BK340 := ZW BK340 hb; replace HB := ZT HB hb; clear hb hbox hg; have hnb35 := NB340_339.out; have hnc35 := NB339_340.out; have hnb36 := NB340_341.out; have hnc36 := NB341_340.out; have hcz37 := ZC8 w34 BK340; have hfz37 := ZF8 BK340))
 go_ret
 exact ⟨ZE, ZB⟩))

/-! ### spec_TypeWhy: function 17 -/
def spec_TypeWhy.l0 : Nat → List (S32) → List (S39) → Int → List (S39) → List (S32) → Option (Int × Bool)
 | 0, _, _, _, _, _ => none
 | k + 1, x4, x5, x6, x352000, x352001 => if x6 < (x4.length : Int) then (if 0 ≤ x6 then (if x6 < (x5.length : Int) then ((spec_l11Fine.f k x352000 x352001 ((D32 x4 x6).f0) ((D32 x4 x6).f1) ((D32 x4 x6).f2.f0) ((D32 x4 x6).f2.f1) ((D32 x4 x6).f2.f2) ((D32 x4 x6).f3) ((D32 x4 x6).f4) ((D32 x4 x6).f5) ((D39 x5 x6).f0) ((D39 x5 x6).f1)).bind fun t361 => (if t361 = true then (spec_TypeWhy.l0 k x4 x5 (wrap64 (x6 + 1)) x352000 x352001) else (some (x6, true)))) else (none)) else (none)) else (some (0, false))
def spec_TypeWhy.f (k : Nat) (l0_0 : List (S39)) (l0_1 : List (S32)) : Option (Int × Bool) := (spec_ProgOk.f k l0_0 l0_1).bind fun t352 => (if t352 = true then ((spec_l2All.f k l0_1).bind fun t353 => ((spec_TypeAt.f k l0_0 l0_1).bind fun t356 => (spec_TypeWhy.l0 k t353 t356 0 l0_0 l0_1))) else (some (0, false)))
def spec_TypeWhy.T8 : Bool × List (List Nat × List Nat) := (true, [([], []), ([], []), ([], []), ([1, 2], [1, 2]), ([3], [3]), ([], []), ([], []), ([5, 6], [5, 6]), ([7], [7]), ([0, 4, 8], [0, 4, 8]), ([9], [9])])
def spec_TypeWhy.B8 : List Nat := [0, 0, 0, 6, 14, 0, 0, 96, 224, 511, 1023]
theorem spec_TypeWhy.tab8 : rtab .any (opsOf Try.f17 8) = spec_TypeWhy.T8 := by kernel_rfl
theorem spec_TypeWhy.bits8 : waitsOk spec_TypeWhy.T8.2 spec_TypeWhy.B8 = true := by kernel_rfl
theorem spec_TypeWhy.calls (k : Nat) (A0_0 : Option Addr) (c0_0 : Nat) (l0_0 : List (S39)) (A0_1 : Option Addr) (c0_1 : Nat) (l0_1 : List (S32)) (r1 : Int) (r2 : Bool) (w : World) (hr0_0 : Kd.C k39 w A0_0 l0_0.length l0_0) (hc0_0 : l0_0.length ≤ c0_0) (hr0_1 : Kd.C k32 w A0_1 l0_1.length l0_1) (hc0_1 : l0_1.length ≤ c0_1) (h : spec_TypeWhy.f k l0_0 l0_1 = some (r1, r2)) :
  Calls Try.prog 17 #[.agg #[.slice A0_0 l0_0.length c0_0, .slice A0_1 l0_1.length c0_1]] w fun e w' => e = .returned (.tuple #[.int .i64 r1, .bool r2]) ∧ Below w.heap.size w w' := by
 have hu26 := Try.underlying26
 have hu32 := Try.underlying32
 have hu39 := Try.underlying39
 have HR0_0 := AM hr0_0
 have HC0_0 := AM hc0_0
 clear hr0_0 hc0_0
 have HR0_1 := AM hr0_1
 have HC0_1 := AM hc0_1
 clear hr0_1 hc0_1
 have HB := AM (Below.refl w.heap.size w)
 have H := h
 unfold spec_TypeWhy.f at H
 clear h
 obtain ⟨t352, A2, H⟩ := ZOB H; try dsimp only at H
 by_cases c3 : t352 = true
 ·(
 subst c3
 have H1 := H; rw [if_pos rfl] at H1
 clear H
 have H := H1
 clear H1
 obtain ⟨t353, A4, H⟩ := ZOB H; try dsimp only at H
 obtain ⟨t356, A5, H⟩ := ZOB H; try dsimp only at H
 have H' := AM H
 clear H
 go_enter Try.func17, Try.ntmps17
 go_wp2_with (first | ((with_reducible refine gate_dst (N := 1) rfl ?_); refine ZX (N := 1) (cs := #[.slice A0_0 l0_0.length c0_0, .slice A0_1 l0_1.length c0_1]) (t := 26) ?_; intro gb351 hg w6 hbox hb; have BK351 := AM (hbox); have GW351 : Za (w.heap.size ≤ gb351) := ZS hg; replace HB := ZT HB hb; clear hb hbox hg; have hcz7 := ZC2 w6 BK351; have hfz7 := ZF2 BK351) | ((with_reducible refine gate_callee (f := 19) rfl ?_); refine ZGL (some 8) Try.func19 #[.agg #[.slice A0_0 l0_0.length c0_0, .slice A0_1 l0_1.length c0_1]] ?_; (with_reducible refine (spec_ProgOk.calls k _ _ l0_0 _ _ l0_1 true _ (ZQ (Kd.C_below HR0_0.out HB.out)) HC0_0.out (ZQ (Kd.C_below HR0_1.out HB.out)) HC0_1.out A2.out).mono ?_); rintro e w8 ⟨rfl, hb⟩; refine ⟨_, rfl, ?_⟩; replace BK351 := ZW BK351 hb; replace HB := ZT HB hb; clear hb; have hcz9 := ZC2 w8 BK351; have hfz9 := ZF2 BK351) | ((with_reducible refine gate_callee (f := 41) rfl ?_); refine ZGL (some 12) Try.func41 #[.slice A0_1 l0_1.length c0_1] ?_; (with_reducible refine (spec_l2All.calls k (fun k_ => k_ < w.heap.size) _ _ l0_1 t353 _ ?side1 A4.out).mono ?_); (case side1 => exact Kd.V_mk HC0_1.out (Kd.F_below (Kd.C_F k32_heap HR0_1.out) (ZB))); rintro e w10 ⟨v354, rfl, ho0, hb⟩; refine ⟨_, rfl, ?_⟩; have HO355 := AM (Kd.N_lower (Kd.N_mono (ok' := fun k_ => k_ ≠ gb351) ho0 (fun k_ hk_ => Or.elim hk_ (fun hs_ => fun e_ => Nat.not_le.2 hs_ (by rw [e_]; exact GW351.out)) (fun hn_ => (Kd.freshB (g := gb351) (o := .cells #[.slice A0_0 l0_0.length c0_0, .slice A0_1 l0_1.length c0_1] 26 (0, 0)) (ZK BK351.out) k_ hn_)))) (below_size (ZB))); replace BK351 := ZW BK351 hb; replace HB := ZT HB hb; clear hb; (try clear ho0); have hcz11 := ZC2 w10 BK351; have hfz11 := ZF2 BK351) | ((with_reducible refine gate_callee (f := 33) rfl ?_); refine ZGL (some 14) Try.func33 #[.agg #[.slice A0_0 l0_0.length c0_0, .slice A0_1 l0_1.length c0_1]] ?_; (with_reducible refine (spec_TypeAt.calls k _ _ l0_0 _ _ l0_1 t356 _ (ZQ (Kd.C_below HR0_0.out HB.out)) HC0_0.out (ZQ (Kd.C_below HR0_1.out HB.out)) HC0_1.out A5.out).mono ?_); rintro e w12 ⟨v357, rfl, ho0, hb⟩; refine ⟨_, rfl, ?_⟩; have HO358 := AM (Kd.R_lower ho0 (below_size (ZB))); replace HO355 := AM (Kd.N_elder' (ZRN HO355.out) (Kd.R_base ho0) hb); replace BK351 := ZW BK351 hb; replace HB := ZT HB hb; clear hb; (try clear ho0)))
 go_loopg [6] k (fun kq v6 w' => ∃ (x6_1 : Int), v6 = .int .i64 x6_1 ∧ Za (spec_TypeWhy.l0 kq t353 t356 x6_1 l0_0 l0_1 = some (r1, r2)) ∧ Za (kq ≤ k) ∧ Za (Kd.N k32 32 w' w.heap.size (fun k_ => some k_ ≠ (v357 : Value).ownBlock ∧ k_ ≠ gb351) v354 t353) ∧ Za (Kd.R k39 39 w' w.heap.size (fun _ => True) v357 t356) ∧ Za (w'.heap[gb351]? = some (.cells #[(.slice A0_0 l0_0.length c0_0), (.slice A0_1 l0_1.length c0_1)] 26 (0, 0))) ∧ Za (Below w.heap.size w w'))
 case atStart => exact ⟨(0), (by first | rfl | (simp; done) | (simp [*]; done)), H', ⟨Nat.le_refl _⟩, ⟨by (with_reducible repeat (first | apply Kd.N_alloc | apply Kd.N_drewN | apply Kd.N_drew)); exact Kd.N_mono HO355.out (fun _ hk => ⟨hk.2, hk.1⟩)⟩, ⟨ZR HO358.out⟩, ⟨ZK BK351.out⟩, ⟨ZB⟩⟩
 case round => (
 clear H'
 try clear c1
 try clear p2
 try clear c3
 try clear c4
 try clear hcz11
 try clear hcz7
 try clear hcz9
 try clear hfz11
 try clear hfz7
 try clear hfz9
 obtain ⟨x6_1, rfl, HA, HK1, HO_4, HO_5, BK351, HB⟩ := hrel
 cases gk with
 | zero => exact absurd HA.out (by simp [spec_TypeWhy.l0])
 | succ k1 =>
  have H := HA.out
  clear HA
  simp only [spec_TypeWhy.l0] at H
  by_cases c13 : x6_1 < (t353.length : Int)
  focus (
  rw [if_pos c13] at H
  have c13b0 := decide_eq_true c13
  clear c13
  by_cases c14 : 0 ≤ x6_1
  focus (
  rw [if_pos c14] at H
  have c14b0 := decide_eq_true c14
  clear c14
  by_cases c15 : x6_1 < (t356.length : Int)
  focus (
  rw [if_pos c15] at H
  have c15b0 := decide_eq_true c15
  clear c15
  obtain ⟨t361, A16, H⟩ := ZOB H; try dsimp only at H
  by_cases c17 : t361 = true
  focus (
  subst c17
  have H1 := H; rw [if_pos rfl] at H1
  clear H
  have H := H1
  clear H1
  have H' := AM H
  clear H
  obtain ⟨Ao18, co18, eo18⟩ := Kd.N_slice HO_4.out
  subst eo18
  have tag0_ : Za True := ⟨trivial⟩)
  rotate_left
  focus (
  replace c17 := Bool.eq_false_iff.mpr c17
  subst c17
  have H1 := H; rw [if_neg ZFT] at H1
  clear H
  have H := H1
  clear H1
  simp only [Option.some.injEq, Prod.mk.injEq] at H
  obtain ⟨rfl, rfl⟩ := H
  obtain ⟨Ao22, co22, eo22⟩ := Kd.N_slice HO_4.out
  subst eo22
  have tag1_ : Za True := ⟨trivial⟩)
  rotate_left)
  rotate_left 2
  focus (
  exact ZNE H c15))
  rotate_left 2
  focus (
  exact ZNE H c14))
  rotate_left 2
  focus (
  rw [if_neg c13] at H
  have c13b0 := decide_eq_false c13
  clear c13
  simp only [Option.some.injEq, Prod.mk.injEq] at H
  obtain ⟨rfl, rfl⟩ := H
  obtain ⟨Ao26, co26, eo26⟩ := Kd.N_slice HO_4.out
  subst eo26
  have tag2_ : Za True := ⟨trivial⟩)
  rotate_left
  all_goals (
  first
  | (
  (first | (have z_ := tag0_; clear z_) | (have z_ := tag1_; clear z_))
  try go_wp2
  replace HO_4 := AM (Kd.N_drew HO_4.out)
  replace HO_5 := AM (Kd.R_drew HO_5.out)
  replace BK351 := AM (blk_drew BK351.out)
  replace HB := AM (below_drew1 HB.out)
  have pq0 : 0 ≤ (x6_1 : Int) := ZD
  have qq0 : x6_1 < (t353.length : Int) := ZD
  obtain ⟨adq0, Aq0_6, cq0_6, Aq0_7, cq0_7, eq0, hxq0_0, hxq0_1, hxq0_2, hxq0_3, hxq0_4, hxq0_5, hxq0_6, hxq0_7, hlq0_6, hiq0_6, hlq0_7, hiq0_7⟩ := at_T32 (Kd.N_reads' HO_4.out).2.2 x6_1 pq0 qq0
  cases eq0
  obtain ⟨ceq0, hceq0, hMeq0, hccq0⟩ := Kd.N_get HO_4.out z32 x6_1 pq0 (by first | exact qq0 | exact ZD | (have e_ := (Kd.N_reads' HO_4.out).1; omega))
  obtain ⟨uaq0_6, ucq0_6, uaq0_7, ucq0_7, rfl, ulq0_6, geq0_6, ulq0_7, geq0_7⟩ := k32_openF hMeq0
  have hvq0_6 := hccq0 6 _ rfl
  rw [add_field _ _ 6 (by omega)] at hvq0_6
  replace hvq0_6 := Option.some.inj (hvq0_6.symm.trans hxq0_6)
  injection hvq0_6 with hva_ hvn_ hvc_
  rw [hva_] at geq0_6
  rw [hvc_] at ulq0_6
  have HLq0_6 := AM (show Kd.V k32 32 _ w.heap.size _ _ ((D32 t353 x6_1).f4) from Kd.V_mk ulq0_6 geq0_6)
  clear hva_ hvn_ hvc_ geq0_6 ulq0_6
  have hvq0_7 := hccq0 7 _ rfl
  rw [add_field _ _ 7 (by omega)] at hvq0_7
  replace hvq0_7 := Option.some.inj (hvq0_7.symm.trans hxq0_7)
  injection hvq0_7 with hva_ hvn_ hvc_
  rw [hva_] at geq0_7
  rw [hvc_] at ulq0_7
  have HLq0_7 := AM (show Kd.V k32 32 _ w.heap.size _ _ ((D32 t353 x6_1).f5) from Kd.V_mk ulq0_7 geq0_7)
  clear hva_ hvn_ hvc_ geq0_7 ulq0_7 hccq0 hceq0
  have HRq0_6 := AM hiq0_6
  have HCq0_6 := AM hlq0_6
  clear hiq0_6 hlq0_6
  have HRq0_7 := AM hiq0_7
  have HCq0_7 := AM hlq0_7
  clear hiq0_7 hlq0_7
  replace pq0 := eq_true pq0
  replace qq0 := eq_true qq0
  obtain ⟨Aoq0, coq0, eoq0⟩ := Kd.R_slice HO_5.out
  (first | subst eoq0 | (injection eoq0 with f1_ f2_ f3_; have fq0_ := f1_.symm; have fq1_ := f3_.symm; clear f1_ f2_ f3_; subst fq0_; subst fq1_))
  have pq1 : 0 ≤ (x6_1 : Int) := ZD
  have qq1 : x6_1 < (t356.length : Int) := ZD
  obtain ⟨adq1, eq1, hxq1_0, hxq1_1⟩ := at_T39 (Kd.R_reads' HO_5.out).2.2 x6_1 pq1 qq1
  cases eq1
  replace pq1 := eq_true pq1
  replace qq1 := eq_true qq1
  refine start_ (n := 11) (S := fun w' => w'.cell? ⟨gb351, 0, none⟩ = some (.slice A0_0 l0_0.length c0_0) ∧ w'.cell? ⟨gb351, 1, none⟩ = some (.slice A0_1 l0_1.length c0_1) ∧ w'.cell? (adq0.add ((x6_1).toNat * 8)) = some (.int .i64 ((D32 t353 x6_1).f0)) ∧ w'.cell? ⟨(adq0.add ((x6_1).toNat * 8)).block, (adq0.add ((x6_1).toNat * 8)).off + 1, none⟩ = some (.int .i64 ((D32 t353 x6_1).f1)) ∧ w'.cell? ⟨(adq0.add ((x6_1).toNat * 8)).block, (adq0.add ((x6_1).toNat * 8)).off + 2, none⟩ = some (.int .i64 ((D32 t353 x6_1).f2.f0)) ∧ w'.cell? ⟨(adq0.add ((x6_1).toNat * 8)).block, (adq0.add ((x6_1).toNat * 8)).off + 3, none⟩ = some (.int .i64 ((D32 t353 x6_1).f2.f1)) ∧ w'.cell? ⟨(adq0.add ((x6_1).toNat * 8)).block, (adq0.add ((x6_1).toNat * 8)).off + 4, none⟩ = some (.int .i64 ((D32 t353 x6_1).f2.f2)) ∧ w'.cell? ⟨(adq0.add ((x6_1).toNat * 8)).block, (adq0.add ((x6_1).toNat * 8)).off + 5, none⟩ = some (.int .i64 ((D32 t353 x6_1).f3)) ∧ w'.cell? ⟨(adq0.add ((x6_1).toNat * 8)).block, (adq0.add ((x6_1).toNat * 8)).off + 6, none⟩ = some (.slice Aq0_6 ((D32 t353 x6_1).f4).length cq0_6) ∧ w'.cell? ⟨(adq0.add ((x6_1).toNat * 8)).block, (adq0.add ((x6_1).toNat * 8)).off + 7, none⟩ = some (.slice Aq0_7 ((D32 t353 x6_1).f5).length cq0_7) ∧ w'.cell? (adq1.add ((x6_1).toNat * 2)) = some (.int .i64 ((D39 t356 x6_1).f0)) ∧ w'.cell? ⟨(adq1.add ((x6_1).toNat * 2)).block, (adq1.add ((x6_1).toNat * 2)).off + 1, none⟩ = some (.int .i64 ((D39 t356 x6_1).f1))) (ds := []) #[F,F,F,F,F,F,F,F,F,F,F] (by kernel_rfl) rfl rfl ⟨ZA BK351 0, ZA BK351 1, hxq0_0, hxq0_1, hxq0_2, hxq0_3, hxq0_4, hxq0_5, hxq0_6, hxq0_7, hxq1_0, hxq1_1⟩ (fun hHeld => ?_); refine with_tabW spec_TypeWhy.tab8 spec_TypeWhy.bits8 (fun HT_ HW_ => ?_)
  generalize wr.drew = wq0 at HO_4 HO_5 BK351 HB HLq0_6 HLq0_7 HRq0_6 HRq0_7 hxq0_0 hxq0_1 hxq0_2 hxq0_3 hxq0_4 hxq0_5 hxq0_6 hxq0_7 hxq1_0 hxq1_1 hHeld ⊢
  refine ZU 1 22 #[F,T,F,F,F,F,F,F,F,F,F] ?_
  refine ZU 2 23 #[F,T,T,F,F,F,F,F,F,F,F] ?_
  refine ZU 3 24 #[F,T,T,T,F,F,F,F,F,F,F] ?_
  refine ZU 5 26 #[F,T,T,T,F,T,F,F,F,F,F] ?_
  refine ZU 6 27 #[F,T,T,T,F,T,T,F,F,F,F] ?_
  refine ZU 7 28 #[F,T,T,T,F,T,T,T,F,F,F] ?_
  refine ZTK 0 21 #[T,T,T,T,F,T,T,T,F,F,F] hHeld ?_
  refine ZTK 4 25 #[T,T,T,T,T,T,T,T,F,F,F] hHeld ?_
  refine ZTK 8 29 #[T,T,T,T,T,T,T,T,T,F,F] hHeld ?_
  refine one_ (i := 9) (N := some 30) #[T,T,T,T,T,T,T,T,T,T,F] rfl rfl (one_of HT_.out (by kernel_rfl)) (by decide) (fun K hK => ?_)
  refine ZGO Try.func42 #[.agg #[.slice A0_0 l0_0.length c0_0, .slice A0_1 l0_1.length c0_1], .agg #[.int .i64 ((D32 t353 x6_1).f0), .int .i64 ((D32 t353 x6_1).f1), .int .i64 ((D32 t353 x6_1).f2.f0), .int .i64 ((D32 t353 x6_1).f2.f1), .int .i64 ((D32 t353 x6_1).f2.f2), .int .i64 ((D32 t353 x6_1).f3), .slice Aq0_6 ((D32 t353 x6_1).f4).length cq0_6, .slice Aq0_7 ((D32 t353 x6_1).f5).length cq0_7], .agg #[.int .i64 ((D39 t356 x6_1).f0), .int .i64 ((D39 t356 x6_1).f1)]] ?_
  first
  | (
  (have z_ := tag0_; clear z_)
  with_reducible refine (spec_l11Fine.calls k1 _ _ l0_0 _ _ l0_1 ((D32 t353 x6_1).f0) ((D32 t353 x6_1).f1) ((D32 t353 x6_1).f2.f0) ((D32 t353 x6_1).f2.f1) ((D32 t353 x6_1).f2.f2) ((D32 t353 x6_1).f3) _ _ ((D32 t353 x6_1).f4) _ _ ((D32 t353 x6_1).f5) ((D39 t356 x6_1).f0) ((D39 t356 x6_1).f1) true _ ?side1 ?side2 ?side3 ?side4 ?side5 ?side6 ?side7 ?side8 A16.out).mono ?_
  (case side1 => exact ZQ (Kd.C_below HR0_0.out HB.out))
  (case side2 => exact HC0_0.out)
  (case side3 => exact ZQ (Kd.C_below HR0_1.out HB.out))
  (case side4 => exact HC0_1.out)
  (case side5 => repeat (first | exact (ZQ HRq0_6.out) | (with_reducible refine Kd.C_alloc ?_ _) | (with_reducible refine Kd.C_drewN ?_ _) | (with_reducible refine Kd.C_drew ?_)))
  (case side6 => exact HCq0_6.out)
  (case side7 => repeat (first | exact (ZQ HRq0_7.out) | (with_reducible refine Kd.C_alloc ?_ _) | (with_reducible refine Kd.C_drewN ?_ _) | (with_reducible refine Kd.C_drew ?_)))
  (case side8 => exact HCq0_7.out)
  rintro e wq1 ⟨rfl, hb⟩
  have HSq0_ := (hb.cell (World.block_lt_of_cell? _ _ (hHeld.2.2.1))).trans (hHeld.2.2.1)
  have HSq1_ := (hb.cell (World.block_lt_of_cell? _ _ (hHeld.2.2.2.1))).trans (hHeld.2.2.2.1)
  have HSq2_ := (hb.cell (World.block_lt_of_cell? _ _ (hHeld.2.2.2.2.1))).trans (hHeld.2.2.2.2.1)
  have HSq3_ := (hb.cell (World.block_lt_of_cell? _ _ (hHeld.2.2.2.2.2.1))).trans (hHeld.2.2.2.2.2.1)
  have HSq4_ := (hb.cell (World.block_lt_of_cell? _ _ (hHeld.2.2.2.2.2.2.1))).trans (hHeld.2.2.2.2.2.2.1)
  have HSq5_ := (hb.cell (World.block_lt_of_cell? _ _ (hHeld.2.2.2.2.2.2.2.1))).trans (hHeld.2.2.2.2.2.2.2.1)
  have HSq6_ := (hb.cell (World.block_lt_of_cell? _ _ (hHeld.2.2.2.2.2.2.2.2.1))).trans (hHeld.2.2.2.2.2.2.2.2.1)
  have HSq7_ := (hb.cell (World.block_lt_of_cell? _ _ (hHeld.2.2.2.2.2.2.2.2.2.1))).trans (hHeld.2.2.2.2.2.2.2.2.2.1)
  have HSq8_ := (hb.cell (World.block_lt_of_cell? _ _ (hHeld.2.2.2.2.2.2.2.2.2.2.1))).trans (hHeld.2.2.2.2.2.2.2.2.2.2.1)
  have HSq9_ := (hb.cell (World.block_lt_of_cell? _ _ (hHeld.2.2.2.2.2.2.2.2.2.2.2))).trans (hHeld.2.2.2.2.2.2.2.2.2.2.2)
  refine ⟨_, rfl, ?_⟩
  have n0_ := AM (Kd.N_below (ZRN HO_4.out) hb)
  have n1_ := AM (Kd.R_below (ZR HO_5.out) hb)
  have n2_ := AM (Kd.V_below (ZRV HLq0_6.out) hb)
  have n3_ := AM (Kd.V_below (ZRV HLq0_7.out) hb)
  have nq0_ := ZW BK351 hb
  have nq1_ := AM (Kd.C_below (ZQ HRq0_6.out) hb)
  have nq2_ := AM (Kd.C_below (ZQ HRq0_7.out) hb)
  have nq3_ := ZT HB hb
  clear HO_4 HO_5 HLq0_6 HLq0_7 BK351 HRq0_6 HRq0_7 HB
  have HO_4 := n0_
  have HO_5 := n1_
  have HLq0_6 := n2_
  have HLq0_7 := n3_
  have BK351 := nq0_
  have HRq0_6 := nq1_
  have HRq0_7 := nq2_
  have HB := nq3_
  clear n0_ n1_ n2_ n3_ nq0_ nq1_ nq2_ nq3_
  (try clear hb)
  (try clear hb2)
  (try clear hk)
  (try clear hi)
  refine hK.out _ _ ⟨ZA BK351 0, ZA BK351 1, HSq0_, HSq1_, HSq2_, HSq3_, HSq4_, HSq5_, HSq6_, HSq7_, HSq8_, HSq9_⟩ (fun hHeld => ?_)
  clear hK K
  refine ZNO 30 ?_
  refine ZU 10 31 #[T,T,T,T,T,T,T,T,T,T,T] ?_
  refine done_ (done_of HT_.out (by kernel_rfl)) ?_
  try go_wp2
  go_roundg k1
  case measure => have := HK1.out; omega
  case rel => exact ⟨(wrap64 (x6_1 + 1)), (by first | rfl | (simp; done) | (simp [*]; done)), H', ⟨by have := HK1.out; omega⟩, ⟨ZRN HO_4.out⟩, ⟨ZR HO_5.out⟩, ⟨ZK BK351.out⟩, ⟨ZB⟩⟩)
  | (
  (have z_ := tag1_; clear z_)
  with_reducible refine (spec_l11Fine.calls k1 _ _ l0_0 _ _ l0_1 ((D32 t353 x6_1).f0) ((D32 t353 x6_1).f1) ((D32 t353 x6_1).f2.f0) ((D32 t353 x6_1).f2.f1) ((D32 t353 x6_1).f2.f2) ((D32 t353 x6_1).f3) _ _ ((D32 t353 x6_1).f4) _ _ ((D32 t353 x6_1).f5) ((D39 t356 x6_1).f0) ((D39 t356 x6_1).f1) false _ ?side1 ?side2 ?side3 ?side4 ?side5 ?side6 ?side7 ?side8 A16.out).mono ?_
  (case side1 => exact ZQ (Kd.C_below HR0_0.out HB.out))
  (case side2 => exact HC0_0.out)
  (case side3 => exact ZQ (Kd.C_below HR0_1.out HB.out))
  (case side4 => exact HC0_1.out)
  (case side5 => repeat (first | exact (ZQ HRq0_6.out) | (with_reducible refine Kd.C_alloc ?_ _) | (with_reducible refine Kd.C_drewN ?_ _) | (with_reducible refine Kd.C_drew ?_)))
  (case side6 => exact HCq0_6.out)
  (case side7 => repeat (first | exact (ZQ HRq0_7.out) | (with_reducible refine Kd.C_alloc ?_ _) | (with_reducible refine Kd.C_drewN ?_ _) | (with_reducible refine Kd.C_drew ?_)))
  (case side8 => exact HCq0_7.out)
  rintro e wq1 ⟨rfl, hb⟩
  have HSq0_ := (hb.cell (World.block_lt_of_cell? _ _ (hHeld.2.2.1))).trans (hHeld.2.2.1)
  have HSq1_ := (hb.cell (World.block_lt_of_cell? _ _ (hHeld.2.2.2.1))).trans (hHeld.2.2.2.1)
  have HSq2_ := (hb.cell (World.block_lt_of_cell? _ _ (hHeld.2.2.2.2.1))).trans (hHeld.2.2.2.2.1)
  have HSq3_ := (hb.cell (World.block_lt_of_cell? _ _ (hHeld.2.2.2.2.2.1))).trans (hHeld.2.2.2.2.2.1)
  have HSq4_ := (hb.cell (World.block_lt_of_cell? _ _ (hHeld.2.2.2.2.2.2.1))).trans (hHeld.2.2.2.2.2.2.1)
  have HSq5_ := (hb.cell (World.block_lt_of_cell? _ _ (hHeld.2.2.2.2.2.2.2.1))).trans (hHeld.2.2.2.2.2.2.2.1)
  have HSq6_ := (hb.cell (World.block_lt_of_cell? _ _ (hHeld.2.2.2.2.2.2.2.2.1))).trans (hHeld.2.2.2.2.2.2.2.2.1)
  have HSq7_ := (hb.cell (World.block_lt_of_cell? _ _ (hHeld.2.2.2.2.2.2.2.2.2.1))).trans (hHeld.2.2.2.2.2.2.2.2.2.1)
  have HSq8_ := (hb.cell (World.block_lt_of_cell? _ _ (hHeld.2.2.2.2.2.2.2.2.2.2.1))).trans (hHeld.2.2.2.2.2.2.2.2.2.2.1)
  have HSq9_ := (hb.cell (World.block_lt_of_cell? _ _ (hHeld.2.2.2.2.2.2.2.2.2.2.2))).trans (hHeld.2.2.2.2.2.2.2.2.2.2.2)
  refine ⟨_, rfl, ?_⟩
  have n0_ := AM (Kd.N_below (ZRN HO_4.out) hb)
  have n1_ := AM (Kd.R_below (ZR HO_5.out) hb)
  have n2_ := AM (Kd.V_below (ZRV HLq0_6.out) hb)
  have n3_ := AM (Kd.V_below (ZRV HLq0_7.out) hb)
  have nq0_ := ZW BK351 hb
  have nq1_ := AM (Kd.C_below (ZQ HRq0_6.out) hb)
  have nq2_ := AM (Kd.C_below (ZQ HRq0_7.out) hb)
  have nq3_ := ZT HB hb
  clear HO_4 HO_5 HLq0_6 HLq0_7 BK351 HRq0_6 HRq0_7 HB
  have HO_4 := n0_
  have HO_5 := n1_
  have HLq0_6 := n2_
  have HLq0_7 := n3_
  have BK351 := nq0_
  have HRq0_6 := nq1_
  have HRq0_7 := nq2_
  have HB := nq3_
  clear n0_ n1_ n2_ n3_ nq0_ nq1_ nq2_ nq3_
  (try clear hb)
  (try clear hb2)
  (try clear hk)
  (try clear hi)
  refine hK.out _ _ ⟨ZA BK351 0, ZA BK351 1, HSq0_, HSq1_, HSq2_, HSq3_, HSq4_, HSq5_, HSq6_, HSq7_, HSq8_, HSq9_⟩ (fun hHeld => ?_)
  clear hK K
  refine ZNO 30 ?_
  refine ZU 10 31 #[T,T,T,T,T,T,T,T,T,T,T] ?_
  refine done_ (done_of HT_.out (by kernel_rfl)) ?_
  try go_wp2
  go_ret2
  exact ⟨ZE, ZB⟩))
  | (
  (have z_ := tag2_; clear z_)
  go_wp2
  go_ret2
  exact ⟨ZE, ZB⟩))))
 ·(
 replace c3 := Bool.eq_false_iff.mpr c3
 subst c3
 have H1 := H; rw [if_neg ZFT] at H1
 clear H
 have H := H1
 clear H1
 simp only [Option.some.injEq, Prod.mk.injEq] at H
 obtain ⟨rfl, rfl⟩ := H
 go_enter Try.func17, Try.ntmps17
 go_wp2_with (first | ((with_reducible refine gate_dst (N := 1) rfl ?_); refine ZX (N := 1) (cs := #[.slice A0_0 l0_0.length c0_0, .slice A0_1 l0_1.length c0_1]) (t := 26) ?_; intro gb351 hg w27 hbox hb; have BK351 := AM (hbox); have GW351 : Za (w.heap.size ≤ gb351) := ZS hg; replace HB := ZT HB hb; clear hb hbox hg; have hcz28 := ZC2 w27 BK351; have hfz28 := ZF2 BK351) | ((with_reducible refine gate_callee (f := 19) rfl ?_); refine ZGL (some 8) Try.func19 #[.agg #[.slice A0_0 l0_0.length c0_0, .slice A0_1 l0_1.length c0_1]] ?_; (with_reducible refine (spec_ProgOk.calls k _ _ l0_0 _ _ l0_1 false _ (ZQ (Kd.C_below HR0_0.out HB.out)) HC0_0.out (ZQ (Kd.C_below HR0_1.out HB.out)) HC0_1.out A2.out).mono ?_); rintro e w29 ⟨rfl, hb⟩; refine ⟨_, rfl, ?_⟩; replace BK351 := ZW BK351 hb; replace HB := ZT HB hb; clear hb))
 go_ret2
 exact ⟨ZE, ZB⟩)

end Go.Proofs.Ythidgkfgdkjghaa.A
