/- Go functions as Lean functions, and for each its contract; written by wip/tools/pr.py over the kit's print. -/
import Derived.Test.YthidgkfgdkjghaaAx0
import Derived.Test.YthidgkfgdkjghaaAx3
import Derived.Test.YthidgkfgdkjghaaAx9
namespace Go.Proofs.Ythidgkfgdkjghaa.A
open Go.RowKit Go.Proofs.YthidgkfgdkjghaaW.PrintWords Go.Proofs.YthidgkfgdkjghaaW.PrintLast Go.Proofs.YthidgkfgdkjghaaW.PrintMore
attribute [local go_sem] max2_int min2_int max_two min_two max_three min_three max_four min_four
set_option linter.unusedVariables false
set_option linter.unusedSimpArgs false
set_option maxHeartbeats 8000000
set_option maxRecDepth 100000

/-! ### spec_l2All: function 41 -/
mutual
def spec_l2All.l0 : Nat → List (S32) → List (S32) → Int → Option ((List (S32)))
 | 0, _, _, _ => none
 | k + 1, x0, x3, x4 => if x4 < (x0.length : Int) then (if 0 ≤ x4 then (if x3.length < 1466015503701 then ((some (x3 ++ [(⟨(rd_T32 x0 x4).f0, (rd_T32 x0 x4).f1, (⟨(rd_T32 x0 x4).f2.f0, (rd_T32 x0 x4).f2.f1, (rd_T32 x0 x4).f2.f2⟩ : S30), (rd_T32 x0 x4).f3, (rd_T32 x0 x4).f4, (rd_T32 x0 x4).f5⟩ : S32)] : List (S32))).bind fun y293 => ((spec_l2All.f k ((rd_T32 x0 x4).f4)).bind fun t297 => (if y293.length + t297.length < 1466015503701 then ((some (y293 ++ t297 : List (S32))).bind fun y300 => ((spec_l2All.f k ((rd_T32 x0 x4).f5)).bind fun t304 => (if y300.length + t304.length < 1466015503701 then (spec_l2All.l0 k x0 (y300 ++ t304) (wrap64 (x4 + 1))) else (none)))) else (none)))) else (none)) else (none)) else (some x3)
def spec_l2All.f : Nat → List (S32) → Option ((List (S32)))
 | 0, _ => none
 | k + 1, l0 => spec_l2All.l0 k l0 (([] : List (S32))) 0
end
theorem spec_l2All.calls (k : Nat) : ∀ (P0_ : Nat → Prop) (A0 : Option Addr) (c0 : Nat) (l0 : List (S32)) (r : List (S32)) (w : World) (hs0 : Kd.V k32 32 w w.heap.size (fun k_ => P0_ k_) (.slice A0 l0.length c0) l0) (h : spec_l2All.f k l0 = some r),
  Calls Try.prog 41 #[.slice A0 l0.length c0] w fun e w' => ∃ v0_ : Value, e = .returned (v0_) ∧ Kd.N k32 32 w' w.heap.size (fun k_ => (P0_ k_ ∨ w.heap.size ≤ k_)) v0_ r ∧ Below w.heap.size w w' := by
 induction k using Nat.strongRecOn with
 | _ k ih =>
 intro P0_ A0 c0 l0 r w hs0 h
 cases k with
 | zero => exact absurd h (by simp [spec_l2All.f])
 | succ k =>
 simp only [spec_l2All.f] at h
 have hu32 := Try.underlying32
 have HO0 := AM (show Kd.V k32 32 w w.heap.size (fun k_ => (P0_ k_ ∨ w.heap.size ≤ k_)) (.slice A0 l0.length c0) l0 from Kd.V_mono hs0 (fun k_ hk => .inl hk))
 have HB := AM (Below.refl w.heap.size w)
 have H : (spec_l2All.l0 k l0 (([] : List (S32))) 0) = some r := h
 clear h
 obtain ⟨y289, hy289⟩ : ∃ y_ : List (S32), y_ = (([] : List (S32))) := ⟨_, rfl⟩
 replace H : (spec_l2All.l0 k l0 y289 0) = some r := by first | (rw [hy289]; with_reducible exact H) | (have H2_ := (Option.bind_some _ _).symm.trans H; rw [hy289]; with_reducible exact H2_) | (have H2_ := (Option.bind_some _ _).symm.trans H; with_reducible exact H2_) | with_reducible exact H | (rw [hy289]; exact H) | exact H
 have Ny289 := AM hy289
 clear hy289
 have H' := AM H
 clear H
 go_enter Try.func41, Try.ntmps41
 go_wp2_with (first | ((with_reducible refine gate_dst (N := 5) rfl ?_); refine Kd.N_lit k32 _ 32 ?hg (N' := 5) ?hd (xs := ([] : List (S32))) (inner := []) (ok := (fun k_ => (P0_ k_ ∨ w.heap.size ≤ k_))) (okp := (fun k_ => (P0_ k_ ∨ w.heap.size ≤ k_))) ?hr ?hp (fun _ hk => hk) ((show ∀ k_, w.heap.size ≤ k_ → (fun k_ => (P0_ k_ ∨ w.heap.size ≤ k_)) k_ from fun k_ hk => (.inr (Nat.le_trans (below_size (ZB)) hk))) _ (Nat.le_refl _)) (Below.refl _ _) (Nat.le_refl _) (by simp) ?_; (case hd => rfl); (case hg => rfl); (case hr => first | (go_simp; done) | (go_simp; rfl)); (case hp => exact (Reps.none _ _)); intro v290 w2 ho3 hb hg_ hnew_; clear hg_ hnew_; (first | rw [← Ny289.out] at ho3 | (simp only [Int.reduceToNat] at ho3; rw [← Ny289.out] at ho3)); have HO291 := AM (Kd.N_lower ho3 (below_size (ZB))); replace HO0 := AM (Kd.V_elder' (ZRV HO0.out) (Kd.N_base ho3) hb); replace HB := ZT HB hb; clear hb ho3))
 go_loopg [3, 4] k (fun kq v3 v4 w' => ∃ (x3_1 : List (S32)) (x4_1 : Int), v4 = .int .i64 x4_1 ∧ Aside0 (spec_l2All.l0 kq l0 x3_1 x4_1 = some r) ∧ Aside0 (kq ≤ k) ∧ Aside0 (Kd.V k32 32 w' w.heap.size (fun k_ => (P0_ k_ ∨ w.heap.size ≤ k_) ∧ some k_ ≠ (v3 : Value).ownBlock) (.slice A0 l0.length c0) l0) ∧ Aside0 (Kd.N k32 32 w' w.heap.size (fun k_ => (P0_ k_ ∨ w.heap.size ≤ k_)) v3 x3_1) ∧ Aside0 (Below w.heap.size w w'))
 case atStart => exact ⟨(y289), (0), (by first | rfl | (simp; done) | (simp [*]; done)), H', ⟨Nat.le_refl _⟩, ⟨ZRV HO0.out⟩, ⟨ZRN HO291.out⟩, ⟨ZB⟩⟩
 case round => (
 clear H'
 try clear p2
 obtain ⟨x3_1, x4_1, rfl, HA, HK1, HO_0, HO_3, HB⟩ := hrel
 cases gk with
 | zero => exact absurd HA.out (by simp [spec_l2All.l0])
 | succ k1 =>
  have H := HA.out
  clear HA
  simp only [spec_l2All.l0] at H
  by_cases c4 : x4_1 < (l0.length : Int)
  ·(
  rw [if_pos c4] at H
  have c4b0 := decide_eq_true c4
  clear c4
  by_cases c5 : 0 ≤ x4_1
  ·(
  rw [if_pos c5] at H
  have c5b0 := decide_eq_true c5
  clear c5
  by_cases c6 : x3_1.length < 1466015503701
  ·(
  rw [if_pos c6] at H
  have LMc6 := AM c6
  clear c6
  obtain ⟨y293, hy293⟩ : ∃ y_ : List (S32), y_ = (x3_1 ++ [(⟨(rd_T32 l0 x4_1).f0, (rd_T32 l0 x4_1).f1, (⟨(rd_T32 l0 x4_1).f2.f0, (rd_T32 l0 x4_1).f2.f1, (rd_T32 l0 x4_1).f2.f2⟩ : S30), (rd_T32 l0 x4_1).f3, (rd_T32 l0 x4_1).f4, (rd_T32 l0 x4_1).f5⟩ : S32)]) := ⟨_, rfl⟩
  replace H : ((spec_l2All.f k1 ((rd_T32 l0 x4_1).f4)).bind fun t297 => (if y293.length + t297.length < 1466015503701 then ((some (y293 ++ t297 : List (S32))).bind fun y300 => ((spec_l2All.f k1 ((rd_T32 l0 x4_1).f5)).bind fun t304 => (if y300.length + t304.length < 1466015503701 then (spec_l2All.l0 k1 l0 (y300 ++ t304) (wrap64 (x4_1 + 1))) else (none)))) else (none))) = some r := by first | (rw [hy293]; with_reducible exact H) | (have H2_ := (Option.bind_some _ _).symm.trans H; rw [hy293]; with_reducible exact H2_) | (have H2_ := (Option.bind_some _ _).symm.trans H; with_reducible exact H2_) | with_reducible exact H | (rw [hy293]; exact H) | exact H
  have Ny293 := AM hy293
  clear hy293
  obtain ⟨t297, A7, H⟩ := ZOB H; try dsimp only at H
  by_cases c8 : y293.length + t297.length < 1466015503701
  ·(
  rw [if_pos c8] at H
  have LMc8 := AM c8
  clear c8
  obtain ⟨y300, hy300⟩ : ∃ y_ : List (S32), y_ = (y293 ++ t297) := ⟨_, rfl⟩
  replace H : ((spec_l2All.f k1 ((rd_T32 l0 x4_1).f5)).bind fun t304 => (if y300.length + t304.length < 1466015503701 then (spec_l2All.l0 k1 l0 (y300 ++ t304) (wrap64 (x4_1 + 1))) else (none))) = some r := by first | (rw [hy300]; with_reducible exact H) | (have H2_ := (Option.bind_some _ _).symm.trans H; rw [hy300]; with_reducible exact H2_) | (have H2_ := (Option.bind_some _ _).symm.trans H; with_reducible exact H2_) | with_reducible exact H | (rw [hy300]; exact H) | exact H
  have Ny300 := AM hy300
  clear hy300
  obtain ⟨t304, A9, H⟩ := ZOB H; try dsimp only at H
  by_cases c10 : y300.length + t304.length < 1466015503701
  ·(
  rw [if_pos c10] at H
  have LMc10 := AM c10
  clear c10
  obtain ⟨y307, hy307⟩ : ∃ y_ : List (S32), y_ = (y300 ++ t304) := ⟨_, rfl⟩
  replace H : (spec_l2All.l0 k1 l0 y307 (wrap64 (x4_1 + 1))) = some r := by first | (rw [hy307]; with_reducible exact H) | (have H2_ := (Option.bind_some _ _).symm.trans H; rw [hy307]; with_reducible exact H2_) | (have H2_ := (Option.bind_some _ _).symm.trans H; with_reducible exact H2_) | with_reducible exact H | (rw [hy307]; exact H) | exact H
  have Ny307 := AM hy307
  clear hy307
  have H' := AM H
  clear H
  have p292 : 0 ≤ (x4_1 : Int) := ZD
  have q292 : x4_1 < (l0.length : Int) := ZD
  obtain ⟨ad292, A292_6, c292_6, A292_7, c292_7, e292, hx292_0, hx292_1, hx292_2, hx292_3, hx292_4, hx292_5, hx292_6, hx292_7, hl292_6, hi292_6, hl292_7, hi292_7⟩ := at_T32 (Kd.V_reads' HO_0.out).2.2 x4_1 p292 q292
  cases e292
  obtain ⟨ce292, hce292, hMe292, hcc292⟩ := Kd.V_get HO_0.out z32 x4_1 p292 (by first | exact q292 | exact ZD | (have e_ := (Kd.V_reads' HO_0.out).1; omega))
  obtain ⟨ua292_6, uc292_6, ua292_7, uc292_7, rfl, ul292_6, ge292_6, ul292_7, ge292_7⟩ := k32_openF hMe292
  have hv292_6 := hcc292 6 _ rfl
  rw [add_field _ _ 6 (by omega)] at hv292_6
  replace hv292_6 := Option.some.inj (hv292_6.symm.trans hx292_6)
  injection hv292_6 with hva_ hvn_ hvc_
  rw [hva_] at ge292_6
  rw [hvc_] at ul292_6
  have HL292_6 := AM (show Kd.V k32 32 _ w.heap.size _ _ ((rd_T32 l0 x4_1).f4) from Kd.V_mk ul292_6 ge292_6)
  clear hva_ hvn_ hvc_ ge292_6 ul292_6
  have hv292_7 := hcc292 7 _ rfl
  rw [add_field _ _ 7 (by omega)] at hv292_7
  replace hv292_7 := Option.some.inj (hv292_7.symm.trans hx292_7)
  injection hv292_7 with hva_ hvn_ hvc_
  rw [hva_] at ge292_7
  rw [hvc_] at ul292_7
  have HL292_7 := AM (show Kd.V k32 32 _ w.heap.size _ _ ((rd_T32 l0 x4_1).f5) from Kd.V_mk ul292_7 ge292_7)
  clear hva_ hvn_ hvc_ ge292_7 ul292_7 hcc292 hce292
  have HR292_6 := AM hi292_6
  have HC292_6 := AM hl292_6
  clear hi292_6 hl292_6
  have HR292_7 := AM hi292_7
  have HC292_7 := AM hl292_7
  clear hi292_7 hl292_7
  replace p292 := eq_true p292
  replace q292 := eq_true q292
  go_wp2_with (first | ((with_reducible refine gate_builtin (b := .append) (xs := #[.tmp 12, .tmp 17]) rfl ?_); at_builtin; refine Kd.N_append k32 (w0 := w) w.heap.size rfl (.tmp 12) (.tmp 17) 24 32 (.agg #[(.int .i64 0), (.int .i64 0), (.int .i64 0), (.int .i64 0), (.int .i64 0), (.int .i64 0), (.slice none 0 0), (.slice none 0 0)]) 96 rfl Try.underlying24 info32 rfl (by decide) (by omega) u3 x3_1 (⟨(rd_T32 l0 x4_1).f0, (rd_T32 l0 x4_1).f1, (⟨(rd_T32 l0 x4_1).f2.f0, (rd_T32 l0 x4_1).f2.f1, (rd_T32 l0 x4_1).f2.f2⟩ : S30), (rd_T32 l0 x4_1).f3, (rd_T32 l0 x4_1).f4, (rd_T32 l0 x4_1).f5⟩ : S32) [.int .i64 ((rd_T32 l0 x4_1).f0), .int .i64 ((rd_T32 l0 x4_1).f1), .int .i64 ((rd_T32 l0 x4_1).f2.f0), .int .i64 ((rd_T32 l0 x4_1).f2.f1), .int .i64 ((rd_T32 l0 x4_1).f2.f2), .int .i64 ((rd_T32 l0 x4_1).f3), .slice A292_6 ((rd_T32 l0 x4_1).f4).length c292_6, .slice A292_7 ((rd_T32 l0 x4_1).f5).length c292_7] (fun k_ => (P0_ k_ ∨ w.heap.size ≤ k_)) (fun k_ => ((fun k_ => (P0_ k_ ∨ w.heap.size ≤ k_))) k_ ∧ some k_ ≠ (u3 : Value).ownBlock) rfl rfl ?aP (fun _ hk => hk) ?aF ?aO ?aB ?aS ?aL ?_; (case aP => exact (k32_mkF _ _ (⟨(rd_T32 l0 x4_1).f0, (rd_T32 l0 x4_1).f1, (⟨(rd_T32 l0 x4_1).f2.f0, (rd_T32 l0 x4_1).f2.f1, (rd_T32 l0 x4_1).f2.f2⟩ : S30), (rd_T32 l0 x4_1).f3, (rd_T32 l0 x4_1).f4, (rd_T32 l0 x4_1).f5⟩ : S32) (Kd.V_reads' (Kd.V_mono (ok' := (fun k_ => ((fun k_ => (P0_ k_ ∨ w.heap.size ≤ k_))) k_ ∧ some k_ ≠ (u3 : Value).ownBlock)) (HL292_6.out) (fun k_ hk => ⟨hk.1, hk.2⟩))).2.1 (Kd.V_F (Kd.V_mono (ok' := (fun k_ => ((fun k_ => (P0_ k_ ∨ w.heap.size ≤ k_))) k_ ∧ some k_ ≠ (u3 : Value).ownBlock)) (HL292_6.out) (fun k_ hk => ⟨hk.1, hk.2⟩))) (Kd.V_reads' (Kd.V_mono (ok' := (fun k_ => ((fun k_ => (P0_ k_ ∨ w.heap.size ≤ k_))) k_ ∧ some k_ ≠ (u3 : Value).ownBlock)) (HL292_7.out) (fun k_ hk => ⟨hk.1, hk.2⟩))).2.1 (Kd.V_F (Kd.V_mono (ok' := (fun k_ => ((fun k_ => (P0_ k_ ∨ w.heap.size ≤ k_))) k_ ∧ some k_ ≠ (u3 : Value).ownBlock)) (HL292_7.out) (fun k_ hk => ⟨hk.1, hk.2⟩))))); (case aB => exact (ZB)); (case aF => exact (fun k_ hk => (.inr (Nat.le_trans (below_size (ZB)) hk)))); (case aO => exact (ZRN HO_3.out)); (case aS => exact (below_size (ZB))); (case aL => have := LMc6.out; omega); intro v294 w11 ho hb hg hat; rw [← Ny293.out] at ho; have n0_ := AM (Kd.V_afterv (ok := (fun k_ => (P0_ k_ ∨ w.heap.size ≤ k_))) (ZRV HO_0.out) hg hat); have n1_ := AM (Kd.V_afterv (ok := (fun k_ => (P0_ k_ ∨ w.heap.size ≤ k_))) (ZRV HL292_6.out) hg hat); have n2_ := AM (Kd.V_afterv (ok := (fun k_ => (P0_ k_ ∨ w.heap.size ≤ k_))) (ZRV HL292_7.out) hg hat); have n3_ := AM (hb); have n4_ := AM (ho); clear HO_0 HL292_6 HL292_7 HB HO_3; have HO_0 := n0_; have HL292_6 := n1_; have HL292_7 := n2_; have HB := n3_; have HO295 := n4_; clear n0_ n1_ n2_ n3_ n4_ ho hb hg hat; have p296 : 0 ≤ (x4_1 : Int) := ZD; have q296 : x4_1 < (l0.length : Int) := ZD; obtain ⟨ad296, A296_6, c296_6, A296_7, c296_7, e296, hx296_0, hx296_1, hx296_2, hx296_3, hx296_4, hx296_5, hx296_6, hx296_7, hl296_6, hi296_6, hl296_7, hi296_7⟩ := at_T32 (Kd.V_reads' HO_0.out).2.2 x4_1 p296 q296; obtain rfl : ad292 = ad296 := (by injection e296); obtain ⟨ce296, hce296, hMe296, hcc296⟩ := Kd.V_get HO_0.out z32 x4_1 p296 (by first | exact q296 | exact ZD | (have e_ := (Kd.V_reads' HO_0.out).1; omega)); obtain ⟨ua296_6, uc296_6, ua296_7, uc296_7, rfl, ul296_6, ge296_6, ul296_7, ge296_7⟩ := k32_openF hMe296; have hv296_6 := hcc296 6 _ rfl; rw [add_field _ _ 6 (by omega)] at hv296_6; replace hv296_6 := Option.some.inj (hv296_6.symm.trans hx296_6); injection hv296_6 with hva_ hvn_ hvc_; rw [hva_] at ge296_6; rw [hvc_] at ul296_6; have HL296_6 := AM (show Kd.V k32 32 _ w.heap.size _ _ ((rd_T32 l0 x4_1).f4) from Kd.V_mk ul296_6 ge296_6); clear hva_ hvn_ hvc_ ge296_6 ul296_6; have hv296_7 := hcc296 7 _ rfl; rw [add_field _ _ 7 (by omega)] at hv296_7; replace hv296_7 := Option.some.inj (hv296_7.symm.trans hx296_7); injection hv296_7 with hva_ hvn_ hvc_; rw [hva_] at ge296_7; rw [hvc_] at ul296_7; have HL296_7 := AM (show Kd.V k32 32 _ w.heap.size _ _ ((rd_T32 l0 x4_1).f5) from Kd.V_mk ul296_7 ge296_7); clear hva_ hvn_ hvc_ ge296_7 ul296_7 hcc296 hce296; have HR296_6 := AM hi296_6; have HC296_6 := AM hl296_6; clear hi296_6 hl296_6; have HR296_7 := AM hi296_7; have HC296_7 := AM hl296_7; clear hi296_7 hl296_7; replace p296 := eq_true p296; replace q296 := eq_true q296) | ((with_reducible refine gate_callee (f := 41) rfl ?_); refine ZGL (some 25) Try.func41 #[.slice A296_6 ((rd_T32 l0 x4_1).f4).length c296_6] ?_; (with_reducible refine (ih k1 (by have := HK1.out; omega) (fun k_ => ((P0_ k_ ∨ w.heap.size ≤ k_) ∧ some k_ ≠ (v294 : Value).ownBlock)) _ _ ((rd_T32 l0 x4_1).f4) t297 _ ?side1 A7.out).mono ?_); (case side1 => exact HL296_6.out); rintro e w12 ⟨v298, rfl, ho0, hb⟩; refine ⟨_, rfl, ?_⟩; have HO299 := AM (Kd.N_lower (Kd.N_mono (ok' := fun k_ => (P0_ k_ ∨ w.heap.size ≤ k_) ∧ some k_ ≠ (v294 : Value).ownBlock) ho0 (fun k_ hk_ => ⟨Or.elim hk_ (fun hs_ => hs_.1) (fun hn_ => (.inr (Nat.le_trans (below_size (ZB)) hn_))), Or.elim hk_ (fun hs_ => hs_.2) (fun hn_ => (Kd.fresh' (Kd.N_lt (ZRN HO295.out)) k_ hn_))⟩)) (below_size (ZB))); replace HO_0 := AM (Kd.V_elder' (ZRV HO_0.out) (Kd.N_base ho0) hb); replace HL292_6 := AM (Kd.V_elder' (ZRV HL292_6.out) (Kd.N_base ho0) hb); replace HL292_7 := AM (Kd.V_elder' (ZRV HL292_7.out) (Kd.N_base ho0) hb); replace HO295 := AM (Kd.N_elder' (ZRN HO295.out) (Kd.N_base ho0) hb); replace HL296_6 := AM (Kd.V_elder' (ZRV HL296_6.out) (Kd.N_base ho0) hb); replace HL296_7 := AM (Kd.V_elder' (ZRV HL296_7.out) (Kd.N_base ho0) hb); replace HR296_6 := AM (Kd.C_below (ZQ HR296_6.out) hb); replace HR296_7 := AM (Kd.C_below (ZQ HR296_7.out) hb); replace HB := ZT HB hb; clear hb; (try clear ho0); obtain ⟨Ao14, co14, eo14⟩ := Kd.N_slice HO299.out; subst eo14) | ((with_reducible refine gate_builtin (b := .append) (xs := #[.tmp 19, .tmp 25]) rfl ?_); at_builtin; refine Kd.N_append_rows k32 (w0 := w) w.heap.size rfl (.tmp 19) (.tmp 25) 24 32 (.agg #[(.int .i64 0), (.int .i64 0), (.int .i64 0), (.int .i64 0), (.int .i64 0), (.int .i64 0), (.slice none 0 0), (.slice none 0 0)]) 96 rfl Try.underlying24 info32 rfl (by decide) (by omega) v294 y293 t297 _ _ _ (fun k_ => (P0_ k_ ∨ w.heap.size ≤ k_)) (fun k_ => ((fun k_ => (P0_ k_ ∨ w.heap.size ≤ k_))) k_ ∧ some k_ ≠ (v294 : Value).ownBlock) rfl rfl ?aO ?aR (fun _ hk => hk) ?aF ?aB ?aS ?aL ?_; (case aR => exact (by skip; exact Kd.N_F (Kd.N_mono (ok' := (fun k_ => ((fun k_ => (P0_ k_ ∨ w.heap.size ≤ k_))) k_ ∧ some k_ ≠ (v294 : Value).ownBlock)) (HO299.out) (fun k_ hk => ⟨hk.1, hk.2⟩)))); (case aB => exact (ZB)); (case aF => exact (fun k_ hk => (.inr (Nat.le_trans (below_size (ZB)) hk)))); (case aO => exact (ZRN (Kd.N_mono HO295.out (fun _ hk => hk.1)))); (case aS => exact (below_size (ZB))); (case aL => have := LMc8.out; omega); intro v301 w13 ho hb hg hat; rw [← Ny300.out] at ho; have n0_ := AM (Kd.V_afterv (ok := (fun k_ => (P0_ k_ ∨ w.heap.size ≤ k_) ∧ some k_ ≠ (.slice Ao14 t297.length co14 : Value).ownBlock)) (by (with_reducible repeat (first | apply Kd.V_alloc | apply Kd.V_drewN | apply Kd.V_drew)); exact Kd.V_mono HO_0.out (fun _ hk => ⟨⟨hk.1.1, hk.2⟩, hk.1.2⟩)) hg hat); have n1_ := AM (Kd.V_afterv (ok := (fun k_ => (P0_ k_ ∨ w.heap.size ≤ k_) ∧ some k_ ≠ (.slice Ao14 t297.length co14 : Value).ownBlock)) (by (with_reducible repeat (first | apply Kd.V_alloc | apply Kd.V_drewN | apply Kd.V_drew)); exact Kd.V_mono HL292_6.out (fun _ hk => ⟨⟨hk.1.1, hk.2⟩, hk.1.2⟩)) hg hat); have n2_ := AM (Kd.V_afterv (ok := (fun k_ => (P0_ k_ ∨ w.heap.size ≤ k_) ∧ some k_ ≠ (.slice Ao14 t297.length co14 : Value).ownBlock)) (by (with_reducible repeat (first | apply Kd.V_alloc | apply Kd.V_drewN | apply Kd.V_drew)); exact Kd.V_mono HL292_7.out (fun _ hk => ⟨⟨hk.1.1, hk.2⟩, hk.1.2⟩)) hg hat); have n3_ := AM (Kd.V_afterv (ok := (fun k_ => (P0_ k_ ∨ w.heap.size ≤ k_) ∧ some k_ ≠ (.slice Ao14 t297.length co14 : Value).ownBlock)) (by (with_reducible repeat (first | apply Kd.V_alloc | apply Kd.V_drewN | apply Kd.V_drew)); exact Kd.V_mono HL296_6.out (fun _ hk => ⟨⟨hk.1.1, hk.2⟩, hk.1.2⟩)) hg hat); have n4_ := AM (Kd.V_afterv (ok := (fun k_ => (P0_ k_ ∨ w.heap.size ≤ k_) ∧ some k_ ≠ (.slice Ao14 t297.length co14 : Value).ownBlock)) (by (with_reducible repeat (first | apply Kd.V_alloc | apply Kd.V_drewN | apply Kd.V_drew)); exact Kd.V_mono HL296_7.out (fun _ hk => ⟨⟨hk.1.1, hk.2⟩, hk.1.2⟩)) hg hat); have n5_ := AM (Kd.N_afterv (ok := (fun k_ => (P0_ k_ ∨ w.heap.size ≤ k_))) (ZRN HO299.out) hg hat); have n6_ := AM (hb); have n7_ := AM (ho); clear HO_0 HL292_6 HL292_7 HL296_6 HL296_7 HO299 HB HO295; have HO_0 := n0_; have HL292_6 := n1_; have HL292_7 := n2_; have HL296_6 := n3_; have HL296_7 := n4_; have HO299 := n5_; have HB := n6_; have HO302 := n7_; clear n0_ n1_ n2_ n3_ n4_ n5_ n6_ n7_ ho hb hg hat; have p303 : 0 ≤ (x4_1 : Int) := ZD; have q303 : x4_1 < (l0.length : Int) := ZD; obtain ⟨ad303, A303_6, c303_6, A303_7, c303_7, e303, hx303_0, hx303_1, hx303_2, hx303_3, hx303_4, hx303_5, hx303_6, hx303_7, hl303_6, hi303_6, hl303_7, hi303_7⟩ := at_T32 (Kd.V_reads' HO_0.out).2.2 x4_1 p303 q303; obtain rfl : ad292 = ad303 := (by injection e303); obtain ⟨ce303, hce303, hMe303, hcc303⟩ := Kd.V_get HO_0.out z32 x4_1 p303 (by first | exact q303 | exact ZD | (have e_ := (Kd.V_reads' HO_0.out).1; omega)); obtain ⟨ua303_6, uc303_6, ua303_7, uc303_7, rfl, ul303_6, ge303_6, ul303_7, ge303_7⟩ := k32_openF hMe303; have hv303_6 := hcc303 6 _ rfl; rw [add_field _ _ 6 (by omega)] at hv303_6; replace hv303_6 := Option.some.inj (hv303_6.symm.trans hx303_6); injection hv303_6 with hva_ hvn_ hvc_; rw [hva_] at ge303_6; rw [hvc_] at ul303_6; have HL303_6 := AM (show Kd.V k32 32 _ w.heap.size _ _ ((rd_T32 l0 x4_1).f4) from Kd.V_mk ul303_6 ge303_6); clear hva_ hvn_ hvc_ ge303_6 ul303_6; have hv303_7 := hcc303 7 _ rfl; rw [add_field _ _ 7 (by omega)] at hv303_7; replace hv303_7 := Option.some.inj (hv303_7.symm.trans hx303_7); injection hv303_7 with hva_ hvn_ hvc_; rw [hva_] at ge303_7; rw [hvc_] at ul303_7; have HL303_7 := AM (show Kd.V k32 32 _ w.heap.size _ _ ((rd_T32 l0 x4_1).f5) from Kd.V_mk ul303_7 ge303_7); clear hva_ hvn_ hvc_ ge303_7 ul303_7 hcc303 hce303; have HR303_6 := AM hi303_6; have HC303_6 := AM hl303_6; clear hi303_6 hl303_6; have HR303_7 := AM hi303_7; have HC303_7 := AM hl303_7; clear hi303_7 hl303_7; replace p303 := eq_true p303; replace q303 := eq_true q303) | ((with_reducible refine gate_callee (f := 41) rfl ?_); refine ZGL (some 33) Try.func41 #[.slice A303_7 ((rd_T32 l0 x4_1).f5).length c303_7] ?_; (with_reducible refine (ih k1 (by have := HK1.out; omega) (fun k_ => (((P0_ k_ ∨ w.heap.size ≤ k_) ∧ some k_ ≠ (.slice Ao14 t297.length co14 : Value).ownBlock) ∧ some k_ ≠ (v301 : Value).ownBlock)) _ _ ((rd_T32 l0 x4_1).f5) t304 _ ?side1 A9.out).mono ?_); (case side1 => exact HL303_7.out); rintro e w15 ⟨v305, rfl, ho0, hb⟩; refine ⟨_, rfl, ?_⟩; have HO306 := AM (Kd.N_lower (Kd.N_mono (ok' := fun k_ => (P0_ k_ ∨ w.heap.size ≤ k_) ∧ some k_ ≠ (.slice Ao14 t297.length co14 : Value).ownBlock ∧ some k_ ≠ (v301 : Value).ownBlock) ho0 (fun k_ hk_ => ⟨Or.elim hk_ (fun hs_ => hs_.1.1) (fun hn_ => (.inr (Nat.le_trans (below_size (ZB)) hn_))), Or.elim hk_ (fun hs_ => hs_.1.2) (fun hn_ => (Kd.fresh' (Kd.N_lt (ZRN HO299.out)) k_ hn_)), Or.elim hk_ (fun hs_ => hs_.2) (fun hn_ => (Kd.fresh' (Kd.N_lt (ZRN HO302.out)) k_ hn_))⟩)) (below_size (ZB))); replace HO_0 := AM (Kd.V_elder' (ZRV HO_0.out) (Kd.N_base ho0) hb); replace HL292_6 := AM (Kd.V_elder' (ZRV HL292_6.out) (Kd.N_base ho0) hb); replace HL292_7 := AM (Kd.V_elder' (ZRV HL292_7.out) (Kd.N_base ho0) hb); replace HL296_6 := AM (Kd.V_elder' (ZRV HL296_6.out) (Kd.N_base ho0) hb); replace HL296_7 := AM (Kd.V_elder' (ZRV HL296_7.out) (Kd.N_base ho0) hb); replace HO299 := AM (Kd.N_elder' (ZRN HO299.out) (Kd.N_base ho0) hb); replace HO302 := AM (Kd.N_elder' (ZRN HO302.out) (Kd.N_base ho0) hb); replace HL303_6 := AM (Kd.V_elder' (ZRV HL303_6.out) (Kd.N_base ho0) hb); replace HL303_7 := AM (Kd.V_elder' (ZRV HL303_7.out) (Kd.N_base ho0) hb); replace HR303_6 := AM (Kd.C_below (ZQ HR303_6.out) hb); replace HR303_7 := AM (Kd.C_below (ZQ HR303_7.out) hb); replace HB := ZT HB hb; clear hb; (try clear ho0); obtain ⟨Ao17, co17, eo17⟩ := Kd.N_slice HO306.out; subst eo17) | ((with_reducible refine gate_builtin (b := .append) (xs := #[.tmp 27, .tmp 33]) rfl ?_); at_builtin; refine Kd.N_append_rows k32 (w0 := w) w.heap.size rfl (.tmp 27) (.tmp 33) 24 32 (.agg #[(.int .i64 0), (.int .i64 0), (.int .i64 0), (.int .i64 0), (.int .i64 0), (.int .i64 0), (.slice none 0 0), (.slice none 0 0)]) 96 rfl Try.underlying24 info32 rfl (by decide) (by omega) v301 y300 t304 _ _ _ (fun k_ => (P0_ k_ ∨ w.heap.size ≤ k_)) (fun k_ => ((fun k_ => (P0_ k_ ∨ w.heap.size ≤ k_))) k_ ∧ some k_ ≠ (v301 : Value).ownBlock) rfl rfl ?aO ?aR (fun _ hk => hk) ?aF ?aB ?aS ?aL ?_; (case aR => exact (by skip; exact Kd.N_F (Kd.N_mono (ok' := (fun k_ => ((fun k_ => (P0_ k_ ∨ w.heap.size ≤ k_))) k_ ∧ some k_ ≠ (v301 : Value).ownBlock)) (HO306.out) (fun k_ hk => ⟨hk.1, hk.2.2⟩)))); (case aB => exact (ZB)); (case aF => exact (fun k_ hk => (.inr (Nat.le_trans (below_size (ZB)) hk)))); (case aO => exact (ZRN (Kd.N_mono HO302.out (fun _ hk => hk.1)))); (case aS => exact (below_size (ZB))); (case aL => have := LMc10.out; omega); intro v308 w16 ho hb hg hat; rw [← Ny307.out] at ho; have n0_ := AM (Kd.V_afterv (ok := (fun k_ => (P0_ k_ ∨ w.heap.size ≤ k_) ∧ some k_ ≠ (.slice Ao14 t297.length co14 : Value).ownBlock ∧ some k_ ≠ (.slice Ao17 t304.length co17 : Value).ownBlock)) (by (with_reducible repeat (first | apply Kd.V_alloc | apply Kd.V_drewN | apply Kd.V_drew)); exact Kd.V_mono HO_0.out (fun _ hk => ⟨⟨hk.1.1.1, ⟨hk.1.1.2, hk.2⟩⟩, hk.1.2⟩)) hg hat); have n1_ := AM (Kd.V_afterv (ok := (fun k_ => (P0_ k_ ∨ w.heap.size ≤ k_) ∧ some k_ ≠ (.slice Ao14 t297.length co14 : Value).ownBlock ∧ some k_ ≠ (.slice Ao17 t304.length co17 : Value).ownBlock)) (by (with_reducible repeat (first | apply Kd.V_alloc | apply Kd.V_drewN | apply Kd.V_drew)); exact Kd.V_mono HL292_6.out (fun _ hk => ⟨⟨hk.1.1.1, ⟨hk.1.1.2, hk.2⟩⟩, hk.1.2⟩)) hg hat); have n2_ := AM (Kd.V_afterv (ok := (fun k_ => (P0_ k_ ∨ w.heap.size ≤ k_) ∧ some k_ ≠ (.slice Ao14 t297.length co14 : Value).ownBlock ∧ some k_ ≠ (.slice Ao17 t304.length co17 : Value).ownBlock)) (by (with_reducible repeat (first | apply Kd.V_alloc | apply Kd.V_drewN | apply Kd.V_drew)); exact Kd.V_mono HL292_7.out (fun _ hk => ⟨⟨hk.1.1.1, ⟨hk.1.1.2, hk.2⟩⟩, hk.1.2⟩)) hg hat); have n3_ := AM (Kd.V_afterv (ok := (fun k_ => (P0_ k_ ∨ w.heap.size ≤ k_) ∧ some k_ ≠ (.slice Ao14 t297.length co14 : Value).ownBlock ∧ some k_ ≠ (.slice Ao17 t304.length co17 : Value).ownBlock)) (by (with_reducible repeat (first | apply Kd.V_alloc | apply Kd.V_drewN | apply Kd.V_drew)); exact Kd.V_mono HL296_6.out (fun _ hk => ⟨⟨hk.1.1.1, ⟨hk.1.1.2, hk.2⟩⟩, hk.1.2⟩)) hg hat); have n4_ := AM (Kd.V_afterv (ok := (fun k_ => (P0_ k_ ∨ w.heap.size ≤ k_) ∧ some k_ ≠ (.slice Ao14 t297.length co14 : Value).ownBlock ∧ some k_ ≠ (.slice Ao17 t304.length co17 : Value).ownBlock)) (by (with_reducible repeat (first | apply Kd.V_alloc | apply Kd.V_drewN | apply Kd.V_drew)); exact Kd.V_mono HL296_7.out (fun _ hk => ⟨⟨hk.1.1.1, ⟨hk.1.1.2, hk.2⟩⟩, hk.1.2⟩)) hg hat); have n5_ := AM (Kd.N_afterv (ok := (fun k_ => (P0_ k_ ∨ w.heap.size ≤ k_) ∧ some k_ ≠ (.slice Ao17 t304.length co17 : Value).ownBlock)) (by (with_reducible repeat (first | apply Kd.N_alloc | apply Kd.N_drewN | apply Kd.N_drew)); exact Kd.N_mono HO299.out (fun _ hk => ⟨⟨hk.1.1, hk.2⟩, hk.1.2⟩)) hg hat); have n6_ := AM (Kd.V_afterv (ok := (fun k_ => (P0_ k_ ∨ w.heap.size ≤ k_) ∧ some k_ ≠ (.slice Ao14 t297.length co14 : Value).ownBlock ∧ some k_ ≠ (.slice Ao17 t304.length co17 : Value).ownBlock)) (by (with_reducible repeat (first | apply Kd.V_alloc | apply Kd.V_drewN | apply Kd.V_drew)); exact Kd.V_mono HL303_6.out (fun _ hk => ⟨⟨hk.1.1.1, ⟨hk.1.1.2, hk.2⟩⟩, hk.1.2⟩)) hg hat); have n7_ := AM (Kd.V_afterv (ok := (fun k_ => (P0_ k_ ∨ w.heap.size ≤ k_) ∧ some k_ ≠ (.slice Ao14 t297.length co14 : Value).ownBlock ∧ some k_ ≠ (.slice Ao17 t304.length co17 : Value).ownBlock)) (by (with_reducible repeat (first | apply Kd.V_alloc | apply Kd.V_drewN | apply Kd.V_drew)); exact Kd.V_mono HL303_7.out (fun _ hk => ⟨⟨hk.1.1.1, ⟨hk.1.1.2, hk.2⟩⟩, hk.1.2⟩)) hg hat); have n8_ := AM (Kd.N_afterv (ok := (fun k_ => (P0_ k_ ∨ w.heap.size ≤ k_) ∧ some k_ ≠ (.slice Ao14 t297.length co14 : Value).ownBlock)) (by (with_reducible repeat (first | apply Kd.N_alloc | apply Kd.N_drewN | apply Kd.N_drew)); exact Kd.N_mono HO306.out (fun _ hk => ⟨⟨hk.1, hk.2.1⟩, hk.2.2⟩)) hg hat); have n9_ := AM (hb); have n10_ := AM (ho); clear HO_0 HL292_6 HL292_7 HL296_6 HL296_7 HO299 HL303_6 HL303_7 HO306 HB HO302; have HO_0 := n0_; have HL292_6 := n1_; have HL292_7 := n2_; have HL296_6 := n3_; have HL296_7 := n4_; have HO299 := n5_; have HL303_6 := n6_; have HL303_7 := n7_; have HO306 := n8_; have HB := n9_; have HO309 := n10_; clear n0_ n1_ n2_ n3_ n4_ n5_ n6_ n7_ n8_ n9_ n10_ ho hb hg hat))
  go_roundg k1
  case measure => have := HK1.out; omega
  case rel => exact ⟨(y307), (wrap64 (x4_1 + 1)), (by first | rfl | (simp; done) | (simp [*]; done)), H', ⟨by have := HK1.out; omega⟩, ⟨by (with_reducible repeat (first | apply Kd.V_alloc | apply Kd.V_drewN | apply Kd.V_drew)); exact Kd.V_mono HO_0.out (fun _ hk => ⟨hk.1.1, hk.2⟩)⟩, ⟨ZRN HO309.out⟩, ⟨ZB⟩⟩)
  ·(
  rw [if_neg c10] at H
  exact absurd H (by simp)))
  ·(
  rw [if_neg c8] at H
  exact absurd H (by simp)))
  ·(
  rw [if_neg c6] at H
  exact absurd H (by simp)))
  ·(
  rw [if_neg c5] at H
  exact absurd H (by simp)))
  ·(
  rw [if_neg c4] at H
  have c4b0 := decide_eq_false c4
  clear c4
  obtain rfl := Option.some.inj H
  go_wp2
  go_ret
  exact ⟨_, ZE, by (with_reducible repeat (first | apply Kd.N_alloc | apply Kd.N_drewN | apply Kd.N_drew)); exact HO_3.out, ZB⟩))

/-! ### spec_l1Within: function 83 -/
def spec_l1Within.l0 : Nat → Int → Int → Int → Option (Bool)
 | 0, _, _, _ => none
 | k + 1, x0, x1, x5 => if x5 < 3 then ((spec_l1Has.f x0 x5).bind fun t310 => (if t310 = true then ((spec_l1Has.f x1 x5).bind fun t311 => (if t311 = true then (spec_l1Within.l0 k x0 x1 (wrap64 (x5 + 1))) else (some false))) else (spec_l1Within.l0 k x0 x1 (wrap64 (x5 + 1))))) else (some true)
def spec_l1Within.f (k : Nat) (a0 : Int) (a1 : Int) : Option (Bool) := spec_l1Within.l0 k a0 a1 0
theorem spec_l1Within.mono_l : ∀ k, (∀ y0 y1 y2, LeO (spec_l1Within.l0 k y0 y1 y2) (spec_l1Within.l0 (k + 1) y0 y1 y2))
 | 0 => fun _ _ _ r h => by simp [spec_l1Within.l0] at h
 | k + 1 => by
  have ih0 := spec_l1Within.mono_l k
  ·intro y0 y1 y2
   unfold spec_l1Within.l0
   repeat' first
   | (with_reducible exact ih0 _ _ _)
   | (with_reducible exact LeO.refl _)
   | (with_reducible exact LeO.none _)
   | (with_reducible refine LeO.ite ?_ ?_)
   | (with_reducible refine LeO.bind ?_ (fun _ => ?_))
   | exact ih0 _ _ _
   | exact LeO.none _
   | refine LeO.ite ?_ ?_
   | refine LeO.bind ?_ (fun _ => ?_)
theorem spec_l1Within.mono : ∀ a0 a1 k, LeO (spec_l1Within.f k a0 a1) (spec_l1Within.f (k + 1) a0 a1) := by
 intro a0 a1 k
 have ih0 := spec_l1Within.mono_l k
 unfold spec_l1Within.f
 repeat' first
   | (with_reducible exact ih0 _ _ _)
   | (with_reducible exact LeO.refl _)
   | (with_reducible exact LeO.none _)
   | (with_reducible refine LeO.ite ?_ ?_)
   | (with_reducible refine LeO.bind ?_ (fun _ => ?_))
   | exact ih0 _ _ _
   | exact LeO.none _
   | refine LeO.ite ?_ ?_
   | refine LeO.bind ?_ (fun _ => ?_)
theorem spec_l1Within.calls (k : Nat) (a0 : Int) (a1 : Int) (r : Bool) (w : World) (h : spec_l1Within.f k a0 a1 = some r) :
  Calls Try.prog 83 #[.int .i64 a0, .int .i64 a1] w fun e w' => e = .returned (.bool r) ∧ Drawn0 w w' := by
 have H := h
 unfold spec_l1Within.f at H
 clear h
 have H' := AM H
 clear H
 go_enter Try.func83, Try.ntmps83
 go_wp2
 go_loopg [5] k (fun kq v5 w' => ∃ (x5_1 : Int), v5 = .int .i64 x5_1 ∧ Aside0 (spec_l1Within.l0 kq a0 a1 x5_1 = some r) ∧ Aside0 (kq ≤ k) ∧ Drawn0 w w')
 case atStart => exact ⟨(0), (by first | rfl | (simp; done) | (simp [*]; done)), H', ⟨Nat.le_refl _⟩, by repeat (first | exact Drawn0.refl _ | apply Drawn0.step)⟩
 case round => (
 clear H'
 try clear p2
 obtain ⟨x5_1, rfl, HA, HK1, ⟨m1, rfl⟩⟩ := hrel
 cases gk with
 | zero => exact absurd HA.out (by simp [spec_l1Within.l0])
 | succ k1 =>
  have H := HA.out
  clear HA
  simp only [spec_l1Within.l0] at H
  by_cases c3 : x5_1 < 3
  ·(
  rw [if_pos c3] at H
  have c3b0 := decide_eq_true c3
  clear c3
  obtain ⟨t310, A4, H⟩ := ZOB H; try dsimp only at H
  by_cases c5 : t310 = true
  ·(
  subst c5
  have H1 := H; rw [if_pos rfl] at H1
  clear H
  have H := H1
  clear H1
  obtain ⟨t311, A6, H⟩ := ZOB H; try dsimp only at H
  by_cases c7 : t311 = true
  ·(
  subst c7
  have H1 := H; rw [if_pos rfl] at H1
  clear H
  have H := H1
  clear H1
  have H' := AM H
  clear H
  go_wp2_with (first | ((with_reducible refine gate_callee (f := 50) rfl ?_); refine ZGL (some 12) Try.func50 #[.int .i64 a0, .int .i64 x5_1] ?_; (with_reducible refine (spec_l1Has.calls a0 x5_1 true _ A4.out).mono ?_); rintro e w' ⟨rfl, ⟨nd, rfl⟩⟩; refine ⟨_, rfl, ?_⟩) | (go_at_call 50; (with_reducible refine (spec_l1Has.calls a1 x5_1 true _ A6.out).mono ?_); rintro e w' ⟨rfl, ⟨nd, rfl⟩⟩))
  go_roundg k1
  case measure => have := HK1.out; omega
  case rel => exact ⟨(wrap64 (x5_1 + 1)), (by first | rfl | (simp; done) | (simp [*]; done)), H', ⟨by have := HK1.out; omega⟩, by repeat (first | exact Drawn0.refl _ | apply Drawn0.step)⟩)
  ·(
  replace c7 := Bool.eq_false_iff.mpr c7
  subst c7
  have H1 := H; rw [if_neg ZFT] at H1
  clear H
  have H := H1
  clear H1
  obtain rfl := Option.some.inj H
  go_wp2_with (first | ((with_reducible refine gate_callee (f := 50) rfl ?_); refine ZGL (some 12) Try.func50 #[.int .i64 a0, .int .i64 x5_1] ?_; (with_reducible refine (spec_l1Has.calls a0 x5_1 true _ A4.out).mono ?_); rintro e w' ⟨rfl, ⟨nd, rfl⟩⟩; refine ⟨_, rfl, ?_⟩) | (go_at_call 50; (with_reducible refine (spec_l1Has.calls a1 x5_1 false _ A6.out).mono ?_); rintro e w' ⟨rfl, ⟨nd, rfl⟩⟩))
  go_ret
  exact ⟨by first | rfl | (simp; done) | (simp [*]; done), by repeat (first | exact Drawn0.refl _ | apply Drawn0.step)⟩))
  ·(
  replace c5 := Bool.eq_false_iff.mpr c5
  subst c5
  have H1 := H; rw [if_neg ZFT] at H1
  clear H
  have H := H1
  clear H1
  have H' := AM H
  clear H
  go_wp2_with (first | ((with_reducible refine gate_callee (f := 50) rfl ?_); refine ZGL (some 12) Try.func50 #[.int .i64 a0, .int .i64 x5_1] ?_; (with_reducible refine (spec_l1Has.calls a0 x5_1 false _ A4.out).mono ?_); rintro e w' ⟨rfl, ⟨nd, rfl⟩⟩; refine ⟨_, rfl, ?_⟩))
  go_roundg k1
  case measure => have := HK1.out; omega
  case rel => exact ⟨(wrap64 (x5_1 + 1)), (by first | rfl | (simp; done) | (simp [*]; done)), H', ⟨by have := HK1.out; omega⟩, by repeat (first | exact Drawn0.refl _ | apply Drawn0.step)⟩))
  ·(
  rw [if_neg c3] at H
  have c3b0 := decide_eq_false c3
  clear c3
  obtain rfl := Option.some.inj H
  go_wp2
  go_ret
  exact ⟨by first | rfl | (simp; done) | (simp [*]; done), by repeat (first | exact Drawn0.refl _ | apply Drawn0.step)⟩))

/-! ### spec_LabelFlows: function 62 -/
def spec_LabelFlows.f (k : Nat) (a0_0 : Int) (a0_1 : Int) (a1_0 : Int) (a1_1 : Int) : Option (Bool) := (spec_LabelOk.f a0_0 a0_1).bind fun t314 => (if t314 = true then ((spec_LabelOk.f a1_0 a1_1).bind fun t315 => (if t315 = true then ((spec_l1Within.f k a1_0 a0_0).bind fun t316 => (if t316 = true then ((spec_l1Within.f k a1_1 a0_1).bind fun t317 => (some t317)) else (some false))) else (some false))) else (some false))
theorem spec_LabelFlows.calls (k : Nat) (a0_0 : Int) (a0_1 : Int) (a1_0 : Int) (a1_1 : Int) (r : Bool) (w : World) (h : spec_LabelFlows.f k a0_0 a0_1 a1_0 a1_1 = some r) :
  Calls Try.prog 62 #[.agg #[.int .i64 a0_0, .int .i64 a0_1], .agg #[.int .i64 a1_0, .int .i64 a1_1]] w fun e w' => e = .returned (.bool r) ∧ Below w.heap.size w w' := by
 have hu39 := Try.underlying39
 have HB := AM (Below.refl w.heap.size w)
 have H := h
 unfold spec_LabelFlows.f at H
 clear h
 obtain ⟨t314, A3, H⟩ := ZOB H; try dsimp only at H
 by_cases c4 : t314 = true
 ·(
 subst c4
 have H1 := H; rw [if_pos rfl] at H1
 clear H
 have H := H1
 clear H1
 obtain ⟨t315, A5, H⟩ := ZOB H; try dsimp only at H
 by_cases c6 : t315 = true
 ·(
 subst c6
 have H1 := H; rw [if_pos rfl] at H1
 clear H
 have H := H1
 clear H1
 obtain ⟨t316, A7, H⟩ := ZOB H; try dsimp only at H
 by_cases c8 : t316 = true
 ·(
 subst c8
 have H1 := H; rw [if_pos rfl] at H1
 clear H
 have H := H1
 clear H1
 obtain ⟨t317, A9, H⟩ := ZOB H; try dsimp only at H
 obtain rfl := Option.some.inj H
 go_enter Try.func62, Try.ntmps62
 go_wp2_with (first | ((with_reducible refine gate_dst (N := 2) rfl ?_); refine ZX (N := 2) (cs := #[.int .i64 a0_0, .int .i64 a0_1]) (t := 39) ?_; intro gb312 hg w10 hbox hb; have BK312 := AM (hbox); have GW312 : Aside0 (w.heap.size ≤ gb312) := ZS hg; have GE312 : Aside0 (w.heap.size ≤ gb312) := ZS hg; replace HB := ZT HB hb; clear hb hbox hg) | ((with_reducible refine gate_dst (N := 3) rfl ?_); refine ZX (N := 3) (cs := #[.int .i64 a1_0, .int .i64 a1_1]) (t := 39) ?_; intro gb313 hg w11 hbox hb; have BK313 := AM (hbox); have GW313 : Aside0 (w.heap.size ≤ gb313) := ZS hg; have GE313 : Aside0 (w.heap.size ≤ gb313) := ZS hg; have NB312_313 : Aside0 (gb312 ≠ gb313) := ZN hg BK312; have NB313_312 : Aside0 (gb313 ≠ gb312) := ZM hg BK312; replace BK312 := ZW BK312 hb; replace HB := ZT HB hb; clear hb hbox hg; have hnb12 := NB312_313.out; have hnc12 := NB313_312.out; have hcz13 := ZC2 w11 BK312; have hfz13 := ZF2 BK312) | ((with_reducible refine gate_callee (f := 44) rfl ?_); refine ZGL (some 6) Try.func44 #[.agg #[.int .i64 a0_0, .int .i64 a0_1]] ?_; (with_reducible refine (spec_LabelOk.calls a0_0 a0_1 true _ A3.out).mono ?_); rintro e w14 ⟨rfl, hb⟩; refine ⟨_, rfl, ?_⟩; replace BK312 := ZW BK312 hb; replace BK313 := ZW BK313 hb; replace HB := ZT HB hb; clear hb; have hcz15 := ZC2 w14 BK313; have hfz15 := ZF2 BK313) | (go_at_call 44; (with_reducible refine (spec_LabelOk.calls a1_0 a1_1 true _ A5.out).mono ?_); rintro e w16 ⟨rfl, hb⟩; replace BK312 := ZW BK312 hb; replace BK313 := ZW BK313 hb; replace HB := ZT HB hb; clear hb; have hcz17 := ZC2 w16 BK313; have hfz17 := ZF2 BK313; have hcz18 := ZC2 w16 BK312; have hfz18 := ZF2 BK312) | (go_at_call 83; (with_reducible refine (spec_l1Within.calls k a1_0 a0_0 true _ A7.out).mono ?_); rintro e w' ⟨rfl, ⟨nd, rfl⟩⟩) | (go_at_call 83; (with_reducible refine (spec_l1Within.calls k a1_1 a0_1 t317 _ A9.out).mono ?_); rintro e w' ⟨rfl, ⟨nd, rfl⟩⟩))
 go_ret
 exact ⟨ZE, ZB⟩)
 ·(
 replace c8 := Bool.eq_false_iff.mpr c8
 subst c8
 have H1 := H; rw [if_neg ZFT] at H1
 clear H
 have H := H1
 clear H1
 obtain rfl := Option.some.inj H
 go_enter Try.func62, Try.ntmps62
 go_wp2_with (first | ((with_reducible refine gate_dst (N := 2) rfl ?_); refine ZX (N := 2) (cs := #[.int .i64 a0_0, .int .i64 a0_1]) (t := 39) ?_; intro gb312 hg w19 hbox hb; have BK312 := AM (hbox); have GW312 : Aside0 (w.heap.size ≤ gb312) := ZS hg; have GE312 : Aside0 (w.heap.size ≤ gb312) := ZS hg; replace HB := ZT HB hb; clear hb hbox hg) | ((with_reducible refine gate_dst (N := 3) rfl ?_); refine ZX (N := 3) (cs := #[.int .i64 a1_0, .int .i64 a1_1]) (t := 39) ?_; intro gb313 hg w20 hbox hb; have BK313 := AM (hbox); have GW313 : Aside0 (w.heap.size ≤ gb313) := ZS hg; have GE313 : Aside0 (w.heap.size ≤ gb313) := ZS hg; have NB312_313 : Aside0 (gb312 ≠ gb313) := ZN hg BK312; have NB313_312 : Aside0 (gb313 ≠ gb312) := ZM hg BK312; replace BK312 := ZW BK312 hb; replace HB := ZT HB hb; clear hb hbox hg; have hnb21 := NB312_313.out; have hnc21 := NB313_312.out; have hcz22 := ZC2 w20 BK312; have hfz22 := ZF2 BK312) | ((with_reducible refine gate_callee (f := 44) rfl ?_); refine ZGL (some 6) Try.func44 #[.agg #[.int .i64 a0_0, .int .i64 a0_1]] ?_; (with_reducible refine (spec_LabelOk.calls a0_0 a0_1 true _ A3.out).mono ?_); rintro e w23 ⟨rfl, hb⟩; refine ⟨_, rfl, ?_⟩; replace BK312 := ZW BK312 hb; replace BK313 := ZW BK313 hb; replace HB := ZT HB hb; clear hb; have hcz24 := ZC2 w23 BK313; have hfz24 := ZF2 BK313) | (go_at_call 44; (with_reducible refine (spec_LabelOk.calls a1_0 a1_1 true _ A5.out).mono ?_); rintro e w25 ⟨rfl, hb⟩; replace BK312 := ZW BK312 hb; replace BK313 := ZW BK313 hb; replace HB := ZT HB hb; clear hb; have hcz26 := ZC2 w25 BK313; have hfz26 := ZF2 BK313; have hcz27 := ZC2 w25 BK312; have hfz27 := ZF2 BK312) | (go_at_call 83; (with_reducible refine (spec_l1Within.calls k a1_0 a0_0 false _ A7.out).mono ?_); rintro e w' ⟨rfl, ⟨nd, rfl⟩⟩))
 go_ret
 exact ⟨ZE, ZB⟩))
 ·(
 replace c6 := Bool.eq_false_iff.mpr c6
 subst c6
 have H1 := H; rw [if_neg ZFT] at H1
 clear H
 have H := H1
 clear H1
 obtain rfl := Option.some.inj H
 go_enter Try.func62, Try.ntmps62
 go_wp2_with (first | ((with_reducible refine gate_dst (N := 2) rfl ?_); refine ZX (N := 2) (cs := #[.int .i64 a0_0, .int .i64 a0_1]) (t := 39) ?_; intro gb312 hg w28 hbox hb; have BK312 := AM (hbox); have GW312 : Aside0 (w.heap.size ≤ gb312) := ZS hg; have GE312 : Aside0 (w.heap.size ≤ gb312) := ZS hg; replace HB := ZT HB hb; clear hb hbox hg) | ((with_reducible refine gate_dst (N := 3) rfl ?_); refine ZX (N := 3) (cs := #[.int .i64 a1_0, .int .i64 a1_1]) (t := 39) ?_; intro gb313 hg w29 hbox hb; have BK313 := AM (hbox); have GW313 : Aside0 (w.heap.size ≤ gb313) := ZS hg; have GE313 : Aside0 (w.heap.size ≤ gb313) := ZS hg; have NB312_313 : Aside0 (gb312 ≠ gb313) := ZN hg BK312; have NB313_312 : Aside0 (gb313 ≠ gb312) := ZM hg BK312; replace BK312 := ZW BK312 hb; replace HB := ZT HB hb; clear hb hbox hg; have hnb30 := NB312_313.out; have hnc30 := NB313_312.out; have hcz31 := ZC2 w29 BK312; have hfz31 := ZF2 BK312) | ((with_reducible refine gate_callee (f := 44) rfl ?_); refine ZGL (some 6) Try.func44 #[.agg #[.int .i64 a0_0, .int .i64 a0_1]] ?_; (with_reducible refine (spec_LabelOk.calls a0_0 a0_1 true _ A3.out).mono ?_); rintro e w32 ⟨rfl, hb⟩; refine ⟨_, rfl, ?_⟩; replace BK312 := ZW BK312 hb; replace BK313 := ZW BK313 hb; replace HB := ZT HB hb; clear hb; have hcz33 := ZC2 w32 BK313; have hfz33 := ZF2 BK313) | (go_at_call 44; (with_reducible refine (spec_LabelOk.calls a1_0 a1_1 false _ A5.out).mono ?_); rintro e w34 ⟨rfl, hb⟩; replace BK312 := ZW BK312 hb; replace BK313 := ZW BK313 hb; replace HB := ZT HB hb; clear hb))
 go_ret
 exact ⟨ZE, ZB⟩))
 ·(
 replace c4 := Bool.eq_false_iff.mpr c4
 subst c4
 have H1 := H; rw [if_neg ZFT] at H1
 clear H
 have H := H1
 clear H1
 obtain rfl := Option.some.inj H
 go_enter Try.func62, Try.ntmps62
 go_wp2_with (first | ((with_reducible refine gate_dst (N := 2) rfl ?_); refine ZX (N := 2) (cs := #[.int .i64 a0_0, .int .i64 a0_1]) (t := 39) ?_; intro gb312 hg w35 hbox hb; have BK312 := AM (hbox); have GW312 : Aside0 (w.heap.size ≤ gb312) := ZS hg; have GE312 : Aside0 (w.heap.size ≤ gb312) := ZS hg; replace HB := ZT HB hb; clear hb hbox hg) | ((with_reducible refine gate_dst (N := 3) rfl ?_); refine ZX (N := 3) (cs := #[.int .i64 a1_0, .int .i64 a1_1]) (t := 39) ?_; intro gb313 hg w36 hbox hb; have BK313 := AM (hbox); have GW313 : Aside0 (w.heap.size ≤ gb313) := ZS hg; have GE313 : Aside0 (w.heap.size ≤ gb313) := ZS hg; have NB312_313 : Aside0 (gb312 ≠ gb313) := ZN hg BK312; have NB313_312 : Aside0 (gb313 ≠ gb312) := ZM hg BK312; replace BK312 := ZW BK312 hb; replace HB := ZT HB hb; clear hb hbox hg; have hnb37 := NB312_313.out; have hnc37 := NB313_312.out; have hcz38 := ZC2 w36 BK312; have hfz38 := ZF2 BK312) | ((with_reducible refine gate_callee (f := 44) rfl ?_); refine ZGL (some 6) Try.func44 #[.agg #[.int .i64 a0_0, .int .i64 a0_1]] ?_; (with_reducible refine (spec_LabelOk.calls a0_0 a0_1 false _ A3.out).mono ?_); rintro e w39 ⟨rfl, hb⟩; refine ⟨_, rfl, ?_⟩; replace BK312 := ZW BK312 hb; replace BK313 := ZW BK313 hb; replace HB := ZT HB hb; clear hb))
 go_ret
 exact ⟨ZE, ZB⟩)

end Go.Proofs.Ythidgkfgdkjghaa.A
