/- Go functions as Lean functions, and for each its contract; written by wip/tools/pr.py over the kit's print. -/
import Derived.Test.YtaflodibibbakaaAx0
import Derived.Test.YtaflodibibbakaaAx19
namespace Go.Proofs.Ytaflodibibbakaa.A
open Go.RowKit Go.Proofs.YtaflodibibbakaaW.PrintWords Go.Proofs.YtaflodibibbakaaW.PrintLast Go.Proofs.YtaflodibibbakaaW.PrintMore
attribute [local go_sem] max2_int min2_int max_two min_two max_three min_three max_four min_four
set_option linter.unusedVariables false
set_option linter.unusedSimpArgs false
set_option maxHeartbeats 8000000
set_option maxRecDepth 100000

/-! ### spec_l2All: function 50 -/
mutual
def spec_l2All.l0 : Nat → List (S50) → List (S50) → Int → Option ((List (S50)))
 | 0, _, _, _ => none
 | k + 1, x0, x3, x4 => if x4 < (x0.length : Int) then (if 0 ≤ x4 then (if x3.length < 1466015503701 then ((some (x3 ++ [(⟨(rd_T50 x0 x4).f0, (rd_T50 x0 x4).f1, (⟨(rd_T50 x0 x4).f2.f0, (rd_T50 x0 x4).f2.f1, (rd_T50 x0 x4).f2.f2⟩ : S48), (rd_T50 x0 x4).f3, (rd_T50 x0 x4).f4, (rd_T50 x0 x4).f5⟩ : S50)] : List (S50))).bind fun y526 => ((spec_l2All.f k ((rd_T50 x0 x4).f4)).bind fun t530 => (if y526.length + t530.length < 1466015503701 then ((some (y526 ++ t530 : List (S50))).bind fun y533 => ((spec_l2All.f k ((rd_T50 x0 x4).f5)).bind fun t537 => (if y533.length + t537.length < 1466015503701 then (spec_l2All.l0 k x0 (y533 ++ t537) (wrap64 (x4 + 1))) else (none)))) else (none)))) else (none)) else (none)) else (some x3)
def spec_l2All.f : Nat → List (S50) → Option ((List (S50)))
 | 0, _ => none
 | k + 1, l0 => spec_l2All.l0 k l0 (([] : List (S50))) 0
end
theorem spec_l2All.calls (k : Nat) : ∀ (P0_ : Nat → Prop) (A0 : Option Addr) (c0 : Nat) (l0 : List (S50)) (r : List (S50)) (w : World) (hs0 : Kd.V k50 50 w w.heap.size (fun k_ => P0_ k_) (.slice A0 l0.length c0) l0) (h : spec_l2All.f k l0 = some r),
  Calls Try.prog 50 #[.slice A0 l0.length c0] w fun e w' => ∃ v0_ : Value, e = .returned (v0_) ∧ Kd.N k50 50 w' w.heap.size (fun k_ => (P0_ k_ ∨ w.heap.size ≤ k_)) v0_ r ∧ Below w.heap.size w w' := by
 induction k using Nat.strongRecOn with
 | _ k ih =>
 intro P0_ A0 c0 l0 r w hs0 h
 cases k with
 | zero => exact absurd h (by simp [spec_l2All.f])
 | succ k =>
 simp only [spec_l2All.f] at h
 have hu50 := Try.underlying50
 have HO0 := AM (show Kd.V k50 50 w w.heap.size (fun k_ => (P0_ k_ ∨ w.heap.size ≤ k_)) (.slice A0 l0.length c0) l0 from Kd.V_mono hs0 (fun k_ hk => .inl hk))
 have HB := AM (Below.refl w.heap.size w)
 have H : (spec_l2All.l0 k l0 (([] : List (S50))) 0) = some r := h
 clear h
 obtain ⟨y522, hy522⟩ : ∃ y_ : List (S50), y_ = (([] : List (S50))) := ⟨_, rfl⟩
 replace H : (spec_l2All.l0 k l0 y522 0) = some r := by first | (rw [hy522]; with_reducible exact H) | (have H2_ := (Option.bind_some _ _).symm.trans H; rw [hy522]; with_reducible exact H2_) | (have H2_ := (Option.bind_some _ _).symm.trans H; with_reducible exact H2_) | with_reducible exact H | (rw [hy522]; exact H) | exact H
 have Ny522 := AM hy522
 clear hy522
 have H' := AM H
 clear H
 go_enter Try.func50, Try.ntmps50
 go_wp2_with (first | ((with_reducible refine gate_dst (N := 5) rfl ?_); refine Kd.N_lit k50 _ 50 ?hg (N' := 5) ?hd (xs := ([] : List (S50))) (inner := []) (ok := (fun k_ => (P0_ k_ ∨ w.heap.size ≤ k_))) (okp := (fun k_ => (P0_ k_ ∨ w.heap.size ≤ k_))) ?hr ?hp (fun _ hk => hk) ((show ∀ k_, w.heap.size ≤ k_ → (fun k_ => (P0_ k_ ∨ w.heap.size ≤ k_)) k_ from fun k_ hk => (.inr (Nat.le_trans (below_size (ZB)) hk))) _ (Nat.le_refl _)) (Below.refl _ _) (Nat.le_refl _) (by simp) ?_; (case hd => rfl); (case hg => rfl); (case hr => first | (go_simp; done) | (go_simp; rfl)); (case hp => exact (Reps.none _ _)); intro v523 w2 ho3 hb hg_ hnew_; clear hg_ hnew_; (first | rw [← Ny522.out] at ho3 | (simp only [Int.reduceToNat] at ho3; rw [← Ny522.out] at ho3)); have HO524 := AM (Kd.N_lower ho3 (below_size (ZB))); replace HO0 := AM (Kd.V_elder' (ZRV HO0.out) (Kd.N_base ho3) hb); replace HB := ZT HB hb; clear hb ho3))
 go_loopg [3, 4] k (fun kq v3 v4 w' => ∃ (x3_1 : List (S50)) (x4_1 : Int), v4 = .int .i64 x4_1 ∧ Aside0 (spec_l2All.l0 kq l0 x3_1 x4_1 = some r) ∧ Aside0 (kq ≤ k) ∧ Aside0 (Kd.V k50 50 w' w.heap.size (fun k_ => (P0_ k_ ∨ w.heap.size ≤ k_) ∧ some k_ ≠ (v3 : Value).ownBlock) (.slice A0 l0.length c0) l0) ∧ Aside0 (Kd.N k50 50 w' w.heap.size (fun k_ => (P0_ k_ ∨ w.heap.size ≤ k_)) v3 x3_1) ∧ Aside0 (Below w.heap.size w w'))
 case atStart => exact ⟨(y522), (0), (by first | rfl | (simp; done) | (simp [*]; done)), H', ⟨Nat.le_refl _⟩, ⟨ZRV HO0.out⟩, ⟨ZRN HO524.out⟩, ⟨ZB⟩⟩
 case round => (
 clear H'
 try clear p2
 obtain ⟨x3_1, x4_1, rfl, HA, HK1, HO_0, HO_3, HB⟩ := hrel
 cases gk with
 | zero => exact absurd HA.out (by simp [spec_l2All.l0])
 | succ k1 =>
  have H := HA.out
  clear HA
  simp only [spec_l2All.l0] at H
  by_cases c4 : x4_1 < (l0.length : Int)
  ·(
  rw [if_pos c4] at H
  have c4b0 := decide_eq_true c4
  clear c4
  by_cases c5 : 0 ≤ x4_1
  ·(
  rw [if_pos c5] at H
  have c5b0 := decide_eq_true c5
  clear c5
  by_cases c6 : x3_1.length < 1466015503701
  ·(
  rw [if_pos c6] at H
  have LMc6 := AM c6
  clear c6
  obtain ⟨y526, hy526⟩ : ∃ y_ : List (S50), y_ = (x3_1 ++ [(⟨(rd_T50 l0 x4_1).f0, (rd_T50 l0 x4_1).f1, (⟨(rd_T50 l0 x4_1).f2.f0, (rd_T50 l0 x4_1).f2.f1, (rd_T50 l0 x4_1).f2.f2⟩ : S48), (rd_T50 l0 x4_1).f3, (rd_T50 l0 x4_1).f4, (rd_T50 l0 x4_1).f5⟩ : S50)]) := ⟨_, rfl⟩
  replace H : ((spec_l2All.f k1 ((rd_T50 l0 x4_1).f4)).bind fun t530 => (if y526.length + t530.length < 1466015503701 then ((some (y526 ++ t530 : List (S50))).bind fun y533 => ((spec_l2All.f k1 ((rd_T50 l0 x4_1).f5)).bind fun t537 => (if y533.length + t537.length < 1466015503701 then (spec_l2All.l0 k1 l0 (y533 ++ t537) (wrap64 (x4_1 + 1))) else (none)))) else (none))) = some r := by first | (rw [hy526]; with_reducible exact H) | (have H2_ := (Option.bind_some _ _).symm.trans H; rw [hy526]; with_reducible exact H2_) | (have H2_ := (Option.bind_some _ _).symm.trans H; with_reducible exact H2_) | with_reducible exact H | (rw [hy526]; exact H) | exact H
  have Ny526 := AM hy526
  clear hy526
  obtain ⟨t530, A7, H⟩ := ZOB H; try dsimp only at H
  by_cases c8 : y526.length + t530.length < 1466015503701
  ·(
  rw [if_pos c8] at H
  have LMc8 := AM c8
  clear c8
  obtain ⟨y533, hy533⟩ : ∃ y_ : List (S50), y_ = (y526 ++ t530) := ⟨_, rfl⟩
  replace H : ((spec_l2All.f k1 ((rd_T50 l0 x4_1).f5)).bind fun t537 => (if y533.length + t537.length < 1466015503701 then (spec_l2All.l0 k1 l0 (y533 ++ t537) (wrap64 (x4_1 + 1))) else (none))) = some r := by first | (rw [hy533]; with_reducible exact H) | (have H2_ := (Option.bind_some _ _).symm.trans H; rw [hy533]; with_reducible exact H2_) | (have H2_ := (Option.bind_some _ _).symm.trans H; with_reducible exact H2_) | with_reducible exact H | (rw [hy533]; exact H) | exact H
  have Ny533 := AM hy533
  clear hy533
  obtain ⟨t537, A9, H⟩ := ZOB H; try dsimp only at H
  by_cases c10 : y533.length + t537.length < 1466015503701
  ·(
  rw [if_pos c10] at H
  have LMc10 := AM c10
  clear c10
  obtain ⟨y540, hy540⟩ : ∃ y_ : List (S50), y_ = (y533 ++ t537) := ⟨_, rfl⟩
  replace H : (spec_l2All.l0 k1 l0 y540 (wrap64 (x4_1 + 1))) = some r := by first | (rw [hy540]; with_reducible exact H) | (have H2_ := (Option.bind_some _ _).symm.trans H; rw [hy540]; with_reducible exact H2_) | (have H2_ := (Option.bind_some _ _).symm.trans H; with_reducible exact H2_) | with_reducible exact H | (rw [hy540]; exact H) | exact H
  have Ny540 := AM hy540
  clear hy540
  have H' := AM H
  clear H
  have p525 : 0 ≤ (x4_1 : Int) := ZD
  have q525 : x4_1 < (l0.length : Int) := ZD
  obtain ⟨ad525, A525_6, c525_6, A525_7, c525_7, e525, hx525_0, hx525_1, hx525_2, hx525_3, hx525_4, hx525_5, hx525_6, hx525_7, hl525_6, hi525_6, hl525_7, hi525_7⟩ := at_T50 (Kd.V_reads' HO_0.out).2.2 x4_1 p525 q525
  cases e525
  obtain ⟨ce525, hce525, hMe525, hcc525⟩ := Kd.V_get HO_0.out z50 x4_1 p525 (by first | exact q525 | exact ZD | (have e_ := (Kd.V_reads' HO_0.out).1; omega))
  obtain ⟨ua525_6, uc525_6, ua525_7, uc525_7, rfl, ul525_6, ge525_6, ul525_7, ge525_7⟩ := k50_openF hMe525
  have hv525_6 := hcc525 6 _ rfl
  rw [add_field _ _ 6 (by omega)] at hv525_6
  replace hv525_6 := Option.some.inj (hv525_6.symm.trans hx525_6)
  injection hv525_6 with hva_ hvn_ hvc_
  rw [hva_] at ge525_6
  rw [hvc_] at ul525_6
  have HL525_6 := AM (show Kd.V k50 50 _ w.heap.size _ _ ((rd_T50 l0 x4_1).f4) from Kd.V_mk ul525_6 ge525_6)
  clear hva_ hvn_ hvc_ ge525_6 ul525_6
  have hv525_7 := hcc525 7 _ rfl
  rw [add_field _ _ 7 (by omega)] at hv525_7
  replace hv525_7 := Option.some.inj (hv525_7.symm.trans hx525_7)
  injection hv525_7 with hva_ hvn_ hvc_
  rw [hva_] at ge525_7
  rw [hvc_] at ul525_7
  have HL525_7 := AM (show Kd.V k50 50 _ w.heap.size _ _ ((rd_T50 l0 x4_1).f5) from Kd.V_mk ul525_7 ge525_7)
  clear hva_ hvn_ hvc_ ge525_7 ul525_7 hcc525 hce525
  have HR525_6 := AM hi525_6
  have HC525_6 := AM hl525_6
  clear hi525_6 hl525_6
  have HR525_7 := AM hi525_7
  have HC525_7 := AM hl525_7
  clear hi525_7 hl525_7
  replace p525 := eq_true p525
  replace q525 := eq_true q525
  go_wp2_with (first | ((with_reducible refine gate_builtin (b := .append) (xs := #[.tmp 12, .tmp 17]) rfl ?_); at_builtin; refine Kd.N_append k50 (w0 := w) w.heap.size rfl (.tmp 12) (.tmp 17) 30 50 (.agg #[(.int .i64 0), (.int .i64 0), (.int .i64 0), (.int .i64 0), (.int .i64 0), (.int .i64 0), (.slice none 0 0), (.slice none 0 0)]) 96 rfl Try.underlying30 info50 rfl (by decide) (by omega) u3 x3_1 (⟨(rd_T50 l0 x4_1).f0, (rd_T50 l0 x4_1).f1, (⟨(rd_T50 l0 x4_1).f2.f0, (rd_T50 l0 x4_1).f2.f1, (rd_T50 l0 x4_1).f2.f2⟩ : S48), (rd_T50 l0 x4_1).f3, (rd_T50 l0 x4_1).f4, (rd_T50 l0 x4_1).f5⟩ : S50) [.int .i64 ((rd_T50 l0 x4_1).f0), .int .i64 ((rd_T50 l0 x4_1).f1), .int .i64 ((rd_T50 l0 x4_1).f2.f0), .int .i64 ((rd_T50 l0 x4_1).f2.f1), .int .i64 ((rd_T50 l0 x4_1).f2.f2), .int .i64 ((rd_T50 l0 x4_1).f3), .slice A525_6 ((rd_T50 l0 x4_1).f4).length c525_6, .slice A525_7 ((rd_T50 l0 x4_1).f5).length c525_7] (fun k_ => (P0_ k_ ∨ w.heap.size ≤ k_)) (fun k_ => ((fun k_ => (P0_ k_ ∨ w.heap.size ≤ k_))) k_ ∧ some k_ ≠ (u3 : Value).ownBlock) rfl rfl ?aP (fun _ hk => hk) ?aF ?aO ?aB ?aS ?aL ?_; (case aP => exact (k50_mkF _ _ (⟨(rd_T50 l0 x4_1).f0, (rd_T50 l0 x4_1).f1, (⟨(rd_T50 l0 x4_1).f2.f0, (rd_T50 l0 x4_1).f2.f1, (rd_T50 l0 x4_1).f2.f2⟩ : S48), (rd_T50 l0 x4_1).f3, (rd_T50 l0 x4_1).f4, (rd_T50 l0 x4_1).f5⟩ : S50) (Kd.V_reads' (Kd.V_mono (ok' := (fun k_ => ((fun k_ => (P0_ k_ ∨ w.heap.size ≤ k_))) k_ ∧ some k_ ≠ (u3 : Value).ownBlock)) (HL525_6.out) (fun k_ hk => ⟨hk.1, hk.2⟩))).2.1 (Kd.V_F (Kd.V_mono (ok' := (fun k_ => ((fun k_ => (P0_ k_ ∨ w.heap.size ≤ k_))) k_ ∧ some k_ ≠ (u3 : Value).ownBlock)) (HL525_6.out) (fun k_ hk => ⟨hk.1, hk.2⟩))) (Kd.V_reads' (Kd.V_mono (ok' := (fun k_ => ((fun k_ => (P0_ k_ ∨ w.heap.size ≤ k_))) k_ ∧ some k_ ≠ (u3 : Value).ownBlock)) (HL525_7.out) (fun k_ hk => ⟨hk.1, hk.2⟩))).2.1 (Kd.V_F (Kd.V_mono (ok' := (fun k_ => ((fun k_ => (P0_ k_ ∨ w.heap.size ≤ k_))) k_ ∧ some k_ ≠ (u3 : Value).ownBlock)) (HL525_7.out) (fun k_ hk => ⟨hk.1, hk.2⟩))))); (case aB => exact (ZB)); (case aF => exact (fun k_ hk => (.inr (Nat.le_trans (below_size (ZB)) hk)))); (case aO => exact (ZRN HO_3.out)); (case aS => exact (below_size (ZB))); (case aL => have := LMc6.out; omega); intro v527 w11 ho hb hg hat; rw [← Ny526.out] at ho; have n0_ := AM (Kd.V_afterv (ok := (fun k_ => (P0_ k_ ∨ w.heap.size ≤ k_))) (ZRV HO_0.out) hg hat); have n1_ := AM (Kd.V_afterv (ok := (fun k_ => (P0_ k_ ∨ w.heap.size ≤ k_))) (ZRV HL525_6.out) hg hat); have n2_ := AM (Kd.V_afterv (ok := (fun k_ => (P0_ k_ ∨ w.heap.size ≤ k_))) (ZRV HL525_7.out) hg hat); have n3_ := AM (hb); have n4_ := AM (ho); clear HO_0 HL525_6 HL525_7 HB HO_3; have HO_0 := n0_; have HL525_6 := n1_; have HL525_7 := n2_; have HB := n3_; have HO528 := n4_; clear n0_ n1_ n2_ n3_ n4_ ho hb hg hat; have p529 : 0 ≤ (x4_1 : Int) := ZD; have q529 : x4_1 < (l0.length : Int) := ZD; obtain ⟨ad529, A529_6, c529_6, A529_7, c529_7, e529, hx529_0, hx529_1, hx529_2, hx529_3, hx529_4, hx529_5, hx529_6, hx529_7, hl529_6, hi529_6, hl529_7, hi529_7⟩ := at_T50 (Kd.V_reads' HO_0.out).2.2 x4_1 p529 q529; obtain rfl : ad525 = ad529 := (by injection e529); obtain ⟨ce529, hce529, hMe529, hcc529⟩ := Kd.V_get HO_0.out z50 x4_1 p529 (by first | exact q529 | exact ZD | (have e_ := (Kd.V_reads' HO_0.out).1; omega)); obtain ⟨ua529_6, uc529_6, ua529_7, uc529_7, rfl, ul529_6, ge529_6, ul529_7, ge529_7⟩ := k50_openF hMe529; have hv529_6 := hcc529 6 _ rfl; rw [add_field _ _ 6 (by omega)] at hv529_6; replace hv529_6 := Option.some.inj (hv529_6.symm.trans hx529_6); injection hv529_6 with hva_ hvn_ hvc_; rw [hva_] at ge529_6; rw [hvc_] at ul529_6; have HL529_6 := AM (show Kd.V k50 50 _ w.heap.size _ _ ((rd_T50 l0 x4_1).f4) from Kd.V_mk ul529_6 ge529_6); clear hva_ hvn_ hvc_ ge529_6 ul529_6; have hv529_7 := hcc529 7 _ rfl; rw [add_field _ _ 7 (by omega)] at hv529_7; replace hv529_7 := Option.some.inj (hv529_7.symm.trans hx529_7); injection hv529_7 with hva_ hvn_ hvc_; rw [hva_] at ge529_7; rw [hvc_] at ul529_7; have HL529_7 := AM (show Kd.V k50 50 _ w.heap.size _ _ ((rd_T50 l0 x4_1).f5) from Kd.V_mk ul529_7 ge529_7); clear hva_ hvn_ hvc_ ge529_7 ul529_7 hcc529 hce529; have HR529_6 := AM hi529_6; have HC529_6 := AM hl529_6; clear hi529_6 hl529_6; have HR529_7 := AM hi529_7; have HC529_7 := AM hl529_7; clear hi529_7 hl529_7; replace p529 := eq_true p529; replace q529 := eq_true q529) | ((with_reducible refine gate_callee (f := 50) rfl ?_); refine ZGL (some 25) Try.func50 #[.slice A529_6 ((rd_T50 l0 x4_1).f4).length c529_6] ?_; (with_reducible refine (ih k1 (by have := HK1.out; omega) (fun k_ => ((P0_ k_ ∨ w.heap.size ≤ k_) ∧ some k_ ≠ (v527 : Value).ownBlock)) _ _ ((rd_T50 l0 x4_1).f4) t530 _ ?side1 A7.out).mono ?_); (case side1 => exact HL529_6.out); rintro e w12 ⟨v531, rfl, ho0, hb⟩; refine ⟨_, rfl, ?_⟩; have HO532 := AM (Kd.N_lower (Kd.N_mono (ok' := fun k_ => (P0_ k_ ∨ w.heap.size ≤ k_) ∧ some k_ ≠ (v527 : Value).ownBlock) ho0 (fun k_ hk_ => ⟨Or.elim hk_ (fun hs_ => hs_.1) (fun hn_ => (.inr (Nat.le_trans (below_size (ZB)) hn_))), Or.elim hk_ (fun hs_ => hs_.2) (fun hn_ => (Kd.fresh' (Kd.N_lt (ZRN HO528.out)) k_ hn_))⟩)) (below_size (ZB))); replace HO_0 := AM (Kd.V_elder' (ZRV HO_0.out) (Kd.N_base ho0) hb); replace HL525_6 := AM (Kd.V_elder' (ZRV HL525_6.out) (Kd.N_base ho0) hb); replace HL525_7 := AM (Kd.V_elder' (ZRV HL525_7.out) (Kd.N_base ho0) hb); replace HO528 := AM (Kd.N_elder' (ZRN HO528.out) (Kd.N_base ho0) hb); replace HL529_6 := AM (Kd.V_elder' (ZRV HL529_6.out) (Kd.N_base ho0) hb); replace HL529_7 := AM (Kd.V_elder' (ZRV HL529_7.out) (Kd.N_base ho0) hb); replace HR529_6 := AM (Kd.C_below (ZQ HR529_6.out) hb); replace HR529_7 := AM (Kd.C_below (ZQ HR529_7.out) hb); replace HB := ZT HB hb; clear hb; (try clear ho0); obtain ⟨Ao14, co14, eo14⟩ := Kd.N_slice HO532.out; subst eo14) | ((with_reducible refine gate_builtin (b := .append) (xs := #[.tmp 19, .tmp 25]) rfl ?_); at_builtin; refine Kd.N_append_rows k50 (w0 := w) w.heap.size rfl (.tmp 19) (.tmp 25) 30 50 (.agg #[(.int .i64 0), (.int .i64 0), (.int .i64 0), (.int .i64 0), (.int .i64 0), (.int .i64 0), (.slice none 0 0), (.slice none 0 0)]) 96 rfl Try.underlying30 info50 rfl (by decide) (by omega) v527 y526 t530 _ _ _ (fun k_ => (P0_ k_ ∨ w.heap.size ≤ k_)) (fun k_ => ((fun k_ => (P0_ k_ ∨ w.heap.size ≤ k_))) k_ ∧ some k_ ≠ (v527 : Value).ownBlock) rfl rfl ?aO ?aR (fun _ hk => hk) ?aF ?aB ?aS ?aL ?_; (case aR => exact (by skip; exact Kd.N_F (Kd.N_mono (ok' := (fun k_ => ((fun k_ => (P0_ k_ ∨ w.heap.size ≤ k_))) k_ ∧ some k_ ≠ (v527 : Value).ownBlock)) (HO532.out) (fun k_ hk => ⟨hk.1, hk.2⟩)))); (case aB => exact (ZB)); (case aF => exact (fun k_ hk => (.inr (Nat.le_trans (below_size (ZB)) hk)))); (case aO => exact (ZRN (Kd.N_mono HO528.out (fun _ hk => hk.1)))); (case aS => exact (below_size (ZB))); (case aL => have := LMc8.out; omega); intro v534 w13 ho hb hg hat; rw [← Ny533.out] at ho; have n0_ := AM (Kd.V_afterv (ok := (fun k_ => (P0_ k_ ∨ w.heap.size ≤ k_) ∧ some k_ ≠ (.slice Ao14 t530.length co14 : Value).ownBlock)) (by (with_reducible repeat (first | apply Kd.V_alloc | apply Kd.V_drewN | apply Kd.V_drew)); exact Kd.V_mono HO_0.out (fun _ hk => ⟨⟨hk.1.1, hk.2⟩, hk.1.2⟩)) hg hat); have n1_ := AM (Kd.V_afterv (ok := (fun k_ => (P0_ k_ ∨ w.heap.size ≤ k_) ∧ some k_ ≠ (.slice Ao14 t530.length co14 : Value).ownBlock)) (by (with_reducible repeat (first | apply Kd.V_alloc | apply Kd.V_drewN | apply Kd.V_drew)); exact Kd.V_mono HL525_6.out (fun _ hk => ⟨⟨hk.1.1, hk.2⟩, hk.1.2⟩)) hg hat); have n2_ := AM (Kd.V_afterv (ok := (fun k_ => (P0_ k_ ∨ w.heap.size ≤ k_) ∧ some k_ ≠ (.slice Ao14 t530.length co14 : Value).ownBlock)) (by (with_reducible repeat (first | apply Kd.V_alloc | apply Kd.V_drewN | apply Kd.V_drew)); exact Kd.V_mono HL525_7.out (fun _ hk => ⟨⟨hk.1.1, hk.2⟩, hk.1.2⟩)) hg hat); have n3_ := AM (Kd.V_afterv (ok := (fun k_ => (P0_ k_ ∨ w.heap.size ≤ k_) ∧ some k_ ≠ (.slice Ao14 t530.length co14 : Value).ownBlock)) (by (with_reducible repeat (first | apply Kd.V_alloc | apply Kd.V_drewN | apply Kd.V_drew)); exact Kd.V_mono HL529_6.out (fun _ hk => ⟨⟨hk.1.1, hk.2⟩, hk.1.2⟩)) hg hat); have n4_ := AM (Kd.V_afterv (ok := (fun k_ => (P0_ k_ ∨ w.heap.size ≤ k_) ∧ some k_ ≠ (.slice Ao14 t530.length co14 : Value).ownBlock)) (by (with_reducible repeat (first | apply Kd.V_alloc | apply Kd.V_drewN | apply Kd.V_drew)); exact Kd.V_mono HL529_7.out (fun _ hk => ⟨⟨hk.1.1, hk.2⟩, hk.1.2⟩)) hg hat); have n5_ := AM (Kd.N_afterv (ok := (fun k_ => (P0_ k_ ∨ w.heap.size ≤ k_))) (ZRN HO532.out) hg hat); have n6_ := AM (hb); have n7_ := AM (ho); clear HO_0 HL525_6 HL525_7 HL529_6 HL529_7 HO532 HB HO528; have HO_0 := n0_; have HL525_6 := n1_; have HL525_7 := n2_; have HL529_6 := n3_; have HL529_7 := n4_; have HO532 := n5_; have HB := n6_; have HO535 := n7_; clear n0_ n1_ n2_ n3_ n4_ n5_ n6_ n7_ ho hb hg hat; have p536 : 0 ≤ (x4_1 : Int) := ZD; have q536 : x4_1 < (l0.length : Int) := ZD; obtain ⟨ad536, A536_6, c536_6, A536_7, c536_7, e536, hx536_0, hx536_1, hx536_2, hx536_3, hx536_4, hx536_5, hx536_6, hx536_7, hl536_6, hi536_6, hl536_7, hi536_7⟩ := at_T50 (Kd.V_reads' HO_0.out).2.2 x4_1 p536 q536; obtain rfl : ad525 = ad536 := (by injection e536); obtain ⟨ce536, hce536, hMe536, hcc536⟩ := Kd.V_get HO_0.out z50 x4_1 p536 (by first | exact q536 | exact ZD | (have e_ := (Kd.V_reads' HO_0.out).1; omega)); obtain ⟨ua536_6, uc536_6, ua536_7, uc536_7, rfl, ul536_6, ge536_6, ul536_7, ge536_7⟩ := k50_openF hMe536; have hv536_6 := hcc536 6 _ rfl; rw [add_field _ _ 6 (by omega)] at hv536_6; replace hv536_6 := Option.some.inj (hv536_6.symm.trans hx536_6); injection hv536_6 with hva_ hvn_ hvc_; rw [hva_] at ge536_6; rw [hvc_] at ul536_6; have HL536_6 := AM (show Kd.V k50 50 _ w.heap.size _ _ ((rd_T50 l0 x4_1).f4) from Kd.V_mk ul536_6 ge536_6); clear hva_ hvn_ hvc_ ge536_6 ul536_6; have hv536_7 := hcc536 7 _ rfl; rw [add_field _ _ 7 (by omega)] at hv536_7; replace hv536_7 := Option.some.inj (hv536_7.symm.trans hx536_7); injection hv536_7 with hva_ hvn_ hvc_; rw [hva_] at ge536_7; rw [hvc_] at ul536_7; have HL536_7 := AM (show Kd.V k50 50 _ w.heap.size _ _ ((rd_T50 l0 x4_1).f5) from Kd.V_mk ul536_7 ge536_7); clear hva_ hvn_ hvc_ ge536_7 ul536_7 hcc536 hce536; have HR536_6 := AM hi536_6; have HC536_6 := AM hl536_6; clear hi536_6 hl536_6; have HR536_7 := AM hi536_7; have HC536_7 := AM hl536_7; clear hi536_7 hl536_7; replace p536 := eq_true p536; replace q536 := eq_true q536) | ((with_reducible refine gate_callee (f := 50) rfl ?_); refine ZGL (some 33) Try.func50 #[.slice A536_7 ((rd_T50 l0 x4_1).f5).length c536_7] ?_; (with_reducible refine (ih k1 (by have := HK1.out; omega) (fun k_ => (((P0_ k_ ∨ w.heap.size ≤ k_) ∧ some k_ ≠ (.slice Ao14 t530.length co14 : Value).ownBlock) ∧ some k_ ≠ (v534 : Value).ownBlock)) _ _ ((rd_T50 l0 x4_1).f5) t537 _ ?side1 A9.out).mono ?_); (case side1 => exact HL536_7.out); rintro e w15 ⟨v538, rfl, ho0, hb⟩; refine ⟨_, rfl, ?_⟩; have HO539 := AM (Kd.N_lower (Kd.N_mono (ok' := fun k_ => (P0_ k_ ∨ w.heap.size ≤ k_) ∧ some k_ ≠ (.slice Ao14 t530.length co14 : Value).ownBlock ∧ some k_ ≠ (v534 : Value).ownBlock) ho0 (fun k_ hk_ => ⟨Or.elim hk_ (fun hs_ => hs_.1.1) (fun hn_ => (.inr (Nat.le_trans (below_size (ZB)) hn_))), Or.elim hk_ (fun hs_ => hs_.1.2) (fun hn_ => (Kd.fresh' (Kd.N_lt (ZRN HO532.out)) k_ hn_)), Or.elim hk_ (fun hs_ => hs_.2) (fun hn_ => (Kd.fresh' (Kd.N_lt (ZRN HO535.out)) k_ hn_))⟩)) (below_size (ZB))); replace HO_0 := AM (Kd.V_elder' (ZRV HO_0.out) (Kd.N_base ho0) hb); replace HL525_6 := AM (Kd.V_elder' (ZRV HL525_6.out) (Kd.N_base ho0) hb); replace HL525_7 := AM (Kd.V_elder' (ZRV HL525_7.out) (Kd.N_base ho0) hb); replace HL529_6 := AM (Kd.V_elder' (ZRV HL529_6.out) (Kd.N_base ho0) hb); replace HL529_7 := AM (Kd.V_elder' (ZRV HL529_7.out) (Kd.N_base ho0) hb); replace HO532 := AM (Kd.N_elder' (ZRN HO532.out) (Kd.N_base ho0) hb); replace HO535 := AM (Kd.N_elder' (ZRN HO535.out) (Kd.N_base ho0) hb); replace HL536_6 := AM (Kd.V_elder' (ZRV HL536_6.out) (Kd.N_base ho0) hb); replace HL536_7 := AM (Kd.V_elder' (ZRV HL536_7.out) (Kd.N_base ho0) hb); replace HR536_6 := AM (Kd.C_below (ZQ HR536_6.out) hb); replace HR536_7 := AM (Kd.C_below (ZQ HR536_7.out) hb); replace HB := ZT HB hb; clear hb; (try clear ho0); obtain ⟨Ao17, co17, eo17⟩ := Kd.N_slice HO539.out; subst eo17) | ((with_reducible refine gate_builtin (b := .append) (xs := #[.tmp 27, .tmp 33]) rfl ?_); at_builtin; refine Kd.N_append_rows k50 (w0 := w) w.heap.size rfl (.tmp 27) (.tmp 33) 30 50 (.agg #[(.int .i64 0), (.int .i64 0), (.int .i64 0), (.int .i64 0), (.int .i64 0), (.int .i64 0), (.slice none 0 0), (.slice none 0 0)]) 96 rfl Try.underlying30 info50 rfl (by decide) (by omega) v534 y533 t537 _ _ _ (fun k_ => (P0_ k_ ∨ w.heap.size ≤ k_)) (fun k_ => ((fun k_ => (P0_ k_ ∨ w.heap.size ≤ k_))) k_ ∧ some k_ ≠ (v534 : Value).ownBlock) rfl rfl ?aO ?aR (fun _ hk => hk) ?aF ?aB ?aS ?aL ?_; (case aR => exact (by skip; exact Kd.N_F (Kd.N_mono (ok' := (fun k_ => ((fun k_ => (P0_ k_ ∨ w.heap.size ≤ k_))) k_ ∧ some k_ ≠ (v534 : Value).ownBlock)) (HO539.out) (fun k_ hk => ⟨hk.1, hk.2.2⟩)))); (case aB => exact (ZB)); (case aF => exact (fun k_ hk => (.inr (Nat.le_trans (below_size (ZB)) hk)))); (case aO => exact (ZRN (Kd.N_mono HO535.out (fun _ hk => hk.1)))); (case aS => exact (below_size (ZB))); (case aL => have := LMc10.out; omega); intro v541 w16 ho hb hg hat; rw [← Ny540.out] at ho; have n0_ := AM (Kd.V_afterv (ok := (fun k_ => (P0_ k_ ∨ w.heap.size ≤ k_) ∧ some k_ ≠ (.slice Ao14 t530.length co14 : Value).ownBlock ∧ some k_ ≠ (.slice Ao17 t537.length co17 : Value).ownBlock)) (by (with_reducible repeat (first | apply Kd.V_alloc | apply Kd.V_drewN | apply Kd.V_drew)); exact Kd.V_mono HO_0.out (fun _ hk => ⟨⟨hk.1.1.1, ⟨hk.1.1.2, hk.2⟩⟩, hk.1.2⟩)) hg hat); have n1_ := AM (Kd.V_afterv (ok := (fun k_ => (P0_ k_ ∨ w.heap.size ≤ k_) ∧ some k_ ≠ (.slice Ao14 t530.length co14 : Value).ownBlock ∧ some k_ ≠ (.slice Ao17 t537.length co17 : Value).ownBlock)) (by (with_reducible repeat (first | apply Kd.V_alloc | apply Kd.V_drewN | apply Kd.V_drew)); exact Kd.V_mono HL525_6.out (fun _ hk => ⟨⟨hk.1.1.1, ⟨hk.1.1.2, hk.2⟩⟩, hk.1.2⟩)) hg hat); have n2_ := AM (Kd.V_afterv (ok := (fun k_ => (P0_ k_ ∨ w.heap.size ≤ k_) ∧ some k_ ≠ (.slice Ao14 t530.length co14 : Value).ownBlock ∧ some k_ ≠ (.slice Ao17 t537.length co17 : Value).ownBlock)) (by (with_reducible repeat (first | apply Kd.V_alloc | apply Kd.V_drewN | apply Kd.V_drew)); exact Kd.V_mono HL525_7.out (fun _ hk => ⟨⟨hk.1.1.1, ⟨hk.1.1.2, hk.2⟩⟩, hk.1.2⟩)) hg hat); have n3_ := AM (Kd.V_afterv (ok := (fun k_ => (P0_ k_ ∨ w.heap.size ≤ k_) ∧ some k_ ≠ (.slice Ao14 t530.length co14 : Value).ownBlock ∧ some k_ ≠ (.slice Ao17 t537.length co17 : Value).ownBlock)) (by (with_reducible repeat (first | apply Kd.V_alloc | apply Kd.V_drewN | apply Kd.V_drew)); exact Kd.V_mono HL529_6.out (fun _ hk => ⟨⟨hk.1.1.1, ⟨hk.1.1.2, hk.2⟩⟩, hk.1.2⟩)) hg hat); have n4_ := AM (Kd.V_afterv (ok := (fun k_ => (P0_ k_ ∨ w.heap.size ≤ k_) ∧ some k_ ≠ (.slice Ao14 t530.length co14 : Value).ownBlock ∧ some k_ ≠ (.slice Ao17 t537.length co17 : Value).ownBlock)) (by (with_reducible repeat (first | apply Kd.V_alloc | apply Kd.V_drewN | apply Kd.V_drew)); exact Kd.V_mono HL529_7.out (fun _ hk => ⟨⟨hk.1.1.1, ⟨hk.1.1.2, hk.2⟩⟩, hk.1.2⟩)) hg hat); have n5_ := AM (Kd.N_afterv (ok := (fun k_ => (P0_ k_ ∨ w.heap.size ≤ k_) ∧ some k_ ≠ (.slice Ao17 t537.length co17 : Value).ownBlock)) (by (with_reducible repeat (first | apply Kd.N_alloc | apply Kd.N_drewN | apply Kd.N_drew)); exact Kd.N_mono HO532.out (fun _ hk => ⟨⟨hk.1.1, hk.2⟩, hk.1.2⟩)) hg hat); have n6_ := AM (Kd.V_afterv (ok := (fun k_ => (P0_ k_ ∨ w.heap.size ≤ k_) ∧ some k_ ≠ (.slice Ao14 t530.length co14 : Value).ownBlock ∧ some k_ ≠ (.slice Ao17 t537.length co17 : Value).ownBlock)) (by (with_reducible repeat (first | apply Kd.V_alloc | apply Kd.V_drewN | apply Kd.V_drew)); exact Kd.V_mono HL536_6.out (fun _ hk => ⟨⟨hk.1.1.1, ⟨hk.1.1.2, hk.2⟩⟩, hk.1.2⟩)) hg hat); have n7_ := AM (Kd.V_afterv (ok := (fun k_ => (P0_ k_ ∨ w.heap.size ≤ k_) ∧ some k_ ≠ (.slice Ao14 t530.length co14 : Value).ownBlock ∧ some k_ ≠ (.slice Ao17 t537.length co17 : Value).ownBlock)) (by (with_reducible repeat (first | apply Kd.V_alloc | apply Kd.V_drewN | apply Kd.V_drew)); exact Kd.V_mono HL536_7.out (fun _ hk => ⟨⟨hk.1.1.1, ⟨hk.1.1.2, hk.2⟩⟩, hk.1.2⟩)) hg hat); have n8_ := AM (Kd.N_afterv (ok := (fun k_ => (P0_ k_ ∨ w.heap.size ≤ k_) ∧ some k_ ≠ (.slice Ao14 t530.length co14 : Value).ownBlock)) (by (with_reducible repeat (first | apply Kd.N_alloc | apply Kd.N_drewN | apply Kd.N_drew)); exact Kd.N_mono HO539.out (fun _ hk => ⟨⟨hk.1, hk.2.1⟩, hk.2.2⟩)) hg hat); have n9_ := AM (hb); have n10_ := AM (ho); clear HO_0 HL525_6 HL525_7 HL529_6 HL529_7 HO532 HL536_6 HL536_7 HO539 HB HO535; have HO_0 := n0_; have HL525_6 := n1_; have HL525_7 := n2_; have HL529_6 := n3_; have HL529_7 := n4_; have HO532 := n5_; have HL536_6 := n6_; have HL536_7 := n7_; have HO539 := n8_; have HB := n9_; have HO542 := n10_; clear n0_ n1_ n2_ n3_ n4_ n5_ n6_ n7_ n8_ n9_ n10_ ho hb hg hat))
  go_roundg k1
  case measure => have := HK1.out; omega
  case rel => exact ⟨(y540), (wrap64 (x4_1 + 1)), (by first | rfl | (simp; done) | (simp [*]; done)), H', ⟨by have := HK1.out; omega⟩, ⟨by (with_reducible repeat (first | apply Kd.V_alloc | apply Kd.V_drewN | apply Kd.V_drew)); exact Kd.V_mono HO_0.out (fun _ hk => ⟨hk.1.1, hk.2⟩)⟩, ⟨ZRN HO542.out⟩, ⟨ZB⟩⟩)
  ·(
  rw [if_neg c10] at H
  exact absurd H (by simp)))
  ·(
  rw [if_neg c8] at H
  exact absurd H (by simp)))
  ·(
  rw [if_neg c6] at H
  exact absurd H (by simp)))
  ·(
  rw [if_neg c5] at H
  exact absurd H (by simp)))
  ·(
  rw [if_neg c4] at H
  have c4b0 := decide_eq_false c4
  clear c4
  obtain rfl := Option.some.inj H
  go_wp2
  go_ret
  exact ⟨_, ZE, by (with_reducible repeat (first | apply Kd.N_alloc | apply Kd.N_drewN | apply Kd.N_drew)); exact HO_3.out, ZB⟩))

/-! ### spec_l1Either: function 76 -/
def spec_l1Either.f (k : Nat) (a0 : Int) (a1 : Int) : Option (Int) := (spec_l1Both.f k a0 a1).bind fun t543 => (some (wrap64 ((wrap64 (a0 + a1)) - t543)))
theorem spec_l1Either.calls (k : Nat) (a0 : Int) (a1 : Int) (r : Int) (w : World) (h : spec_l1Either.f k a0 a1 = some r) :
  Calls Try.prog 76 #[.int .i64 a0, .int .i64 a1] w fun e w' => e = .returned (.int .i64 r) ∧ Drawn0 w w' := by
 have H := h
 unfold spec_l1Either.f at H
 clear h
 obtain ⟨t543, A3, H⟩ := ZOB H; try dsimp only at H
 obtain rfl := Option.some.inj H
 go_enter Try.func76, Try.ntmps76
 go_wp2_with (first | ((with_reducible refine gate_callee (f := 81) rfl ?_); refine ZGL (some 10) Try.func81 #[.int .i64 a0, .int .i64 a1] ?_; (with_reducible refine (spec_l1Both.calls k a0 a1 t543 _ A3.out).mono ?_); rintro e w' ⟨rfl, ⟨nd, rfl⟩⟩; refine ⟨_, rfl, ?_⟩))
 go_ret
 exact ⟨by first | rfl | (simp; done) | (simp [*]; done), by repeat (first | exact Drawn0.refl _ | apply Drawn0.step)⟩

end Go.Proofs.Ytaflodibibbakaa.A
