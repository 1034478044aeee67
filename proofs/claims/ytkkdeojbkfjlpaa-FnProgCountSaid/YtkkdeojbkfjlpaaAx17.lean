/- Go functions as Lean functions, and for each its contract; written by wip/tools/pr.py over the kit's print. -/
import Derived.Test.YtkkdeojbkfjlpaaAx0
namespace Go.Proofs.Ytkkdeojbkfjlpaa.A
open Go.RowKit Go.Proofs.YtkkdeojbkfjlpaaW.PrintWords Go.Proofs.YtkkdeojbkfjlpaaW.PrintLast Go.Proofs.YtkkdeojbkfjlpaaW.PrintMore
attribute [local go_sem] max2_int min2_int max_two min_two max_three min_three max_four min_four
set_option linter.unusedVariables false
set_option linter.unusedSimpArgs false
set_option maxHeartbeats 8000000
set_option maxRecDepth 100000

/-! ### spec_l2All: function 28 -/
mutual
def spec_l2All.l0 : Nat → List (S40) → List (S40) → Int → Option ((List (S40)))
 | 0, _, _, _ => none
 | k + 1, x0, x3, x4 => if x4 < (x0.length : Int) then (if 0 ≤ x4 then (if x3.length < 1466015503701 then ((some (x3 ++ [(⟨(D40 x0 x4).f0, (D40 x0 x4).f1, (⟨(D40 x0 x4).f2.f0, (D40 x0 x4).f2.f1, (D40 x0 x4).f2.f2⟩ : S38), (D40 x0 x4).f3, (D40 x0 x4).f4, (D40 x0 x4).f5⟩ : S40)] : List (S40))).bind fun y358 => ((spec_l2All.f k ((D40 x0 x4).f4)).bind fun t362 => (if y358.length + t362.length < 1466015503701 then ((some (y358 ++ t362 : List (S40))).bind fun y365 => ((spec_l2All.f k ((D40 x0 x4).f5)).bind fun t369 => (if y365.length + t369.length < 1466015503701 then (spec_l2All.l0 k x0 (y365 ++ t369) (wrap64 (x4 + 1))) else (none)))) else (none)))) else (none)) else (none)) else (some x3)
def spec_l2All.f : Nat → List (S40) → Option ((List (S40)))
 | 0, _ => none
 | k + 1, l0 => spec_l2All.l0 k l0 (([] : List (S40))) 0
end
theorem spec_l2All.calls (k : Nat) : ∀ (P0_ : Nat → Prop) (A0 : Option Addr) (c0 : Nat) (l0 : List (S40)) (r : List (S40)) (w : World) (hs0 : Kd.V k40 40 w w.heap.size (fun k_ => P0_ k_) (.slice A0 l0.length c0) l0) (h : spec_l2All.f k l0 = some r),
  Calls Try.prog 28 #[.slice A0 l0.length c0] w fun e w' => ∃ v0_ : Value, e = .returned (v0_) ∧ Kd.N k40 40 w' w.heap.size (fun k_ => (P0_ k_ ∨ w.heap.size ≤ k_)) v0_ r ∧ Below w.heap.size w w' := by
 induction k using Nat.strongRecOn with
 | _ k ih =>
 intro P0_ A0 c0 l0 r w hs0 h
 cases k with
 | zero => exact absurd h (by simp [spec_l2All.f])
 | succ k =>
 simp only [spec_l2All.f] at h
 have hu40 := Try.underlying40
 have HO0 := AM (show Kd.V k40 40 w w.heap.size (fun k_ => (P0_ k_ ∨ w.heap.size ≤ k_)) (.slice A0 l0.length c0) l0 from Kd.V_mono hs0 (fun k_ hk => .inl hk))
 have HB := AM (Below.refl w.heap.size w)
 have H : (spec_l2All.l0 k l0 (([] : List (S40))) 0) = some r := h
 clear h
 obtain ⟨y354, hy354⟩ : ∃ y_ : List (S40), y_ = (([] : List (S40))) := ⟨_, rfl⟩
 replace H : (spec_l2All.l0 k l0 y354 0) = some r := by rw [hy354]; exact H
 have Ny354 := AM hy354
 clear hy354
 have H' := AM H
 clear H
 go_enter Try.func28, Try.ntmps28
 go_wp2_with (first | ((with_reducible refine gate_dst (N := 5) rfl ?_); refine Kd.N_lit k40 _ 40 ?hg (N' := 5) ?hd (xs := ([] : List (S40))) (inner := []) (ok := (fun k_ => (P0_ k_ ∨ w.heap.size ≤ k_))) (okp := (fun k_ => (P0_ k_ ∨ w.heap.size ≤ k_))) ?hr ?hp (fun _ hk => hk) ((show ∀ k_, w.heap.size ≤ k_ → (fun k_ => (P0_ k_ ∨ w.heap.size ≤ k_)) k_ from fun k_ hk => (.inr (Nat.le_trans (below_size (ZB)) hk))) _ (Nat.le_refl _)) (Below.refl _ _) (Nat.le_refl _) (by simp) ?_; (case hd => rfl); (case hg => rfl); (case hr => first | (go_simp; done) | (go_simp; rfl)); (case hp => exact (Reps.none _ _)); intro v355 w2 ho3 hb hg_ hnew_; clear hg_ hnew_; (first | rw [← Ny354.out] at ho3 | (simp only [Int.reduceToNat] at ho3; rw [← Ny354.out] at ho3)); have HO356 := AM (Kd.N_lower ho3 (below_size (ZB))); replace HO0 := AM (Kd.V_elder' (ZRV HO0.out) (Kd.N_base ho3) hb); replace HB := ZT HB hb; clear hb ho3))
 go_loopg [3, 4] k (fun kq v3 v4 w' => ∃ (x3_1 : List (S40)) (x4_1 : Int), v4 = .int .i64 x4_1 ∧ Za (spec_l2All.l0 kq l0 x3_1 x4_1 = some r) ∧ Za (kq ≤ k) ∧ Za (Kd.V k40 40 w' w.heap.size (fun k_ => (P0_ k_ ∨ w.heap.size ≤ k_) ∧ some k_ ≠ (v3 : Value).ownBlock) (.slice A0 l0.length c0) l0) ∧ Za (Kd.N k40 40 w' w.heap.size (fun k_ => (P0_ k_ ∨ w.heap.size ≤ k_)) v3 x3_1) ∧ Za (Below w.heap.size w w'))
 case atStart => exact ⟨(y354), (0), ZSM, H', ⟨Nat.le_refl _⟩, ⟨ZRV HO0.out⟩, ⟨ZRN HO356.out⟩, ⟨ZB⟩⟩
 case round => (
 clear H'
 try clear c2
 try clear p2
 obtain ⟨x3_1, x4_1, rfl, HA, HK1, HO_0, HO_3, HB⟩ := hrel
 cases gk with
 | zero => exact absurd HA.out (by simp [spec_l2All.l0])
 | succ k1 =>
  have H := HA.out
  clear HA
  simp only [spec_l2All.l0] at H
  by_cases c4 : x4_1 < (l0.length : Int)
  ·(
  rw [if_pos c4] at H
  have c4b0 := decide_eq_true c4
  clear c4
  by_cases c5 : 0 ≤ x4_1
  ·(
  rw [if_pos c5] at H
  have c5b0 := decide_eq_true c5
  clear c5
  by_cases c6 : x3_1.length < 1466015503701
  ·(
  rw [if_pos c6] at H
  have LMc6 := AM c6
  clear c6
  obtain ⟨y358, Ny358, H⟩ := ZLET H; try dsimp only at H
  obtain ⟨t362, A7, H⟩ := ZOB H; try dsimp only at H
  by_cases c8 : y358.length + t362.length < 1466015503701
  ·(
  rw [if_pos c8] at H
  have LMc8 := AM c8
  clear c8
  obtain ⟨y365, Ny365, H⟩ := ZLET H; try dsimp only at H
  obtain ⟨t369, A9, H⟩ := ZOB H; try dsimp only at H
  by_cases c10 : y365.length + t369.length < 1466015503701
  ·(
  rw [if_pos c10] at H
  have LMc10 := AM c10
  clear c10
  obtain ⟨y372, hy372⟩ : ∃ y_ : List (S40), y_ = (y365 ++ t369) := ⟨_, rfl⟩
  replace H : (spec_l2All.l0 k1 l0 y372 (wrap64 (x4_1 + 1))) = some r := by rw [hy372]; exact H
  have Ny372 := AM hy372
  clear hy372
  have H' := AM H
  clear H
  have p357 : 0 ≤ (x4_1 : Int) := ZD
  have q357 : x4_1 < (l0.length : Int) := ZD
  obtain ⟨ad357, A357_6, c357_6, A357_7, c357_7, e357, hx357_0, hx357_1, hx357_2, hx357_3, hx357_4, hx357_5, hx357_6, hx357_7, hl357_6, hi357_6, hl357_7, hi357_7⟩ := at_T40 (Kd.V_reads' HO_0.out).2.2 x4_1 p357 q357
  cases e357
  obtain ⟨ce357, hce357, hMe357, hcc357⟩ := Kd.V_get HO_0.out z40 x4_1 p357 (by first | exact q357 | exact ZD | (have e_ := (Kd.V_reads' HO_0.out).1; omega))
  obtain ⟨ua357_6, uc357_6, ua357_7, uc357_7, rfl, ul357_6, ge357_6, ul357_7, ge357_7⟩ := k40_openF hMe357
  have hv357_6 := hcc357 6 _ rfl
  rw [add_field _ _ 6 (by omega)] at hv357_6
  replace hv357_6 := Option.some.inj (hv357_6.symm.trans hx357_6)
  injection hv357_6 with hva_ hvn_ hvc_
  rw [hva_] at ge357_6
  rw [hvc_] at ul357_6
  have HL357_6 := AM (show Kd.V k40 40 _ w.heap.size _ _ ((D40 l0 x4_1).f4) from Kd.V_mk ul357_6 ge357_6)
  clear hva_ hvn_ hvc_ ge357_6 ul357_6
  have hv357_7 := hcc357 7 _ rfl
  rw [add_field _ _ 7 (by omega)] at hv357_7
  replace hv357_7 := Option.some.inj (hv357_7.symm.trans hx357_7)
  injection hv357_7 with hva_ hvn_ hvc_
  rw [hva_] at ge357_7
  rw [hvc_] at ul357_7
  have HL357_7 := AM (show Kd.V k40 40 _ w.heap.size _ _ ((D40 l0 x4_1).f5) from Kd.V_mk ul357_7 ge357_7)
  clear hva_ hvn_ hvc_ ge357_7 ul357_7 hcc357 hce357
  have HR357_6 := AM hi357_6
  have HC357_6 := AM hl357_6
  clear hi357_6 hl357_6
  have HR357_7 := AM hi357_7
  have HC357_7 := AM hl357_7
  clear hi357_7 hl357_7
  replace p357 := eq_true p357
  replace q357 := eq_true q357
  go_wp2_with (first | ((with_reducible refine gate_builtin (b := .append) (xs := #[.tmp 12, .tmp 17]) rfl ?_); at_builtin; refine Kd.N_append k40 (w0 := w) w.heap.size rfl (.tmp 12) (.tmp 17) 24 40 (.agg #[(.int .i64 0), (.int .i64 0), (.int .i64 0), (.int .i64 0), (.int .i64 0), (.int .i64 0), (.slice none 0 0), (.slice none 0 0)]) 96 rfl Try.underlying24 info40 rfl (by decide) (by omega) u3 x3_1 (⟨(D40 l0 x4_1).f0, (D40 l0 x4_1).f1, (⟨(D40 l0 x4_1).f2.f0, (D40 l0 x4_1).f2.f1, (D40 l0 x4_1).f2.f2⟩ : S38), (D40 l0 x4_1).f3, (D40 l0 x4_1).f4, (D40 l0 x4_1).f5⟩ : S40) [.int .i64 ((D40 l0 x4_1).f0), .int .i64 ((D40 l0 x4_1).f1), .int .i64 ((D40 l0 x4_1).f2.f0), .int .i64 ((D40 l0 x4_1).f2.f1), .int .i64 ((D40 l0 x4_1).f2.f2), .int .i64 ((D40 l0 x4_1).f3), .slice A357_6 ((D40 l0 x4_1).f4).length c357_6, .slice A357_7 ((D40 l0 x4_1).f5).length c357_7] (fun k_ => (P0_ k_ ∨ w.heap.size ≤ k_)) (fun k_ => ((fun k_ => (P0_ k_ ∨ w.heap.size ≤ k_))) k_ ∧ some k_ ≠ (u3 : Value).ownBlock) rfl rfl ?aP (fun _ hk => hk) ?aF ?aO ?aB ?aS ?aL ?_; (case aP => exact (k40_mkF _ _ (⟨(D40 l0 x4_1).f0, (D40 l0 x4_1).f1, (⟨(D40 l0 x4_1).f2.f0, (D40 l0 x4_1).f2.f1, (D40 l0 x4_1).f2.f2⟩ : S38), (D40 l0 x4_1).f3, (D40 l0 x4_1).f4, (D40 l0 x4_1).f5⟩ : S40) (Kd.V_reads' (Kd.V_mono (ok' := (fun k_ => ((fun k_ => (P0_ k_ ∨ w.heap.size ≤ k_))) k_ ∧ some k_ ≠ (u3 : Value).ownBlock)) (HL357_6.out) (fun k_ hk => ⟨hk.1, hk.2⟩))).2.1 (Kd.V_F (Kd.V_mono (ok' := (fun k_ => ((fun k_ => (P0_ k_ ∨ w.heap.size ≤ k_))) k_ ∧ some k_ ≠ (u3 : Value).ownBlock)) (HL357_6.out) (fun k_ hk => ⟨hk.1, hk.2⟩))) (Kd.V_reads' (Kd.V_mono (ok' := (fun k_ => ((fun k_ => (P0_ k_ ∨ w.heap.size ≤ k_))) k_ ∧ some k_ ≠ (u3 : Value).ownBlock)) (HL357_7.out) (fun k_ hk => ⟨hk.1, hk.2⟩))).2.1 (Kd.V_F (Kd.V_mono (ok' := (fun k_ => ((fun k_ => (P0_ k_ ∨ w.heap.size ≤ k_))) k_ ∧ some k_ ≠ (u3 : Value).ownBlock)) (HL357_7.out) (fun k_ hk => ⟨hk.1, hk.2⟩))))); (case aB => exact (ZB)); (case aF => exact (fun k_ hk => (.inr (Nat.le_trans (below_size (ZB)) hk)))); (case aO => exact (ZRN HO_3.out)); (case aS => exact (below_size (ZB))); (case aL => have := LMc6.out; omega); intro v359 w11 ho hb hg hat; rw [← Ny358.out] at ho; have n0_ := AM (Kd.V_afterv (ok := (fun k_ => (P0_ k_ ∨ w.heap.size ≤ k_))) (ZRV HO_0.out) hg hat); have n1_ := AM (Kd.V_afterv (ok := (fun k_ => (P0_ k_ ∨ w.heap.size ≤ k_))) (ZRV HL357_6.out) hg hat); have n2_ := AM (Kd.V_afterv (ok := (fun k_ => (P0_ k_ ∨ w.heap.size ≤ k_))) (ZRV HL357_7.out) hg hat); have n3_ := AM (hb); have n4_ := AM (ho); clear HO_0 HL357_6 HL357_7 HB HO_3; have HO_0 := n0_; have HL357_6 := n1_; have HL357_7 := n2_; have HB := n3_; have HO360 := n4_; clear n0_ n1_ n2_ n3_ n4_ ho hb hg hat; have p361 : 0 ≤ (x4_1 : Int) := ZD; have q361 : x4_1 < (l0.length : Int) := ZD; obtain ⟨ad361, A361_6, c361_6, A361_7, c361_7, e361, hx361_0, hx361_1, hx361_2, hx361_3, hx361_4, hx361_5, hx361_6, hx361_7, hl361_6, hi361_6, hl361_7, hi361_7⟩ := at_T40 (Kd.V_reads' HO_0.out).2.2 x4_1 p361 q361; obtain rfl : ad357 = ad361 := (by injection e361); obtain ⟨ce361, hce361, hMe361, hcc361⟩ := Kd.V_get HO_0.out z40 x4_1 p361 (by first | exact q361 | exact ZD | (have e_ := (Kd.V_reads' HO_0.out).1; omega)); obtain ⟨ua361_6, uc361_6, ua361_7, uc361_7, rfl, ul361_6, ge361_6, ul361_7, ge361_7⟩ := k40_openF hMe361; have hv361_6 := hcc361 6 _ rfl; rw [add_field _ _ 6 (by omega)] at hv361_6; replace hv361_6 := Option.some.inj (hv361_6.symm.trans hx361_6); injection hv361_6 with hva_ hvn_ hvc_; rw [hva_] at ge361_6; rw [hvc_] at ul361_6; have HL361_6 := AM (show Kd.V k40 40 _ w.heap.size _ _ ((D40 l0 x4_1).f4) from Kd.V_mk ul361_6 ge361_6); clear hva_ hvn_ hvc_ ge361_6 ul361_6; have hv361_7 := hcc361 7 _ rfl; rw [add_field _ _ 7 (by omega)] at hv361_7; replace hv361_7 := Option.some.inj (hv361_7.symm.trans hx361_7); injection hv361_7 with hva_ hvn_ hvc_; rw [hva_] at ge361_7; rw [hvc_] at ul361_7; have HL361_7 := AM (show Kd.V k40 40 _ w.heap.size _ _ ((D40 l0 x4_1).f5) from Kd.V_mk ul361_7 ge361_7); clear hva_ hvn_ hvc_ ge361_7 ul361_7 hcc361 hce361; have HR361_6 := AM hi361_6; have HC361_6 := AM hl361_6; clear hi361_6 hl361_6; have HR361_7 := AM hi361_7; have HC361_7 := AM hl361_7; clear hi361_7 hl361_7; replace p361 := eq_true p361; replace q361 := eq_true q361) | ((with_reducible refine gate_callee (f := 28) rfl ?_); refine ZGL (some 25) Try.func28 #[.slice A361_6 ((D40 l0 x4_1).f4).length c361_6] ?_; (with_reducible refine (ih k1 (by have := HK1.out; omega) (fun k_ => ((P0_ k_ ∨ w.heap.size ≤ k_) ∧ some k_ ≠ (v359 : Value).ownBlock)) _ _ ((D40 l0 x4_1).f4) t362 _ ?side1 A7.out).mono ?_); (case side1 => exact HL361_6.out); rintro e w12 ⟨v363, rfl, ho0, hb⟩; refine ZV1 ?_; have HO364 := AM (Kd.N_lower (Kd.N_mono (ok' := fun k_ => (P0_ k_ ∨ w.heap.size ≤ k_) ∧ some k_ ≠ (v359 : Value).ownBlock) ho0 (fun k_ hk_ => ⟨Or.elim hk_ (fun hs_ => hs_.1) (fun hn_ => (.inr (Nat.le_trans (below_size (ZB)) hn_))), Or.elim hk_ (fun hs_ => hs_.2) (fun hn_ => (Kd.fresh' (Kd.N_lt (ZRN HO360.out)) k_ hn_))⟩)) (below_size (ZB))); replace HO_0 := AM (Kd.V_elder' (ZRV HO_0.out) (Kd.N_base ho0) hb); replace HL357_6 := AM (Kd.V_elder' (ZRV HL357_6.out) (Kd.N_base ho0) hb); replace HL357_7 := AM (Kd.V_elder' (ZRV HL357_7.out) (Kd.N_base ho0) hb); replace HO360 := AM (Kd.N_elder' (ZRN HO360.out) (Kd.N_base ho0) hb); replace HL361_6 := AM (Kd.V_elder' (ZRV HL361_6.out) (Kd.N_base ho0) hb); replace HL361_7 := AM (Kd.V_elder' (ZRV HL361_7.out) (Kd.N_base ho0) hb); replace HR361_6 := AM (Kd.C_below (ZQ HR361_6.out) hb); replace HR361_7 := AM (Kd.C_below (ZQ HR361_7.out) hb); replace HB := ZT HB hb; clear hb; (try clear ho0); obtain ⟨Ao14, co14, eo14⟩ := Kd.N_slice HO364.out; subst eo14) | ((with_reducible refine gate_builtin (b := .append) (xs := #[.tmp 19, .tmp 25]) rfl ?_); at_builtin; refine Kd.N_append_rows k40 (w0 := w) w.heap.size rfl (.tmp 19) (.tmp 25) 24 40 (.agg #[(.int .i64 0), (.int .i64 0), (.int .i64 0), (.int .i64 0), (.int .i64 0), (.int .i64 0), (.slice none 0 0), (.slice none 0 0)]) 96 rfl Try.underlying24 info40 rfl (by decide) (by omega) v359 y358 t362 _ _ _ (fun k_ => (P0_ k_ ∨ w.heap.size ≤ k_)) (fun k_ => ((fun k_ => (P0_ k_ ∨ w.heap.size ≤ k_))) k_ ∧ some k_ ≠ (v359 : Value).ownBlock) rfl rfl ?aO ?aR (fun _ hk => hk) ?aF ?aB ?aS ?aL ?_; (case aR => exact (by skip; exact Kd.N_F (Kd.N_mono (ok' := (fun k_ => ((fun k_ => (P0_ k_ ∨ w.heap.size ≤ k_))) k_ ∧ some k_ ≠ (v359 : Value).ownBlock)) (HO364.out) (fun k_ hk => ⟨hk.1, hk.2⟩)))); (case aB => exact (ZB)); (case aF => exact (fun k_ hk => (.inr (Nat.le_trans (below_size (ZB)) hk)))); (case aO => exact (ZRN (Kd.N_mono HO360.out (fun _ hk => hk.1)))); (case aS => exact (below_size (ZB))); (case aL => have := LMc8.out; omega); intro v366 w13 ho hb hg hat; rw [← Ny365.out] at ho; have n0_ := AM (Kd.V_afterv (ok := (fun k_ => (P0_ k_ ∨ w.heap.size ≤ k_) ∧ some k_ ≠ (.slice Ao14 t362.length co14 : Value).ownBlock)) (ZVm HO_0.out (fun _ hk => ⟨⟨hk.1.1, hk.2⟩, hk.1.2⟩)) hg hat); have n1_ := AM (Kd.V_afterv (ok := (fun k_ => (P0_ k_ ∨ w.heap.size ≤ k_) ∧ some k_ ≠ (.slice Ao14 t362.length co14 : Value).ownBlock)) (ZVm HL357_6.out (fun _ hk => ⟨⟨hk.1.1, hk.2⟩, hk.1.2⟩)) hg hat); have n2_ := AM (Kd.V_afterv (ok := (fun k_ => (P0_ k_ ∨ w.heap.size ≤ k_) ∧ some k_ ≠ (.slice Ao14 t362.length co14 : Value).ownBlock)) (ZVm HL357_7.out (fun _ hk => ⟨⟨hk.1.1, hk.2⟩, hk.1.2⟩)) hg hat); have n3_ := AM (Kd.V_afterv (ok := (fun k_ => (P0_ k_ ∨ w.heap.size ≤ k_) ∧ some k_ ≠ (.slice Ao14 t362.length co14 : Value).ownBlock)) (ZVm HL361_6.out (fun _ hk => ⟨⟨hk.1.1, hk.2⟩, hk.1.2⟩)) hg hat); have n4_ := AM (Kd.V_afterv (ok := (fun k_ => (P0_ k_ ∨ w.heap.size ≤ k_) ∧ some k_ ≠ (.slice Ao14 t362.length co14 : Value).ownBlock)) (ZVm HL361_7.out (fun _ hk => ⟨⟨hk.1.1, hk.2⟩, hk.1.2⟩)) hg hat); have n5_ := AM (Kd.N_afterv (ok := (fun k_ => (P0_ k_ ∨ w.heap.size ≤ k_))) (ZRN HO364.out) hg hat); have n6_ := AM (hb); have n7_ := AM (ho); clear HO_0 HL357_6 HL357_7 HL361_6 HL361_7 HO364 HB HO360; have HO_0 := n0_; have HL357_6 := n1_; have HL357_7 := n2_; have HL361_6 := n3_; have HL361_7 := n4_; have HO364 := n5_; have HB := n6_; have HO367 := n7_; clear n0_ n1_ n2_ n3_ n4_ n5_ n6_ n7_ ho hb hg hat; have p368 : 0 ≤ (x4_1 : Int) := ZD; have q368 : x4_1 < (l0.length : Int) := ZD; obtain ⟨ad368, A368_6, c368_6, A368_7, c368_7, e368, hx368_0, hx368_1, hx368_2, hx368_3, hx368_4, hx368_5, hx368_6, hx368_7, hl368_6, hi368_6, hl368_7, hi368_7⟩ := at_T40 (Kd.V_reads' HO_0.out).2.2 x4_1 p368 q368; obtain rfl : ad357 = ad368 := (by injection e368); obtain ⟨ce368, hce368, hMe368, hcc368⟩ := Kd.V_get HO_0.out z40 x4_1 p368 (by first | exact q368 | exact ZD | (have e_ := (Kd.V_reads' HO_0.out).1; omega)); obtain ⟨ua368_6, uc368_6, ua368_7, uc368_7, rfl, ul368_6, ge368_6, ul368_7, ge368_7⟩ := k40_openF hMe368; have hv368_6 := hcc368 6 _ rfl; rw [add_field _ _ 6 (by omega)] at hv368_6; replace hv368_6 := Option.some.inj (hv368_6.symm.trans hx368_6); injection hv368_6 with hva_ hvn_ hvc_; rw [hva_] at ge368_6; rw [hvc_] at ul368_6; have HL368_6 := AM (show Kd.V k40 40 _ w.heap.size _ _ ((D40 l0 x4_1).f4) from Kd.V_mk ul368_6 ge368_6); clear hva_ hvn_ hvc_ ge368_6 ul368_6; have hv368_7 := hcc368 7 _ rfl; rw [add_field _ _ 7 (by omega)] at hv368_7; replace hv368_7 := Option.some.inj (hv368_7.symm.trans hx368_7); injection hv368_7 with hva_ hvn_ hvc_; rw [hva_] at ge368_7; rw [hvc_] at ul368_7; have HL368_7 := AM (show Kd.V k40 40 _ w.heap.size _ _ ((D40 l0 x4_1).f5) from Kd.V_mk ul368_7 ge368_7); clear hva_ hvn_ hvc_ ge368_7 ul368_7 hcc368 hce368; have HR368_6 := AM hi368_6; have HC368_6 := AM hl368_6; clear hi368_6 hl368_6; have HR368_7 := AM hi368_7; have HC368_7 := AM hl368_7; clear hi368_7 hl368_7; replace p368 := eq_true p368; replace q368 := eq_true q368) | ((with_reducible refine gate_callee (f := 28) rfl ?_); refine ZGL (some 33) Try.func28 #[.slice A368_7 ((D40 l0 x4_1).f5).length c368_7] ?_; (with_reducible refine (ih k1 (by have := HK1.out; omega) (fun k_ => (((P0_ k_ ∨ w.heap.size ≤ k_) ∧ some k_ ≠ (.slice Ao14 t362.length co14 : Value).ownBlock) ∧ some k_ ≠ (v366 : Value).ownBlock)) _ _ ((D40 l0 x4_1).f5) t369 _ ?side1 A9.out).mono ?_); (case side1 => exact HL368_7.out); rintro e w15 ⟨v370, rfl, ho0, hb⟩; refine ZV1 ?_; have HO371 := AM (Kd.N_lower (Kd.N_mono (ok' := fun k_ => (P0_ k_ ∨ w.heap.size ≤ k_) ∧ some k_ ≠ (.slice Ao14 t362.length co14 : Value).ownBlock ∧ some k_ ≠ (v366 : Value).ownBlock) ho0 (fun k_ hk_ => ⟨Or.elim hk_ (fun hs_ => hs_.1.1) (fun hn_ => (.inr (Nat.le_trans (below_size (ZB)) hn_))), Or.elim hk_ (fun hs_ => hs_.1.2) (fun hn_ => (Kd.fresh' (Kd.N_lt (ZRN HO364.out)) k_ hn_)), Or.elim hk_ (fun hs_ => hs_.2) (fun hn_ => (Kd.fresh' (Kd.N_lt (ZRN HO367.out)) k_ hn_))⟩)) (below_size (ZB))); replace HO_0 := AM (Kd.V_elder' (ZRV HO_0.out) (Kd.N_base ho0) hb); replace HL357_6 := AM (Kd.V_elder' (ZRV HL357_6.out) (Kd.N_base ho0) hb); replace HL357_7 := AM (Kd.V_elder' (ZRV HL357_7.out) (Kd.N_base ho0) hb); replace HL361_6 := AM (Kd.V_elder' (ZRV HL361_6.out) (Kd.N_base ho0) hb); replace HL361_7 := AM (Kd.V_elder' (ZRV HL361_7.out) (Kd.N_base ho0) hb); replace HO364 := AM (Kd.N_elder' (ZRN HO364.out) (Kd.N_base ho0) hb); replace HO367 := AM (Kd.N_elder' (ZRN HO367.out) (Kd.N_base ho0) hb); replace HL368_6 := AM (Kd.V_elder' (ZRV HL368_6.out) (Kd.N_base ho0) hb); replace HL368_7 := AM (Kd.V_elder' (ZRV HL368_7.out) (Kd.N_base ho0) hb); replace HR368_6 := AM (Kd.C_below (ZQ HR368_6.out) hb); replace HR368_7 := AM (Kd.C_below (ZQ HR368_7.out) hb); replace HB := ZT HB hb; clear hb; (try clear ho0); obtain ⟨Ao17, co17, eo17⟩ := Kd.N_slice HO371.out; subst eo17) | ((with_reducible refine gate_builtin (b := .append) (xs := #[.tmp 27, .tmp 33]) rfl ?_); at_builtin; refine Kd.N_append_rows k40 (w0 := w) w.heap.size rfl (.tmp 27) (.tmp 33) 24 40 (.agg #[(.int .i64 0), (.int .i64 0), (.int .i64 0), (.int .i64 0), (.int .i64 0), (.int .i64 0), (.slice none 0 0), (.slice none 0 0)]) 96 rfl Try.underlying24 info40 rfl (by decide) (by omega) v366 y365 t369 _ _ _ (fun k_ => (P0_ k_ ∨ w.heap.size ≤ k_)) (fun k_ => ((fun k_ => (P0_ k_ ∨ w.heap.size ≤ k_))) k_ ∧ some k_ ≠ (v366 : Value).ownBlock) rfl rfl ?aO ?aR (fun _ hk => hk) ?aF ?aB ?aS ?aL ?_; (case aR => exact (by skip; exact Kd.N_F (Kd.N_mono (ok' := (fun k_ => ((fun k_ => (P0_ k_ ∨ w.heap.size ≤ k_))) k_ ∧ some k_ ≠ (v366 : Value).ownBlock)) (HO371.out) (fun k_ hk => ⟨hk.1, hk.2.2⟩)))); (case aB => exact (ZB)); (case aF => exact (fun k_ hk => (.inr (Nat.le_trans (below_size (ZB)) hk)))); (case aO => exact (ZRN (Kd.N_mono HO367.out (fun _ hk => hk.1)))); (case aS => exact (below_size (ZB))); (case aL => have := LMc10.out; omega); intro v373 w16 ho hb hg hat; rw [← Ny372.out] at ho; have n0_ := AM (Kd.V_afterv (ok := (fun k_ => (P0_ k_ ∨ w.heap.size ≤ k_) ∧ some k_ ≠ (.slice Ao14 t362.length co14 : Value).ownBlock ∧ some k_ ≠ (.slice Ao17 t369.length co17 : Value).ownBlock)) (ZVm HO_0.out (fun _ hk => ⟨⟨hk.1.1.1, ⟨hk.1.1.2, hk.2⟩⟩, hk.1.2⟩)) hg hat); have n1_ := AM (Kd.V_afterv (ok := (fun k_ => (P0_ k_ ∨ w.heap.size ≤ k_) ∧ some k_ ≠ (.slice Ao14 t362.length co14 : Value).ownBlock ∧ some k_ ≠ (.slice Ao17 t369.length co17 : Value).ownBlock)) (ZVm HL357_6.out (fun _ hk => ⟨⟨hk.1.1.1, ⟨hk.1.1.2, hk.2⟩⟩, hk.1.2⟩)) hg hat); have n2_ := AM (Kd.V_afterv (ok := (fun k_ => (P0_ k_ ∨ w.heap.size ≤ k_) ∧ some k_ ≠ (.slice Ao14 t362.length co14 : Value).ownBlock ∧ some k_ ≠ (.slice Ao17 t369.length co17 : Value).ownBlock)) (ZVm HL357_7.out (fun _ hk => ⟨⟨hk.1.1.1, ⟨hk.1.1.2, hk.2⟩⟩, hk.1.2⟩)) hg hat); have n3_ := AM (Kd.V_afterv (ok := (fun k_ => (P0_ k_ ∨ w.heap.size ≤ k_) ∧ some k_ ≠ (.slice Ao14 t362.length co14 : Value).ownBlock ∧ some k_ ≠ (.slice Ao17 t369.length co17 : Value).ownBlock)) (ZVm HL361_6.out (fun _ hk => ⟨⟨hk.1.1.1, ⟨hk.1.1.2, hk.2⟩⟩, hk.1.2⟩)) hg hat); have n4_ := AM (Kd.V_afterv (ok := (fun k_ => (P0_ k_ ∨ w.heap.size ≤ k_) ∧ some k_ ≠ (.slice Ao14 t362.length co14 : Value).ownBlock ∧ some k_ ≠ (.slice Ao17 t369.length co17 : Value).ownBlock)) (ZVm HL361_7.out (fun _ hk => ⟨⟨hk.1.1.1, ⟨hk.1.1.2, hk.2⟩⟩, hk.1.2⟩)) hg hat); have n5_ := AM (Kd.N_afterv (ok := (fun k_ => (P0_ k_ ∨ w.heap.size ≤ k_) ∧ some k_ ≠ (.slice Ao17 t369.length co17 : Value).ownBlock)) (ZNm HO364.out (fun _ hk => ⟨⟨hk.1.1, hk.2⟩, hk.1.2⟩)) hg hat); have n6_ := AM (Kd.V_afterv (ok := (fun k_ => (P0_ k_ ∨ w.heap.size ≤ k_) ∧ some k_ ≠ (.slice Ao14 t362.length co14 : Value).ownBlock ∧ some k_ ≠ (.slice Ao17 t369.length co17 : Value).ownBlock)) (ZVm HL368_6.out (fun _ hk => ⟨⟨hk.1.1.1, ⟨hk.1.1.2, hk.2⟩⟩, hk.1.2⟩)) hg hat); have n7_ := AM (Kd.V_afterv (ok := (fun k_ => (P0_ k_ ∨ w.heap.size ≤ k_) ∧ some k_ ≠ (.slice Ao14 t362.length co14 : Value).ownBlock ∧ some k_ ≠ (.slice Ao17 t369.length co17 : Value).ownBlock)) (ZVm HL368_7.out (fun _ hk => ⟨⟨hk.1.1.1, ⟨hk.1.1.2, hk.2⟩⟩, hk.1.2⟩)) hg hat); have n8_ := AM (Kd.N_afterv (ok := (fun k_ => (P0_ k_ ∨ w.heap.size ≤ k_) ∧ some k_ ≠ (.slice Ao14 t362.length co14 : Value).ownBlock)) (ZNm HO371.out (fun _ hk => ⟨⟨hk.1, hk.2.1⟩, hk.2.2⟩)) hg hat); have n9_ := AM (hb); have n10_ := AM (ho); clear HO_0 HL357_6 HL357_7 HL361_6 HL361_7 HO364 HL368_6 HL368_7 HO371 HB HO367; have HO_0 := n0_; have HL357_6 := n1_; have HL357_7 := n2_; have HL361_6 := n3_; have HL361_7 := n4_; have HO364 := n5_; have HL368_6 := n6_; have HL368_7 := n7_; have HO371 := n8_; have HB := n9_; have HO374 := n10_; clear n0_ n1_ n2_ n3_ n4_ n5_ n6_ n7_ n8_ n9_ n10_ ho hb hg hat))
  go_roundg k1
  case measure => have := HK1.out; omega
  case rel => exact ⟨(y372), (wrap64 (x4_1 + 1)), ZSM, H', ⟨by have := HK1.out; omega⟩, ⟨ZVm HO_0.out (fun _ hk => ⟨hk.1.1, hk.2⟩)⟩, ⟨ZRN HO374.out⟩, ⟨ZB⟩⟩)
  ·(
  rw [if_neg c10] at H
  exact absurd H (by simp)))
  ·(
  rw [if_neg c8] at H
  exact absurd H (by simp)))
  ·(
  rw [if_neg c6] at H
  exact absurd H (by simp)))
  ·(
  rw [if_neg c5] at H
  exact absurd H (by simp)))
  ·(
  rw [if_neg c4] at H
  have c4b0 := decide_eq_false c4
  clear c4
  obtain rfl := Option.some.inj H
  go_wp2
  go_ret
  exact ⟨_, ZE, by (with_reducible repeat (first | apply Kd.N_alloc | apply Kd.N_drewN | apply Kd.N_drew)); exact HO_3.out, ZB⟩))

/-! ### spec_l1Has: function 75 -/
def spec_l1Has.f (a0 : Int) (a1 : Int) : Option (Bool) := if a1 ≥ 0 then (if a1 < 3 then (if 0 ≤ a1 then (some ((Int.tmod (shr .i64 a0 a1) 2) == 1)) else (none)) else (some false)) else (some false)
theorem spec_l1Has.calls (a0 : Int) (a1 : Int) (r : Bool) (w : World) (h : spec_l1Has.f a0 a1 = some r) :
  Calls Try.prog 75 #[.int .i64 a0, .int .i64 a1] w fun e w' => e = .returned (.bool r) ∧ Drawn0 w w' := by
 have H := h
 unfold spec_l1Has.f at H
 clear h
 by_cases c3 : a1 ≥ 0
 ·(
 rw [if_pos c3] at H
 have c3b0 := decide_eq_true c3
 clear c3
 by_cases c4 : a1 < 3
 ·(
 rw [if_pos c4] at H
 have c4b0 := decide_eq_true c4
 clear c4
 by_cases c5 : 0 ≤ a1
 ·(
 rw [if_pos c5] at H
 have c5b0 := eq_true c5
 have c5b1 := decide_eq_true c5
 clear c5
 obtain ⟨ji6, hji6⟩ : ∃ j_ : Int, (shr .i64 a0 a1) = j_ := ⟨_, rfl⟩
 replace H : (some ((Int.tmod (ji6) 2) == 1)) = some r := by first | (rw [hji6] at H; exact H) | (simp only [hji6] at H ⊢; exact H)
 have hji6_ : (a0 / 2 ^ min a1.toNat 64) = ji6 := hji6
 have hji6z : a1 ≤ 64 → (a0 / 2 ^ a1.toNat) = ji6 := shr_small hji6
 obtain rfl := Option.some.inj H
 go_enter Try.func75, Try.ntmps75
 go_wp2
 go_ret
 exact ⟨by first | rfl | (simp; done) | (simp only [← hji6] <;> (first | rfl | simp)) | (simp [*]; done), by repeat (first | exact Drawn0.refl _ | apply Drawn0.step)⟩)
 ·(
 rw [if_neg c5] at H
 exact absurd H (by simp)))
 ·(
 rw [if_neg c4] at H
 have c4b0 := decide_eq_false c4
 clear c4
 obtain rfl := Option.some.inj H
 go_enter Try.func75, Try.ntmps75
 go_wp2
 go_ret
 exact ⟨by first | rfl | (simp; done) | (simp [*]; done), by repeat (first | exact Drawn0.refl _ | apply Drawn0.step)⟩))
 ·(
 rw [if_neg c3] at H
 have c3b0 := decide_eq_false c3
 clear c3
 obtain rfl := Option.some.inj H
 go_enter Try.func75, Try.ntmps75
 go_wp2
 go_ret
 exact ⟨by first | rfl | (simp; done) | (simp [*]; done), by repeat (first | exact Drawn0.refl _ | apply Drawn0.step)⟩)

/-! ### spec_l1Both: function 69 -/
def spec_l1Both.l0 : Nat → Int → Int → Int → Int → Option (Int)
 | 0, _, _, _, _ => none
 | k + 1, x0, x1, x5, x6 => if x6 < 3 then ((spec_l1Has.f x0 x6).bind fun t375 => (if t375 = true then ((spec_l1Has.f x1 x6).bind fun t376 => (if t376 = true then (if 0 ≤ x6 then (spec_l1Both.l0 k x0 x1 (wrap64 (x5 + (shl .i64 1 x6))) (wrap64 (x6 + 1))) else (none)) else (spec_l1Both.l0 k x0 x1 x5 (wrap64 (x6 + 1))))) else (spec_l1Both.l0 k x0 x1 x5 (wrap64 (x6 + 1))))) else (some x5)
def spec_l1Both.f (k : Nat) (a0 : Int) (a1 : Int) : Option (Int) := spec_l1Both.l0 k a0 a1 0 0
theorem spec_l1Both.mono_l : ∀ k, (∀ y0 y1 y2 y3, LeO (spec_l1Both.l0 k y0 y1 y2 y3) (spec_l1Both.l0 (k + 1) y0 y1 y2 y3))
 | 0 => fun _ _ _ _ r h => by simp [spec_l1Both.l0] at h
 | k + 1 => by
  have ih0 := spec_l1Both.mono_l k
  ·intro y0 y1 y2 y3
   unfold spec_l1Both.l0
   repeat' first
   | (with_reducible exact ih0 _ _ _ _)
   | (with_reducible exact LeO.refl _)
   | (with_reducible exact LeO.none _)
   | (with_reducible refine LeO.ite ?_ ?_)
   | (with_reducible refine LeO.bind ?_ (fun _ => ?_))
   | exact ih0 _ _ _ _
   | exact LeO.none _
   | refine LeO.ite ?_ ?_
   | refine LeO.bind ?_ (fun _ => ?_)
theorem spec_l1Both.mono : ∀ a0 a1 k, LeO (spec_l1Both.f k a0 a1) (spec_l1Both.f (k + 1) a0 a1) := by
 intro a0 a1 k
 have ih0 := spec_l1Both.mono_l k
 unfold spec_l1Both.f
 repeat' first
   | (with_reducible exact ih0 _ _ _ _)
   | (with_reducible exact LeO.refl _)
   | (with_reducible exact LeO.none _)
   | (with_reducible refine LeO.ite ?_ ?_)
   | (with_reducible refine LeO.bind ?_ (fun _ => ?_))
   | exact ih0 _ _ _ _
   | exact LeO.none _
   | refine LeO.ite ?_ ?_
   | refine LeO.bind ?_ (fun _ => ?_)
theorem spec_l1Both.calls (k : Nat) (a0 : Int) (a1 : Int) (r : Int) (w : World) (h : spec_l1Both.f k a0 a1 = some r) :
  Calls Try.prog 69 #[.int .i64 a0, .int .i64 a1] w fun e w' => e = .returned (.int .i64 r) ∧ Drawn0 w w' := by
 have H := h
 unfold spec_l1Both.f at H
 clear h
 have H' := AM H
 clear H
 go_enter Try.func69, Try.ntmps69
 go_wp2
 go_loopg [5, 6] k (fun kq v5 v6 w' => ∃ (x5_1 : Int) (x6_1 : Int), v5 = .int .i64 x5_1 ∧ v6 = .int .i64 x6_1 ∧ Za (spec_l1Both.l0 kq a0 a1 x5_1 x6_1 = some r) ∧ Za (kq ≤ k) ∧ Drawn0 w w')
 case atStart => exact ⟨(0), (0), ZSM, ZSM, H', ⟨Nat.le_refl _⟩, by repeat (first | exact Drawn0.refl _ | apply Drawn0.step)⟩
 case round => (
 clear H'
 try clear p2
 obtain ⟨x5_1, x6_1, rfl, rfl, HA, HK1, ⟨m1, rfl⟩⟩ := hrel
 cases gk with
 | zero => exact absurd HA.out (by simp [spec_l1Both.l0])
 | succ k1 =>
  have H := HA.out
  clear HA
  simp only [spec_l1Both.l0] at H
  by_cases c3 : x6_1 < 3
  ·(
  rw [if_pos c3] at H
  have c3b0 := decide_eq_true c3
  clear c3
  obtain ⟨t375, A4, H⟩ := ZOB H; try dsimp only at H
  by_cases c5 : t375 = true
  ·(
  subst c5
  have H1 := H; rw [if_pos rfl] at H1
  clear H
  have H := H1
  clear H1
  obtain ⟨t376, A6, H⟩ := ZOB H; try dsimp only at H
  by_cases c7 : t376 = true
  ·(
  subst c7
  have H1 := H; rw [if_pos rfl] at H1
  clear H
  have H := H1
  clear H1
  by_cases c8 : 0 ≤ x6_1
  ·(
  rw [if_pos c8] at H
  have c8b0 := eq_true c8
  have c8b1 := decide_eq_true c8
  clear c8
  obtain ⟨ji9, hji9⟩ : ∃ j_ : Int, (shl .i64 1 x6_1) = j_ := ⟨_, rfl⟩
  replace H : (spec_l1Both.l0 k1 a0 a1 (wrap64 (x5_1 + (ji9))) (wrap64 (x6_1 + 1))) = some r := by first | (rw [hji9] at H; exact H) | (simp only [hji9] at H ⊢; exact H)
  (try rw [hji9] at A4)
  (try rw [hji9] at A6)
  have hji9_ : (IntKind.i64.wrap (1 * 2 ^ min x6_1.toNat 64)) = ji9 := hji9
  have hji9z : x6_1 ≤ 64 → (IntKind.i64.wrap (1 * 2 ^ x6_1.toNat)) = ji9 := shl_small hji9
  have hji9u : (IntKind.i64.wrap (2 ^ min x6_1.toNat 64)) = ji9 := by have h_ := hji9_; rw [Int.one_mul] at h_; exact h_
  have hji9v : x6_1 ≤ 64 → (IntKind.i64.wrap (2 ^ x6_1.toNat)) = ji9 := fun hle_ => by have h_ := hji9z hle_; rw [Int.one_mul] at h_; exact h_
  have hji9y : (wrap64 (1 * 2 ^ min x6_1.toNat 64)) = ji9 := (i64_w _).symm.trans hji9_
  have hji9x : x6_1 ≤ 64 → (wrap64 (1 * 2 ^ x6_1.toNat)) = ji9 := fun h_ => (i64_w _).symm.trans (hji9z h_)
  have H' := AM H
  clear H
  go_wp2_with (first | ((with_reducible refine gate_callee (f := 75) rfl ?_); refine ZGL (some 13) Try.func75 #[.int .i64 a0, .int .i64 x6_1] ?_; (with_reducible refine (spec_l1Has.calls a0 x6_1 true _ A4.out).mono ?_); rintro e w' ⟨rfl, ⟨nd, rfl⟩⟩; refine ZV1 ?_) | (go_at_call 75; (with_reducible refine (spec_l1Has.calls a1 x6_1 true _ A6.out).mono ?_); rintro e w' ⟨rfl, ⟨nd, rfl⟩⟩))
  go_roundg k1
  case measure => have := HK1.out; omega
  case rel => exact ⟨(wrap64 (x5_1 + (ji9))), (wrap64 (x6_1 + 1)), (by first | rfl | (simp; done) | (simp only [← hji9] <;> (first | rfl | simp)) | (simp [*]; done)), ZSM, H', ⟨by have := HK1.out; omega⟩, by repeat (first | exact Drawn0.refl _ | apply Drawn0.step)⟩)
  ·(
  rw [if_neg c8] at H
  exact absurd H (by simp)))
  ·(
  replace c7 := Bool.eq_false_iff.mpr c7
  subst c7
  have H1 := H; rw [if_neg ZFT] at H1
  clear H
  have H := H1
  clear H1
  have H' := AM H
  clear H
  go_wp2_with (first | ((with_reducible refine gate_callee (f := 75) rfl ?_); refine ZGL (some 13) Try.func75 #[.int .i64 a0, .int .i64 x6_1] ?_; (with_reducible refine (spec_l1Has.calls a0 x6_1 true _ A4.out).mono ?_); rintro e w' ⟨rfl, ⟨nd, rfl⟩⟩; refine ZV1 ?_) | (go_at_call 75; (with_reducible refine (spec_l1Has.calls a1 x6_1 false _ A6.out).mono ?_); rintro e w' ⟨rfl, ⟨nd, rfl⟩⟩))
  go_roundg k1
  case measure => have := HK1.out; omega
  case rel => exact ⟨(x5_1), (wrap64 (x6_1 + 1)), ZSM, ZSM, H', ⟨by have := HK1.out; omega⟩, by repeat (first | exact Drawn0.refl _ | apply Drawn0.step)⟩))
  ·(
  replace c5 := Bool.eq_false_iff.mpr c5
  subst c5
  have H1 := H; rw [if_neg ZFT] at H1
  clear H
  have H := H1
  clear H1
  have H' := AM H
  clear H
  go_wp2_with (first | ((with_reducible refine gate_callee (f := 75) rfl ?_); refine ZGL (some 13) Try.func75 #[.int .i64 a0, .int .i64 x6_1] ?_; (with_reducible refine (spec_l1Has.calls a0 x6_1 false _ A4.out).mono ?_); rintro e w' ⟨rfl, ⟨nd, rfl⟩⟩; refine ZV1 ?_))
  go_roundg k1
  case measure => have := HK1.out; omega
  case rel => exact ⟨(x5_1), (wrap64 (x6_1 + 1)), ZSM, ZSM, H', ⟨by have := HK1.out; omega⟩, by repeat (first | exact Drawn0.refl _ | apply Drawn0.step)⟩))
  ·(
  rw [if_neg c3] at H
  have c3b0 := decide_eq_false c3
  clear c3
  obtain rfl := Option.some.inj H
  go_wp2
  go_ret
  exact ⟨by first | rfl | (simp; done) | (simp [*]; done), by repeat (first | exact Drawn0.refl _ | apply Drawn0.step)⟩))

end Go.Proofs.Ytkkdeojbkfjlpaa.A
