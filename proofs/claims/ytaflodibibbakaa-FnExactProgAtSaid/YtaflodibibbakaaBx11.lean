/- Go functions as Lean functions, and for each its contract; written by wip/tools/pr.py over the kit's print. -/
import Derived.Test.YtaflodibibbakaaBx0
import Derived.Test.YtaflodibibbakaaBx8
import Derived.Test.YtaflodibibbakaaBx10
namespace Go.Proofs.Ytaflodibibbakaa.B
open Go.RowKit Go.Proofs.YtaflodibibbakaaW.PrintWords Go.Proofs.YtaflodibibbakaaW.PrintLast Go.Proofs.YtaflodibibbakaaW.PrintMore
attribute [local go_sem] max2_int min2_int max_two min_two max_three min_three max_four min_four
set_option linter.unusedVariables false
set_option linter.unusedSimpArgs false
set_option maxHeartbeats 8000000
set_option maxRecDepth 100000

/-! ### spec_l2Copy: function 56 -/
mutual
def spec_l2Copy.l0 : Nat → List (S50) → List (S50) → Int → Option ((List (S50)))
 | 0, _, _, _ => none
 | k + 1, x0, x3, x4 => if x4 < (x0.length : Int) then (if 0 ≤ x4 then ((spec_l2Copy.f k ((rd_T50 x0 x4).f4)).bind fun t243 => ((spec_l2Copy.f k ((rd_T50 x0 x4).f5)).bind fun t246 => (if x3.length < 1466015503701 then (spec_l2Copy.l0 k x0 (x3 ++ [(⟨(rd_T50 x0 x4).f0, (rd_T50 x0 x4).f1, (⟨(rd_T50 x0 x4).f2.f0, (rd_T50 x0 x4).f2.f1, (rd_T50 x0 x4).f2.f2⟩ : S48), (rd_T50 x0 x4).f3, t243, t246⟩ : S50)]) (wrap64 (x4 + 1))) else (none)))) else (none)) else (some x3)
def spec_l2Copy.f : Nat → List (S50) → Option ((List (S50)))
 | 0, _ => none
 | k + 1, l0 => spec_l2Copy.l0 k l0 (([] : List (S50))) 0
end
theorem spec_l2Copy.calls (k : Nat) : ∀ (A0 : Option Addr) (c0 : Nat) (l0 : List (S50)) (r : List (S50)) (w : World) (hr0 : Kd.C k50 w A0 l0.length l0) (hc0 : l0.length ≤ c0) (h : spec_l2Copy.f k l0 = some r),
  Calls Try.prog 56 #[.slice A0 l0.length c0] w fun e w' => ∃ v0_ : Value, e = .returned (v0_) ∧ Kd.R k50 50 w' w.heap.size (fun _ => True) v0_ r ∧ Below w.heap.size w w' := by
 induction k using Nat.strongRecOn with
 | _ k ih =>
 intro A0 c0 l0 r w hr0 hc0 h
 cases k with
 | zero => exact absurd h (by simp [spec_l2Copy.f])
 | succ k =>
 simp only [spec_l2Copy.f] at h
 have hu50 := Try.underlying50
 have HR0 := AM hr0
 have HC0 := AM hc0
 clear hr0 hc0
 have HB := AM (Below.refl w.heap.size w)
 have H : (spec_l2Copy.l0 k l0 (([] : List (S50))) 0) = some r := h
 clear h
 obtain ⟨y238, hy238⟩ : ∃ y_ : List (S50), y_ = (([] : List (S50))) := ⟨_, rfl⟩
 replace H : (spec_l2Copy.l0 k l0 y238 0) = some r := by first | (rw [hy238]; with_reducible exact H) | (have H2_ := (Option.bind_some _ _).symm.trans H; rw [hy238]; with_reducible exact H2_) | (have H2_ := (Option.bind_some _ _).symm.trans H; with_reducible exact H2_) | with_reducible exact H | (rw [hy238]; exact H) | exact H
 have Ny238 := AM hy238
 clear hy238
 have H' := AM H
 clear H
 go_enter Try.func56, Try.ntmps56
 go_wp2_with (first | ((with_reducible refine gate_dst (N := 6) rfl ?_); refine Kd.R_lit k50 _ 50 ?hg (N := 6) ?hd (xs := ([] : List (S50))) (inner := []) (ok := fun _ => True) (okp := fun _ => True) ?hr ?hp (fun _ hk => hk) trivial (Below.refl _ _) (Nat.le_refl _) (by simp) ?_; (case hd => rfl); (case hg => rfl); (case hr => first | (go_simp; done) | (go_simp; rfl)); (case hp => exact (Reps.none _ _)); intro v239 w2 ho3 hb hg_ hnew_; clear hg_ hnew_; (first | rw [← Ny238.out] at ho3 | (simp only [Int.reduceToNat] at ho3; rw [← Ny238.out] at ho3)); have HO240 := AM (Kd.R_lower ho3 (below_size (ZB))); replace HB := ZT HB hb; clear hb ho3))
 go_loopg [3, 4] k (fun kq v3 v4 w' => ∃ (x3_1 : List (S50)) (x4_1 : Int), v4 = .int .i64 x4_1 ∧ Aside0 (spec_l2Copy.l0 kq l0 x3_1 x4_1 = some r) ∧ Aside0 (kq ≤ k) ∧ Aside0 (Kd.R k50 50 w' w.heap.size (fun _ => True) v3 x3_1) ∧ Aside0 (Below w.heap.size w w'))
 case atStart => exact ⟨(y238), (0), (by first | rfl | (simp; done) | (simp [*]; done)), H', ⟨Nat.le_refl _⟩, ⟨ZR HO240.out⟩, ⟨ZB⟩⟩
 case round => (
 clear H'
 try clear p2
 obtain ⟨x3_1, x4_1, rfl, HA, HK1, HO_3, HB⟩ := hrel
 cases gk with
 | zero => exact absurd HA.out (by simp [spec_l2Copy.l0])
 | succ k1 =>
  have H := HA.out
  clear HA
  simp only [spec_l2Copy.l0] at H
  by_cases c4 : x4_1 < (l0.length : Int)
  ·(
  rw [if_pos c4] at H
  have c4b0 := decide_eq_true c4
  clear c4
  by_cases c5 : 0 ≤ x4_1
  ·(
  rw [if_pos c5] at H
  have c5b0 := decide_eq_true c5
  clear c5
  obtain ⟨t243, A6, H⟩ := ZOB H; try dsimp only at H
  obtain ⟨t246, A7, H⟩ := ZOB H; try dsimp only at H
  by_cases c8 : x3_1.length < 1466015503701
  ·(
  rw [if_pos c8] at H
  have LMc8 := AM c8
  clear c8
  obtain ⟨y249, hy249⟩ : ∃ y_ : List (S50), y_ = (x3_1 ++ [(⟨(rd_T50 l0 x4_1).f0, (rd_T50 l0 x4_1).f1, (⟨(rd_T50 l0 x4_1).f2.f0, (rd_T50 l0 x4_1).f2.f1, (rd_T50 l0 x4_1).f2.f2⟩ : S48), (rd_T50 l0 x4_1).f3, t243, t246⟩ : S50)]) := ⟨_, rfl⟩
  replace H : (spec_l2Copy.l0 k1 l0 y249 (wrap64 (x4_1 + 1))) = some r := by first | (rw [hy249]; with_reducible exact H) | (have H2_ := (Option.bind_some _ _).symm.trans H; rw [hy249]; with_reducible exact H2_) | (have H2_ := (Option.bind_some _ _).symm.trans H; with_reducible exact H2_) | with_reducible exact H | (rw [hy249]; exact H) | exact H
  have Ny249 := AM hy249
  clear hy249
  have H' := AM H
  clear H
  have p241 : 0 ≤ (x4_1 : Int) := ZD
  have q241 : x4_1 < (l0.length : Int) := ZD
  obtain ⟨ad241, A241_6, c241_6, A241_7, c241_7, e241, hx241_0, hx241_1, hx241_2, hx241_3, hx241_4, hx241_5, hx241_6, hx241_7, hl241_6, hi241_6, hl241_7, hi241_7⟩ := at_T50 HR0.out x4_1 p241 q241
  cases e241
  replace hx241_0 := ZHX HB hx241_0
  replace hx241_1 := ZHX HB hx241_1
  replace hx241_2 := ZHX HB hx241_2
  replace hx241_3 := ZHX HB hx241_3
  replace hx241_4 := ZHX HB hx241_4
  replace hx241_5 := ZHX HB hx241_5
  replace hx241_6 := ZHX HB hx241_6
  replace hx241_7 := ZHX HB hx241_7
  have HR241_6 := AM hi241_6
  have HC241_6 := AM hl241_6
  clear hi241_6 hl241_6
  have HR241_7 := AM hi241_7
  have HC241_7 := AM hl241_7
  clear hi241_7 hl241_7
  replace p241 := eq_true p241
  replace q241 := eq_true q241
  go_wp2_with (first | ((with_reducible refine gate_dst (N := 5) rfl ?_); refine ZX (N := 5) (cs := #[.int .i64 0, .int .i64 0, .int .i64 0, .int .i64 0, .int .i64 0, .int .i64 0, .slice none 0 0, .slice none 0 0]) (t := 50) ?_; intro gb242 hg w9 hbox hb; have BK242 := AM (hbox); have GW242 : Aside0 (w.heap.size ≤ gb242) := ZS hg; have GE242 : Aside0 (w.heap.size ≤ gb242) := ZS hg; replace HO_3 := AM (Kd.R_below (Kd.R_elderB (ZR HO_3.out) gb242 (Nat.le_of_eq hg.symm)) hb); replace HB := ZT HB hb; clear hb hbox hg; have hcz10 := ZC8 w9 BK242; have hfz10 := ZF8 BK242) | ((with_reducible refine gate_callee (f := 56) rfl ?_); refine ZGL (some 19) Try.func56 #[.slice A241_6 ((rd_T50 l0 x4_1).f4).length c241_6] ?_; (with_reducible refine (ih k1 (by have := HK1.out; omega) _ _ ((rd_T50 l0 x4_1).f4) t243 _ ?side1 ?side2 A6.out).mono ?_); (case side1 => exact Kd.C_below HR241_6.out (ZB)); (case side2 => exact HC241_6.out); rintro e w11 ⟨v244, rfl, ho0, hb⟩; refine ⟨_, rfl, ?_⟩; have HO245 := AM (Kd.R_lower (Kd.R_newB (Kd.R_new' ho0 (Kd.R_lt (by (with_reducible repeat (first | apply Kd.R_alloc | apply Kd.R_drewN | apply Kd.R_drew)); exact (Kd.R_mono (Kd.R_far (p := ⟨gb242, 7, none⟩) (Kd.R_far (p := ⟨gb242, 6, none⟩) (Kd.R_far (p := ⟨gb242, 5, none⟩) (Kd.R_far (p := ⟨gb242, 4, none⟩) (Kd.R_far (p := ⟨gb242, 3, none⟩) (Kd.R_far (p := ⟨gb242, 2, none⟩) (Kd.R_far (p := ⟨gb242, 1, none⟩) (Kd.R_far (p := ⟨gb242, 0, none⟩) (Kd.R_mono HO_3.out (fun k_ hk => (⟨hk, hk.2⟩ : _ ∧ k_ ≠ gb242))) (fun _ hk => hk.2) (.int .i64 ((rd_T50 l0 x4_1).f0))) (fun _ hk => hk.2) (.int .i64 ((rd_T50 l0 x4_1).f1))) (fun _ hk => hk.2) (.int .i64 ((rd_T50 l0 x4_1).f2.f0))) (fun _ hk => hk.2) (.int .i64 ((rd_T50 l0 x4_1).f2.f1))) (fun _ hk => hk.2) (.int .i64 ((rd_T50 l0 x4_1).f2.f2))) (fun _ hk => hk.2) (.int .i64 ((rd_T50 l0 x4_1).f3))) (fun _ hk => hk.2) (.slice A241_6 ((rd_T50 l0 x4_1).f4).length c241_6)) (fun _ hk => hk.2) (.slice A241_7 ((rd_T50 l0 x4_1).f5).length c241_7)) (fun _ h_ => h_.1))))) (g := gb242) (o := .cells #[.int .i64 ((rd_T50 l0 x4_1).f0), .int .i64 ((rd_T50 l0 x4_1).f1), .int .i64 ((rd_T50 l0 x4_1).f2.f0), .int .i64 ((rd_T50 l0 x4_1).f2.f1), .int .i64 ((rd_T50 l0 x4_1).f2.f2), .int .i64 ((rd_T50 l0 x4_1).f3), .slice A241_6 ((rd_T50 l0 x4_1).f4).length c241_6, .slice A241_7 ((rd_T50 l0 x4_1).f5).length c241_7] 50 (0, 0)) (ZZ BK242.out)) (below_size (ZB))); replace HO_3 := AM (Kd.R_elder' (by (with_reducible repeat (first | apply Kd.R_alloc | apply Kd.R_drewN | apply Kd.R_drew)); exact (Kd.R_mono (Kd.R_far (p := ⟨gb242, 7, none⟩) (Kd.R_far (p := ⟨gb242, 6, none⟩) (Kd.R_far (p := ⟨gb242, 5, none⟩) (Kd.R_far (p := ⟨gb242, 4, none⟩) (Kd.R_far (p := ⟨gb242, 3, none⟩) (Kd.R_far (p := ⟨gb242, 2, none⟩) (Kd.R_far (p := ⟨gb242, 1, none⟩) (Kd.R_far (p := ⟨gb242, 0, none⟩) (Kd.R_mono HO_3.out (fun k_ hk => (⟨hk, hk.2⟩ : _ ∧ k_ ≠ gb242))) (fun _ hk => hk.2) (.int .i64 ((rd_T50 l0 x4_1).f0))) (fun _ hk => hk.2) (.int .i64 ((rd_T50 l0 x4_1).f1))) (fun _ hk => hk.2) (.int .i64 ((rd_T50 l0 x4_1).f2.f0))) (fun _ hk => hk.2) (.int .i64 ((rd_T50 l0 x4_1).f2.f1))) (fun _ hk => hk.2) (.int .i64 ((rd_T50 l0 x4_1).f2.f2))) (fun _ hk => hk.2) (.int .i64 ((rd_T50 l0 x4_1).f3))) (fun _ hk => hk.2) (.slice A241_6 ((rd_T50 l0 x4_1).f4).length c241_6)) (fun _ hk => hk.2) (.slice A241_7 ((rd_T50 l0 x4_1).f5).length c241_7)) (fun _ h_ => h_.1))) (Kd.R_base ho0) hb); replace BK242 := ZV #[.int .i64 ((rd_T50 l0 x4_1).f0), .int .i64 ((rd_T50 l0 x4_1).f1), .int .i64 ((rd_T50 l0 x4_1).f2.f0), .int .i64 ((rd_T50 l0 x4_1).f2.f1), .int .i64 ((rd_T50 l0 x4_1).f2.f2), .int .i64 ((rd_T50 l0 x4_1).f3), .slice A241_6 ((rd_T50 l0 x4_1).f4).length c241_6, .slice A241_7 ((rd_T50 l0 x4_1).f5).length c241_7] BK242 hb; replace HB := ZT HB hb; clear hb; (try clear ho0); obtain ⟨Ao12, co12, eo12⟩ := Kd.R_slice HO245.out; subst eo12; have hcz13 := ZC8 w11 BK242; have hfz13 := ZF8 BK242) | ((with_reducible refine gate_callee (f := 56) rfl ?_); refine ZGL (some 23) Try.func56 #[.slice A241_7 ((rd_T50 l0 x4_1).f5).length c241_7] ?_; (with_reducible refine (ih k1 (by have := HK1.out; omega) _ _ ((rd_T50 l0 x4_1).f5) t246 _ ?side1 ?side2 A7.out).mono ?_); (case side1 => exact Kd.C_below HR241_7.out (ZB)); (case side2 => exact HC241_7.out); rintro e w14 ⟨v247, rfl, ho0, hb⟩; refine ⟨_, rfl, ?_⟩; have HO248 := AM (Kd.R_lower (Kd.R_newB (Kd.R_new' (Kd.R_new' ho0 (Kd.R_lt (by (with_reducible repeat (first | apply Kd.R_alloc | apply Kd.R_drewN | apply Kd.R_drew)); exact (Kd.R_mono (Kd.R_far (p := ⟨gb242, 6, none⟩) (Kd.R_mono HO_3.out (fun k_ hk => (⟨hk, hk.1.2⟩ : _ ∧ k_ ≠ gb242))) (fun _ hk => hk.2) (.slice Ao12 t243.length co12)) (fun _ h_ => h_.1))))) (Kd.R_lt (by (with_reducible repeat (first | apply Kd.R_alloc | apply Kd.R_drewN | apply Kd.R_drew)); exact (Kd.R_mono (Kd.R_far (p := ⟨gb242, 6, none⟩) (Kd.R_mono HO245.out (fun k_ hk => (⟨hk, hk.2⟩ : _ ∧ k_ ≠ gb242))) (fun _ hk => hk.2) (.slice Ao12 t243.length co12)) (fun _ h_ => h_.1))))) (g := gb242) (o := .cells #[.int .i64 ((rd_T50 l0 x4_1).f0), .int .i64 ((rd_T50 l0 x4_1).f1), .int .i64 ((rd_T50 l0 x4_1).f2.f0), .int .i64 ((rd_T50 l0 x4_1).f2.f1), .int .i64 ((rd_T50 l0 x4_1).f2.f2), .int .i64 ((rd_T50 l0 x4_1).f3), .slice Ao12 t243.length co12, .slice A241_7 ((rd_T50 l0 x4_1).f5).length c241_7] 50 (0, 0)) (ZZ BK242.out)) (below_size (ZB))); replace HO_3 := AM (Kd.R_elder' (by (with_reducible repeat (first | apply Kd.R_alloc | apply Kd.R_drewN | apply Kd.R_drew)); exact (Kd.R_mono (Kd.R_far (p := ⟨gb242, 6, none⟩) (Kd.R_mono HO_3.out (fun k_ hk => (⟨hk, hk.1.2⟩ : _ ∧ k_ ≠ gb242))) (fun _ hk => hk.2) (.slice Ao12 t243.length co12)) (fun _ h_ => h_.1))) (Kd.R_base ho0) hb); replace HO245 := AM (Kd.R_elder' (by (with_reducible repeat (first | apply Kd.R_alloc | apply Kd.R_drewN | apply Kd.R_drew)); exact (Kd.R_mono (Kd.R_far (p := ⟨gb242, 6, none⟩) (Kd.R_mono HO245.out (fun k_ hk => (⟨hk, hk.2⟩ : _ ∧ k_ ≠ gb242))) (fun _ hk => hk.2) (.slice Ao12 t243.length co12)) (fun _ h_ => h_.1))) (Kd.R_base ho0) hb); replace BK242 := ZV #[.int .i64 ((rd_T50 l0 x4_1).f0), .int .i64 ((rd_T50 l0 x4_1).f1), .int .i64 ((rd_T50 l0 x4_1).f2.f0), .int .i64 ((rd_T50 l0 x4_1).f2.f1), .int .i64 ((rd_T50 l0 x4_1).f2.f2), .int .i64 ((rd_T50 l0 x4_1).f3), .slice Ao12 t243.length co12, .slice A241_7 ((rd_T50 l0 x4_1).f5).length c241_7] BK242 hb; replace HB := ZT HB hb; clear hb; (try clear ho0); obtain ⟨Ao15, co15, eo15⟩ := Kd.R_slice HO248.out; subst eo15; have hcz16 := ZC8 w14 BK242; have hfz16 := ZF8 BK242) | ((with_reducible refine gate_store (t := 30) (p := 24) rfl ?_); refine store_event (t := 30) (p := 24) (v := ?vo_w17) (w1 := (w14.setCell ⟨gb242, 7, none⟩ (.slice Ao15 t246.length co15))) ?hg ?ho ?hn ?hr ?_; (case ho => rfl); (case hg => rfl); (case hn => rfl); (case hr => first | (go_simp; done) | (go_simp; rfl)); intro w17 hw; have n0_ : Aside0 (Kd.R k50 50 w17 w.heap.size (fun k_ => some k_ ≠ (.slice Ao12 t243.length co12 : Value).ownBlock ∧ some k_ ≠ (.slice Ao15 t246.length co15 : Value).ownBlock ∧ k_ ≠ gb242) u3 x3_1) := ⟨(by rw [hw]; exact (by (with_reducible repeat (first | apply Kd.R_alloc | apply Kd.R_drewN | apply Kd.R_drew)); exact Kd.R_mono (Kd.R_far (p := ⟨gb242, 7, none⟩) (Kd.R_mono HO_3.out (fun k_ hk => (⟨hk, hk.1.1.2⟩ : _ ∧ k_ ≠ gb242))) (fun _ hk => hk.2) (.slice Ao15 t246.length co15)) (fun _ hk => ⟨hk.1.1.2, ⟨hk.1.2, hk.1.1.1.2⟩⟩)))⟩; have n1_ : Aside0 (Kd.R k50 50 w17 w.heap.size (fun k_ => some k_ ≠ (u3 : Value).ownBlock ∧ some k_ ≠ (.slice Ao15 t246.length co15 : Value).ownBlock ∧ k_ ≠ gb242) (.slice Ao12 t243.length co12) t243) := ⟨(by rw [hw]; exact (by (with_reducible repeat (first | apply Kd.R_alloc | apply Kd.R_drewN | apply Kd.R_drew)); exact Kd.R_mono (Kd.R_far (p := ⟨gb242, 7, none⟩) (Kd.R_mono HO245.out (fun k_ hk => (⟨hk, hk.1.2⟩ : _ ∧ k_ ≠ gb242))) (fun _ hk => hk.2) (.slice Ao15 t246.length co15)) (fun _ hk => ⟨hk.1.1.1.2, ⟨hk.1.2, hk.1.1.2⟩⟩)))⟩; have n2_ : Aside0 (Kd.R k50 50 w17 w.heap.size (fun k_ => some k_ ≠ (u3 : Value).ownBlock ∧ some k_ ≠ (.slice Ao12 t243.length co12 : Value).ownBlock ∧ k_ ≠ gb242) (.slice Ao15 t246.length co15) t246) := ⟨(by rw [hw]; exact (by (with_reducible repeat (first | apply Kd.R_alloc | apply Kd.R_drewN | apply Kd.R_drew)); exact Kd.R_mono (Kd.R_far (p := ⟨gb242, 7, none⟩) (Kd.R_mono HO248.out (fun k_ hk => (⟨hk, hk.2⟩ : _ ∧ k_ ≠ gb242))) (fun _ hk => hk.2) (.slice Ao15 t246.length co15)) (fun _ hk => ⟨hk.1.1.1.2, ⟨hk.1.1.2, hk.1.2⟩⟩)))⟩; have n3_ : Aside0 (w17.heap[gb242]? = some (.cells #[.int .i64 ((rd_T50 l0 x4_1).f0), .int .i64 ((rd_T50 l0 x4_1).f1), .int .i64 ((rd_T50 l0 x4_1).f2.f0), .int .i64 ((rd_T50 l0 x4_1).f2.f1), .int .i64 ((rd_T50 l0 x4_1).f2.f2), .int .i64 ((rd_T50 l0 x4_1).f3), .slice Ao12 t243.length co12, .slice Ao15 t246.length co15] 50 (0, 0))) := ⟨(by rw [hw]; exact (ZZ BK242.out))⟩; have n4_ : Aside0 (Below w.heap.size w w17) := ⟨(by rw [hw]; exact (ZB))⟩; clear hw HO_3 HO245 HO248 BK242 HB; have HO_3 := n0_; have HO245 := n1_; have HO248 := n2_; have BK242 := n3_; have HB := n4_; clear n0_ n1_ n2_ n3_ n4_; have hcz18 := ZC8 w17 BK242; have hfz18 := ZF8 BK242) | ((with_reducible refine gate_builtin (b := .append) (xs := #[.tmp 25, .tmp 27]) rfl ?_); at_builtin; refine Kd.R_append k50 (w0 := w) w.heap.size rfl (.tmp 25) (.tmp 27) 30 50 (.agg #[(.int .i64 0), (.int .i64 0), (.int .i64 0), (.int .i64 0), (.int .i64 0), (.int .i64 0), (.slice none 0 0), (.slice none 0 0)]) 96 rfl Try.underlying30 info50 rfl (by decide) (by omega) u3 x3_1 (⟨(rd_T50 l0 x4_1).f0, (rd_T50 l0 x4_1).f1, (⟨(rd_T50 l0 x4_1).f2.f0, (rd_T50 l0 x4_1).f2.f1, (rd_T50 l0 x4_1).f2.f2⟩ : S48), (rd_T50 l0 x4_1).f3, t243, t246⟩ : S50) [.int .i64 ((rd_T50 l0 x4_1).f0), .int .i64 ((rd_T50 l0 x4_1).f1), .int .i64 ((rd_T50 l0 x4_1).f2.f0), .int .i64 ((rd_T50 l0 x4_1).f2.f1), .int .i64 ((rd_T50 l0 x4_1).f2.f2), .int .i64 ((rd_T50 l0 x4_1).f3), .slice Ao12 t243.length co12, .slice Ao15 t246.length co15] (fun k_ => k_ ≠ gb242) (fun k_ => ((fun k_ => k_ ≠ gb242)) k_ ∧ some k_ ≠ (u3 : Value).ownBlock) rfl rfl ?aP (fun _ hk => hk) ?aF ?aO ?aB ?aS ?aL ?_; (case aP => exact k50_mkM _ _ _ (⟨(rd_T50 l0 x4_1).f0, (rd_T50 l0 x4_1).f1, (⟨(rd_T50 l0 x4_1).f2.f0, (rd_T50 l0 x4_1).f2.f1, (rd_T50 l0 x4_1).f2.f2⟩ : S48), (rd_T50 l0 x4_1).f3, t243, t246⟩ : S50) (Kd.R_mono (HO245.out) (fun k_ hk => ⟨hk.2.2, hk.1⟩)) (Kd.R_mono (HO248.out) (fun k_ hk => ⟨hk.2.2, hk.1⟩))); (case aB => exact (ZB)); (case aF => exact (fun k_ hk => Kd.freshB (g := gb242) (o := .cells #[.int .i64 ((rd_T50 l0 x4_1).f0), .int .i64 ((rd_T50 l0 x4_1).f1), .int .i64 ((rd_T50 l0 x4_1).f2.f0), .int .i64 ((rd_T50 l0 x4_1).f2.f1), .int .i64 ((rd_T50 l0 x4_1).f2.f2), .int .i64 ((rd_T50 l0 x4_1).f3), .slice Ao12 t243.length co12, .slice Ao15 t246.length co15] 50 (0, 0)) (ZK BK242.out) k_ hk)); (case aO => exact (ZR (Kd.R_mono HO_3.out (fun _ hk => hk.2.2)))); (case aS => exact (below_size (ZB))); (case aL => have := LMc8.out; omega); intro v250 w19 ho hb hg hat; rw [← Ny249.out] at ho; have n0_ := AM (blk_grown (g := gb242) (o := .cells #[.int .i64 ((rd_T50 l0 x4_1).f0), .int .i64 ((rd_T50 l0 x4_1).f1), .int .i64 ((rd_T50 l0 x4_1).f2.f0), .int .i64 ((rd_T50 l0 x4_1).f2.f1), .int .i64 ((rd_T50 l0 x4_1).f2.f2), .int .i64 ((rd_T50 l0 x4_1).f3), .slice Ao12 t243.length co12, .slice Ao15 t246.length co15] 50 (0, 0)) (ZK BK242.out) hg (Kd.R_away HO_3.out (fun _ hk => hk.2.2))); have n1_ := AM (hb); have n2_ := AM (ho); clear BK242 HB HO_3 HO245 HO248; have BK242 := n0_; have HB := n1_; have HO251 := n2_; clear n0_ n1_ n2_ ho hb hg hat))
  go_roundg k1
  case measure => have := HK1.out; omega
  case rel => exact ⟨(y249), (wrap64 (x4_1 + 1)), (by first | rfl | (simp; done) | (simp [*]; done)), H', ⟨by have := HK1.out; omega⟩, ⟨ZR (Kd.R_mono HO251.out (fun _ hk => trivial))⟩, ⟨ZB⟩⟩)
  ·(
  rw [if_neg c8] at H
  exact absurd H (by simp)))
  ·(
  rw [if_neg c5] at H
  exact absurd H (by simp)))
  ·(
  rw [if_neg c4] at H
  have c4b0 := decide_eq_false c4
  clear c4
  obtain rfl := Option.some.inj H
  go_wp2
  go_ret
  exact ⟨_, ZE, by (with_reducible repeat (first | apply Kd.R_alloc | apply Kd.R_drewN | apply Kd.R_drew)); exact HO_3.out, ZB⟩))

/-! ### spec_ProgAt: function 29 -/
def spec_ProgAt.j0 : Nat → Int → Bool → List (S60) → List (S50) → Option (Int × Int × Int × Int × Int × Int × (List (S50)) × (List (S50)) × Bool)
 | 0, _, _, _, _ => none
 | k + 1, x1, x17, x253000, x253001 => if x17 = true then (some (0, 0, 0, 0, 0, 0, ([] : List (S50)), ([] : List (S50)), false)) else ((spec_l2All.f k x253001).bind fun t257 => ((spec_l2Copy.f k t257).bind fun t260 => (if 0 ≤ x1 then (if x1 < (t260.length : Int) then (some ((rd_T50 t260 x1).f0, (rd_T50 t260 x1).f1, (rd_T50 t260 x1).f2.f0, (rd_T50 t260 x1).f2.f1, (rd_T50 t260 x1).f2.f2, (rd_T50 t260 x1).f3, (rd_T50 t260 x1).f4, (rd_T50 t260 x1).f5, true)) else (none)) else (none))))
def spec_ProgAt.f (k : Nat) (l0_0 : List (S60)) (l0_1 : List (S50)) (a1 : Int) : Option (Int × Int × Int × Int × Int × Int × (List (S50)) × (List (S50)) × Bool) := (spec_ProgOk.f k l0_0 l0_1).bind fun t254 => (if t254 = true then ((spec_l2Count.f k l0_1).bind fun t255 => ((spec_l6In.f a1 0 (wrap64 (t255 - 1))).bind fun t256 => (spec_ProgAt.j0 k a1 (!t256) l0_0 l0_1))) else (spec_ProgAt.j0 k a1 true l0_0 l0_1))
theorem spec_ProgAt.calls (k : Nat) (A0_0 : Option Addr) (c0_0 : Nat) (l0_0 : List (S60)) (P0_1_ : Nat → Prop) (A0_1 : Option Addr) (c0_1 : Nat) (l0_1 : List (S50)) (a1 : Int) (r1 : Int) (r2 : Int) (r3 : Int) (r4 : Int) (r5 : Int) (r6 : Int) (r7 : List (S50)) (r8 : List (S50)) (r9 : Bool) (w : World) (hr0_0 : Kd.C k60 w A0_0 l0_0.length l0_0) (hc0_0 : l0_0.length ≤ c0_0) (hs0_1 : Kd.V k50 50 w w.heap.size (fun k_ => P0_1_ k_) (.slice A0_1 l0_1.length c0_1) l0_1) (h : spec_ProgAt.f k l0_0 l0_1 a1 = some (r1, r2, r3, r4, r5, r6, r7, r8, r9)) :
  Calls Try.prog 29 #[.agg #[.slice A0_0 l0_0.length c0_0, .slice A0_1 l0_1.length c0_1], .int .i64 a1] w fun e w' => ∃ v6_ v7_ : Value, e = .returned (.tuple #[.agg #[.int .i64 r1, .int .i64 r2, .int .i64 r3, .int .i64 r4, .int .i64 r5, .int .i64 r6, v6_, v7_], .bool r9]) ∧ Kd.V k50 50 w' w.heap.size (fun k_ => (P0_1_ k_ ∨ w.heap.size ≤ k_)) v6_ r7 ∧ Kd.V k50 50 w' w.heap.size (fun k_ => (P0_1_ k_ ∨ w.heap.size ≤ k_)) v7_ r8 ∧ Below w.heap.size w w' := by
 have hu32 := Try.underlying32
 have hu50 := Try.underlying50
 have HR0_0 := AM hr0_0
 have HC0_0 := AM hc0_0
 clear hr0_0 hc0_0
 have HO0_1 := AM (show Kd.V k50 50 w w.heap.size (fun k_ => (P0_1_ k_ ∨ w.heap.size ≤ k_)) (.slice A0_1 l0_1.length c0_1) l0_1 from Kd.V_mono hs0_1 (fun k_ hk => .inl hk))
 have HB := AM (Below.refl w.heap.size w)
 have H := h
 unfold spec_ProgAt.f at H
 clear h
 have HC3 := AM H
 clear H
 go_enter Try.func29, Try.ntmps29
 go_upto_region 1 with (first | ((with_reducible refine gate_dst (N := 2) rfl ?_); refine ZX (N := 2) (cs := #[.slice A0_0 l0_0.length c0_0, .slice A0_1 l0_1.length c0_1]) (t := 32) ?_; intro gb252 hg w4 hbox hb; have BK252 := AM (hbox); have GW252 : Aside0 (w.heap.size ≤ gb252) := ZS hg; have GE252 : Aside0 (w.heap.size ≤ gb252) := ZS hg; replace HO0_1 := AM (Kd.V_below (Kd.V_elderB (ZRV HO0_1.out) gb252 (Nat.le_of_eq hg.symm)) hb); replace HB := ZT HB hb; clear hb hbox hg) | ((with_reducible refine gate_dst (N := 4) rfl ?_); refine ZX (N := 4) (cs := #[.int .i64 0, .int .i64 0, .int .i64 0, .int .i64 0, .int .i64 0, .int .i64 0, .slice none 0 0, .slice none 0 0]) (t := 50) ?_; intro gb253 hg w5 hbox hb; have BK253 := AM (hbox); have GW253 : Aside0 (w.heap.size ≤ gb253) := ZS hg; have GE253 : Aside0 (w.heap.size ≤ gb253) := ZS hg; have NB252_253 : Aside0 (gb252 ≠ gb253) := ZN hg BK252; have NB253_252 : Aside0 (gb253 ≠ gb252) := ZM hg BK252; replace HO0_1 := AM (Kd.V_below (Kd.V_elderB (ZRV HO0_1.out) gb253 (Nat.le_of_eq hg.symm)) hb); replace BK252 := ZW BK252 hb; replace HB := ZT HB hb; clear hb hbox hg))
 (try simp only [Act.put, List.setIfInBounds_toArray, List.set_cons_zero, List.set_cons_succ])
 go_cut [17] (fun v17 wc => ∃ (kq : Nat) (x17_2 : Bool), v17 = .bool x17_2 ∧ Aside0 (spec_ProgAt.j0 kq a1 x17_2 l0_0 l0_1 = some (r1, r2, r3, r4, r5, r6, r7, r8, r9)) ∧ Aside0 (kq ≤ k) ∧ Aside0 (Kd.V k50 50 wc w.heap.size (fun k_ => (P0_1_ k_ ∨ w.heap.size ≤ k_) ∧ k_ ≠ gb252 ∧ k_ ≠ gb253) (.slice A0_1 l0_1.length c0_1) l0_1) ∧ Aside0 (wc.heap[gb252]? = some (.cells #[(.slice A0_0 l0_0.length c0_0), (.slice A0_1 l0_1.length c0_1)] 32 (0, 0))) ∧ Aside0 (wc.heap[gb253]? = some (.cells #[.int .i64 0, .int .i64 0, .int .i64 0, .int .i64 0, .int .i64 0, .int .i64 0, (.slice none 0 0), (.slice none 0 0)] 50 (0, 0))) ∧ Aside0 (Below w.heap.size w wc))
 case first => (
 have H := HC3.out
 clear HC3
 obtain ⟨t254, A6, H⟩ := ZOB H; try dsimp only at H
 by_cases c7 : t254 = true
 ·(
 subst c7
 have H1 := H; rw [if_pos rfl] at H1
 clear H
 have H := H1
 clear H1
 obtain ⟨t255, A8, H⟩ := ZOB H; try dsimp only at H
 obtain ⟨t256, A9, H⟩ := ZOB H; try dsimp only at H
 have H' := AM H
 clear H
 have hnb10 := NB252_253.out
 have hnc10 := NB253_252.out
 have hcz11 := ZC2 w5 BK252
 have hfz11 := ZF2 BK252
 go_wp2_with (first | ((with_reducible refine gate_callee (f := 36) rfl ?_); refine ZGL (some 7) Try.func36 #[.agg #[.slice A0_0 l0_0.length c0_0, .slice A0_1 l0_1.length c0_1]] ?_; (with_reducible refine (spec_ProgOk.calls k _ _ l0_0 _ _ l0_1 true _ ?side1 ?side2 ?side3 ?side4 A6.out).mono ?_); (case side1 => exact ZQ (Kd.C_below HR0_0.out HB.out)); (case side2 => exact HC0_0.out); (case side3 => exact ZQ ((Kd.V_reads' HO0_1.out).2.2)); (case side4 => exact (Kd.V_reads' HO0_1.out).2.1); rintro e w12 ⟨rfl, hb⟩; refine ⟨_, rfl, ?_⟩; replace HO0_1 := AM (Kd.V_below (ZRV HO0_1.out) hb); replace BK252 := ZW BK252 hb; replace BK253 := ZW BK253 hb; replace HB := ZT HB hb; clear hb; have hcz13 := ZC2 w12 BK252; have hfz13 := ZF2 BK252) | (go_at_call 55; (with_reducible refine (spec_l2Count.calls k _ _ l0_1 t255 _ ?side1 ?side2 A8.out).mono ?_); (case side1 => exact ZQ ((Kd.V_reads' HO0_1.out).2.2)); (case side2 => exact (Kd.V_reads' HO0_1.out).2.1); rintro e w14 ⟨rfl, hb⟩; replace HO0_1 := AM (Kd.V_below (ZRV HO0_1.out) hb); replace BK252 := ZW BK252 hb; replace BK253 := ZW BK253 hb; replace HB := ZT HB hb; clear hb) | (go_at_call 54; (with_reducible refine (spec_l6In.calls a1 0 (wrap64 (t255 - 1)) t256 _ A9.out).mono ?_); rintro e w' ⟨rfl, ⟨nd, rfl⟩⟩))
 go_meet
 case rel => exact ⟨_, (!t256), (by first | rfl | (simp; done) | (simp [*]; done)), H', ⟨by first | omega | exact Nat.le_refl _⟩, ⟨by (with_reducible repeat (first | apply Kd.V_alloc | apply Kd.V_drewN | apply Kd.V_drew)); exact Kd.V_mono HO0_1.out (fun _ hk => ⟨hk.1.1, ⟨hk.1.2, hk.2⟩⟩)⟩, ⟨ZK BK252.out⟩, ⟨ZK BK253.out⟩, ⟨ZB⟩⟩)
 ·(
 replace c7 := Bool.eq_false_iff.mpr c7
 subst c7
 have H1 := H; rw [if_neg ZFT] at H1
 clear H
 have H := H1
 clear H1
 have H' := AM H
 clear H
 have hnb15 := NB252_253.out
 have hnc15 := NB253_252.out
 have hcz16 := ZC2 w5 BK252
 have hfz16 := ZF2 BK252
 go_wp2_with (first | ((with_reducible refine gate_callee (f := 36) rfl ?_); refine ZGL (some 7) Try.func36 #[.agg #[.slice A0_0 l0_0.length c0_0, .slice A0_1 l0_1.length c0_1]] ?_; (with_reducible refine (spec_ProgOk.calls k _ _ l0_0 _ _ l0_1 false _ ?side1 ?side2 ?side3 ?side4 A6.out).mono ?_); (case side1 => exact ZQ (Kd.C_below HR0_0.out HB.out)); (case side2 => exact HC0_0.out); (case side3 => exact ZQ ((Kd.V_reads' HO0_1.out).2.2)); (case side4 => exact (Kd.V_reads' HO0_1.out).2.1); rintro e w17 ⟨rfl, hb⟩; refine ⟨_, rfl, ?_⟩; replace HO0_1 := AM (Kd.V_below (ZRV HO0_1.out) hb); replace BK252 := ZW BK252 hb; replace BK253 := ZW BK253 hb; replace HB := ZT HB hb; clear hb))
 go_meet
 case rel => exact ⟨_, (true), (by first | rfl | (simp; done) | (simp [*]; done)), H', ⟨by first | omega | exact Nat.le_refl _⟩, ⟨by (with_reducible repeat (first | apply Kd.V_alloc | apply Kd.V_drewN | apply Kd.V_drew)); exact Kd.V_mono HO0_1.out (fun _ hk => ⟨hk.1.1, ⟨hk.1.2, hk.2⟩⟩)⟩, ⟨ZK BK252.out⟩, ⟨ZK BK253.out⟩, ⟨ZB⟩⟩))
 case rest => (
 clear HC3
 try clear c1
 try clear c2
 try clear p2
 try clear c3
 try clear p6
 try clear c7
 try clear c10
 try clear c15
 try clear hcz11
 try clear hcz13
 try clear hcz16
 try clear hfz11
 try clear hfz13
 try clear hfz16
 obtain ⟨kq, x17_2, rfl, HA, HJ2, HO_253001, BK252, BK253, HB⟩ := hcut
 cases kq with
 | zero => exact absurd HA.out (by simp [spec_ProgAt.j0])
 | succ kj2 =>
  have H := HA.out
  clear HA
  simp only [spec_ProgAt.j0] at H
  by_cases c18 : x17_2 = true
  ·(
  subst c18
  have H1 := H; rw [if_pos rfl] at H1
  clear H
  have H := H1
  clear H1
  simp only [Option.some.injEq, Prod.mk.injEq] at H
  obtain ⟨rfl, rfl, rfl, rfl, rfl, rfl, rfl, rfl, rfl⟩ := H
  have hnb19 := NB253_252.out
  have hnc19 := NB252_253.out
  have hcz20 := ZC8 wc BK253
  have hfz20 := ZF8 BK253
  go_wp2
  refine bodyPost_ret (results_ct rfl _ _ gb253 50 #[.int .i64 0, .int .i64 0, .int .i64 0, .int .i64 0, .int .i64 0, .int .i64 0, .slice none 0 0, .slice none 0 0] (0, 0) _ rfl (ZZ BK253.out) Try.underlying50 rfl (by kernel_rfl)) rfl ?_
  exact ⟨_, _, ZE, Kd.N_V (base := 0) (by first | exact Kd.R_nil _ _ _ _ _ | exact Kd.N_nil _ _ _ _ _ | exact Kd.V_nil _ _ _ _ _ | exact Kd.Q_nil _ _ _ _ _ | exact Kd.S_nil _ _ _ _ _), Kd.N_V (base := 0) (by first | exact Kd.R_nil _ _ _ _ _ | exact Kd.N_nil _ _ _ _ _ | exact Kd.V_nil _ _ _ _ _ | exact Kd.Q_nil _ _ _ _ _ | exact Kd.S_nil _ _ _ _ _), ZB⟩)
  ·(
  replace c18 := Bool.eq_false_iff.mpr c18
  subst c18
  have H1 := H; rw [if_neg ZFT] at H1
  clear H
  have H := H1
  clear H1
  obtain ⟨t257, A21, H⟩ := ZOB H; try dsimp only at H
  obtain ⟨t260, A22, H⟩ := ZOB H; try dsimp only at H
  by_cases c23 : 0 ≤ a1
  ·(
  rw [if_pos c23] at H
  have c23b0 := decide_eq_true c23
  clear c23
  by_cases c24 : a1 < (t260.length : Int)
  ·(
  rw [if_pos c24] at H
  have c24b0 := decide_eq_true c24
  clear c24
  simp only [Option.some.injEq, Prod.mk.injEq] at H
  obtain ⟨rfl, rfl, rfl, rfl, rfl, rfl, rfl, rfl, rfl⟩ := H
  have hnb25 := NB252_253.out
  have hnc25 := NB253_252.out
  have hcz26 := ZC2 wc BK252
  have hfz26 := ZF2 BK252
  go_wp2_with (first | ((with_reducible refine gate_callee (f := 50) rfl ?_); refine ZGL (some 21) Try.func50 #[.slice A0_1 l0_1.length c0_1] ?_; (with_reducible refine (spec_l2All.calls kj2 (fun k_ => ((P0_1_ k_ ∨ w.heap.size ≤ k_) ∧ (k_ ≠ gb252 ∧ k_ ≠ gb253))) _ _ l0_1 t257 _ ?side1 A21.out).mono ?_); (case side1 => exact HO_253001.out); rintro e w27 ⟨v258, rfl, ho0, hb⟩; refine ⟨_, rfl, ?_⟩; have HO259 := AM (Kd.N_lower (Kd.N_mono (ok' := fun k_ => (P0_1_ k_ ∨ w.heap.size ≤ k_) ∧ k_ ≠ gb252 ∧ k_ ≠ gb253) ho0 (fun k_ hk_ => ⟨Or.elim hk_ (fun hs_ => hs_.1) (fun hn_ => (.inr (Nat.le_trans (below_size (ZB)) hn_))), Or.elim hk_ (fun hs_ => hs_.2.1) (fun hn_ => (Kd.freshB (g := gb252) (o := .cells #[.slice A0_0 l0_0.length c0_0, .slice A0_1 l0_1.length c0_1] 32 (0, 0)) (ZK BK252.out) k_ hn_)), Or.elim hk_ (fun hs_ => hs_.2.2) (fun hn_ => (Kd.freshB (g := gb253) (o := .cells #[.int .i64 0, .int .i64 0, .int .i64 0, .int .i64 0, .int .i64 0, .int .i64 0, .slice none 0 0, .slice none 0 0] 50 (0, 0)) (ZK BK253.out) k_ hn_))⟩)) (below_size (ZB))); replace HO_253001 := AM (Kd.V_elder' (ZRV HO_253001.out) (Kd.N_base ho0) hb); replace BK252 := ZW BK252 hb; replace BK253 := ZW BK253 hb; replace HB := ZT HB hb; clear hb; (try clear ho0); obtain ⟨Ao28, co28, eo28⟩ := Kd.N_slice HO259.out; subst eo28) | ((with_reducible refine gate_callee (f := 56) rfl ?_); refine ZGL (some 22) Try.func56 #[.slice Ao28 t257.length co28] ?_; (with_reducible refine (spec_l2Copy.calls kj2 _ _ t257 t260 _ ?side1 ?side2 A22.out).mono ?_); (case side1 => exact ZQ ((Kd.N_reads' HO259.out).2.2)); (case side2 => exact (Kd.N_reads' HO259.out).2.1); rintro e w29 ⟨v261, rfl, ho0, hb⟩; refine ⟨_, rfl, ?_⟩; have HO262 := AM (Kd.N_lower (Kd.N_mono (ok' := fun k_ => (P0_1_ k_ ∨ w.heap.size ≤ k_) ∧ some k_ ≠ (.slice Ao28 t257.length co28 : Value).ownBlock ∧ k_ ≠ gb252 ∧ k_ ≠ gb253) (Kd.R_N (Kd.R_bound ho0)) (fun k_ hk_ => ⟨(.inr (Nat.le_trans (below_size (ZB)) hk_.2.1)), (Kd.fresh' (Kd.N_lt (ZRN HO259.out)) k_ hk_.2.1), (Kd.freshB (g := gb252) (o := .cells #[.slice A0_0 l0_0.length c0_0, .slice A0_1 l0_1.length c0_1] 32 (0, 0)) (ZK BK252.out) k_ hk_.2.1), (Kd.freshB (g := gb253) (o := .cells #[.int .i64 0, .int .i64 0, .int .i64 0, .int .i64 0, .int .i64 0, .int .i64 0, .slice none 0 0, .slice none 0 0] 50 (0, 0)) (ZK BK253.out) k_ hk_.2.1)⟩)) (below_size (ZB))); replace HO_253001 := AM (Kd.V_elder' (ZRV HO_253001.out) (Kd.R_base ho0) hb); replace HO259 := AM (Kd.N_elder' (ZRN HO259.out) (Kd.R_base ho0) hb); replace BK252 := ZW BK252 hb; replace BK253 := ZW BK253 hb; replace HB := ZT HB hb; clear hb; (try clear ho0); obtain ⟨Ao30, co30, eo30⟩ := Kd.N_slice HO262.out; subst eo30; have p263 : 0 ≤ (a1 : Int) := ZD; have q263 : a1 < (t260.length : Int) := ZD; obtain ⟨ad263, A263_6, c263_6, A263_7, c263_7, e263, hx263_0, hx263_1, hx263_2, hx263_3, hx263_4, hx263_5, hx263_6, hx263_7, hl263_6, hi263_6, hl263_7, hi263_7⟩ := at_T50 (Kd.N_reads' HO262.out).2.2 a1 p263 q263; cases e263; obtain ⟨ce263, hce263, hMe263, hcc263⟩ := Kd.N_get HO262.out z50 a1 p263 (by first | exact q263 | exact ZD | (have e_ := (Kd.N_reads' HO262.out).1; omega)); obtain ⟨ua263_6, uc263_6, ua263_7, uc263_7, rfl, ul263_6, ge263_6, ul263_7, ge263_7⟩ := k50_openF hMe263; have hv263_6 := hcc263 6 _ rfl; rw [add_field _ _ 6 (by omega)] at hv263_6; replace hv263_6 := Option.some.inj (hv263_6.symm.trans hx263_6); injection hv263_6 with hva_ hvn_ hvc_; rw [hva_] at ge263_6; rw [hvc_] at ul263_6; have HL263_6 := AM (show Kd.V k50 50 _ w.heap.size _ _ ((rd_T50 t260 a1).f4) from Kd.V_mk ul263_6 ge263_6); clear hva_ hvn_ hvc_ ge263_6 ul263_6; have hv263_7 := hcc263 7 _ rfl; rw [add_field _ _ 7 (by omega)] at hv263_7; replace hv263_7 := Option.some.inj (hv263_7.symm.trans hx263_7); injection hv263_7 with hva_ hvn_ hvc_; rw [hva_] at ge263_7; rw [hvc_] at ul263_7; have HL263_7 := AM (show Kd.V k50 50 _ w.heap.size _ _ ((rd_T50 t260 a1).f5) from Kd.V_mk ul263_7 ge263_7); clear hva_ hvn_ hvc_ ge263_7 ul263_7 hcc263 hce263; have HR263_6 := AM hi263_6; have HC263_6 := AM hl263_6; clear hi263_6 hl263_6; have HR263_7 := AM hi263_7; have HC263_7 := AM hl263_7; clear hi263_7 hl263_7; replace p263 := eq_true p263; replace q263 := eq_true q263; have hcz31 := ZC8 w29 BK253; have hfz31 := ZF8 BK253))
  refine bodyPost_ret (results_ct rfl _ _ gb253 50 #[.int .i64 ((rd_T50 t260 a1).f0), .int .i64 ((rd_T50 t260 a1).f1), .int .i64 ((rd_T50 t260 a1).f2.f0), .int .i64 ((rd_T50 t260 a1).f2.f1), .int .i64 ((rd_T50 t260 a1).f2.f2), .int .i64 ((rd_T50 t260 a1).f3), .slice A263_6 ((rd_T50 t260 a1).f4).length c263_6, .slice A263_7 ((rd_T50 t260 a1).f5).length c263_7] (0, 0) _ rfl (ZZ BK253.out) Try.underlying50 rfl (by kernel_rfl)) rfl ?_
  exact ⟨_, _, ZE, by (with_reducible repeat (first | apply Kd.V_alloc | apply Kd.V_drewN | apply Kd.V_drew)); exact Kd.V_mono (Kd.V_far (p := ⟨gb253, 7, none⟩) (Kd.V_far (p := ⟨gb253, 6, none⟩) (Kd.V_far (p := ⟨gb253, 5, none⟩) (Kd.V_far (p := ⟨gb253, 4, none⟩) (Kd.V_far (p := ⟨gb253, 3, none⟩) (Kd.V_far (p := ⟨gb253, 2, none⟩) (Kd.V_far (p := ⟨gb253, 1, none⟩) (Kd.V_far (p := ⟨gb253, 0, none⟩) (Kd.V_mono HL263_6.out (fun k_ hk => (⟨hk, hk.1.2.2.2⟩ : _ ∧ k_ ≠ gb253))) (fun _ hk => hk.2) (.int .i64 ((rd_T50 t260 a1).f0))) (fun _ hk => hk.2) (.int .i64 ((rd_T50 t260 a1).f1))) (fun _ hk => hk.2) (.int .i64 ((rd_T50 t260 a1).f2.f0))) (fun _ hk => hk.2) (.int .i64 ((rd_T50 t260 a1).f2.f1))) (fun _ hk => hk.2) (.int .i64 ((rd_T50 t260 a1).f2.f2))) (fun _ hk => hk.2) (.int .i64 ((rd_T50 t260 a1).f3))) (fun _ hk => hk.2) (.slice A263_6 ((rd_T50 t260 a1).f4).length c263_6)) (fun _ hk => hk.2) (.slice A263_7 ((rd_T50 t260 a1).f5).length c263_7)) (fun _ hk => hk.1.1.1), by (with_reducible repeat (first | apply Kd.V_alloc | apply Kd.V_drewN | apply Kd.V_drew)); exact Kd.V_mono (Kd.V_far (p := ⟨gb253, 7, none⟩) (Kd.V_far (p := ⟨gb253, 6, none⟩) (Kd.V_far (p := ⟨gb253, 5, none⟩) (Kd.V_far (p := ⟨gb253, 4, none⟩) (Kd.V_far (p := ⟨gb253, 3, none⟩) (Kd.V_far (p := ⟨gb253, 2, none⟩) (Kd.V_far (p := ⟨gb253, 1, none⟩) (Kd.V_far (p := ⟨gb253, 0, none⟩) (Kd.V_mono HL263_7.out (fun k_ hk => (⟨hk, hk.1.2.2.2⟩ : _ ∧ k_ ≠ gb253))) (fun _ hk => hk.2) (.int .i64 ((rd_T50 t260 a1).f0))) (fun _ hk => hk.2) (.int .i64 ((rd_T50 t260 a1).f1))) (fun _ hk => hk.2) (.int .i64 ((rd_T50 t260 a1).f2.f0))) (fun _ hk => hk.2) (.int .i64 ((rd_T50 t260 a1).f2.f1))) (fun _ hk => hk.2) (.int .i64 ((rd_T50 t260 a1).f2.f2))) (fun _ hk => hk.2) (.int .i64 ((rd_T50 t260 a1).f3))) (fun _ hk => hk.2) (.slice A263_6 ((rd_T50 t260 a1).f4).length c263_6)) (fun _ hk => hk.2) (.slice A263_7 ((rd_T50 t260 a1).f5).length c263_7)) (fun _ hk => hk.1.1.1), ZB⟩)
  ·(
  rw [if_neg c24] at H
  exact absurd H (by simp)))
  ·(
  rw [if_neg c23] at H
  exact absurd H (by simp))))

end Go.Proofs.Ytaflodibibbakaa.B
