/- What Go functions compute, as Lean functions, and for each its contract: for every input at which the Lean function answers the call returns that; written by wip/tools/pr.py over the kit's print. -/
import Derived.Test.YtcffnnedghgmaaaAx0
namespace Go.Proofs.Ytcffnnedghgmaaa.A
open Go.RowKit Go.Proofs.YtcffnnedghgmaaaW.PrintWords Go.Proofs.YtcffnnedghgmaaaW.PrintLast Go.Proofs.YtcffnnedghgmaaaW.PrintMore
attribute [local go_sem] max2_int min2_int max_two min_two max_three min_three max_four min_four   -- for this text's walks alone
set_option linter.unusedVariables false
set_option linter.unusedSimpArgs false

/-! ### spec_l2Copy: function 111 -/
mutual
def spec_l2Copy.l0 : Nat → List (S59) → List (S59) → Int → Option ((List (S59)))
 | 0, _, _, _ => none
 | k + 1, x0, x3, x4 => if x4 < (x0.length : Int) then (if 0 ≤ x4 then ((spec_l2Copy.f k ((rd_T59 x0 x4).f4)).bind fun t254 => ((spec_l2Copy.f k ((rd_T59 x0 x4).f5)).bind fun t257 => (if x3.length < 1466015503701 then (spec_l2Copy.l0 k x0 (x3 ++ [(⟨(rd_T59 x0 x4).f0, (rd_T59 x0 x4).f1, (⟨(rd_T59 x0 x4).f2.f0, (rd_T59 x0 x4).f2.f1, (rd_T59 x0 x4).f2.f2⟩ : S57), (rd_T59 x0 x4).f3, t254, t257⟩ : S59)]) (wrap64 (x4 + 1))) else (none)))) else (none)) else (some x3)
def spec_l2Copy.f : Nat → List (S59) → Option ((List (S59)))
 | 0, _ => none
 | k + 1, l0 => spec_l2Copy.l0 k l0 (([] : List (S59))) 0
end
set_option maxHeartbeats 8000000 in
set_option maxRecDepth 100000 in
theorem spec_l2Copy.calls (k : Nat) : ∀ (A0 : Option Addr) (c0 : Nat) (l0 : List (S59)) (r : List (S59)) (w : World) (hr0 : Kd.C k59 w A0 l0.length l0) (hc0 : l0.length ≤ c0) (h : spec_l2Copy.f k l0 = some r),
  Calls Try.prog 111 #[.slice A0 l0.length c0] w fun e w' => ∃ v0_ : Value, e = .returned (v0_) ∧ Kd.R k59 59 w' w.heap.size (fun _ => True) v0_ r ∧ Below w.heap.size w w' := by
 induction k using Nat.strongRecOn with
 | _ k ih =>
 intro A0 c0 l0 r w hr0 hc0 h
 cases k with
 | zero => exact absurd h (by simp [spec_l2Copy.f])
 | succ k =>
 simp only [spec_l2Copy.f] at h
 have hu59 := Try.underlying59
 have HR0 := Aside0.mk hr0
 have HC0 := Aside0.mk hc0
 clear hr0 hc0
 have HB := Aside0.mk (Below.refl w.heap.size w)
 have H : (spec_l2Copy.l0 k l0 (([] : List (S59))) 0) = some r := h
 clear h
 obtain ⟨y249, hy249⟩ : ∃ y_ : List (S59), y_ = (([] : List (S59))) := ⟨_, rfl⟩
 replace H : (spec_l2Copy.l0 k l0 y249 0) = some r := by first | (rw [hy249]; with_reducible exact H) | (have H2_ := (Option.bind_some _ _).symm.trans H; rw [hy249]; with_reducible exact H2_) | (have H2_ := (Option.bind_some _ _).symm.trans H; with_reducible exact H2_) | with_reducible exact H | (rw [hy249]; exact H) | exact H
 have Ny249 := Aside0.mk hy249
 clear hy249
 have H' := Aside0.mk H
 clear H
 go_enter Try.func111, Try.ntmps111
 go_wp2_with (first | ((with_reducible refine gate_dst (N := 6) rfl ?_); refine Kd.R_lit k59 _ 59 ?hg (N := 6) ?hd (xs := ([] : List (S59))) (inner := []) (ok := fun _ => True) (okp := fun _ => True) ?hr ?hp (fun _ hk => hk) trivial (Below.refl _ _) (Nat.le_refl _) (by simp) ?_; (case hd => rfl); (case hg => rfl); (case hr => first | (go_simp; done) | (go_simp; rfl)); (case hp => exact (Reps.none _ _)); intro v250 w2 ho3 hb hg_ hnew_; clear hg_ hnew_; (first | rw [← Ny249.out] at ho3 | (simp only [Int.reduceToNat] at ho3; rw [← Ny249.out] at ho3)); have HO251 := Aside0.mk (Kd.R_lower ho3 (below_size (ZB))); replace HB := ZT HB hb; clear hb ho3))
 go_loopg [3, 4] k (fun kq v3 v4 w' => ∃ (x3_1 : List (S59)) (x4_1 : Int), v4 = .int .i64 x4_1 ∧ Aside0 (spec_l2Copy.l0 kq l0 x3_1 x4_1 = some r) ∧ Aside0 (kq ≤ k) ∧ Aside0 (Kd.R k59 59 w' w.heap.size (fun _ => True) v3 x3_1) ∧ Aside0 (Below w.heap.size w w'))
 case atStart => exact ⟨(y249), (0), (by first | rfl | (simp; done) | (simp [*]; done)), H', ⟨Nat.le_refl _⟩, ⟨ZR HO251.out⟩, ⟨ZB⟩⟩
 case round =>
  clear H'
  try clear c1
  try clear p2
  obtain ⟨x3_1, x4_1, rfl, HA, HK1, HO_3, HB⟩ := hrel
  cases gk with
  | zero => exact absurd HA.out (by simp [spec_l2Copy.l0])
  | succ k1 =>
   have H := HA.out
   clear HA
   simp only [spec_l2Copy.l0] at H
   by_cases c4 : x4_1 < (l0.length : Int)
   ·rw [if_pos c4] at H
    have c4b0 : decide (x4_1 < (l0.length : Int)) = true := decide_eq_true c4
    clear c4
    by_cases c5 : 0 ≤ x4_1
    ·rw [if_pos c5] at H
     have c5b0 : decide (0 ≤ x4_1) = true := decide_eq_true c5
     clear c5
     replace H := Option.bind_eq_some_iff.mp H
     obtain ⟨t254, A60, H⟩ := H
     replace H : ((spec_l2Copy.f k1 ((rd_T59 l0 x4_1).f5)).bind fun t257 => (if x3_1.length < 1466015503701 then (spec_l2Copy.l0 k1 l0 (x3_1 ++ [(⟨(rd_T59 l0 x4_1).f0, (rd_T59 l0 x4_1).f1, (⟨(rd_T59 l0 x4_1).f2.f0, (rd_T59 l0 x4_1).f2.f1, (rd_T59 l0 x4_1).f2.f2⟩ : S57), (rd_T59 l0 x4_1).f3, t254, t257⟩ : S59)]) (wrap64 (x4_1 + 1))) else (none))) = some r := H
     have A6 := Aside0.mk A60
     clear A60
     replace H := Option.bind_eq_some_iff.mp H
     obtain ⟨t257, A70, H⟩ := H
     replace H : (if x3_1.length < 1466015503701 then (spec_l2Copy.l0 k1 l0 (x3_1 ++ [(⟨(rd_T59 l0 x4_1).f0, (rd_T59 l0 x4_1).f1, (⟨(rd_T59 l0 x4_1).f2.f0, (rd_T59 l0 x4_1).f2.f1, (rd_T59 l0 x4_1).f2.f2⟩ : S57), (rd_T59 l0 x4_1).f3, t254, t257⟩ : S59)]) (wrap64 (x4_1 + 1))) else (none)) = some r := H
     have A7 := Aside0.mk A70
     clear A70
     by_cases c8 : x3_1.length < 1466015503701
     ·rw [if_pos c8] at H
      have LMc8 := Aside0.mk c8
      clear c8
      obtain ⟨y260, hy260⟩ : ∃ y_ : List (S59), y_ = (x3_1 ++ [(⟨(rd_T59 l0 x4_1).f0, (rd_T59 l0 x4_1).f1, (⟨(rd_T59 l0 x4_1).f2.f0, (rd_T59 l0 x4_1).f2.f1, (rd_T59 l0 x4_1).f2.f2⟩ : S57), (rd_T59 l0 x4_1).f3, t254, t257⟩ : S59)]) := ⟨_, rfl⟩
      replace H : (spec_l2Copy.l0 k1 l0 y260 (wrap64 (x4_1 + 1))) = some r := by first | (rw [hy260]; with_reducible exact H) | (have H2_ := (Option.bind_some _ _).symm.trans H; rw [hy260]; with_reducible exact H2_) | (have H2_ := (Option.bind_some _ _).symm.trans H; with_reducible exact H2_) | with_reducible exact H | (rw [hy260]; exact H) | exact H
      have Ny260 := Aside0.mk hy260
      clear hy260
      have H' := Aside0.mk H
      clear H
      have p252 : 0 ≤ (x4_1 : Int) := ZD
      have q252 : x4_1 < (l0.length : Int) := ZD
      obtain ⟨ad252, A252_6, c252_6, A252_7, c252_7, e252, hx252_0, hx252_1, hx252_2, hx252_3, hx252_4, hx252_5, hx252_6, hx252_7, hl252_6, hi252_6, hl252_7, hi252_7⟩ := at_T59 HR0.out x4_1 p252 q252
      cases e252
      replace hx252_0 := (HB.out.cell (World.block_lt_of_cell? w _ hx252_0)).trans hx252_0
      replace hx252_1 := (HB.out.cell (World.block_lt_of_cell? w _ hx252_1)).trans hx252_1
      replace hx252_2 := (HB.out.cell (World.block_lt_of_cell? w _ hx252_2)).trans hx252_2
      replace hx252_3 := (HB.out.cell (World.block_lt_of_cell? w _ hx252_3)).trans hx252_3
      replace hx252_4 := (HB.out.cell (World.block_lt_of_cell? w _ hx252_4)).trans hx252_4
      replace hx252_5 := (HB.out.cell (World.block_lt_of_cell? w _ hx252_5)).trans hx252_5
      replace hx252_6 := (HB.out.cell (World.block_lt_of_cell? w _ hx252_6)).trans hx252_6
      replace hx252_7 := (HB.out.cell (World.block_lt_of_cell? w _ hx252_7)).trans hx252_7
      have HR252_6 := Aside0.mk hi252_6
      have HC252_6 := Aside0.mk hl252_6
      clear hi252_6 hl252_6
      have HR252_7 := Aside0.mk hi252_7
      have HC252_7 := Aside0.mk hl252_7
      clear hi252_7 hl252_7
      replace p252 := eq_true p252
      replace q252 := eq_true q252
      go_wp2_with (first | ((with_reducible refine gate_dst (N := 5) rfl ?_); refine ZX (N := 5) (cs := #[.int .i64 0, .int .i64 0, .int .i64 0, .int .i64 0, .int .i64 0, .int .i64 0, .slice none 0 0, .slice none 0 0]) (t := 59) ?_; intro gb253 hg w9 hbox hb; have BK253 := Aside0.mk (hbox); have GW253 : Aside0 (w.heap.size ≤ gb253) := ZS hg; have GE253 : Aside0 (w.heap.size ≤ gb253) := ZS hg; replace HO_3 := Aside0.mk (Kd.R_below (Kd.R_elderB (ZR HO_3.out) gb253 (Nat.le_of_eq hg.symm)) hb); replace HB := ZT HB hb; clear hb hbox hg; obtain ⟨hcz10_0, hcz10_1, hcz10_2, hcz10_3, hcz10_4, hcz10_5, hcz10_6, hcz10_7⟩ := ZC8 w9 BK253; obtain ⟨hfz10_0, hfz10_1, hfz10_2, hfz10_3, hfz10_4, hfz10_5, hfz10_6, hfz10_7⟩ := ZF8 BK253) | ((with_reducible refine gate_callee (f := 111) rfl ?_); refine goesL_ (some 19) rfl rfl Try.func111 (by kernel_rfl) rfl #[.slice A252_6 ((rd_T59 l0 x4_1).f4).length c252_6] rfl ZG ?_; (with_reducible refine (ih k1 (by have := HK1.out; omega) _ _ ((rd_T59 l0 x4_1).f4) t254 _ ?side1 ?side2 A6.out).mono ?_); (case side1 => exact Kd.C_below HR252_6.out (ZB)); (case side2 => exact HC252_6.out); rintro e w11 ⟨v255, rfl, ho0, hb⟩; refine ⟨_, rfl, ?_⟩; have HO256 := Aside0.mk (Kd.R_lower (Kd.R_newB (Kd.R_new' ho0 (Kd.R_lt (by (with_reducible repeat (first | apply Kd.R_alloc | apply Kd.R_drewN | apply Kd.R_drew)); exact (Kd.R_mono (Kd.R_far (p := ⟨gb253, 7, none⟩) (Kd.R_far (p := ⟨gb253, 6, none⟩) (Kd.R_far (p := ⟨gb253, 5, none⟩) (Kd.R_far (p := ⟨gb253, 4, none⟩) (Kd.R_far (p := ⟨gb253, 3, none⟩) (Kd.R_far (p := ⟨gb253, 2, none⟩) (Kd.R_far (p := ⟨gb253, 1, none⟩) (Kd.R_far (p := ⟨gb253, 0, none⟩) (Kd.R_mono HO_3.out (fun k_ hk => (⟨hk, hk.2⟩ : _ ∧ k_ ≠ gb253))) (fun _ hk => hk.2) (.int .i64 ((rd_T59 l0 x4_1).f0))) (fun _ hk => hk.2) (.int .i64 ((rd_T59 l0 x4_1).f1))) (fun _ hk => hk.2) (.int .i64 ((rd_T59 l0 x4_1).f2.f0))) (fun _ hk => hk.2) (.int .i64 ((rd_T59 l0 x4_1).f2.f1))) (fun _ hk => hk.2) (.int .i64 ((rd_T59 l0 x4_1).f2.f2))) (fun _ hk => hk.2) (.int .i64 ((rd_T59 l0 x4_1).f3))) (fun _ hk => hk.2) (.slice A252_6 ((rd_T59 l0 x4_1).f4).length c252_6)) (fun _ hk => hk.2) (.slice A252_7 ((rd_T59 l0 x4_1).f5).length c252_7)) (fun _ h_ => h_.1))))) (g := gb253) (o := .cells #[.int .i64 ((rd_T59 l0 x4_1).f0), .int .i64 ((rd_T59 l0 x4_1).f1), .int .i64 ((rd_T59 l0 x4_1).f2.f0), .int .i64 ((rd_T59 l0 x4_1).f2.f1), .int .i64 ((rd_T59 l0 x4_1).f2.f2), .int .i64 ((rd_T59 l0 x4_1).f3), .slice A252_6 ((rd_T59 l0 x4_1).f4).length c252_6, .slice A252_7 ((rd_T59 l0 x4_1).f5).length c252_7] 59 (0, 0)) (ZZ BK253.out)) (below_size (ZB))); replace HO_3 := Aside0.mk (Kd.R_elder' (by (with_reducible repeat (first | apply Kd.R_alloc | apply Kd.R_drewN | apply Kd.R_drew)); exact (Kd.R_mono (Kd.R_far (p := ⟨gb253, 7, none⟩) (Kd.R_far (p := ⟨gb253, 6, none⟩) (Kd.R_far (p := ⟨gb253, 5, none⟩) (Kd.R_far (p := ⟨gb253, 4, none⟩) (Kd.R_far (p := ⟨gb253, 3, none⟩) (Kd.R_far (p := ⟨gb253, 2, none⟩) (Kd.R_far (p := ⟨gb253, 1, none⟩) (Kd.R_far (p := ⟨gb253, 0, none⟩) (Kd.R_mono HO_3.out (fun k_ hk => (⟨hk, hk.2⟩ : _ ∧ k_ ≠ gb253))) (fun _ hk => hk.2) (.int .i64 ((rd_T59 l0 x4_1).f0))) (fun _ hk => hk.2) (.int .i64 ((rd_T59 l0 x4_1).f1))) (fun _ hk => hk.2) (.int .i64 ((rd_T59 l0 x4_1).f2.f0))) (fun _ hk => hk.2) (.int .i64 ((rd_T59 l0 x4_1).f2.f1))) (fun _ hk => hk.2) (.int .i64 ((rd_T59 l0 x4_1).f2.f2))) (fun _ hk => hk.2) (.int .i64 ((rd_T59 l0 x4_1).f3))) (fun _ hk => hk.2) (.slice A252_6 ((rd_T59 l0 x4_1).f4).length c252_6)) (fun _ hk => hk.2) (.slice A252_7 ((rd_T59 l0 x4_1).f5).length c252_7)) (fun _ h_ => h_.1))) (Kd.R_base ho0) hb); replace BK253 := ZV #[.int .i64 ((rd_T59 l0 x4_1).f0), .int .i64 ((rd_T59 l0 x4_1).f1), .int .i64 ((rd_T59 l0 x4_1).f2.f0), .int .i64 ((rd_T59 l0 x4_1).f2.f1), .int .i64 ((rd_T59 l0 x4_1).f2.f2), .int .i64 ((rd_T59 l0 x4_1).f3), .slice A252_6 ((rd_T59 l0 x4_1).f4).length c252_6, .slice A252_7 ((rd_T59 l0 x4_1).f5).length c252_7] BK253 hb; replace HB := ZT HB hb; (try clear hb); (try clear hb2); (try clear hk); (try clear hi); (try clear ho0); obtain ⟨Ao12, co12, eo12⟩ := Kd.R_slice HO256.out; subst eo12; obtain ⟨hcz13_0, hcz13_1, hcz13_2, hcz13_3, hcz13_4, hcz13_5, hcz13_6, hcz13_7⟩ := ZC8 w11 BK253; obtain ⟨hfz13_0, hfz13_1, hfz13_2, hfz13_3, hfz13_4, hfz13_5, hfz13_6, hfz13_7⟩ := ZF8 BK253) | ((with_reducible refine gate_callee (f := 111) rfl ?_); refine goesL_ (some 23) rfl rfl Try.func111 (by kernel_rfl) rfl #[.slice A252_7 ((rd_T59 l0 x4_1).f5).length c252_7] rfl ZG ?_; (with_reducible refine (ih k1 (by have := HK1.out; omega) _ _ ((rd_T59 l0 x4_1).f5) t257 _ ?side1 ?side2 A7.out).mono ?_); (case side1 => exact Kd.C_below HR252_7.out (ZB)); (case side2 => exact HC252_7.out); rintro e w14 ⟨v258, rfl, ho0, hb⟩; refine ⟨_, rfl, ?_⟩; have HO259 := Aside0.mk (Kd.R_lower (Kd.R_newB (Kd.R_new' (Kd.R_new' ho0 (Kd.R_lt (by (with_reducible repeat (first | apply Kd.R_alloc | apply Kd.R_drewN | apply Kd.R_drew)); exact (Kd.R_mono (Kd.R_far (p := ⟨gb253, 6, none⟩) (Kd.R_mono HO_3.out (fun k_ hk => (⟨hk, hk.1.2⟩ : _ ∧ k_ ≠ gb253))) (fun _ hk => hk.2) (.slice Ao12 t254.length co12)) (fun _ h_ => h_.1))))) (Kd.R_lt (by (with_reducible repeat (first | apply Kd.R_alloc | apply Kd.R_drewN | apply Kd.R_drew)); exact (Kd.R_mono (Kd.R_far (p := ⟨gb253, 6, none⟩) (Kd.R_mono HO256.out (fun k_ hk => (⟨hk, hk.2⟩ : _ ∧ k_ ≠ gb253))) (fun _ hk => hk.2) (.slice Ao12 t254.length co12)) (fun _ h_ => h_.1))))) (g := gb253) (o := .cells #[.int .i64 ((rd_T59 l0 x4_1).f0), .int .i64 ((rd_T59 l0 x4_1).f1), .int .i64 ((rd_T59 l0 x4_1).f2.f0), .int .i64 ((rd_T59 l0 x4_1).f2.f1), .int .i64 ((rd_T59 l0 x4_1).f2.f2), .int .i64 ((rd_T59 l0 x4_1).f3), .slice Ao12 t254.length co12, .slice A252_7 ((rd_T59 l0 x4_1).f5).length c252_7] 59 (0, 0)) (ZZ BK253.out)) (below_size (ZB))); replace HO_3 := Aside0.mk (Kd.R_elder' (by (with_reducible repeat (first | apply Kd.R_alloc | apply Kd.R_drewN | apply Kd.R_drew)); exact (Kd.R_mono (Kd.R_far (p := ⟨gb253, 6, none⟩) (Kd.R_mono HO_3.out (fun k_ hk => (⟨hk, hk.1.2⟩ : _ ∧ k_ ≠ gb253))) (fun _ hk => hk.2) (.slice Ao12 t254.length co12)) (fun _ h_ => h_.1))) (Kd.R_base ho0) hb); replace HO256 := Aside0.mk (Kd.R_elder' (by (with_reducible repeat (first | apply Kd.R_alloc | apply Kd.R_drewN | apply Kd.R_drew)); exact (Kd.R_mono (Kd.R_far (p := ⟨gb253, 6, none⟩) (Kd.R_mono HO256.out (fun k_ hk => (⟨hk, hk.2⟩ : _ ∧ k_ ≠ gb253))) (fun _ hk => hk.2) (.slice Ao12 t254.length co12)) (fun _ h_ => h_.1))) (Kd.R_base ho0) hb); replace BK253 := ZV #[.int .i64 ((rd_T59 l0 x4_1).f0), .int .i64 ((rd_T59 l0 x4_1).f1), .int .i64 ((rd_T59 l0 x4_1).f2.f0), .int .i64 ((rd_T59 l0 x4_1).f2.f1), .int .i64 ((rd_T59 l0 x4_1).f2.f2), .int .i64 ((rd_T59 l0 x4_1).f3), .slice Ao12 t254.length co12, .slice A252_7 ((rd_T59 l0 x4_1).f5).length c252_7] BK253 hb; replace HB := ZT HB hb; (try clear hb); (try clear hb2); (try clear hk); (try clear hi); (try clear ho0); obtain ⟨Ao15, co15, eo15⟩ := Kd.R_slice HO259.out; subst eo15; obtain ⟨hcz16_0, hcz16_1, hcz16_2, hcz16_3, hcz16_4, hcz16_5, hcz16_6, hcz16_7⟩ := ZC8 w14 BK253; obtain ⟨hfz16_0, hfz16_1, hfz16_2, hfz16_3, hfz16_4, hfz16_5, hfz16_6, hfz16_7⟩ := ZF8 BK253) | ((with_reducible refine gate_store (t := 24) (p := 24) rfl ?_); refine store_event (t := 24) (p := 24) (v := ?vo_w17) (w1 := (w14.setCell ⟨gb253, 7, none⟩ (.slice Ao15 t257.length co15))) ?hg ?ho ?hn ?hr ?_; (case ho => rfl); (case hg => rfl); (case hn => rfl); (case hr => first | (go_simp; done) | (go_simp; rfl)); intro w17 hw; have n0_ : Aside0 (Kd.R k59 59 w17 w.heap.size (fun k_ => some k_ ≠ (.slice Ao12 t254.length co12 : Value).ownBlock ∧ some k_ ≠ (.slice Ao15 t257.length co15 : Value).ownBlock ∧ k_ ≠ gb253) u3 x3_1) := ⟨(by rw [hw]; exact (by (with_reducible repeat (first | apply Kd.R_alloc | apply Kd.R_drewN | apply Kd.R_drew)); exact Kd.R_mono (Kd.R_far (p := ⟨gb253, 7, none⟩) (Kd.R_mono HO_3.out (fun k_ hk => (⟨hk, hk.1.1.2⟩ : _ ∧ k_ ≠ gb253))) (fun _ hk => hk.2) (.slice Ao15 t257.length co15)) (fun _ hk => ⟨hk.1.1.2, ⟨hk.1.2, hk.1.1.1.2⟩⟩)))⟩; have n1_ : Aside0 (Kd.R k59 59 w17 w.heap.size (fun k_ => some k_ ≠ (u3 : Value).ownBlock ∧ some k_ ≠ (.slice Ao15 t257.length co15 : Value).ownBlock ∧ k_ ≠ gb253) (.slice Ao12 t254.length co12) t254) := ⟨(by rw [hw]; exact (by (with_reducible repeat (first | apply Kd.R_alloc | apply Kd.R_drewN | apply Kd.R_drew)); exact Kd.R_mono (Kd.R_far (p := ⟨gb253, 7, none⟩) (Kd.R_mono HO256.out (fun k_ hk => (⟨hk, hk.1.2⟩ : _ ∧ k_ ≠ gb253))) (fun _ hk => hk.2) (.slice Ao15 t257.length co15)) (fun _ hk => ⟨hk.1.1.1.2, ⟨hk.1.2, hk.1.1.2⟩⟩)))⟩; have n2_ : Aside0 (Kd.R k59 59 w17 w.heap.size (fun k_ => some k_ ≠ (u3 : Value).ownBlock ∧ some k_ ≠ (.slice Ao12 t254.length co12 : Value).ownBlock ∧ k_ ≠ gb253) (.slice Ao15 t257.length co15) t257) := ⟨(by rw [hw]; exact (by (with_reducible repeat (first | apply Kd.R_alloc | apply Kd.R_drewN | apply Kd.R_drew)); exact Kd.R_mono (Kd.R_far (p := ⟨gb253, 7, none⟩) (Kd.R_mono HO259.out (fun k_ hk => (⟨hk, hk.2⟩ : _ ∧ k_ ≠ gb253))) (fun _ hk => hk.2) (.slice Ao15 t257.length co15)) (fun _ hk => ⟨hk.1.1.1.2, ⟨hk.1.1.2, hk.1.2⟩⟩)))⟩; have n3_ : Aside0 (w17.heap[gb253]? = some (.cells #[.int .i64 ((rd_T59 l0 x4_1).f0), .int .i64 ((rd_T59 l0 x4_1).f1), .int .i64 ((rd_T59 l0 x4_1).f2.f0), .int .i64 ((rd_T59 l0 x4_1).f2.f1), .int .i64 ((rd_T59 l0 x4_1).f2.f2), .int .i64 ((rd_T59 l0 x4_1).f3), .slice Ao12 t254.length co12, .slice Ao15 t257.length co15] 59 (0, 0))) := ⟨(by rw [hw]; exact (ZZ BK253.out))⟩; have n4_ : Aside0 (Below w.heap.size w w17) := ⟨(by rw [hw]; exact (ZB))⟩; clear hw; clear HO_3; clear HO256; clear HO259; clear BK253; clear HB; have HO_3 := n0_; have HO256 := n1_; have HO259 := n2_; have BK253 := n3_; have HB := n4_; clear n0_ n1_ n2_ n3_ n4_; obtain ⟨hcz18_0, hcz18_1, hcz18_2, hcz18_3, hcz18_4, hcz18_5, hcz18_6, hcz18_7⟩ := ZC8 w17 BK253; obtain ⟨hfz18_0, hfz18_1, hfz18_2, hfz18_3, hfz18_4, hfz18_5, hfz18_6, hfz18_7⟩ := ZF8 BK253) | ((with_reducible refine gate_builtin (b := .append) (xs := #[.tmp 25, .tmp 27]) rfl ?_); at_builtin; refine Kd.R_append k59 (w0 := w) w.heap.size rfl (.tmp 25) (.tmp 27) 24 59 (.agg #[(.int .i64 0), (.int .i64 0), (.int .i64 0), (.int .i64 0), (.int .i64 0), (.int .i64 0), (.slice none 0 0), (.slice none 0 0)]) 96 rfl Try.underlying24 info59 rfl (by decide) (by omega) u3 x3_1 (⟨(rd_T59 l0 x4_1).f0, (rd_T59 l0 x4_1).f1, (⟨(rd_T59 l0 x4_1).f2.f0, (rd_T59 l0 x4_1).f2.f1, (rd_T59 l0 x4_1).f2.f2⟩ : S57), (rd_T59 l0 x4_1).f3, t254, t257⟩ : S59) [.int .i64 ((rd_T59 l0 x4_1).f0), .int .i64 ((rd_T59 l0 x4_1).f1), .int .i64 ((rd_T59 l0 x4_1).f2.f0), .int .i64 ((rd_T59 l0 x4_1).f2.f1), .int .i64 ((rd_T59 l0 x4_1).f2.f2), .int .i64 ((rd_T59 l0 x4_1).f3), .slice Ao12 t254.length co12, .slice Ao15 t257.length co15] (fun k_ => k_ ≠ gb253) (fun k_ => ((fun k_ => k_ ≠ gb253)) k_ ∧ some k_ ≠ (u3 : Value).ownBlock) rfl rfl ?aP (fun _ hk => hk) ?aF ?aO ?aB ?aS ?aL ?_; (case aP => exact k59_mkM _ _ _ (⟨(rd_T59 l0 x4_1).f0, (rd_T59 l0 x4_1).f1, (⟨(rd_T59 l0 x4_1).f2.f0, (rd_T59 l0 x4_1).f2.f1, (rd_T59 l0 x4_1).f2.f2⟩ : S57), (rd_T59 l0 x4_1).f3, t254, t257⟩ : S59) (Kd.R_mono (HO256.out) (fun k_ hk => ⟨hk.2.2, hk.1⟩)) (Kd.R_mono (HO259.out) (fun k_ hk => ⟨hk.2.2, hk.1⟩))); (case aB => exact (ZB)); (case aF => exact (fun k_ hk => Kd.freshB (g := gb253) (o := .cells #[.int .i64 ((rd_T59 l0 x4_1).f0), .int .i64 ((rd_T59 l0 x4_1).f1), .int .i64 ((rd_T59 l0 x4_1).f2.f0), .int .i64 ((rd_T59 l0 x4_1).f2.f1), .int .i64 ((rd_T59 l0 x4_1).f2.f2), .int .i64 ((rd_T59 l0 x4_1).f3), .slice Ao12 t254.length co12, .slice Ao15 t257.length co15] 59 (0, 0)) (ZK BK253.out) k_ hk)); (case aO => exact (ZR (Kd.R_mono HO_3.out (fun _ hk => hk.2.2)))); (case aS => exact (below_size (ZB))); (case aL => have := LMc8.out; omega); intro v261 w19 ho hb hg hat; rw [← Ny260.out] at ho; have n0_ := Aside0.mk (blk_grown (g := gb253) (o := .cells #[.int .i64 ((rd_T59 l0 x4_1).f0), .int .i64 ((rd_T59 l0 x4_1).f1), .int .i64 ((rd_T59 l0 x4_1).f2.f0), .int .i64 ((rd_T59 l0 x4_1).f2.f1), .int .i64 ((rd_T59 l0 x4_1).f2.f2), .int .i64 ((rd_T59 l0 x4_1).f3), .slice Ao12 t254.length co12, .slice Ao15 t257.length co15] 59 (0, 0)) (ZK BK253.out) hg (Kd.R_away HO_3.out (fun _ hk => hk.2.2))); have n1_ := Aside0.mk (hb); have n2_ := Aside0.mk (ho); clear BK253; clear HB; clear HO_3; clear HO256; clear HO259; have BK253 := n0_; have HB := n1_; have HO262 := n2_; clear n0_ n1_ n2_; clear ho hb hg hat))
      go_roundg k1
      case measure => have := HK1.out; omega
      case rel => exact ⟨(y260), (wrap64 (x4_1 + 1)), (by first | rfl | (simp; done) | (simp [*]; done)), H', ⟨by have := HK1.out; omega⟩, ⟨ZR (Kd.R_mono HO262.out (fun _ hk => trivial))⟩, ⟨ZB⟩⟩
     ·rw [if_neg c8] at H
      exact absurd H (by simp)
    ·rw [if_neg c5] at H
     exact absurd H (by simp)
   ·rw [if_neg c4] at H
    have c4b0 : decide (x4_1 < (l0.length : Int)) = false := decide_eq_false c4
    clear c4
    obtain rfl := Option.some.inj H
    go_wp2
    go_ret
    exact ⟨_, ZE, by (with_reducible repeat (first | apply Kd.R_alloc | apply Kd.R_drewN | apply Kd.R_drew)); exact HO_3.out, ZB⟩

end Go.Proofs.Ytcffnnedghgmaaa.A
