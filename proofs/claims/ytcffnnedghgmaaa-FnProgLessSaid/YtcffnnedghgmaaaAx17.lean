/- What Go functions compute, as Lean functions, and for each its contract: for every input at which the Lean function answers the call returns that; written by wip/tools/pr.py over the kit's print. -/
import Derived.Test.YtcffnnedghgmaaaAx0
import Derived.Test.YtcffnnedghgmaaaAx14
import Derived.Test.YtcffnnedghgmaaaAx16
namespace Go.Proofs.Ytcffnnedghgmaaa.A
open Go.RowKit Go.Proofs.YtcffnnedghgmaaaW.PrintWords Go.Proofs.YtcffnnedghgmaaaW.PrintLast Go.Proofs.YtcffnnedghgmaaaW.PrintMore
attribute [local go_sem] max2_int min2_int max_two min_two max_three min_three max_four min_four   -- for this text's walks alone
set_option linter.unusedVariables false
set_option linter.unusedSimpArgs false

/-! ### impl_size: function 91 -/
mutual
def impl_size.l0 : Nat → Int → List (S59) → Int → Int → Option (Int)
 | 0, _, _, _, _ => none
 | k + 1, x3, x8, x9, x10 => if x10 < x9 then (if 0 ≤ x10 then (if x10 < (x8.length : Int) then ((impl_size.f k ((rd_T59 x8 x10).f4)).bind fun t368 => ((impl_size.f k ((rd_T59 x8 x10).f5)).bind fun t369 => (impl_size.l0 k (wrap64 (x3 + (wrap64 (t368 + t369)))) x8 x9 (wrap64 (x10 + 1))))) else (none)) else (none)) else (some x3)
def impl_size.f : Nat → List (S59) → Option (Int)
 | 0, _ => none
 | k + 1, l0 => impl_size.l0 k (l0.length : Int) l0 (l0.length : Int) 0
end
def impl_size.T5 : Bool × List (List Nat × List Nat) := (true, [([], []), ([], []), ([1], [1]), ([2], [2]), ([], []), ([4], [4]), ([5, 3], [5]), ([3, 6], [3, 6]), ([0, 7], [0, 7]), ([8, 6, 0, 1, 2, 3, 4, 5, 6, 7, 8], [0, 8])])
def impl_size.B5 : List Nat := [0, 0, 2, 6, 0, 16, 62, 126, 255, 511]
theorem impl_size.tab5 : rtab .any (opsOf Try.f91 5) = impl_size.T5 := by kernel_rfl
theorem impl_size.bits5 : waitsOk impl_size.T5.2 impl_size.B5 = true := by kernel_rfl
set_option maxHeartbeats 8000000 in
set_option maxRecDepth 100000 in
theorem impl_size.calls (k : Nat) : ∀ (A0 : Option Addr) (c0 : Nat) (l0 : List (S59)) (r : Int) (w : World) (hr0 : Kd.C k59 w A0 l0.length l0) (hc0 : l0.length ≤ c0) (h : impl_size.f k l0 = some r),
  Calls Try.prog 91 #[.slice A0 l0.length c0] w fun e w' => e = .returned (.int .i64 r) ∧ Below w.heap.size w w' := by
 induction k using Nat.strongRecOn with
 | _ k ih =>
 intro A0 c0 l0 r w hr0 hc0 h
 cases k with
 | zero => exact absurd h (by simp [impl_size.f])
 | succ k =>
 simp only [impl_size.f] at h
 have hu59 := Try.underlying59
 have HR0 := Aside0.mk hr0
 have HC0 := Aside0.mk hc0
 clear hr0 hc0
 have HB := Aside0.mk (Below.refl w.heap.size w)
 have H : (impl_size.l0 k (l0.length : Int) l0 (l0.length : Int) 0) = some r := h
 clear h
 have H' := Aside0.mk H
 clear H
 go_enter Try.func91, Try.ntmps91
 go_wp2
 go_loopg [3, 10] k (fun kq v3 v10 w' => ∃ (x3_1 : Int) (x10_1 : Int), v3 = .int .i64 x3_1 ∧ v10 = .int .i64 x10_1 ∧ Aside0 (impl_size.l0 kq x3_1 l0 (l0.length : Int) x10_1 = some r) ∧ Aside0 (kq ≤ k) ∧ Aside0 (Below w.heap.size w w'))
 case atStart => exact ⟨((l0.length : Int)), (0), (by first | rfl | (simp; done) | (simp [*]; done)), (by first | rfl | (simp; done) | (simp [*]; done)), H', ⟨Nat.le_refl _⟩, ⟨ZB⟩⟩
 case round =>
  clear H'
  obtain ⟨x3_1, x10_1, rfl, rfl, HA, HK1, HB⟩ := hrel
  cases gk with
  | zero => exact absurd HA.out (by simp [impl_size.l0])
  | succ k1 =>
   have H := HA.out
   clear HA
   simp only [impl_size.l0] at H
   by_cases c2 : x10_1 < (l0.length : Int)
   ·rw [if_pos c2] at H
    have c2b0 : decide (x10_1 < (l0.length : Int)) = true := decide_eq_true c2
    clear c2
    by_cases c3 : 0 ≤ x10_1
    ·rw [if_pos c3] at H
     have c3b0 : decide (0 ≤ x10_1) = true := decide_eq_true c3
     clear c3
     by_cases c4 : x10_1 < (l0.length : Int)
     ·rw [if_pos c4] at H
      have c4b0 : decide (x10_1 < (l0.length : Int)) = true := decide_eq_true c4
      clear c4
      replace H := Option.bind_eq_some_iff.mp H
      obtain ⟨t368, A50, H⟩ := H
      replace H : ((impl_size.f k1 ((rd_T59 l0 x10_1).f5)).bind fun t369 => (impl_size.l0 k1 (wrap64 (x3_1 + (wrap64 (t368 + t369)))) l0 (l0.length : Int) (wrap64 (x10_1 + 1)))) = some r := H
      have A5 := Aside0.mk A50
      clear A50
      replace H := Option.bind_eq_some_iff.mp H
      obtain ⟨t369, A60, H⟩ := H
      replace H : (impl_size.l0 k1 (wrap64 (x3_1 + (wrap64 (t368 + t369)))) l0 (l0.length : Int) (wrap64 (x10_1 + 1))) = some r := H
      have A6 := Aside0.mk A60
      clear A60
      have H' := Aside0.mk H
      clear H
      have p366 : 0 ≤ (x10_1 : Int) := ZD
      have q366 : x10_1 < (l0.length : Int) := ZD
      obtain ⟨ad366, A366_6, c366_6, A366_7, c366_7, e366, hx366_0, hx366_1, hx366_2, hx366_3, hx366_4, hx366_5, hx366_6, hx366_7, hl366_6, hi366_6, hl366_7, hi366_7⟩ := at_T59 HR0.out x10_1 p366 q366
      cases e366
      replace hx366_0 := (HB.out.cell (World.block_lt_of_cell? w _ hx366_0)).trans hx366_0
      replace hx366_1 := (HB.out.cell (World.block_lt_of_cell? w _ hx366_1)).trans hx366_1
      replace hx366_2 := (HB.out.cell (World.block_lt_of_cell? w _ hx366_2)).trans hx366_2
      replace hx366_3 := (HB.out.cell (World.block_lt_of_cell? w _ hx366_3)).trans hx366_3
      replace hx366_4 := (HB.out.cell (World.block_lt_of_cell? w _ hx366_4)).trans hx366_4
      replace hx366_5 := (HB.out.cell (World.block_lt_of_cell? w _ hx366_5)).trans hx366_5
      replace hx366_6 := (HB.out.cell (World.block_lt_of_cell? w _ hx366_6)).trans hx366_6
      replace hx366_7 := (HB.out.cell (World.block_lt_of_cell? w _ hx366_7)).trans hx366_7
      have HR366_6 := Aside0.mk hi366_6
      have HC366_6 := Aside0.mk hl366_6
      clear hi366_6 hl366_6
      have HR366_7 := Aside0.mk hi366_7
      have HC366_7 := Aside0.mk hl366_7
      clear hi366_7 hl366_7
      replace p366 := eq_true p366
      replace q366 := eq_true q366
      try go_wp2_with (first | ((with_reducible refine gate_dst (N := 5) rfl ?_); refine ZX (N := 5) (cs := #[.int .i64 0, .int .i64 0, .int .i64 0, .int .i64 0, .int .i64 0, .int .i64 0, .slice none 0 0, .slice none 0 0]) (t := 59) ?_; intro gb367 hg w7 hbox hb; have BK367 := Aside0.mk (hbox); have GW367 : Aside0 (w.heap.size ≤ gb367) := ZS hg; have GE367 : Aside0 (w.heap.size ≤ gb367) := ZS hg; replace HB := ZT HB hb; clear hb hbox hg; obtain ⟨hcz8_0, hcz8_1, hcz8_2, hcz8_3, hcz8_4, hcz8_5, hcz8_6, hcz8_7⟩ := ZC8 w7 BK367; obtain ⟨hfz8_0, hfz8_1, hfz8_2, hfz8_3, hfz8_4, hfz8_5, hfz8_6, hfz8_7⟩ := ZF8 BK367))
      have n0_ : Aside0 (((((((((w7.setCell ⟨gb367, 0, none⟩ (.int .i64 ((rd_T59 l0 x10_1).f0))).setCell ⟨gb367, 1, none⟩ (.int .i64 ((rd_T59 l0 x10_1).f1))).setCell ⟨gb367, 2, none⟩ (.int .i64 ((rd_T59 l0 x10_1).f2.f0))).setCell ⟨gb367, 3, none⟩ (.int .i64 ((rd_T59 l0 x10_1).f2.f1))).setCell ⟨gb367, 4, none⟩ (.int .i64 ((rd_T59 l0 x10_1).f2.f2))).setCell ⟨gb367, 5, none⟩ (.int .i64 ((rd_T59 l0 x10_1).f3))).setCell ⟨gb367, 6, none⟩ (.slice A366_6 ((rd_T59 l0 x10_1).f4).length c366_6)).setCell ⟨gb367, 7, none⟩ (.slice A366_7 ((rd_T59 l0 x10_1).f5).length c366_7)).heap[gb367]? = some (.cells #[.int .i64 ((rd_T59 l0 x10_1).f0), .int .i64 ((rd_T59 l0 x10_1).f1), .int .i64 ((rd_T59 l0 x10_1).f2.f0), .int .i64 ((rd_T59 l0 x10_1).f2.f1), .int .i64 ((rd_T59 l0 x10_1).f2.f2), .int .i64 ((rd_T59 l0 x10_1).f3), .slice A366_6 ((rd_T59 l0 x10_1).f4).length c366_6, .slice A366_7 ((rd_T59 l0 x10_1).f5).length c366_7] 59 (0, 0))) := ⟨ZZ BK367.out⟩
      have n1_ : Aside0 (Below w.heap.size w ((((((((w7.setCell ⟨gb367, 0, none⟩ (.int .i64 ((rd_T59 l0 x10_1).f0))).setCell ⟨gb367, 1, none⟩ (.int .i64 ((rd_T59 l0 x10_1).f1))).setCell ⟨gb367, 2, none⟩ (.int .i64 ((rd_T59 l0 x10_1).f2.f0))).setCell ⟨gb367, 3, none⟩ (.int .i64 ((rd_T59 l0 x10_1).f2.f1))).setCell ⟨gb367, 4, none⟩ (.int .i64 ((rd_T59 l0 x10_1).f2.f2))).setCell ⟨gb367, 5, none⟩ (.int .i64 ((rd_T59 l0 x10_1).f3))).setCell ⟨gb367, 6, none⟩ (.slice A366_6 ((rd_T59 l0 x10_1).f4).length c366_6)).setCell ⟨gb367, 7, none⟩ (.slice A366_7 ((rd_T59 l0 x10_1).f5).length c366_7))) := ⟨ZB⟩
      (try clear BK367)
      (try clear HB)
      generalize ((((((((w7.setCell ⟨gb367, 0, none⟩ (.int .i64 ((rd_T59 l0 x10_1).f0))).setCell ⟨gb367, 1, none⟩ (.int .i64 ((rd_T59 l0 x10_1).f1))).setCell ⟨gb367, 2, none⟩ (.int .i64 ((rd_T59 l0 x10_1).f2.f0))).setCell ⟨gb367, 3, none⟩ (.int .i64 ((rd_T59 l0 x10_1).f2.f1))).setCell ⟨gb367, 4, none⟩ (.int .i64 ((rd_T59 l0 x10_1).f2.f2))).setCell ⟨gb367, 5, none⟩ (.int .i64 ((rd_T59 l0 x10_1).f3))).setCell ⟨gb367, 6, none⟩ (.slice A366_6 ((rd_T59 l0 x10_1).f4).length c366_6)).setCell ⟨gb367, 7, none⟩ (.slice A366_7 ((rd_T59 l0 x10_1).f5).length c366_7)) = w9 at n0_ n1_ ⊢
      have BK367 := n0_
      have HB := n1_
      clear n0_ n1_
      have n0_ := Aside0.mk (blk_drew BK367.out)
      have n1_ := Aside0.mk (below_drew1 HB.out)
      clear BK367
      clear HB
      have BK367 := n0_
      have HB := n1_
      clear n0_ n1_
      refine start_ (n := 10) (S := fun w' => w'.cell? ⟨gb367, 0, none⟩ = some (.int .i64 ((rd_T59 l0 x10_1).f0)) ∧ w'.cell? ⟨gb367, 1, none⟩ = some (.int .i64 ((rd_T59 l0 x10_1).f1)) ∧ w'.cell? ⟨gb367, 2, none⟩ = some (.int .i64 ((rd_T59 l0 x10_1).f2.f0)) ∧ w'.cell? ⟨gb367, 3, none⟩ = some (.int .i64 ((rd_T59 l0 x10_1).f2.f1)) ∧ w'.cell? ⟨gb367, 4, none⟩ = some (.int .i64 ((rd_T59 l0 x10_1).f2.f2)) ∧ w'.cell? ⟨gb367, 5, none⟩ = some (.int .i64 ((rd_T59 l0 x10_1).f3)) ∧ w'.cell? ⟨gb367, 6, none⟩ = some (.slice A366_6 ((rd_T59 l0 x10_1).f4).length c366_6) ∧ w'.cell? ⟨gb367, 7, none⟩ = some (.slice A366_7 ((rd_T59 l0 x10_1).f5).length c366_7)) (ds := []) #[false, false, false, false, false, false, false, false, false, false] (by kernel_rfl) rfl rfl ⟨(blk_cell BK367.out 0).trans rfl, (blk_cell BK367.out 1).trans rfl, (blk_cell BK367.out 2).trans rfl, (blk_cell BK367.out 3).trans rfl, (blk_cell BK367.out 4).trans rfl, (blk_cell BK367.out 5).trans rfl, (blk_cell BK367.out 6).trans rfl, (blk_cell BK367.out 7).trans rfl⟩ (fun hHeld => ?_); refine with_tabW impl_size.tab5 impl_size.bits5 (fun HT_ HW_ => ?_)
      generalize w9.drew = w10 at BK367 HB hHeld ⊢
      refine pure_ (i := 0) (N := some 14) (v := ?_) (a' := ?_) #[true, false, false, false, false, false, false, false, false, false] rfl rfl (any_of HT_.out (by kernel_rfl)) (fun _ _ _ h => h) (Or.inl ⟨by rfl, ?_⟩) ?_ ?_
      rotate_left
      ·intro w'
       go_simp
       with_reducible rfl
      rotate_left
      ·simp only [Act.put, List.setIfInBounds_toArray, List.set_cons_zero, List.set_cons_succ, i64_w, i32_w]
       rfl
      refine pure_ (i := 1) (N := some 15) (v := ?_) (a' := ?_) #[true, true, false, false, false, false, false, false, false, false] rfl rfl (any_of HT_.out (by kernel_rfl)) (fun _ _ _ h => h) (Or.inl ⟨by rfl, ?_⟩) ?_ ?_
      rotate_left
      ·intro w'
       go_simp
       with_reducible rfl
      rotate_left
      ·simp only [Act.put, List.setIfInBounds_toArray, List.set_cons_zero, List.set_cons_succ, i64_w, i32_w]
       rfl
      refine pure_ (i := 4) (N := some 18) (v := ?_) (a' := ?_) #[true, true, false, false, true, false, false, false, false, false] rfl rfl (any_of HT_.out (by kernel_rfl)) (fun _ _ _ h => h) (Or.inl ⟨by rfl, ?_⟩) ?_ ?_
      rotate_left
      ·intro w'
       go_simp
       with_reducible rfl
      rotate_left
      ·simp only [Act.put, List.setIfInBounds_toArray, List.set_cons_zero, List.set_cons_succ, i64_w, i32_w]
       rfl
      refine take_ (i := 2) (N := some 16) (v := ?_) (a' := ?_) #[true, true, true, false, true, false, false, false, false, false] rfl rfl (take_ofW HT_.out HW_.out (by kernel_rfl)) (fun _ _ _ h => h) (Or.inl ⟨by rfl, ?_⟩) hHeld ?_ ?_
      rotate_left
      ·rintro w' ⟨s0, s1, s2, s3, s4, s5, s6, s7⟩
       go_simp
       with_reducible rfl
      rotate_left
      ·simp only [Act.put, List.setIfInBounds_toArray, List.set_cons_zero, List.set_cons_succ, i64_w, i32_w]
       rfl
      refine take_ (i := 5) (N := some 19) (v := ?_) (a' := ?_) #[true, true, true, false, true, true, false, false, false, false] rfl rfl (take_ofW HT_.out HW_.out (by kernel_rfl)) (fun _ _ _ h => h) (Or.inl ⟨by rfl, ?_⟩) hHeld ?_ ?_
      rotate_left
      ·rintro w' ⟨s0, s1, s2, s3, s4, s5, s6, s7⟩
       go_simp
       with_reducible rfl
      rotate_left
      ·simp only [Act.put, List.setIfInBounds_toArray, List.set_cons_zero, List.set_cons_succ, i64_w, i32_w]
       rfl
      refine one_ (i := 3) (N := some 17) #[true, true, true, true, true, true, false, false, false, false] rfl rfl (one_of HT_.out (by kernel_rfl)) (by decide) (fun K hK => ?_)
      refine goes_ Try.func91 (by kernel_rfl) rfl #[.slice A366_6 ((rd_T59 l0 x10_1).f4).length c366_6] (by rfl) rfl rfl ZG ?_
      with_reducible refine (ih k1 (by have := HK1.out; omega) _ _ ((rd_T59 l0 x10_1).f4) t368 _ ?side1 ?side2 A5.out).mono ?_
      (case side1 => exact ZQ (Kd.C_below HR366_6.out HB.out))
      (case side2 => exact HC366_6.out)
      rintro e w11 ⟨rfl, hb⟩
      refine ⟨_, rfl, ?_⟩
      have n0_ := ZW BK367 hb
      have n1_ := ZT HB hb
      clear BK367
      clear HB
      have BK367 := n0_
      have HB := n1_
      clear n0_ n1_
      (try clear hb)
      (try clear hb2)
      (try clear hk)
      (try clear hi)
      refine hK.out _ _ ⟨(blk_cell BK367.out 0).trans rfl, (blk_cell BK367.out 1).trans rfl, (blk_cell BK367.out 2).trans rfl, (blk_cell BK367.out 3).trans rfl, (blk_cell BK367.out 4).trans rfl, (blk_cell BK367.out 5).trans rfl, (blk_cell BK367.out 6).trans rfl, (blk_cell BK367.out 7).trans rfl⟩ (fun hHeld => ?_)
      clear hK K
      refine ZNO 17 ?_
      refine one_ (i := 6) (N := some 20) #[true, true, true, true, true, true, true, false, false, false] rfl rfl (one_of HT_.out (by kernel_rfl)) (by decide) (fun K hK => ?_)
      refine goes_ Try.func91 (by kernel_rfl) rfl #[.slice A366_7 ((rd_T59 l0 x10_1).f5).length c366_7] (by rfl) rfl rfl ZG ?_
      with_reducible refine (ih k1 (by have := HK1.out; omega) _ _ ((rd_T59 l0 x10_1).f5) t369 _ ?side1 ?side2 A6.out).mono ?_
      (case side1 => exact ZQ (Kd.C_below HR366_7.out HB.out))
      (case side2 => exact HC366_7.out)
      rintro e w12 ⟨rfl, hb⟩
      refine ⟨_, rfl, ?_⟩
      have n0_ := ZW BK367 hb
      have n1_ := ZT HB hb
      clear BK367
      clear HB
      have BK367 := n0_
      have HB := n1_
      clear n0_ n1_
      (try clear hb)
      (try clear hb2)
      (try clear hk)
      (try clear hi)
      refine hK.out _ _ ⟨(blk_cell BK367.out 0).trans rfl, (blk_cell BK367.out 1).trans rfl, (blk_cell BK367.out 2).trans rfl, (blk_cell BK367.out 3).trans rfl, (blk_cell BK367.out 4).trans rfl, (blk_cell BK367.out 5).trans rfl, (blk_cell BK367.out 6).trans rfl, (blk_cell BK367.out 7).trans rfl⟩ (fun hHeld => ?_)
      clear hK K
      refine ZNO 20 ?_
      refine pure_ (i := 7) (N := some 21) (v := ?_) (a' := ?_) #[true, true, true, true, true, true, true, true, false, false] rfl rfl (any_of HT_.out (by kernel_rfl)) (fun _ _ _ h => h) (Or.inl ⟨by rfl, ?_⟩) ?_ ?_
      rotate_left
      ·intro w'
       go_simp
       with_reducible rfl
      rotate_left
      ·simp only [Act.put, List.setIfInBounds_toArray, List.set_cons_zero, List.set_cons_succ, i64_w, i32_w]
       rfl
      refine pure_ (i := 8) (N := some 22) (v := ?_) (a' := ?_) #[true, true, true, true, true, true, true, true, true, false] rfl rfl (any_of HT_.out (by kernel_rfl)) (fun _ _ _ h => h) (Or.inl ⟨by rfl, ?_⟩) ?_ ?_
      rotate_left
      ·intro w'
       go_simp
       with_reducible rfl
      rotate_left
      ·simp only [Act.put, List.setIfInBounds_toArray, List.set_cons_zero, List.set_cons_succ, i64_w, i32_w]
       rfl
      refine pure_ (i := 9) (N := some 3) (v := ?_) (a' := ?_) #[true, true, true, true, true, true, true, true, true, true] rfl rfl (any_of HT_.out (by kernel_rfl)) (fun _ _ _ h => h) (Or.inl ⟨by rfl, ?_⟩) ?_ ?_
      rotate_left
      ·intro w'
       go_simp
       with_reducible rfl
      rotate_left
      ·simp only [Act.put, List.setIfInBounds_toArray, List.set_cons_zero, List.set_cons_succ, i64_w, i32_w]
       rfl
      refine done_ (done_of HT_.out (by kernel_rfl)) ?_
      try go_wp2
      go_roundg k1
      case measure => have := HK1.out; omega
      case rel => exact ⟨(wrap64 (x3_1 + (wrap64 (t368 + t369)))), (wrap64 (x10_1 + 1)), (by first | rfl | (simp; done) | (simp [*]; done)), (by first | rfl | (simp; done) | (simp [*]; done)), H', ⟨by have := HK1.out; omega⟩, ⟨ZB⟩⟩
     ·rw [if_neg c4] at H
      exact absurd H (by simp)
    ·rw [if_neg c3] at H
     exact absurd H (by simp)
   ·rw [if_neg c2] at H
    have c2b0 : decide (x10_1 < (l0.length : Int)) = false := decide_eq_false c2
    clear c2
    obtain rfl := Option.some.inj H
    go_wp2
    go_ret
    exact ⟨ZE, ZB⟩

/-! ### impl_ProgOk: function 35 -/
def impl_ProgOk.f (k : Nat) (l0_0 : List (S35)) (l0_1 : List (S59)) : Option (Bool) := if (l0_0.length : Int) ≤ 4 then ((impl_Label_87.f k l0_0).bind fun t371 => (if t371 = true then (some false) else ((impl_Prog_stepsOk.f k l0_0 l0_1 l0_1 3).bind fun t372 => (if t372 = true then ((impl_size.f k l0_1).bind fun t373 => (some (decide (t373 ≤ 8)))) else (some false))))) else (some false)
set_option maxHeartbeats 8000000 in
set_option maxRecDepth 100000 in
theorem impl_ProgOk.calls (k : Nat) (A0_0 : Option Addr) (c0_0 : Nat) (l0_0 : List (S35)) (A0_1 : Option Addr) (c0_1 : Nat) (l0_1 : List (S59)) (r : Bool) (w : World) (hr0_0 : Kd.C k35 w A0_0 l0_0.length l0_0) (hc0_0 : l0_0.length ≤ c0_0) (hr0_1 : Kd.C k59 w A0_1 l0_1.length l0_1) (hc0_1 : l0_1.length ≤ c0_1) (h : impl_ProgOk.f k l0_0 l0_1 = some r) :
  Calls Try.prog 35 #[.agg #[.slice A0_0 l0_0.length c0_0, .slice A0_1 l0_1.length c0_1]] w fun e w' => e = .returned (.bool r) ∧ Below w.heap.size w w' := by
 have hu26 := Try.underlying26
 have HR0_0 := Aside0.mk hr0_0
 have HC0_0 := Aside0.mk hc0_0
 clear hr0_0 hc0_0
 have HR0_1 := Aside0.mk hr0_1
 have HC0_1 := Aside0.mk hc0_1
 clear hr0_1 hc0_1
 have HB := Aside0.mk (Below.refl w.heap.size w)
 have H : (if (l0_0.length : Int) ≤ 4 then ((impl_Label_87.f k l0_0).bind fun t371 => (if t371 = true then (some false) else ((impl_Prog_stepsOk.f k l0_0 l0_1 l0_1 3).bind fun t372 => (if t372 = true then ((impl_size.f k l0_1).bind fun t373 => (some (decide (t373 ≤ 8)))) else (some false))))) else (some false)) = some r := h
 clear h
 by_cases c2 : (l0_0.length : Int) ≤ 4
 ·rw [if_pos c2] at H
  have c2b0 : decide ((l0_0.length : Int) ≤ 4) = true := decide_eq_true c2
  have c2b1 : decide (l0_0.length ≤ 4) = true := decide_eq_true (by omega)
  clear c2
  replace H := Option.bind_eq_some_iff.mp H
  obtain ⟨t371, A30, H⟩ := H
  replace H : (if t371 = true then (some false) else ((impl_Prog_stepsOk.f k l0_0 l0_1 l0_1 3).bind fun t372 => (if t372 = true then ((impl_size.f k l0_1).bind fun t373 => (some (decide (t373 ≤ 8)))) else (some false)))) = some r := H
  have A3 := Aside0.mk A30
  clear A30
  by_cases c4 : t371 = true
  ·subst c4
   have H1 : (some false) = some r := by rw [if_pos rfl] at H; exact H
   clear H
   have H := H1
   clear H1
   obtain rfl := Option.some.inj H
   go_enter Try.func35, Try.ntmps35
   go_wp2_with (first | ((with_reducible refine gate_dst (N := 1) rfl ?_); refine ZX (N := 1) (cs := #[.slice A0_0 l0_0.length c0_0, .slice A0_1 l0_1.length c0_1]) (t := 26) ?_; intro gb370 hg w5 hbox hb; have BK370 := Aside0.mk (hbox); have GW370 : Aside0 (w.heap.size ≤ gb370) := ZS hg; have GE370 : Aside0 (w.heap.size ≤ gb370) := ZS hg; replace HB := ZT HB hb; clear hb hbox hg; obtain ⟨hcz6_0, hcz6_1⟩ := ZC2 w5 BK370; obtain ⟨hfz6_0, hfz6_1⟩ := ZF2 BK370) | (go_at_call 87; (with_reducible refine (impl_Label_87.calls k _ _ l0_0  true _ ?side1 ?side2 A3.out).mono ?_); (case side1 => exact ZQ (Kd.C_below HR0_0.out HB.out)); (case side2 => exact HC0_0.out); rintro e w7 ⟨rfl, hb⟩; replace BK370 := ZW BK370 hb; replace HB := ZT HB hb; (try clear hb); (try clear hb2); (try clear hk); (try clear hi)))
   go_ret
   exact ⟨ZE, ZB⟩
  ·replace c4 := Bool.eq_false_iff.mpr c4
   subst c4
   have H1 : ((impl_Prog_stepsOk.f k l0_0 l0_1 l0_1 3).bind fun t372 => (if t372 = true then ((impl_size.f k l0_1).bind fun t373 => (some (decide (t373 ≤ 8)))) else (some false))) = some r := by rw [if_neg (show ¬ (false = true) by decide)] at H; exact H
   clear H
   have H := H1
   clear H1
   replace H := Option.bind_eq_some_iff.mp H
   obtain ⟨t372, A80, H⟩ := H
   replace H : (if t372 = true then ((impl_size.f k l0_1).bind fun t373 => (some (decide (t373 ≤ 8)))) else (some false)) = some r := H
   have A8 := Aside0.mk A80
   clear A80
   by_cases c9 : t372 = true
   ·subst c9
    have H1 : ((impl_size.f k l0_1).bind fun t373 => (some (decide (t373 ≤ 8)))) = some r := by rw [if_pos rfl] at H; exact H
    clear H
    have H := H1
    clear H1
    replace H := Option.bind_eq_some_iff.mp H
    obtain ⟨t373, A100, H⟩ := H
    replace H : (some (decide (t373 ≤ 8))) = some r := H
    have A10 := Aside0.mk A100
    clear A100
    obtain rfl := Option.some.inj H
    go_enter Try.func35, Try.ntmps35
    go_wp2_with (first | ((with_reducible refine gate_dst (N := 1) rfl ?_); refine ZX (N := 1) (cs := #[.slice A0_0 l0_0.length c0_0, .slice A0_1 l0_1.length c0_1]) (t := 26) ?_; intro gb370 hg w11 hbox hb; have BK370 := Aside0.mk (hbox); have GW370 : Aside0 (w.heap.size ≤ gb370) := ZS hg; have GE370 : Aside0 (w.heap.size ≤ gb370) := ZS hg; replace HB := ZT HB hb; clear hb hbox hg; obtain ⟨hcz12_0, hcz12_1⟩ := ZC2 w11 BK370; obtain ⟨hfz12_0, hfz12_1⟩ := ZF2 BK370) | (go_at_call 87; (with_reducible refine (impl_Label_87.calls k _ _ l0_0  false _ ?side1 ?side2 A3.out).mono ?_); (case side1 => exact ZQ (Kd.C_below HR0_0.out HB.out)); (case side2 => exact HC0_0.out); rintro e w13 ⟨rfl, hb⟩; replace BK370 := ZW BK370 hb; replace HB := ZT HB hb; (try clear hb); (try clear hb2); (try clear hk); (try clear hi); obtain ⟨hcz14_0, hcz14_1⟩ := ZC2 w13 BK370; obtain ⟨hfz14_0, hfz14_1⟩ := ZF2 BK370) | (go_at_call 90; (with_reducible refine (impl_Prog_stepsOk.calls k _ _ l0_0 _ _ l0_1 _ _ l0_1 3 true _ ?side1 ?side2 ?side3 ?side4 ?side5 ?side6 A8.out).mono ?_); (case side1 => exact ZQ (Kd.C_below HR0_0.out HB.out)); (case side2 => exact HC0_0.out); (case side3 => exact ZQ (Kd.C_below HR0_1.out HB.out)); (case side4 => exact HC0_1.out); (case side5 => exact ZQ (Kd.C_below HR0_1.out HB.out)); (case side6 => exact HC0_1.out); rintro e w15 ⟨rfl, hb⟩; replace BK370 := ZW BK370 hb; replace HB := ZT HB hb; (try clear hb); (try clear hb2); (try clear hk); (try clear hi); obtain ⟨hcz16_0, hcz16_1⟩ := ZC2 w15 BK370; obtain ⟨hfz16_0, hfz16_1⟩ := ZF2 BK370) | (go_at_call 91; (with_reducible refine (impl_size.calls k _ _ l0_1 t373 _ ?side1 ?side2 A10.out).mono ?_); (case side1 => exact ZQ (Kd.C_below HR0_1.out HB.out)); (case side2 => exact HC0_1.out); rintro e w17 ⟨rfl, hb⟩; replace BK370 := ZW BK370 hb; replace HB := ZT HB hb; (try clear hb); (try clear hb2); (try clear hk); (try clear hi)))
    go_ret
    exact ⟨ZE, ZB⟩
   ·replace c9 := Bool.eq_false_iff.mpr c9
    subst c9
    have H1 : (some false) = some r := by rw [if_neg (show ¬ (false = true) by decide)] at H; exact H
    clear H
    have H := H1
    clear H1
    obtain rfl := Option.some.inj H
    go_enter Try.func35, Try.ntmps35
    go_wp2_with (first | ((with_reducible refine gate_dst (N := 1) rfl ?_); refine ZX (N := 1) (cs := #[.slice A0_0 l0_0.length c0_0, .slice A0_1 l0_1.length c0_1]) (t := 26) ?_; intro gb370 hg w18 hbox hb; have BK370 := Aside0.mk (hbox); have GW370 : Aside0 (w.heap.size ≤ gb370) := ZS hg; have GE370 : Aside0 (w.heap.size ≤ gb370) := ZS hg; replace HB := ZT HB hb; clear hb hbox hg; obtain ⟨hcz19_0, hcz19_1⟩ := ZC2 w18 BK370; obtain ⟨hfz19_0, hfz19_1⟩ := ZF2 BK370) | (go_at_call 87; (with_reducible refine (impl_Label_87.calls k _ _ l0_0  false _ ?side1 ?side2 A3.out).mono ?_); (case side1 => exact ZQ (Kd.C_below HR0_0.out HB.out)); (case side2 => exact HC0_0.out); rintro e w20 ⟨rfl, hb⟩; replace BK370 := ZW BK370 hb; replace HB := ZT HB hb; (try clear hb); (try clear hb2); (try clear hk); (try clear hi); obtain ⟨hcz21_0, hcz21_1⟩ := ZC2 w20 BK370; obtain ⟨hfz21_0, hfz21_1⟩ := ZF2 BK370) | (go_at_call 90; (with_reducible refine (impl_Prog_stepsOk.calls k _ _ l0_0 _ _ l0_1 _ _ l0_1 3 false _ ?side1 ?side2 ?side3 ?side4 ?side5 ?side6 A8.out).mono ?_); (case side1 => exact ZQ (Kd.C_below HR0_0.out HB.out)); (case side2 => exact HC0_0.out); (case side3 => exact ZQ (Kd.C_below HR0_1.out HB.out)); (case side4 => exact HC0_1.out); (case side5 => exact ZQ (Kd.C_below HR0_1.out HB.out)); (case side6 => exact HC0_1.out); rintro e w22 ⟨rfl, hb⟩; replace BK370 := ZW BK370 hb; replace HB := ZT HB hb; (try clear hb); (try clear hb2); (try clear hk); (try clear hi)))
    go_ret
    exact ⟨ZE, ZB⟩
 ·rw [if_neg c2] at H
  have c2b0 : decide ((l0_0.length : Int) ≤ 4) = false := decide_eq_false c2
  have c2b1 : decide (l0_0.length ≤ 4) = false := decide_eq_false (by omega)
  clear c2
  obtain rfl := Option.some.inj H
  go_enter Try.func35, Try.ntmps35
  go_wp2_with (first | ((with_reducible refine gate_dst (N := 1) rfl ?_); refine ZX (N := 1) (cs := #[.slice A0_0 l0_0.length c0_0, .slice A0_1 l0_1.length c0_1]) (t := 26) ?_; intro gb370 hg w23 hbox hb; have BK370 := Aside0.mk (hbox); have GW370 : Aside0 (w.heap.size ≤ gb370) := ZS hg; have GE370 : Aside0 (w.heap.size ≤ gb370) := ZS hg; replace HB := ZT HB hb; clear hb hbox hg; obtain ⟨hcz24_0, hcz24_1⟩ := ZC2 w23 BK370; obtain ⟨hfz24_0, hfz24_1⟩ := ZF2 BK370))
  go_ret
  exact ⟨ZE, ZB⟩

end Go.Proofs.Ytcffnnedghgmaaa.A
