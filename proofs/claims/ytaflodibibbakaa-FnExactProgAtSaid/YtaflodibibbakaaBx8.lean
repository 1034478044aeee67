/- Go functions as Lean functions, and for each its contract; written by wip/tools/pr.py over the kit's print. -/
import Derived.Test.YtaflodibibbakaaBx0
namespace Go.Proofs.Ytaflodibibbakaa.B
open Go.RowKit Go.Proofs.YtaflodibibbakaaW.PrintWords Go.Proofs.YtaflodibibbakaaW.PrintLast Go.Proofs.YtaflodibibbakaaW.PrintMore
attribute [local go_sem] max2_int min2_int max_two min_two max_three min_three max_four min_four
set_option linter.unusedVariables false
set_option linter.unusedSimpArgs false
set_option maxHeartbeats 8000000
set_option maxRecDepth 100000

/-! ### spec_l2Count: function 55 -/
mutual
def spec_l2Count.l0 : Nat → List (S50) → Int → Int → Option (Int)
 | 0, _, _, _ => none
 | k + 1, x0, x3, x4 => if x4 < (x0.length : Int) then (if 0 ≤ x4 then ((spec_l2Count.f k ((rd_T50 x0 x4).f4)).bind fun t186 => ((spec_l2Count.f k ((rd_T50 x0 x4).f5)).bind fun t188 => (spec_l2Count.l0 k x0 (wrap64 ((wrap64 ((wrap64 (x3 + 1)) + t186)) + t188)) (wrap64 (x4 + 1))))) else (none)) else (some x3)
def spec_l2Count.f : Nat → List (S50) → Option (Int)
 | 0, _ => none
 | k + 1, l0 => spec_l2Count.l0 k l0 0 0
end
def spec_l2Count.T5 : Bool × List (List Nat × List Nat) := (true, [([], []), ([0], [0]), ([], []), ([], []), ([2, 3], [2, 3]), ([4], [4]), ([5], [5]), ([6], [6]), ([1, 7], [1, 7]), ([], []), ([], []), ([9, 10], [9, 10]), ([11], [11]), ([12], [12]), ([13, 7], [13]), ([8, 14], [8, 14]), ([15, 14, 0, 1, 2, 3, 4, 5, 6, 7, 8, 9, 10, 11, 12, 13, 14, 15], [0, 15])])
def spec_l2Count.B5 : List Nat := [0, 1, 0, 0, 12, 28, 60, 124, 255, 0, 0, 1536, 3584, 7680, 16124, 32767, 65535]
theorem spec_l2Count.tab5 : rtab .any (opsOf Try.f55 5) = spec_l2Count.T5 := by kernel_rfl
theorem spec_l2Count.bits5 : waitsOk spec_l2Count.T5.2 spec_l2Count.B5 = true := by kernel_rfl
theorem spec_l2Count.calls (k : Nat) : ∀ (A0 : Option Addr) (c0 : Nat) (l0 : List (S50)) (r : Int) (w : World) (hr0 : Kd.C k50 w A0 l0.length l0) (hc0 : l0.length ≤ c0) (h : spec_l2Count.f k l0 = some r),
  Calls Try.prog 55 #[.slice A0 l0.length c0] w fun e w' => e = .returned (.int .i64 r) ∧ Below w.heap.size w w' := by
 induction k using Nat.strongRecOn with
 | _ k ih =>
 intro A0 c0 l0 r w hr0 hc0 h
 cases k with
 | zero => exact absurd h (by simp [spec_l2Count.f])
 | succ k =>
 simp only [spec_l2Count.f] at h
 have HR0 := AM hr0
 have HC0 := AM hc0
 clear hr0 hc0
 have HB := AM (Below.refl w.heap.size w)
 have H : (spec_l2Count.l0 k l0 0 0) = some r := h
 clear h
 have H' := AM H
 clear H
 go_enter Try.func55, Try.ntmps55
 go_wp2
 go_loopg [3, 4] k (fun kq v3 v4 w' => ∃ (x3_1 : Int) (x4_1 : Int), v3 = .int .i64 x3_1 ∧ v4 = .int .i64 x4_1 ∧ Aside0 (spec_l2Count.l0 kq l0 x3_1 x4_1 = some r) ∧ Aside0 (kq ≤ k) ∧ Aside0 (Below w.heap.size w w'))
 case atStart => exact ⟨(0), (0), (by first | rfl | (simp; done) | (simp [*]; done)), (by first | rfl | (simp; done) | (simp [*]; done)), H', ⟨Nat.le_refl _⟩, ⟨ZB⟩⟩
 case round => (
 clear H'
 obtain ⟨x3_1, x4_1, rfl, rfl, HA, HK1, HB⟩ := hrel
 cases gk with
 | zero => exact absurd HA.out (by simp [spec_l2Count.l0])
 | succ k1 =>
  have H := HA.out
  clear HA
  simp only [spec_l2Count.l0] at H
  by_cases c2 : x4_1 < (l0.length : Int)
  ·(
  rw [if_pos c2] at H
  have c2b0 := decide_eq_true c2
  clear c2
  by_cases c3 : 0 ≤ x4_1
  ·(
  rw [if_pos c3] at H
  have c3b0 := decide_eq_true c3
  clear c3
  obtain ⟨t186, A4, H⟩ := ZOB H; try dsimp only at H
  obtain ⟨t188, A5, H⟩ := ZOB H; try dsimp only at H
  have H' := AM H
  clear H
  try go_wp2
  replace HB := AM (below_drew1 HB.out)
  have p185 : 0 ≤ (x4_1 : Int) := ZD
  have q185 : x4_1 < (l0.length : Int) := ZD
  obtain ⟨ad185, A185_6, c185_6, A185_7, c185_7, e185, hx185_0, hx185_1, hx185_2, hx185_3, hx185_4, hx185_5, hx185_6, hx185_7, hl185_6, hi185_6, hl185_7, hi185_7⟩ := at_T50 HR0.out x4_1 p185 q185
  have hw185_7 := hx185_7
  have hw185_6 := hx185_6
  have hw185_5 := hx185_5
  have hw185_4 := hx185_4
  have hw185_3 := hx185_3
  have hw185_2 := hx185_2
  have hw185_1 := hx185_1
  have hw185_0 := hx185_0
  cases e185
  replace hx185_0 := ZHX HB hx185_0
  replace hx185_1 := ZHX HB hx185_1
  replace hx185_2 := ZHX HB hx185_2
  replace hx185_3 := ZHX HB hx185_3
  replace hx185_4 := ZHX HB hx185_4
  replace hx185_5 := ZHX HB hx185_5
  replace hx185_6 := ZHX HB hx185_6
  replace hx185_7 := ZHX HB hx185_7
  have HR185_6 := AM hi185_6
  have HC185_6 := AM hl185_6
  clear hi185_6 hl185_6
  have HR185_7 := AM hi185_7
  have HC185_7 := AM hl185_7
  clear hi185_7 hl185_7
  replace p185 := eq_true p185
  replace q185 := eq_true q185
  have p187 : 0 ≤ (x4_1 : Int) := ZD
  have q187 : x4_1 < (l0.length : Int) := ZD
  obtain ⟨ad187, A187_6, c187_6, A187_7, c187_7, e187, hx187_0, hx187_1, hx187_2, hx187_3, hx187_4, hx187_5, hx187_6, hx187_7, hl187_6, hi187_6, hl187_7, hi187_7⟩ := at_T50 HR0.out x4_1 p187 q187
  have hw187_7 := hx187_7
  have hw187_6 := hx187_6
  have hw187_5 := hx187_5
  have hw187_4 := hx187_4
  have hw187_3 := hx187_3
  have hw187_2 := hx187_2
  have hw187_1 := hx187_1
  have hw187_0 := hx187_0
  obtain rfl : ad185 = ad187 := (by injection e187)
  replace hx187_0 := ZHX HB hx187_0
  replace hx187_1 := ZHX HB hx187_1
  replace hx187_2 := ZHX HB hx187_2
  replace hx187_3 := ZHX HB hx187_3
  replace hx187_4 := ZHX HB hx187_4
  replace hx187_5 := ZHX HB hx187_5
  replace hx187_6 := ZHX HB hx187_6
  replace hx187_7 := ZHX HB hx187_7
  have HR187_6 := AM hi187_6
  have HC187_6 := AM hl187_6
  clear hi187_6 hl187_6
  have HR187_7 := AM hi187_7
  have HC187_7 := AM hl187_7
  clear hi187_7 hl187_7
  replace p187 := eq_true p187
  replace q187 := eq_true q187
  have ea_ := Option.some.inj (hx185_6.symm.trans hx187_6)
  injection ea_ with ea_ en_ ec_
  subst ea_
  subst ec_
  clear en_
  have ea_ := Option.some.inj (hx185_7.symm.trans hx187_7)
  injection ea_ with ea_ en_ ec_
  subst ea_
  subst ec_
  clear en_
  refine start_ (n := 17) (S := fun w' => w'.cell? (ad185.add ((x4_1).toNat * 8)) = some (.int .i64 ((rd_T50 l0 x4_1).f0)) ∧ w'.cell? ⟨(ad185.add ((x4_1).toNat * 8)).block, (ad185.add ((x4_1).toNat * 8)).off + 1, none⟩ = some (.int .i64 ((rd_T50 l0 x4_1).f1)) ∧ w'.cell? ⟨(ad185.add ((x4_1).toNat * 8)).block, (ad185.add ((x4_1).toNat * 8)).off + 2, none⟩ = some (.int .i64 ((rd_T50 l0 x4_1).f2.f0)) ∧ w'.cell? ⟨(ad185.add ((x4_1).toNat * 8)).block, (ad185.add ((x4_1).toNat * 8)).off + 3, none⟩ = some (.int .i64 ((rd_T50 l0 x4_1).f2.f1)) ∧ w'.cell? ⟨(ad185.add ((x4_1).toNat * 8)).block, (ad185.add ((x4_1).toNat * 8)).off + 4, none⟩ = some (.int .i64 ((rd_T50 l0 x4_1).f2.f2)) ∧ w'.cell? ⟨(ad185.add ((x4_1).toNat * 8)).block, (ad185.add ((x4_1).toNat * 8)).off + 5, none⟩ = some (.int .i64 ((rd_T50 l0 x4_1).f3)) ∧ w'.cell? ⟨(ad185.add ((x4_1).toNat * 8)).block, (ad185.add ((x4_1).toNat * 8)).off + 6, none⟩ = some (.slice A185_6 ((rd_T50 l0 x4_1).f4).length c185_6) ∧ w'.cell? ⟨(ad185.add ((x4_1).toNat * 8)).block, (ad185.add ((x4_1).toNat * 8)).off + 7, none⟩ = some (.slice A185_7 ((rd_T50 l0 x4_1).f5).length c185_7) ∧ w'.cell? (ad185.add ((x4_1).toNat * 8)) = some (.int .i64 ((rd_T50 l0 x4_1).f0)) ∧ w'.cell? ⟨(ad185.add ((x4_1).toNat * 8)).block, (ad185.add ((x4_1).toNat * 8)).off + 1, none⟩ = some (.int .i64 ((rd_T50 l0 x4_1).f1)) ∧ w'.cell? ⟨(ad185.add ((x4_1).toNat * 8)).block, (ad185.add ((x4_1).toNat * 8)).off + 2, none⟩ = some (.int .i64 ((rd_T50 l0 x4_1).f2.f0)) ∧ w'.cell? ⟨(ad185.add ((x4_1).toNat * 8)).block, (ad185.add ((x4_1).toNat * 8)).off + 3, none⟩ = some (.int .i64 ((rd_T50 l0 x4_1).f2.f1)) ∧ w'.cell? ⟨(ad185.add ((x4_1).toNat * 8)).block, (ad185.add ((x4_1).toNat * 8)).off + 4, none⟩ = some (.int .i64 ((rd_T50 l0 x4_1).f2.f2)) ∧ w'.cell? ⟨(ad185.add ((x4_1).toNat * 8)).block, (ad185.add ((x4_1).toNat * 8)).off + 5, none⟩ = some (.int .i64 ((rd_T50 l0 x4_1).f3)) ∧ w'.cell? ⟨(ad185.add ((x4_1).toNat * 8)).block, (ad185.add ((x4_1).toNat * 8)).off + 6, none⟩ = some (.slice A185_6 ((rd_T50 l0 x4_1).f4).length c185_6) ∧ w'.cell? ⟨(ad185.add ((x4_1).toNat * 8)).block, (ad185.add ((x4_1).toNat * 8)).off + 7, none⟩ = some (.slice A185_7 ((rd_T50 l0 x4_1).f5).length c185_7)) (ds := []) #[F,F,F,F,F,F,F,F,F,F,F,F,F,F,F,F,F] (by kernel_rfl) rfl rfl ⟨((HB.out.cell (World.block_lt_of_cell? w _ hw185_0)).trans hw185_0), ((HB.out.cell (World.block_lt_of_cell? w _ hw185_1)).trans hw185_1), ((HB.out.cell (World.block_lt_of_cell? w _ hw185_2)).trans hw185_2), ((HB.out.cell (World.block_lt_of_cell? w _ hw185_3)).trans hw185_3), ((HB.out.cell (World.block_lt_of_cell? w _ hw185_4)).trans hw185_4), ((HB.out.cell (World.block_lt_of_cell? w _ hw185_5)).trans hw185_5), ((HB.out.cell (World.block_lt_of_cell? w _ hw185_6)).trans hw185_6), ((HB.out.cell (World.block_lt_of_cell? w _ hw185_7)).trans hw185_7), ((HB.out.cell (World.block_lt_of_cell? w _ hw187_0)).trans hw187_0), ((HB.out.cell (World.block_lt_of_cell? w _ hw187_1)).trans hw187_1), ((HB.out.cell (World.block_lt_of_cell? w _ hw187_2)).trans hw187_2), ((HB.out.cell (World.block_lt_of_cell? w _ hw187_3)).trans hw187_3), ((HB.out.cell (World.block_lt_of_cell? w _ hw187_4)).trans hw187_4), ((HB.out.cell (World.block_lt_of_cell? w _ hw187_5)).trans hw187_5), ((HB.out.cell (World.block_lt_of_cell? w _ hw187_6)).trans hw187_6), ((HB.out.cell (World.block_lt_of_cell? w _ hw187_7)).trans hw187_7)⟩ (fun hHeld => ?_); refine with_tabW spec_l2Count.tab5 spec_l2Count.bits5 (fun HT_ HW_ => ?_)
  generalize wr.drew = w6 at HB HR185_6 HR185_7 HR187_6 HR187_7 hx185_0 hx185_1 hx185_2 hx185_3 hx185_4 hx185_5 hx185_6 hx185_7 hx187_0 hx187_1 hx187_2 hx187_3 hx187_4 hx187_5 hx187_6 hx187_7 hHeld ⊢
  refine ZU 0 11 #[T,F,F,F,F,F,F,F,F,F,F,F,F,F,F,F,F] ?_
  refine ZU 1 12 #[T,T,F,F,F,F,F,F,F,F,F,F,F,F,F,F,F] ?_
  refine ZU 2 13 #[T,T,T,F,F,F,F,F,F,F,F,F,F,F,F,F,F] ?_
  refine ZU 3 14 #[T,T,T,T,F,F,F,F,F,F,F,F,F,F,F,F,F] ?_
  refine ZU 4 15 #[T,T,T,T,T,F,F,F,F,F,F,F,F,F,F,F,F] ?_
  refine ZU 5 16 #[T,T,T,T,T,T,F,F,F,F,F,F,F,F,F,F,F] ?_
  refine ZU 9 20 #[T,T,T,T,T,T,F,F,F,T,F,F,F,F,F,F,F] ?_
  refine ZU 10 21 #[T,T,T,T,T,T,F,F,F,T,T,F,F,F,F,F,F] ?_
  refine ZU 11 22 #[T,T,T,T,T,T,F,F,F,T,T,T,F,F,F,F,F] ?_
  refine ZU 12 23 #[T,T,T,T,T,T,F,F,F,T,T,T,T,F,F,F,F] ?_
  refine ZTK 6 17 #[T,T,T,T,T,T,T,F,F,T,T,T,T,F,F,F,F] hHeld ?_
  refine ZTK 13 24 #[T,T,T,T,T,T,T,F,F,T,T,T,T,T,F,F,F] hHeld ?_
  refine one_ (i := 7) (N := some 18) #[T,T,T,T,T,T,T,T,F,T,T,T,T,T,F,F,F] rfl rfl (one_of HT_.out (by kernel_rfl)) (by decide) (fun K hK => ?_)
  refine ZGO Try.func55 #[.slice A185_6 ((rd_T50 l0 x4_1).f4).length c185_6] ?_
  with_reducible refine (ih k1 (by have := HK1.out; omega) _ _ ((rd_T50 l0 x4_1).f4) t186 _ ?side1 ?side2 A4.out).mono ?_
  (case side1 => exact ZQ (Kd.C_below HR185_6.out HB.out))
  (case side2 => exact HC185_6.out)
  rintro e w7 ⟨rfl, hb⟩
  refine ⟨_, rfl, ?_⟩
  replace HB := ZT HB hb
  (try clear hb)
  (try clear hb2)
  (try clear hk)
  (try clear hi)
  refine hK.out _ _ ⟨((HB.out.cell (World.block_lt_of_cell? w _ hw185_0)).trans hw185_0), ((HB.out.cell (World.block_lt_of_cell? w _ hw185_1)).trans hw185_1), ((HB.out.cell (World.block_lt_of_cell? w _ hw185_2)).trans hw185_2), ((HB.out.cell (World.block_lt_of_cell? w _ hw185_3)).trans hw185_3), ((HB.out.cell (World.block_lt_of_cell? w _ hw185_4)).trans hw185_4), ((HB.out.cell (World.block_lt_of_cell? w _ hw185_5)).trans hw185_5), ((HB.out.cell (World.block_lt_of_cell? w _ hw185_6)).trans hw185_6), ((HB.out.cell (World.block_lt_of_cell? w _ hw185_7)).trans hw185_7), ((HB.out.cell (World.block_lt_of_cell? w _ hw187_0)).trans hw187_0), ((HB.out.cell (World.block_lt_of_cell? w _ hw187_1)).trans hw187_1), ((HB.out.cell (World.block_lt_of_cell? w _ hw187_2)).trans hw187_2), ((HB.out.cell (World.block_lt_of_cell? w _ hw187_3)).trans hw187_3), ((HB.out.cell (World.block_lt_of_cell? w _ hw187_4)).trans hw187_4), ((HB.out.cell (World.block_lt_of_cell? w _ hw187_5)).trans hw187_5), ((HB.out.cell (World.block_lt_of_cell? w _ hw187_6)).trans hw187_6), ((HB.out.cell (World.block_lt_of_cell? w _ hw187_7)).trans hw187_7)⟩ (fun hHeld => ?_)
  clear hK K
  refine ZNO 18 ?_
  refine ZU 8 19 #[T,T,T,T,T,T,T,T,T,T,T,T,T,T,F,F,F] ?_
  refine one_ (i := 14) (N := some 25) #[T,T,T,T,T,T,T,T,T,T,T,T,T,T,T,F,F] rfl rfl (one_of HT_.out (by kernel_rfl)) (by decide) (fun K hK => ?_)
  refine ZGO Try.func55 #[.slice A185_7 ((rd_T50 l0 x4_1).f5).length c185_7] ?_
  with_reducible refine (ih k1 (by have := HK1.out; omega) _ _ ((rd_T50 l0 x4_1).f5) t188 _ ?side1 ?side2 A5.out).mono ?_
  (case side1 => exact ZQ (Kd.C_below HR187_7.out HB.out))
  (case side2 => exact HC187_7.out)
  rintro e w8 ⟨rfl, hb⟩
  refine ⟨_, rfl, ?_⟩
  replace HB := ZT HB hb
  (try clear hb)
  (try clear hb2)
  (try clear hk)
  (try clear hi)
  refine hK.out _ _ ⟨((HB.out.cell (World.block_lt_of_cell? w _ hw185_0)).trans hw185_0), ((HB.out.cell (World.block_lt_of_cell? w _ hw185_1)).trans hw185_1), ((HB.out.cell (World.block_lt_of_cell? w _ hw185_2)).trans hw185_2), ((HB.out.cell (World.block_lt_of_cell? w _ hw185_3)).trans hw185_3), ((HB.out.cell (World.block_lt_of_cell? w _ hw185_4)).trans hw185_4), ((HB.out.cell (World.block_lt_of_cell? w _ hw185_5)).trans hw185_5), ((HB.out.cell (World.block_lt_of_cell? w _ hw185_6)).trans hw185_6), ((HB.out.cell (World.block_lt_of_cell? w _ hw185_7)).trans hw185_7), ((HB.out.cell (World.block_lt_of_cell? w _ hw187_0)).trans hw187_0), ((HB.out.cell (World.block_lt_of_cell? w _ hw187_1)).trans hw187_1), ((HB.out.cell (World.block_lt_of_cell? w _ hw187_2)).trans hw187_2), ((HB.out.cell (World.block_lt_of_cell? w _ hw187_3)).trans hw187_3), ((HB.out.cell (World.block_lt_of_cell? w _ hw187_4)).trans hw187_4), ((HB.out.cell (World.block_lt_of_cell? w _ hw187_5)).trans hw187_5), ((HB.out.cell (World.block_lt_of_cell? w _ hw187_6)).trans hw187_6), ((HB.out.cell (World.block_lt_of_cell? w _ hw187_7)).trans hw187_7)⟩ (fun hHeld => ?_)
  clear hK K
  refine ZNO 25 ?_
  refine ZU 15 26 #[T,T,T,T,T,T,T,T,T,T,T,T,T,T,T,T,F] ?_
  refine ZU 16 3 #[T,T,T,T,T,T,T,T,T,T,T,T,T,T,T,T,T] ?_
  refine done_ (done_of HT_.out (by kernel_rfl)) ?_
  try go_wp2
  go_roundg k1
  case measure => have := HK1.out; omega
  case rel => exact ⟨(wrap64 ((wrap64 ((wrap64 (x3_1 + 1)) + t186)) + t188)), (wrap64 (x4_1 + 1)), (by first | rfl | (simp; done) | (simp [*]; done)), (by first | rfl | (simp; done) | (simp [*]; done)), H', ⟨by have := HK1.out; omega⟩, ⟨ZB⟩⟩)
  ·(
  rw [if_neg c3] at H
  exact absurd H (by simp)))
  ·(
  rw [if_neg c2] at H
  have c2b0 := decide_eq_false c2
  clear c2
  obtain rfl := Option.some.inj H
  go_wp2
  go_ret
  exact ⟨ZE, ZB⟩))

/-! ### spec_l6In: function 54 -/
def spec_l6In.f (a0 : Int) (a1 : Int) (a2 : Int) : Option (Bool) := if a0 ≥ a1 then (some (decide (a0 ≤ a2))) else (some false)
theorem spec_l6In.calls (a0 : Int) (a1 : Int) (a2 : Int) (r : Bool) (w : World) (h : spec_l6In.f a0 a1 a2 = some r) :
  Calls Try.prog 54 #[.int .i64 a0, .int .i64 a1, .int .i64 a2] w fun e w' => e = .returned (.bool r) ∧ Drawn0 w w' := by
 have H := h
 unfold spec_l6In.f at H
 clear h
 by_cases c4 : a0 ≥ a1
 ·(
 rw [if_pos c4] at H
 have c4b0 := decide_eq_true c4
 clear c4
 obtain rfl := Option.some.inj H
 go_enter Try.func54, Try.ntmps54
 go_wp2
 go_ret
 exact ⟨by first | rfl | (simp; done) | (simp [*]; done), by repeat (first | exact Drawn0.refl _ | apply Drawn0.step)⟩)
 ·(
 rw [if_neg c4] at H
 have c4b0 := decide_eq_false c4
 clear c4
 obtain rfl := Option.some.inj H
 go_enter Try.func54, Try.ntmps54
 go_wp2
 go_ret
 exact ⟨by first | rfl | (simp; done) | (simp [*]; done), by repeat (first | exact Drawn0.refl _ | apply Drawn0.step)⟩)

/-! ### spec_l1All: function 69 -/
def spec_l1All.f  : Option (Int) := some 7
theorem spec_l1All.calls  (r : Int) (w : World) (h : spec_l1All.f  = some r) :
  Calls Try.prog 69 #[] w fun e w' => e = .returned (.int .i64 r) ∧ Drawn0 w w' := by
 have H := h
 unfold spec_l1All.f at H
 clear h
 obtain rfl := Option.some.inj H
 go_enter Try.func69, Try.ntmps69
 go_wp2
 go_ret
 exact ⟨by first | rfl | (simp; done) | (simp [*]; done), by repeat (first | exact Drawn0.refl _ | apply Drawn0.step)⟩

/-! ### spec_l1Set: function 77 -/
def spec_l1Set.f (a0 : Int) : Option (Bool) := (spec_l1All.f).bind fun t189 => ((spec_l6In.f a0 0 t189).bind fun t190 => (some t190))
theorem spec_l1Set.calls (a0 : Int) (r : Bool) (w : World) (h : spec_l1Set.f a0 = some r) :
  Calls Try.prog 77 #[.int .i64 a0] w fun e w' => e = .returned (.bool r) ∧ Drawn0 w w' := by
 have H := h
 unfold spec_l1Set.f at H
 clear h
 obtain ⟨t189, A2, H⟩ := ZOB H; try dsimp only at H
 obtain ⟨t190, A3, H⟩ := ZOB H; try dsimp only at H
 obtain rfl := Option.some.inj H
 go_enter Try.func77, Try.ntmps77
 go_wp2_with (first | ((with_reducible refine gate_callee (f := 69) rfl ?_); refine ZGL (some 4) Try.func69 #[] ?_; (with_reducible refine (spec_l1All.calls  t189 _ A2.out).mono ?_); rintro e w' ⟨rfl, ⟨nd, rfl⟩⟩; refine ⟨_, rfl, ?_⟩) | ((with_reducible refine gate_callee (f := 54) rfl ?_); refine ZGL (some 5) Try.func54 #[.int .i64 a0, .int .i64 0, .int .i64 t189] ?_; (with_reducible refine (spec_l6In.calls a0 0 t189 t190 _ A3.out).mono ?_); rintro e w' ⟨rfl, ⟨nd, rfl⟩⟩; refine ⟨_, rfl, ?_⟩))
 go_ret
 exact ⟨by first | rfl | (simp; done) | (simp [*]; done), by repeat (first | exact Drawn0.refl _ | apply Drawn0.step)⟩

/-! ### spec_LabelOk: function 63 -/
def spec_LabelOk.f (a0_0 : Int) (a0_1 : Int) : Option (Bool) := (spec_l1Set.f a0_0).bind fun t192 => (if t192 = true then ((spec_l1Set.f a0_1).bind fun t193 => (some t193)) else (some false))
theorem spec_LabelOk.calls (a0_0 : Int) (a0_1 : Int) (r : Bool) (w : World) (h : spec_LabelOk.f a0_0 a0_1 = some r) :
  Calls Try.prog 63 #[.agg #[.int .i64 a0_0, .int .i64 a0_1]] w fun e w' => e = .returned (.bool r) ∧ Below w.heap.size w w' := by
 have hu60 := Try.underlying60
 have HB := AM (Below.refl w.heap.size w)
 have H := h
 unfold spec_LabelOk.f at H
 clear h
 obtain ⟨t192, A2, H⟩ := ZOB H; try dsimp only at H
 by_cases c3 : t192 = true
 ·(
 subst c3
 have H1 := H; rw [if_pos rfl] at H1
 clear H
 have H := H1
 clear H1
 obtain ⟨t193, A4, H⟩ := ZOB H; try dsimp only at H
 obtain rfl := Option.some.inj H
 go_enter Try.func63, Try.ntmps63
 go_wp2_with (first | ((with_reducible refine gate_dst (N := 1) rfl ?_); refine ZX (N := 1) (cs := #[.int .i64 a0_0, .int .i64 a0_1]) (t := 60) ?_; intro gb191 hg w5 hbox hb; have BK191 := AM (hbox); have GW191 : Aside0 (w.heap.size ≤ gb191) := ZS hg; have GE191 : Aside0 (w.heap.size ≤ gb191) := ZS hg; replace HB := ZT HB hb; clear hb hbox hg; have hcz6 := ZC2 w5 BK191; have hfz6 := ZF2 BK191) | ((with_reducible refine gate_callee (f := 77) rfl ?_); refine ZGL (some 5) Try.func77 #[.int .i64 a0_0] ?_; (with_reducible refine (spec_l1Set.calls a0_0 true _ A2.out).mono ?_); rintro e w' ⟨rfl, ⟨nd, rfl⟩⟩; refine ⟨_, rfl, ?_⟩) | (go_at_call 77; (with_reducible refine (spec_l1Set.calls a0_1 t193 _ A4.out).mono ?_); rintro e w' ⟨rfl, ⟨nd, rfl⟩⟩))
 go_ret
 exact ⟨ZE, ZB⟩)
 ·(
 replace c3 := Bool.eq_false_iff.mpr c3
 subst c3
 have H1 := H; rw [if_neg ZFT] at H1
 clear H
 have H := H1
 clear H1
 obtain rfl := Option.some.inj H
 go_enter Try.func63, Try.ntmps63
 go_wp2_with (first | ((with_reducible refine gate_dst (N := 1) rfl ?_); refine ZX (N := 1) (cs := #[.int .i64 a0_0, .int .i64 a0_1]) (t := 60) ?_; intro gb191 hg w7 hbox hb; have BK191 := AM (hbox); have GW191 : Aside0 (w.heap.size ≤ gb191) := ZS hg; have GE191 : Aside0 (w.heap.size ≤ gb191) := ZS hg; replace HB := ZT HB hb; clear hb hbox hg; have hcz8 := ZC2 w7 BK191; have hfz8 := ZF2 BK191) | ((with_reducible refine gate_callee (f := 77) rfl ?_); refine ZGL (some 5) Try.func77 #[.int .i64 a0_0] ?_; (with_reducible refine (spec_l1Set.calls a0_0 false _ A2.out).mono ?_); rintro e w' ⟨rfl, ⟨nd, rfl⟩⟩; refine ⟨_, rfl, ?_⟩))
 go_ret
 exact ⟨ZE, ZB⟩)

/-! ### spec_l2Var: function 87 -/
def spec_l2Var.f (l0_0 : List (S60)) (l0_1 : List (S50)) (a1 : Int) : Option (Bool) := (spec_l6In.f a1 0 (wrap64 ((l0_0.length : Int) - 1))).bind fun t195 => (some t195)
theorem spec_l2Var.calls (A0_0 : Option Addr) (c0_0 : Nat) (l0_0 : List (S60)) (A0_1 : Option Addr) (c0_1 : Nat) (l0_1 : List (S50)) (a1 : Int) (r : Bool) (w : World) (hr0_0 : Kd.C k60 w A0_0 l0_0.length l0_0) (hc0_0 : l0_0.length ≤ c0_0) (hr0_1 : Kd.C k50 w A0_1 l0_1.length l0_1) (hc0_1 : l0_1.length ≤ c0_1) (h : spec_l2Var.f l0_0 l0_1 a1 = some r) :
  Calls Try.prog 87 #[.agg #[.slice A0_0 l0_0.length c0_0, .slice A0_1 l0_1.length c0_1], .int .i64 a1] w fun e w' => e = .returned (.bool r) ∧ Below w.heap.size w w' := by
 have hu32 := Try.underlying32
 have HR0_0 := AM hr0_0
 have HC0_0 := AM hc0_0
 clear hr0_0 hc0_0
 have HR0_1 := AM hr0_1
 have HC0_1 := AM hc0_1
 clear hr0_1 hc0_1
 have HB := AM (Below.refl w.heap.size w)
 have H := h
 unfold spec_l2Var.f at H
 clear h
 obtain ⟨t195, A3, H⟩ := ZOB H; try dsimp only at H
 obtain rfl := Option.some.inj H
 go_enter Try.func87, Try.ntmps87
 go_wp2_with (first | ((with_reducible refine gate_dst (N := 2) rfl ?_); refine ZX (N := 2) (cs := #[.slice A0_0 l0_0.length c0_0, .slice A0_1 l0_1.length c0_1]) (t := 32) ?_; intro gb194 hg w4 hbox hb; have BK194 := AM (hbox); have GW194 : Aside0 (w.heap.size ≤ gb194) := ZS hg; have GE194 : Aside0 (w.heap.size ≤ gb194) := ZS hg; replace HB := ZT HB hb; clear hb hbox hg; have hcz5 := ZC2 w4 BK194; have hfz5 := ZF2 BK194) | ((with_reducible refine gate_callee (f := 54) rfl ?_); refine ZGL (some 10) Try.func54 #[.int .i64 a1, .int .i64 0, .int .i64 (wrap64 ((l0_0.length : Int) - 1))] ?_; (with_reducible refine (spec_l6In.calls a1 0 (wrap64 ((l0_0.length : Int) - 1)) t195 _ A3.out).mono ?_); rintro e w' ⟨rfl, ⟨nd, rfl⟩⟩; refine ⟨_, rfl, ?_⟩))
 go_ret
 exact ⟨ZE, ZB⟩

/-! ### spec_l2Val: function 88 -/
def spec_l2Val.j0 : Nat → Bool → List (S60) → List (S50) → Int → Int → Int → Option (Bool)
 | 0, _, _, _, _, _, _ => none
 | k + 1, x28, x197000, x197001, x198000, x198001, x198002 => if x28 = true then ((spec_l2Var.f x197000 x197001 x198001).bind fun t200 => (if t200 = true then ((spec_l2Var.f x197000 x197001 x198002).bind fun t201 => (some t201)) else (some false))) else (some false)
def spec_l2Val.f (k : Nat) (l0_0 : List (S60)) (l0_1 : List (S50)) (a1_0 : Int) (a1_1 : Int) (a1_2 : Int) : Option (Bool) := if a1_0 = 1 then ((spec_l6In.f a1_1 0 9).bind fun t198 => (if t198 = true then (some (a1_2 == 0)) else (some false))) else (if a1_0 = 2 then ((spec_l2Var.f l0_0 l0_1 a1_1).bind fun t199 => (if t199 = true then (some (a1_2 == 0)) else (some false))) else (if a1_0 = 3 then (spec_l2Val.j0 k (a1_0 == 3) l0_0 l0_1 a1_0 a1_1 a1_2) else (spec_l2Val.j0 k (a1_0 == 4) l0_0 l0_1 a1_0 a1_1 a1_2)))
theorem spec_l2Val.calls (k : Nat) (A0_0 : Option Addr) (c0_0 : Nat) (l0_0 : List (S60)) (A0_1 : Option Addr) (c0_1 : Nat) (l0_1 : List (S50)) (a1_0 : Int) (a1_1 : Int) (a1_2 : Int) (r : Bool) (w : World) (hr0_0 : Kd.C k60 w A0_0 l0_0.length l0_0) (hc0_0 : l0_0.length ≤ c0_0) (hr0_1 : Kd.C k50 w A0_1 l0_1.length l0_1) (hc0_1 : l0_1.length ≤ c0_1) (h : spec_l2Val.f k l0_0 l0_1 a1_0 a1_1 a1_2 = some r) :
  Calls Try.prog 88 #[.agg #[.slice A0_0 l0_0.length c0_0, .slice A0_1 l0_1.length c0_1], .agg #[.int .i64 a1_0, .int .i64 a1_1, .int .i64 a1_2]] w fun e w' => e = .returned (.bool r) ∧ Below w.heap.size w w' := by
 have hu32 := Try.underlying32
 have hu48 := Try.underlying48
 have HR0_0 := AM hr0_0
 have HC0_0 := AM hc0_0
 clear hr0_0 hc0_0
 have HR0_1 := AM hr0_1
 have HC0_1 := AM hc0_1
 clear hr0_1 hc0_1
 have HB := AM (Below.refl w.heap.size w)
 have H := h
 unfold spec_l2Val.f at H
 clear h
 by_cases c3 : a1_0 = 1
 ·(
 rw [if_pos c3] at H
 have c3b0 := beq_iff_eq.mpr c3
 have c3b1 := bne_eq_false_iff_eq.mpr c3
 clear c3
 obtain ⟨t198, A4, H⟩ := ZOB H; try dsimp only at H
 by_cases c5 : t198 = true
 ·(
 subst c5
 have H1 := H; rw [if_pos rfl] at H1
 clear H
 have H := H1
 clear H1
 obtain rfl := Option.some.inj H
 go_enter Try.func88, Try.ntmps88
 go_wp2_with (first | ((with_reducible refine gate_dst (N := 2) rfl ?_); refine ZX (N := 2) (cs := #[.slice A0_0 l0_0.length c0_0, .slice A0_1 l0_1.length c0_1]) (t := 32) ?_; intro gb196 hg w6 hbox hb; have BK196 := AM (hbox); have GW196 : Aside0 (w.heap.size ≤ gb196) := ZS hg; have GE196 : Aside0 (w.heap.size ≤ gb196) := ZS hg; replace HB := ZT HB hb; clear hb hbox hg) | ((with_reducible refine gate_dst (N := 3) rfl ?_); refine ZX (N := 3) (cs := #[.int .i64 a1_0, .int .i64 a1_1, .int .i64 a1_2]) (t := 48) ?_; intro gb197 hg w7 hbox hb; have BK197 := AM (hbox); have GW197 : Aside0 (w.heap.size ≤ gb197) := ZS hg; have GE197 : Aside0 (w.heap.size ≤ gb197) := ZS hg; have NB196_197 : Aside0 (gb196 ≠ gb197) := ZN hg BK196; have NB197_196 : Aside0 (gb197 ≠ gb196) := ZM hg BK196; replace BK196 := ZW BK196 hb; replace HB := ZT HB hb; clear hb hbox hg; have hnb8 := NB197_196.out; have hnc8 := NB196_197.out; have hcz9 := ZC3 w7 BK197; have hfz9 := ZF3 BK197) | ((with_reducible refine gate_callee (f := 54) rfl ?_); refine ZGL (some 11) Try.func54 #[.int .i64 a1_1, .int .i64 0, .int .i64 9] ?_; (with_reducible refine (spec_l6In.calls a1_1 0 9 true _ A4.out).mono ?_); rintro e w' ⟨rfl, ⟨nd, rfl⟩⟩; refine ⟨_, rfl, ?_⟩))
 go_ret
 exact ⟨ZE, ZB⟩)
 ·(
 replace c5 := Bool.eq_false_iff.mpr c5
 subst c5
 have H1 := H; rw [if_neg ZFT] at H1
 clear H
 have H := H1
 clear H1
 obtain rfl := Option.some.inj H
 go_enter Try.func88, Try.ntmps88
 go_wp2_with (first | ((with_reducible refine gate_dst (N := 2) rfl ?_); refine ZX (N := 2) (cs := #[.slice A0_0 l0_0.length c0_0, .slice A0_1 l0_1.length c0_1]) (t := 32) ?_; intro gb196 hg w10 hbox hb; have BK196 := AM (hbox); have GW196 : Aside0 (w.heap.size ≤ gb196) := ZS hg; have GE196 : Aside0 (w.heap.size ≤ gb196) := ZS hg; replace HB := ZT HB hb; clear hb hbox hg) | ((with_reducible refine gate_dst (N := 3) rfl ?_); refine ZX (N := 3) (cs := #[.int .i64 a1_0, .int .i64 a1_1, .int .i64 a1_2]) (t := 48) ?_; intro gb197 hg w11 hbox hb; have BK197 := AM (hbox); have GW197 : Aside0 (w.heap.size ≤ gb197) := ZS hg; have GE197 : Aside0 (w.heap.size ≤ gb197) := ZS hg; have NB196_197 : Aside0 (gb196 ≠ gb197) := ZN hg BK196; have NB197_196 : Aside0 (gb197 ≠ gb196) := ZM hg BK196; replace BK196 := ZW BK196 hb; replace HB := ZT HB hb; clear hb hbox hg; have hnb12 := NB197_196.out; have hnc12 := NB196_197.out; have hcz13 := ZC3 w11 BK197; have hfz13 := ZF3 BK197) | ((with_reducible refine gate_callee (f := 54) rfl ?_); refine ZGL (some 11) Try.func54 #[.int .i64 a1_1, .int .i64 0, .int .i64 9] ?_; (with_reducible refine (spec_l6In.calls a1_1 0 9 false _ A4.out).mono ?_); rintro e w' ⟨rfl, ⟨nd, rfl⟩⟩; refine ⟨_, rfl, ?_⟩))
 go_ret
 exact ⟨ZE, ZB⟩))
 ·(
 rw [if_neg c3] at H
 have c3b0 := beq_eq_false_iff_ne.mpr c3
 have c3b1 := bne_iff_ne.mpr c3
 by_cases c14 : a1_0 = 2
 ·(
 rw [if_pos c14] at H
 have c14b0 := beq_iff_eq.mpr c14
 have c14b1 := bne_eq_false_iff_eq.mpr c14
 clear c14
 obtain ⟨t199, A15, H⟩ := ZOB H; try dsimp only at H
 by_cases c16 : t199 = true
 ·(
 subst c16
 have H1 := H; rw [if_pos rfl] at H1
 clear H
 have H := H1
 clear H1
 obtain rfl := Option.some.inj H
 go_enter Try.func88, Try.ntmps88
 go_wp2_with (first | ((with_reducible refine gate_dst (N := 2) rfl ?_); refine ZX (N := 2) (cs := #[.slice A0_0 l0_0.length c0_0, .slice A0_1 l0_1.length c0_1]) (t := 32) ?_; intro gb196 hg w17 hbox hb; have BK196 := AM (hbox); have GW196 : Aside0 (w.heap.size ≤ gb196) := ZS hg; have GE196 : Aside0 (w.heap.size ≤ gb196) := ZS hg; replace HB := ZT HB hb; clear hb hbox hg) | ((with_reducible refine gate_dst (N := 3) rfl ?_); refine ZX (N := 3) (cs := #[.int .i64 a1_0, .int .i64 a1_1, .int .i64 a1_2]) (t := 48) ?_; intro gb197 hg w18 hbox hb; have BK197 := AM (hbox); have GW197 : Aside0 (w.heap.size ≤ gb197) := ZS hg; have GE197 : Aside0 (w.heap.size ≤ gb197) := ZS hg; have NB196_197 : Aside0 (gb196 ≠ gb197) := ZN hg BK196; have NB197_196 : Aside0 (gb197 ≠ gb196) := ZM hg BK196; replace BK196 := ZW BK196 hb; replace HB := ZT HB hb; clear hb hbox hg; have hnb19 := NB197_196.out; have hnc19 := NB196_197.out; have hcz20 := ZC3 w18 BK197; have hfz20 := ZF3 BK197; have hcz21 := ZC2 w18 BK196; have hfz21 := ZF2 BK196) | ((with_reducible refine gate_callee (f := 87) rfl ?_); refine ZGL (some 22) Try.func87 #[.agg #[.slice A0_0 l0_0.length c0_0, .slice A0_1 l0_1.length c0_1], .int .i64 a1_1] ?_; (with_reducible refine (spec_l2Var.calls _ _ l0_0 _ _ l0_1 a1_1 true _ ?side1 ?side2 ?side3 ?side4 A15.out).mono ?_); (case side1 => exact ZQ (Kd.C_below HR0_0.out HB.out)); (case side2 => exact HC0_0.out); (case side3 => exact ZQ (Kd.C_below HR0_1.out HB.out)); (case side4 => exact HC0_1.out); rintro e w22 ⟨rfl, hb⟩; refine ⟨_, rfl, ?_⟩; replace BK196 := ZW BK196 hb; replace BK197 := ZW BK197 hb; replace HB := ZT HB hb; clear hb; have hcz23 := ZC3 w22 BK197; have hfz23 := ZF3 BK197))
 go_ret
 exact ⟨ZE, ZB⟩)
 ·(
 replace c16 := Bool.eq_false_iff.mpr c16
 subst c16
 have H1 := H; rw [if_neg ZFT] at H1
 clear H
 have H := H1
 clear H1
 obtain rfl := Option.some.inj H
 go_enter Try.func88, Try.ntmps88
 go_wp2_with (first | ((with_reducible refine gate_dst (N := 2) rfl ?_); refine ZX (N := 2) (cs := #[.slice A0_0 l0_0.length c0_0, .slice A0_1 l0_1.length c0_1]) (t := 32) ?_; intro gb196 hg w24 hbox hb; have BK196 := AM (hbox); have GW196 : Aside0 (w.heap.size ≤ gb196) := ZS hg; have GE196 : Aside0 (w.heap.size ≤ gb196) := ZS hg; replace HB := ZT HB hb; clear hb hbox hg) | ((with_reducible refine gate_dst (N := 3) rfl ?_); refine ZX (N := 3) (cs := #[.int .i64 a1_0, .int .i64 a1_1, .int .i64 a1_2]) (t := 48) ?_; intro gb197 hg w25 hbox hb; have BK197 := AM (hbox); have GW197 : Aside0 (w.heap.size ≤ gb197) := ZS hg; have GE197 : Aside0 (w.heap.size ≤ gb197) := ZS hg; have NB196_197 : Aside0 (gb196 ≠ gb197) := ZN hg BK196; have NB197_196 : Aside0 (gb197 ≠ gb196) := ZM hg BK196; replace BK196 := ZW BK196 hb; replace HB := ZT HB hb; clear hb hbox hg; have hnb26 := NB197_196.out; have hnc26 := NB196_197.out; have hcz27 := ZC3 w25 BK197; have hfz27 := ZF3 BK197; have hcz28 := ZC2 w25 BK196; have hfz28 := ZF2 BK196) | ((with_reducible refine gate_callee (f := 87) rfl ?_); refine ZGL (some 22) Try.func87 #[.agg #[.slice A0_0 l0_0.length c0_0, .slice A0_1 l0_1.length c0_1], .int .i64 a1_1] ?_; (with_reducible refine (spec_l2Var.calls _ _ l0_0 _ _ l0_1 a1_1 false _ ?side1 ?side2 ?side3 ?side4 A15.out).mono ?_); (case side1 => exact ZQ (Kd.C_below HR0_0.out HB.out)); (case side2 => exact HC0_0.out); (case side3 => exact ZQ (Kd.C_below HR0_1.out HB.out)); (case side4 => exact HC0_1.out); rintro e w29 ⟨rfl, hb⟩; refine ⟨_, rfl, ?_⟩; replace BK196 := ZW BK196 hb; replace BK197 := ZW BK197 hb; replace HB := ZT HB hb; clear hb))
 go_ret
 exact ⟨ZE, ZB⟩))
 ·(
 rw [if_neg c14] at H
 have c14b0 := beq_eq_false_iff_ne.mpr c14
 have c14b1 := bne_iff_ne.mpr c14
 have HC30 := AM H
 clear H
 go_enter Try.func88, Try.ntmps88
 go_upto_if 28 with (first | ((with_reducible refine gate_dst (N := 2) rfl ?_); refine ZX (N := 2) (cs := #[.slice A0_0 l0_0.length c0_0, .slice A0_1 l0_1.length c0_1]) (t := 32) ?_; intro gb196 hg w31 hbox hb; have BK196 := AM (hbox); have GW196 : Aside0 (w.heap.size ≤ gb196) := ZS hg; have GE196 : Aside0 (w.heap.size ≤ gb196) := ZS hg; replace HB := ZT HB hb; clear hb hbox hg) | ((with_reducible refine gate_dst (N := 3) rfl ?_); refine ZX (N := 3) (cs := #[.int .i64 a1_0, .int .i64 a1_1, .int .i64 a1_2]) (t := 48) ?_; intro gb197 hg w32 hbox hb; have BK197 := AM (hbox); have GW197 : Aside0 (w.heap.size ≤ gb197) := ZS hg; have GE197 : Aside0 (w.heap.size ≤ gb197) := ZS hg; have NB196_197 : Aside0 (gb196 ≠ gb197) := ZN hg BK196; have NB197_196 : Aside0 (gb197 ≠ gb196) := ZM hg BK196; replace BK196 := ZW BK196 hb; replace HB := ZT HB hb; clear hb hbox hg; have hnb33 := NB197_196.out; have hnc33 := NB196_197.out; have hcz34 := ZC3 w32 BK197; have hfz34 := ZF3 BK197))
 (try simp only [Act.put, List.setIfInBounds_toArray, List.set_cons_zero, List.set_cons_succ])
 go_cut [28] (fun v28 wc => ∃ (kq : Nat) (x28_29 : Bool), v28 = .bool x28_29 ∧ Aside0 (spec_l2Val.j0 kq x28_29 l0_0 l0_1 a1_0 a1_1 a1_2 = some r) ∧ Aside0 (kq ≤ k) ∧ Aside0 (wc.heap[gb196]? = some (.cells #[(.slice A0_0 l0_0.length c0_0), (.slice A0_1 l0_1.length c0_1)] 32 (0, 0))) ∧ Aside0 (wc.heap[gb197]? = some (.cells #[.int .i64 a1_0, .int .i64 a1_1, .int .i64 a1_2] 48 (0, 0))) ∧ Aside0 (Below w.heap.size w wc))
 case first => (
 have H := HC30.out
 clear HC30
 by_cases c35 : a1_0 = 3
 ·(
 rw [if_pos c35] at H
 have c35b0 := beq_iff_eq.mpr c35
 have c35b1 := bne_eq_false_iff_eq.mpr c35
 clear c35
 (first | rw [c35b0] | (simp only [i64_w, i32_w]; rw [c35b0]) | skip)
 have H' := AM H
 clear H
 go_wp2
 go_meet
 case rel => exact ⟨_, ((a1_0 == 3)), (by first | rfl | (simp; done) | (simp [*]; done)), H', ⟨by first | omega | exact Nat.le_refl _⟩, ⟨ZK BK196.out⟩, ⟨ZK BK197.out⟩, ⟨ZB⟩⟩)
 ·(
 rw [if_neg c35] at H
 have c35b0 := beq_eq_false_iff_ne.mpr c35
 have c35b1 := bne_iff_ne.mpr c35
 (first | rw [c35b0] | (simp only [i64_w, i32_w]; rw [c35b0]) | skip)
 have H' := AM H
 clear H
 go_wp2
 go_meet
 case rel => exact ⟨_, ((a1_0 == 4)), (by first | rfl | (simp; done) | (simp [*]; done)), H', ⟨by first | omega | exact Nat.le_refl _⟩, ⟨ZK BK196.out⟩, ⟨ZK BK197.out⟩, ⟨ZB⟩⟩))
 case rest => (
 clear HC30
 try clear c1
 try clear c2
 try clear p2
 try clear c3
 try clear c3b0
 try clear c3b1
 try clear c5
 try clear c8
 try clear c12
 try clear c14
 try clear c14b0
 try clear c14b1
 try clear c16
 try clear c19
 try clear c26
 try clear c33
 try clear c35
 try clear c35b0
 try clear c35b1
 try clear hcz13
 try clear hcz20
 try clear hcz21
 try clear hcz23
 try clear hcz27
 try clear hcz28
 try clear hcz34
 try clear hcz9
 try clear hfz13
 try clear hfz20
 try clear hfz21
 try clear hfz23
 try clear hfz27
 try clear hfz28
 try clear hfz34
 try clear hfz9
 obtain ⟨kq, x28_29, rfl, HA, HJ29, BK196, BK197, HB⟩ := hcut
 cases kq with
 | zero => exact absurd HA.out (by simp [spec_l2Val.j0])
 | succ kj29 =>
  have H := HA.out
  clear HA
  simp only [spec_l2Val.j0] at H
  by_cases c36 : x28_29 = true
  ·(
  subst c36
  have H1 := H; rw [if_pos rfl] at H1
  clear H
  have H := H1
  clear H1
  obtain ⟨t200, A37, H⟩ := ZOB H; try dsimp only at H
  by_cases c38 : t200 = true
  ·(
  subst c38
  have H1 := H; rw [if_pos rfl] at H1
  clear H
  have H := H1
  clear H1
  obtain ⟨t201, A39, H⟩ := ZOB H; try dsimp only at H
  obtain rfl := Option.some.inj H
  have hnb40 := NB196_197.out
  have hnc40 := NB197_196.out
  have hcz41 := ZC2 wc BK196
  have hfz41 := ZF2 BK196
  have hcz42 := ZC3 wc BK197
  have hfz42 := ZF3 BK197
  go_wp2_with (first | ((with_reducible refine gate_callee (f := 87) rfl ?_); refine ZGL (some 34) Try.func87 #[.agg #[.slice A0_0 l0_0.length c0_0, .slice A0_1 l0_1.length c0_1], .int .i64 a1_1] ?_; (with_reducible refine (spec_l2Var.calls _ _ l0_0 _ _ l0_1 a1_1 true _ ?side1 ?side2 ?side3 ?side4 A37.out).mono ?_); (case side1 => exact ZQ (Kd.C_below HR0_0.out HB.out)); (case side2 => exact HC0_0.out); (case side3 => exact ZQ (Kd.C_below HR0_1.out HB.out)); (case side4 => exact HC0_1.out); rintro e w43 ⟨rfl, hb⟩; refine ⟨_, rfl, ?_⟩; replace BK196 := ZW BK196 hb; replace BK197 := ZW BK197 hb; replace HB := ZT HB hb; clear hb; have hcz44 := ZC2 w43 BK196; have hfz44 := ZF2 BK196; have hcz45 := ZC3 w43 BK197; have hfz45 := ZF3 BK197) | (go_at_call 87; (with_reducible refine (spec_l2Var.calls _ _ l0_0 _ _ l0_1 a1_2 t201 _ ?side1 ?side2 ?side3 ?side4 A39.out).mono ?_); (case side1 => exact ZQ (Kd.C_below HR0_0.out HB.out)); (case side2 => exact HC0_0.out); (case side3 => exact ZQ (Kd.C_below HR0_1.out HB.out)); (case side4 => exact HC0_1.out); rintro e w46 ⟨rfl, hb⟩; replace BK196 := ZW BK196 hb; replace BK197 := ZW BK197 hb; replace HB := ZT HB hb; clear hb))
  go_ret
  exact ⟨ZE, ZB⟩)
  ·(
  replace c38 := Bool.eq_false_iff.mpr c38
  subst c38
  have H1 := H; rw [if_neg ZFT] at H1
  clear H
  have H := H1
  clear H1
  obtain rfl := Option.some.inj H
  have hnb47 := NB196_197.out
  have hnc47 := NB197_196.out
  have hcz48 := ZC2 wc BK196
  have hfz48 := ZF2 BK196
  have hcz49 := ZC3 wc BK197
  have hfz49 := ZF3 BK197
  go_wp2_with (first | ((with_reducible refine gate_callee (f := 87) rfl ?_); refine ZGL (some 34) Try.func87 #[.agg #[.slice A0_0 l0_0.length c0_0, .slice A0_1 l0_1.length c0_1], .int .i64 a1_1] ?_; (with_reducible refine (spec_l2Var.calls _ _ l0_0 _ _ l0_1 a1_1 false _ ?side1 ?side2 ?side3 ?side4 A37.out).mono ?_); (case side1 => exact ZQ (Kd.C_below HR0_0.out HB.out)); (case side2 => exact HC0_0.out); (case side3 => exact ZQ (Kd.C_below HR0_1.out HB.out)); (case side4 => exact HC0_1.out); rintro e w50 ⟨rfl, hb⟩; refine ⟨_, rfl, ?_⟩; replace BK196 := ZW BK196 hb; replace BK197 := ZW BK197 hb; replace HB := ZT HB hb; clear hb))
  go_ret
  exact ⟨ZE, ZB⟩))
  ·(
  replace c36 := Bool.eq_false_iff.mpr c36
  subst c36
  have H1 := H; rw [if_neg ZFT] at H1
  clear H
  have H := H1
  clear H1
  obtain rfl := Option.some.inj H
  go_wp2
  go_ret
  exact ⟨ZE, ZB⟩))))

-- (spec_l2Step stands with its caller)

end Go.Proofs.Ytaflodibibbakaa.B
