/- Go functions as Lean functions, and for each its contract; written by wip/tools/pr.py over the kit's print. -/
import Derived.Test.YtkkdeojbkfjlpaaBx0
import Derived.Test.YtkkdeojbkfjlpaaBx2
import Derived.Test.YtkkdeojbkfjlpaaBx3
namespace Go.Proofs.Ytkkdeojbkfjlpaa.B
open Go.RowKit Go.Proofs.YtkkdeojbkfjlpaaW.PrintWords Go.Proofs.YtkkdeojbkfjlpaaW.PrintLast Go.Proofs.YtkkdeojbkfjlpaaW.PrintMore
attribute [local go_sem] max2_int min2_int max_two min_two max_three min_three max_four min_four
set_option linter.unusedVariables false
set_option linter.unusedSimpArgs false
set_option maxHeartbeats 8000000
set_option maxRecDepth 100000

/-! ### spec_l2Count: function 35 -/
mutual
def spec_l2Count.l0 : Nat → List (S40) → Int → Int → Option (Int)
 | 0, _, _, _ => none
 | k + 1, x0, x3, x4 => if x4 < (x0.length : Int) then (if 0 ≤ x4 then ((spec_l2Count.f k ((D40 x0 x4).f4)).bind fun t128 => ((spec_l2Count.f k ((D40 x0 x4).f5)).bind fun t130 => (spec_l2Count.l0 k x0 (wrap64 ((wrap64 ((wrap64 (x3 + 1)) + t128)) + t130)) (wrap64 (x4 + 1))))) else (none)) else (some x3)
def spec_l2Count.f : Nat → List (S40) → Option (Int)
 | 0, _ => none
 | k + 1, l0 => spec_l2Count.l0 k l0 0 0
end
def spec_l2Count.T5 : Bool × List (List Nat × List Nat) := (true, [([], []), ([0], [0]), ([], []), ([], []), ([2, 3], [2, 3]), ([4], [4]), ([5], [5]), ([6], [6]), ([1, 7], [1, 7]), ([], []), ([], []), ([9, 10], [9, 10]), ([11], [11]), ([12], [12]), ([13, 7], [13]), ([8, 14], [8, 14]), ([15, 14, 0, 1, 2, 3, 4, 5, 6, 7, 8, 9, 10, 11, 12, 13, 14, 15], [0, 15])])
def spec_l2Count.B5 : List Nat := [0, 1, 0, 0, 12, 28, 60, 124, 255, 0, 0, 1536, 3584, 7680, 16124, 32767, 65535]
theorem spec_l2Count.tab5 : rtab .any (opsOf Try.f35 5) = spec_l2Count.T5 := by kernel_rfl
theorem spec_l2Count.bits5 : waitsOk spec_l2Count.T5.2 spec_l2Count.B5 = true := by kernel_rfl
theorem spec_l2Count.calls (k : Nat) : ∀ (A0 : Option Addr) (c0 : Nat) (l0 : List (S40)) (r : Int) (w : World) (hr0 : Kd.C k40 w A0 l0.length l0) (hc0 : l0.length ≤ c0) (h : spec_l2Count.f k l0 = some r),
  Calls Try.prog 35 #[.slice A0 l0.length c0] w fun e w' => e = .returned (.int .i64 r) ∧ Below w.heap.size w w' := by
 induction k using Nat.strongRecOn with
 | _ k ih =>
 intro A0 c0 l0 r w hr0 hc0 h
 cases k with
 | zero => exact absurd h (by simp [spec_l2Count.f])
 | succ k =>
 simp only [spec_l2Count.f] at h
 have HR0 := AM hr0
 have HC0 := AM hc0
 clear hr0 hc0
 have HB := AM (Below.refl w.heap.size w)
 have H : (spec_l2Count.l0 k l0 0 0) = some r := h
 clear h
 have H' := AM H
 clear H
 go_enter Try.func35, Try.ntmps35
 go_wp2
 go_loopg [3, 4] k (fun kq v3 v4 w' => ∃ (x3_1 : Int) (x4_1 : Int), v3 = .int .i64 x3_1 ∧ v4 = .int .i64 x4_1 ∧ Za (spec_l2Count.l0 kq l0 x3_1 x4_1 = some r) ∧ Za (kq ≤ k) ∧ Za (Below w.heap.size w w'))
 case atStart => exact ⟨(0), (0), ZSM, ZSM, H', ⟨Nat.le_refl _⟩, ⟨ZB⟩⟩
 case round => (
 clear H'
 obtain ⟨x3_1, x4_1, rfl, rfl, HA, HK1, HB⟩ := hrel
 cases gk with
 | zero => exact absurd HA.out (by simp [spec_l2Count.l0])
 | succ k1 =>
  have H := HA.out
  clear HA
  simp only [spec_l2Count.l0] at H
  by_cases c2 : x4_1 < (l0.length : Int)
  ·(
  rw [if_pos c2] at H
  have c2b0 := decide_eq_true c2
  clear c2
  by_cases c3 : 0 ≤ x4_1
  ·(
  rw [if_pos c3] at H
  have c3b0 := decide_eq_true c3
  clear c3
  obtain ⟨t128, A4, H⟩ := ZOB H; try dsimp only at H
  obtain ⟨t130, A5, H⟩ := ZOB H; try dsimp only at H
  have H' := AM H
  clear H
  try go_wp2
  replace HB := AM (below_drew1 HB.out)
  have p127 : 0 ≤ (x4_1 : Int) := ZD
  have q127 : x4_1 < (l0.length : Int) := ZD
  obtain ⟨ad127, A127_6, c127_6, A127_7, c127_7, e127, hx127_0, hx127_1, hx127_2, hx127_3, hx127_4, hx127_5, hx127_6, hx127_7, hl127_6, hi127_6, hl127_7, hi127_7⟩ := at_T40 HR0.out x4_1 p127 q127
  have hw127_7 := hx127_7
  have hw127_6 := hx127_6
  have hw127_5 := hx127_5
  have hw127_4 := hx127_4
  have hw127_3 := hx127_3
  have hw127_2 := hx127_2
  have hw127_1 := hx127_1
  have hw127_0 := hx127_0
  cases e127
  replace hx127_0 := ZHX HB hx127_0
  replace hx127_1 := ZHX HB hx127_1
  replace hx127_2 := ZHX HB hx127_2
  replace hx127_3 := ZHX HB hx127_3
  replace hx127_4 := ZHX HB hx127_4
  replace hx127_5 := ZHX HB hx127_5
  replace hx127_6 := ZHX HB hx127_6
  replace hx127_7 := ZHX HB hx127_7
  have HR127_6 := AM hi127_6
  have HC127_6 := AM hl127_6
  clear hi127_6 hl127_6
  have HR127_7 := AM hi127_7
  have HC127_7 := AM hl127_7
  clear hi127_7 hl127_7
  replace p127 := eq_true p127
  replace q127 := eq_true q127
  have p129 : 0 ≤ (x4_1 : Int) := ZD
  have q129 : x4_1 < (l0.length : Int) := ZD
  obtain ⟨ad129, A129_6, c129_6, A129_7, c129_7, e129, hx129_0, hx129_1, hx129_2, hx129_3, hx129_4, hx129_5, hx129_6, hx129_7, hl129_6, hi129_6, hl129_7, hi129_7⟩ := at_T40 HR0.out x4_1 p129 q129
  have hw129_7 := hx129_7
  have hw129_6 := hx129_6
  have hw129_5 := hx129_5
  have hw129_4 := hx129_4
  have hw129_3 := hx129_3
  have hw129_2 := hx129_2
  have hw129_1 := hx129_1
  have hw129_0 := hx129_0
  obtain rfl : ad127 = ad129 := (by injection e129)
  replace hx129_0 := ZHX HB hx129_0
  replace hx129_1 := ZHX HB hx129_1
  replace hx129_2 := ZHX HB hx129_2
  replace hx129_3 := ZHX HB hx129_3
  replace hx129_4 := ZHX HB hx129_4
  replace hx129_5 := ZHX HB hx129_5
  replace hx129_6 := ZHX HB hx129_6
  replace hx129_7 := ZHX HB hx129_7
  have HR129_6 := AM hi129_6
  have HC129_6 := AM hl129_6
  clear hi129_6 hl129_6
  have HR129_7 := AM hi129_7
  have HC129_7 := AM hl129_7
  clear hi129_7 hl129_7
  replace p129 := eq_true p129
  replace q129 := eq_true q129
  have ea_ := Option.some.inj (hx127_6.symm.trans hx129_6)
  injection ea_ with ea_ en_ ec_
  subst ea_
  subst ec_
  clear en_
  have ea_ := Option.some.inj (hx127_7.symm.trans hx129_7)
  injection ea_ with ea_ en_ ec_
  subst ea_
  subst ec_
  clear en_
  refine start_ (n := 17) (S := fun w' => w'.cell? (ad127.add ((x4_1).toNat * 8)) = some (.int .i64 ((D40 l0 x4_1).f0)) ∧ w'.cell? ⟨(ad127.add ((x4_1).toNat * 8)).block, (ad127.add ((x4_1).toNat * 8)).off + 1, none⟩ = some (.int .i64 ((D40 l0 x4_1).f1)) ∧ w'.cell? ⟨(ad127.add ((x4_1).toNat * 8)).block, (ad127.add ((x4_1).toNat * 8)).off + 2, none⟩ = some (.int .i64 ((D40 l0 x4_1).f2.f0)) ∧ w'.cell? ⟨(ad127.add ((x4_1).toNat * 8)).block, (ad127.add ((x4_1).toNat * 8)).off + 3, none⟩ = some (.int .i64 ((D40 l0 x4_1).f2.f1)) ∧ w'.cell? ⟨(ad127.add ((x4_1).toNat * 8)).block, (ad127.add ((x4_1).toNat * 8)).off + 4, none⟩ = some (.int .i64 ((D40 l0 x4_1).f2.f2)) ∧ w'.cell? ⟨(ad127.add ((x4_1).toNat * 8)).block, (ad127.add ((x4_1).toNat * 8)).off + 5, none⟩ = some (.int .i64 ((D40 l0 x4_1).f3)) ∧ w'.cell? ⟨(ad127.add ((x4_1).toNat * 8)).block, (ad127.add ((x4_1).toNat * 8)).off + 6, none⟩ = some (.slice A127_6 ((D40 l0 x4_1).f4).length c127_6) ∧ w'.cell? ⟨(ad127.add ((x4_1).toNat * 8)).block, (ad127.add ((x4_1).toNat * 8)).off + 7, none⟩ = some (.slice A127_7 ((D40 l0 x4_1).f5).length c127_7) ∧ w'.cell? (ad127.add ((x4_1).toNat * 8)) = some (.int .i64 ((D40 l0 x4_1).f0)) ∧ w'.cell? ⟨(ad127.add ((x4_1).toNat * 8)).block, (ad127.add ((x4_1).toNat * 8)).off + 1, none⟩ = some (.int .i64 ((D40 l0 x4_1).f1)) ∧ w'.cell? ⟨(ad127.add ((x4_1).toNat * 8)).block, (ad127.add ((x4_1).toNat * 8)).off + 2, none⟩ = some (.int .i64 ((D40 l0 x4_1).f2.f0)) ∧ w'.cell? ⟨(ad127.add ((x4_1).toNat * 8)).block, (ad127.add ((x4_1).toNat * 8)).off + 3, none⟩ = some (.int .i64 ((D40 l0 x4_1).f2.f1)) ∧ w'.cell? ⟨(ad127.add ((x4_1).toNat * 8)).block, (ad127.add ((x4_1).toNat * 8)).off + 4, none⟩ = some (.int .i64 ((D40 l0 x4_1).f2.f2)) ∧ w'.cell? ⟨(ad127.add ((x4_1).toNat * 8)).block, (ad127.add ((x4_1).toNat * 8)).off + 5, none⟩ = some (.int .i64 ((D40 l0 x4_1).f3)) ∧ w'.cell? ⟨(ad127.add ((x4_1).toNat * 8)).block, (ad127.add ((x4_1).toNat * 8)).off + 6, none⟩ = some (.slice A127_6 ((D40 l0 x4_1).f4).length c127_6) ∧ w'.cell? ⟨(ad127.add ((x4_1).toNat * 8)).block, (ad127.add ((x4_1).toNat * 8)).off + 7, none⟩ = some (.slice A127_7 ((D40 l0 x4_1).f5).length c127_7)) (ds := []) #[F,F,F,F,F,F,F,F,F,F,F,F,F,F,F,F,F] (by kernel_rfl) rfl rfl ⟨((HB.out.cell (World.block_lt_of_cell? w _ hw127_0)).trans hw127_0), ((HB.out.cell (World.block_lt_of_cell? w _ hw127_1)).trans hw127_1), ((HB.out.cell (World.block_lt_of_cell? w _ hw127_2)).trans hw127_2), ((HB.out.cell (World.block_lt_of_cell? w _ hw127_3)).trans hw127_3), ((HB.out.cell (World.block_lt_of_cell? w _ hw127_4)).trans hw127_4), ((HB.out.cell (World.block_lt_of_cell? w _ hw127_5)).trans hw127_5), ((HB.out.cell (World.block_lt_of_cell? w _ hw127_6)).trans hw127_6), ((HB.out.cell (World.block_lt_of_cell? w _ hw127_7)).trans hw127_7), ((HB.out.cell (World.block_lt_of_cell? w _ hw129_0)).trans hw129_0), ((HB.out.cell (World.block_lt_of_cell? w _ hw129_1)).trans hw129_1), ((HB.out.cell (World.block_lt_of_cell? w _ hw129_2)).trans hw129_2), ((HB.out.cell (World.block_lt_of_cell? w _ hw129_3)).trans hw129_3), ((HB.out.cell (World.block_lt_of_cell? w _ hw129_4)).trans hw129_4), ((HB.out.cell (World.block_lt_of_cell? w _ hw129_5)).trans hw129_5), ((HB.out.cell (World.block_lt_of_cell? w _ hw129_6)).trans hw129_6), ((HB.out.cell (World.block_lt_of_cell? w _ hw129_7)).trans hw129_7)⟩ (fun hHeld => ?_); refine with_tabW spec_l2Count.tab5 spec_l2Count.bits5 (fun HT_ HW_ => ?_)
  generalize wr.drew = w6 at HB HR127_6 HR127_7 HR129_6 HR129_7 hx127_0 hx127_1 hx127_2 hx127_3 hx127_4 hx127_5 hx127_6 hx127_7 hx129_0 hx129_1 hx129_2 hx129_3 hx129_4 hx129_5 hx129_6 hx129_7 hHeld ⊢
  refine ZU 0 11 #[T,F,F,F,F,F,F,F,F,F,F,F,F,F,F,F,F] ?_
  refine ZU 1 12 #[T,T,F,F,F,F,F,F,F,F,F,F,F,F,F,F,F] ?_
  refine ZU 2 13 #[T,T,T,F,F,F,F,F,F,F,F,F,F,F,F,F,F] ?_
  refine ZU 3 14 #[T,T,T,T,F,F,F,F,F,F,F,F,F,F,F,F,F] ?_
  refine ZU 4 15 #[T,T,T,T,T,F,F,F,F,F,F,F,F,F,F,F,F] ?_
  refine ZU 5 16 #[T,T,T,T,T,T,F,F,F,F,F,F,F,F,F,F,F] ?_
  refine ZU 9 20 #[T,T,T,T,T,T,F,F,F,T,F,F,F,F,F,F,F] ?_
  refine ZU 10 21 #[T,T,T,T,T,T,F,F,F,T,T,F,F,F,F,F,F] ?_
  refine ZU 11 22 #[T,T,T,T,T,T,F,F,F,T,T,T,F,F,F,F,F] ?_
  refine ZU 12 23 #[T,T,T,T,T,T,F,F,F,T,T,T,T,F,F,F,F] ?_
  refine ZTK 6 17 #[T,T,T,T,T,T,T,F,F,T,T,T,T,F,F,F,F] hHeld ?_
  refine ZTK 13 24 #[T,T,T,T,T,T,T,F,F,T,T,T,T,T,F,F,F] hHeld ?_
  refine one_ (i := 7) (N := some 18) #[T,T,T,T,T,T,T,T,F,T,T,T,T,T,F,F,F] rfl rfl (one_of HT_.out (by kernel_rfl)) (by decide) (fun K hK => ?_)
  refine ZGO Try.func35 #[.slice A127_6 ((D40 l0 x4_1).f4).length c127_6] ?_
  with_reducible refine (ih k1 (by have := HK1.out; omega) _ _ ((D40 l0 x4_1).f4) t128 _ ?side1 ?side2 A4.out).mono ?_
  (case side1 => exact ZQ (Kd.C_below HR127_6.out HB.out))
  (case side2 => exact HC127_6.out)
  rintro e w7 ⟨rfl, hb⟩
  refine ZV1 ?_
  replace HB := ZT HB hb
  (try clear hb)
  (try clear hb2)
  (try clear hk)
  (try clear hi)
  refine hK.out _ _ ⟨((HB.out.cell (World.block_lt_of_cell? w _ hw127_0)).trans hw127_0), ((HB.out.cell (World.block_lt_of_cell? w _ hw127_1)).trans hw127_1), ((HB.out.cell (World.block_lt_of_cell? w _ hw127_2)).trans hw127_2), ((HB.out.cell (World.block_lt_of_cell? w _ hw127_3)).trans hw127_3), ((HB.out.cell (World.block_lt_of_cell? w _ hw127_4)).trans hw127_4), ((HB.out.cell (World.block_lt_of_cell? w _ hw127_5)).trans hw127_5), ((HB.out.cell (World.block_lt_of_cell? w _ hw127_6)).trans hw127_6), ((HB.out.cell (World.block_lt_of_cell? w _ hw127_7)).trans hw127_7), ((HB.out.cell (World.block_lt_of_cell? w _ hw129_0)).trans hw129_0), ((HB.out.cell (World.block_lt_of_cell? w _ hw129_1)).trans hw129_1), ((HB.out.cell (World.block_lt_of_cell? w _ hw129_2)).trans hw129_2), ((HB.out.cell (World.block_lt_of_cell? w _ hw129_3)).trans hw129_3), ((HB.out.cell (World.block_lt_of_cell? w _ hw129_4)).trans hw129_4), ((HB.out.cell (World.block_lt_of_cell? w _ hw129_5)).trans hw129_5), ((HB.out.cell (World.block_lt_of_cell? w _ hw129_6)).trans hw129_6), ((HB.out.cell (World.block_lt_of_cell? w _ hw129_7)).trans hw129_7)⟩ (fun hHeld => ?_)
  clear hK K
  refine ZNO 18 ?_
  refine ZU 8 19 #[T,T,T,T,T,T,T,T,T,T,T,T,T,T,F,F,F] ?_
  refine one_ (i := 14) (N := some 25) #[T,T,T,T,T,T,T,T,T,T,T,T,T,T,T,F,F] rfl rfl (one_of HT_.out (by kernel_rfl)) (by decide) (fun K hK => ?_)
  refine ZGO Try.func35 #[.slice A127_7 ((D40 l0 x4_1).f5).length c127_7] ?_
  with_reducible refine (ih k1 (by have := HK1.out; omega) _ _ ((D40 l0 x4_1).f5) t130 _ ?side1 ?side2 A5.out).mono ?_
  (case side1 => exact ZQ (Kd.C_below HR129_7.out HB.out))
  (case side2 => exact HC129_7.out)
  rintro e w8 ⟨rfl, hb⟩
  refine ZV1 ?_
  replace HB := ZT HB hb
  (try clear hb)
  (try clear hb2)
  (try clear hk)
  (try clear hi)
  refine hK.out _ _ ⟨((HB.out.cell (World.block_lt_of_cell? w _ hw127_0)).trans hw127_0), ((HB.out.cell (World.block_lt_of_cell? w _ hw127_1)).trans hw127_1), ((HB.out.cell (World.block_lt_of_cell? w _ hw127_2)).trans hw127_2), ((HB.out.cell (World.block_lt_of_cell? w _ hw127_3)).trans hw127_3), ((HB.out.cell (World.block_lt_of_cell? w _ hw127_4)).trans hw127_4), ((HB.out.cell (World.block_lt_of_cell? w _ hw127_5)).trans hw127_5), ((HB.out.cell (World.block_lt_of_cell? w _ hw127_6)).trans hw127_6), ((HB.out.cell (World.block_lt_of_cell? w _ hw127_7)).trans hw127_7), ((HB.out.cell (World.block_lt_of_cell? w _ hw129_0)).trans hw129_0), ((HB.out.cell (World.block_lt_of_cell? w _ hw129_1)).trans hw129_1), ((HB.out.cell (World.block_lt_of_cell? w _ hw129_2)).trans hw129_2), ((HB.out.cell (World.block_lt_of_cell? w _ hw129_3)).trans hw129_3), ((HB.out.cell (World.block_lt_of_cell? w _ hw129_4)).trans hw129_4), ((HB.out.cell (World.block_lt_of_cell? w _ hw129_5)).trans hw129_5), ((HB.out.cell (World.block_lt_of_cell? w _ hw129_6)).trans hw129_6), ((HB.out.cell (World.block_lt_of_cell? w _ hw129_7)).trans hw129_7)⟩ (fun hHeld => ?_)
  clear hK K
  refine ZNO 25 ?_
  refine ZU 15 26 #[T,T,T,T,T,T,T,T,T,T,T,T,T,T,T,T,F] ?_
  refine ZU 16 3 #[T,T,T,T,T,T,T,T,T,T,T,T,T,T,T,T,T] ?_
  refine done_ (done_of HT_.out (by kernel_rfl)) ?_
  try go_wp2
  go_roundg k1
  case measure => have := HK1.out; omega
  case rel => exact ⟨(wrap64 ((wrap64 ((wrap64 (x3_1 + 1)) + t128)) + t130)), (wrap64 (x4_1 + 1)), ZSM, ZSM, H', ⟨by have := HK1.out; omega⟩, ⟨ZB⟩⟩)
  ·(
  rw [if_neg c3] at H
  exact absurd H (by simp)))
  ·(
  rw [if_neg c2] at H
  have c2b0 := decide_eq_false c2
  clear c2
  obtain rfl := Option.some.inj H
  go_wp2
  go_ret
  exact ⟨ZE, ZB⟩))

/-! ### spec_ProgOk: function 16 -/
def spec_ProgOk.l0 : Nat → Int → List (S35) → List (S40) → Option (Bool)
 | 0, _, _, _ => none
 | k + 1, x3, x132000, x132001 => if x3 < (x132000.length : Int) then (if 0 ≤ x3 then ((spec_LabelOk.f ((D35 x132000 x3).f0) ((D35 x132000 x3).f1)).bind fun t133 => (if t133 = true then (spec_ProgOk.l0 k (wrap64 (x3 + 1)) x132000 x132001) else (some false))) else (none)) else ((spec_l2Steps.f k x132000 x132001 x132001 3).bind fun t134 => (if t134 = true then ((spec_l2Count.f k x132001).bind fun t135 => (some (decide (t135 ≤ 8)))) else (some false)))
def spec_ProgOk.f (k : Nat) (l0_0 : List (S35)) (l0_1 : List (S40)) : Option (Bool) := if (l0_0.length : Int) > 4 then (some false) else (spec_ProgOk.l0 k 0 l0_0 l0_1)
theorem spec_ProgOk.calls (k : Nat) (A0_0 : Option Addr) (c0_0 : Nat) (l0_0 : List (S35)) (A0_1 : Option Addr) (c0_1 : Nat) (l0_1 : List (S40)) (r : Bool) (w : World) (hr0_0 : Kd.C k35 w A0_0 l0_0.length l0_0) (hc0_0 : l0_0.length ≤ c0_0) (hr0_1 : Kd.C k40 w A0_1 l0_1.length l0_1) (hc0_1 : l0_1.length ≤ c0_1) (h : spec_ProgOk.f k l0_0 l0_1 = some r) :
  Calls Try.prog 16 #[.agg #[.slice A0_0 l0_0.length c0_0, .slice A0_1 l0_1.length c0_1]] w fun e w' => e = .returned (.bool r) ∧ Below w.heap.size w w' := by
 have hu26 := Try.underlying26
 have hu35 := Try.underlying35
 have HR0_0 := AM hr0_0
 have HC0_0 := AM hc0_0
 clear hr0_0 hc0_0
 have HR0_1 := AM hr0_1
 have HC0_1 := AM hc0_1
 clear hr0_1 hc0_1
 have HB := AM (Below.refl w.heap.size w)
 have H := h
 unfold spec_ProgOk.f at H
 clear h
 by_cases c2 : (l0_0.length : Int) > 4
 ·(
 rw [if_pos c2] at H
 have c2b0 := decide_eq_true c2
 have c2b1 : decide (4 < l0_0.length) = true := decide_eq_true (by omega)
 clear c2
 obtain rfl := Option.some.inj H
 go_enter Try.func16, Try.ntmps16
 go_wp2_with (first | ((with_reducible refine gate_dst (N := 1) rfl ?_); refine ZXW w (N := 1) (cs := #[.slice A0_0 l0_0.length c0_0, .slice A0_1 l0_1.length c0_1]) (t := 26) ?_; intro gb131 hg w3 BK131 GW131 hb; replace HB := ZT HB hb; clear hb hg; have hcz4 := ZC2 w3 BK131))
 go_ret
 exact ⟨ZE, ZB⟩)
 ·(
 rw [if_neg c2] at H
 have c2b0 := decide_eq_false c2
 have c2b1 : decide (4 < l0_0.length) = false := decide_eq_false (by omega)
 clear c2
 have H' := AM H
 clear H
 go_enter Try.func16, Try.ntmps16
 go_wp2_with (first | ((with_reducible refine gate_dst (N := 1) rfl ?_); refine ZXW w (N := 1) (cs := #[.slice A0_0 l0_0.length c0_0, .slice A0_1 l0_1.length c0_1]) (t := 26) ?_; intro gb131 hg w5 BK131 GW131 hb; replace HB := ZT HB hb; clear hb hg; have hcz6 := ZC2 w5 BK131))
 go_loopg [3] k (fun kq v3 w' => ∃ (x3_1 : Int), v3 = .int .i64 x3_1 ∧ Za (spec_ProgOk.l0 kq x3_1 l0_0 l0_1 = some r) ∧ Za (kq ≤ k) ∧ Za (w'.heap[gb131]? = some (.cells #[(.slice A0_0 l0_0.length c0_0), (.slice A0_1 l0_1.length c0_1)] 26 (0, 0))) ∧ Za (Below w.heap.size w w'))
 case atStart => exact ⟨(0), ZSM, H', ⟨Nat.le_refl _⟩, ⟨ZK BK131.out⟩, ⟨ZB⟩⟩
 case round => (
 clear H'
 try clear c1
 try clear c2
 try clear c2b0
 try clear c2b1
 try clear p2
 try clear hcz4
 try clear hcz6
 obtain ⟨x3_1, rfl, HA, HK1, BK131, HB⟩ := hrel
 cases gk with
 | zero => exact absurd HA.out (by simp [spec_ProgOk.l0])
 | succ k1 =>
  have H := HA.out
  clear HA
  simp only [spec_ProgOk.l0] at H
  by_cases c7 : x3_1 < (l0_0.length : Int)
  ·(
  rw [if_pos c7] at H
  have c7b0 := decide_eq_true c7
  clear c7
  by_cases c8 : 0 ≤ x3_1
  ·(
  rw [if_pos c8] at H
  have c8b0 := decide_eq_true c8
  clear c8
  obtain ⟨t133, A9, H⟩ := ZOB H; try dsimp only at H
  by_cases c10 : t133 = true
  ·(
  subst c10
  have H1 := H; rw [if_pos rfl] at H1
  clear H
  have H := H1
  clear H1
  have H' := AM H
  clear H
  have hcz11 := ZC2 wr BK131
  have p132 : 0 ≤ (x3_1 : Int) := ZD
  have q132 : x3_1 < (l0_0.length : Int) := ZD
  obtain ⟨ad132, e132, hx132_0, hx132_1⟩ := at_T35 HR0_0.out x3_1 p132 q132
  cases e132
  replace hx132_0 := ZHX HB hx132_0
  replace hx132_1 := ZHX HB hx132_1
  replace p132 := eq_true p132
  replace q132 := eq_true q132
  go_wp2_with (first | ((with_reducible refine gate_callee (f := 33) rfl ?_); refine ZGL (some 20) Try.func33 #[.agg #[.int .i64 ((D35 l0_0 x3_1).f0), .int .i64 ((D35 l0_0 x3_1).f1)]] ?_; (with_reducible refine (spec_LabelOk.calls ((D35 l0_0 x3_1).f0) ((D35 l0_0 x3_1).f1) true _ A9.out).mono ?_); rintro e w12 ⟨rfl, hb⟩; refine ZV1 ?_; replace BK131 := ZW BK131 hb; replace HB := ZT HB hb; clear hb))
  go_roundg k1
  case measure => have := HK1.out; omega
  case rel => exact ⟨(wrap64 (x3_1 + 1)), ZSM, H', ⟨by have := HK1.out; omega⟩, ⟨ZK BK131.out⟩, ⟨ZB⟩⟩)
  ·(
  replace c10 := Bool.eq_false_iff.mpr c10
  subst c10
  have H1 := H; rw [if_neg ZFT] at H1
  clear H
  have H := H1
  clear H1
  obtain rfl := Option.some.inj H
  have hcz13 := ZC2 wr BK131
  have p132 : 0 ≤ (x3_1 : Int) := ZD
  have q132 : x3_1 < (l0_0.length : Int) := ZD
  obtain ⟨ad132, e132, hx132_0, hx132_1⟩ := at_T35 HR0_0.out x3_1 p132 q132
  cases e132
  replace hx132_0 := ZHX HB hx132_0
  replace hx132_1 := ZHX HB hx132_1
  replace p132 := eq_true p132
  replace q132 := eq_true q132
  go_wp2_with (first | ((with_reducible refine gate_callee (f := 33) rfl ?_); refine ZGL (some 20) Try.func33 #[.agg #[.int .i64 ((D35 l0_0 x3_1).f0), .int .i64 ((D35 l0_0 x3_1).f1)]] ?_; (with_reducible refine (spec_LabelOk.calls ((D35 l0_0 x3_1).f0) ((D35 l0_0 x3_1).f1) false _ A9.out).mono ?_); rintro e w14 ⟨rfl, hb⟩; refine ZV1 ?_; replace BK131 := ZW BK131 hb; replace HB := ZT HB hb; clear hb))
  go_ret
  exact ⟨ZE, ZB⟩))
  ·(
  rw [if_neg c8] at H
  exact absurd H (by simp)))
  ·(
  rw [if_neg c7] at H
  have c7b0 := decide_eq_false c7
  clear c7
  obtain ⟨t134, A15, H⟩ := ZOB H; try dsimp only at H
  by_cases c16 : t134 = true
  ·(
  subst c16
  have H1 := H; rw [if_pos rfl] at H1
  clear H
  have H := H1
  clear H1
  obtain ⟨t135, A17, H⟩ := ZOB H; try dsimp only at H
  obtain rfl := Option.some.inj H
  have hcz18 := ZC2 wr BK131
  go_wp2_with (first | ((with_reducible refine gate_callee (f := 34) rfl ?_); refine ZGL (some 25) Try.func34 #[.agg #[.slice A0_0 l0_0.length c0_0, .slice A0_1 l0_1.length c0_1], .slice A0_1 l0_1.length c0_1, .int .i64 3] ?_; (with_reducible refine (spec_l2Steps.calls k1 _ _ l0_0 _ _ l0_1 _ _ l0_1 3 true _ (ZQ (Kd.C_below HR0_0.out HB.out)) HC0_0.out (ZQ (Kd.C_below HR0_1.out HB.out)) HC0_1.out (ZQ (Kd.C_below HR0_1.out HB.out)) HC0_1.out A15.out).mono ?_); rintro e w19 ⟨rfl, hb⟩; refine ZV1 ?_; replace BK131 := ZW BK131 hb; replace HB := ZT HB hb; clear hb; have hcz20 := ZC2 w19 BK131) | (go_at_call 35; (with_reducible refine (spec_l2Count.calls k1 _ _ l0_1 t135 _ (ZQ (Kd.C_below HR0_1.out HB.out)) HC0_1.out A17.out).mono ?_); rintro e w21 ⟨rfl, hb⟩; replace BK131 := ZW BK131 hb; replace HB := ZT HB hb; clear hb))
  go_ret
  exact ⟨ZE, ZB⟩)
  ·(
  replace c16 := Bool.eq_false_iff.mpr c16
  subst c16
  have H1 := H; rw [if_neg ZFT] at H1
  clear H
  have H := H1
  clear H1
  obtain rfl := Option.some.inj H
  have hcz22 := ZC2 wr BK131
  go_wp2_with (first | ((with_reducible refine gate_callee (f := 34) rfl ?_); refine ZGL (some 25) Try.func34 #[.agg #[.slice A0_0 l0_0.length c0_0, .slice A0_1 l0_1.length c0_1], .slice A0_1 l0_1.length c0_1, .int .i64 3] ?_; (with_reducible refine (spec_l2Steps.calls k1 _ _ l0_0 _ _ l0_1 _ _ l0_1 3 false _ (ZQ (Kd.C_below HR0_0.out HB.out)) HC0_0.out (ZQ (Kd.C_below HR0_1.out HB.out)) HC0_1.out (ZQ (Kd.C_below HR0_1.out HB.out)) HC0_1.out A15.out).mono ?_); rintro e w23 ⟨rfl, hb⟩; refine ZV1 ?_; replace BK131 := ZW BK131 hb; replace HB := ZT HB hb; clear hb))
  go_ret
  exact ⟨ZE, ZB⟩))))

end Go.Proofs.Ytkkdeojbkfjlpaa.B
