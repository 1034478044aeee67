/- Go functions as Lean functions, and for each its contract; written by wip/tools/pr.py over the kit's print. -/
import Derived.Test.YtkkdeojbkfjlpaaAx0
import Derived.Test.YtkkdeojbkfjlpaaAx9
import Derived.Test.YtkkdeojbkfjlpaaAx11
namespace Go.Proofs.Ytkkdeojbkfjlpaa.A
open Go.RowKit Go.Proofs.YtkkdeojbkfjlpaaW.PrintWords Go.Proofs.YtkkdeojbkfjlpaaW.PrintLast Go.Proofs.YtkkdeojbkfjlpaaW.PrintMore
attribute [local go_sem] max2_int min2_int max_two min_two max_three min_three max_four min_four
set_option linter.unusedVariables false
set_option linter.unusedSimpArgs false
set_option maxHeartbeats 8000000
set_option maxRecDepth 100000

/-! ### spec_l2Count: function 35 -/
mutual
def spec_l2Count.l0 : Nat → List (S40) → Int → Int → Option (Int)
 | 0, _, _, _ => none
 | k + 1, x0, x3, x4 => if x4 < (x0.length : Int) then (if 0 ≤ x4 then ((spec_l2Count.f k ((D40 x0 x4).f4)).bind fun t236 => ((spec_l2Count.f k ((D40 x0 x4).f5)).bind fun t238 => (spec_l2Count.l0 k x0 (wrap64 ((wrap64 ((wrap64 (x3 + 1)) + t236)) + t238)) (wrap64 (x4 + 1))))) else (none)) else (some x3)
def spec_l2Count.f : Nat → List (S40) → Option (Int)
 | 0, _ => none
 | k + 1, l0 => spec_l2Count.l0 k l0 0 0
end
def spec_l2Count.T5 : Bool × List (List Nat × List Nat) := (true, [([], []), ([0], [0]), ([], []), ([], []), ([2, 3], [2, 3]), ([4], [4]), ([5], [5]), ([6], [6]), ([1, 7], [1, 7]), ([], []), ([], []), ([9, 10], [9, 10]), ([11], [11]), ([12], [12]), ([13, 7], [13]), ([8, 14], [8, 14]), ([15, 14, 0, 1, 2, 3, 4, 5, 6, 7, 8, 9, 10, 11, 12, 13, 14, 15], [0, 15])])
def spec_l2Count.B5 : List Nat := [0, 1, 0, 0, 12, 28, 60, 124, 255, 0, 0, 1536, 3584, 7680, 16124, 32767, 65535]
theorem spec_l2Count.tab5 : rtab .any (opsOf Try.f35 5) = spec_l2Count.T5 := by kernel_rfl
theorem spec_l2Count.bits5 : waitsOk spec_l2Count.T5.2 spec_l2Count.B5 = true := by kernel_rfl
theorem spec_l2Count.calls (k : Nat) : ∀ (A0 : Option Addr) (c0 : Nat) (l0 : List (S40)) (r : Int) (w : World) (hr0 : Kd.C k40 w A0 l0.length l0) (hc0 : l0.length ≤ c0) (h : spec_l2Count.f k l0 = some r),
  Calls Try.prog 35 #[.slice A0 l0.length c0] w fun e w' => e = .returned (.int .i64 r) ∧ Below w.heap.size w w' := by
 induction k using Nat.strongRecOn with
 | _ k ih =>
 intro A0 c0 l0 r w hr0 hc0 h
 cases k with
 | zero => exact absurd h (by simp [spec_l2Count.f])
 | succ k =>
 simp only [spec_l2Count.f] at h
 have HR0 := AM hr0
 have HC0 := AM hc0
 clear hr0 hc0
 have HB := AM (Below.refl w.heap.size w)
 have H : (spec_l2Count.l0 k l0 0 0) = some r := h
 clear h
 have H' := AM H
 clear H
 go_enter Try.func35, Try.ntmps35
 go_wp2
 go_loopg [3, 4] k (fun kq v3 v4 w' => ∃ (x3_1 : Int) (x4_1 : Int), v3 = .int .i64 x3_1 ∧ v4 = .int .i64 x4_1 ∧ Za (spec_l2Count.l0 kq l0 x3_1 x4_1 = some r) ∧ Za (kq ≤ k) ∧ Za (Below w.heap.size w w'))
 case atStart => exact ⟨(0), (0), ZSM, ZSM, H', ⟨Nat.le_refl _⟩, ⟨ZB⟩⟩
 case round => (
 clear H'
 obtain ⟨x3_1, x4_1, rfl, rfl, HA, HK1, HB⟩ := hrel
 cases gk with
 | zero => exact absurd HA.out (by simp [spec_l2Count.l0])
 | succ k1 =>
  have H := HA.out
  clear HA
  simp only [spec_l2Count.l0] at H
  by_cases c2 : x4_1 < (l0.length : Int)
  ·(
  rw [if_pos c2] at H
  have c2b0 := decide_eq_true c2
  clear c2
  by_cases c3 : 0 ≤ x4_1
  ·(
  rw [if_pos c3] at H
  have c3b0 := decide_eq_true c3
  clear c3
  obtain ⟨t236, A4, H⟩ := ZOB H; try dsimp only at H
  obtain ⟨t238, A5, H⟩ := ZOB H; try dsimp only at H
  have H' := AM H
  clear H
  try go_wp2
  replace HB := AM (below_drew1 HB.out)
  have p235 : 0 ≤ (x4_1 : Int) := ZD
  have q235 : x4_1 < (l0.length : Int) := ZD
  obtain ⟨ad235, A235_6, c235_6, A235_7, c235_7, e235, hx235_0, hx235_1, hx235_2, hx235_3, hx235_4, hx235_5, hx235_6, hx235_7, hl235_6, hi235_6, hl235_7, hi235_7⟩ := at_T40 HR0.out x4_1 p235 q235
  have hw235_7 := hx235_7
  have hw235_6 := hx235_6
  have hw235_5 := hx235_5
  have hw235_4 := hx235_4
  have hw235_3 := hx235_3
  have hw235_2 := hx235_2
  have hw235_1 := hx235_1
  have hw235_0 := hx235_0
  cases e235
  replace hx235_0 := ZHX HB hx235_0
  replace hx235_1 := ZHX HB hx235_1
  replace hx235_2 := ZHX HB hx235_2
  replace hx235_3 := ZHX HB hx235_3
  replace hx235_4 := ZHX HB hx235_4
  replace hx235_5 := ZHX HB hx235_5
  replace hx235_6 := ZHX HB hx235_6
  replace hx235_7 := ZHX HB hx235_7
  have HR235_6 := AM hi235_6
  have HC235_6 := AM hl235_6
  clear hi235_6 hl235_6
  have HR235_7 := AM hi235_7
  have HC235_7 := AM hl235_7
  clear hi235_7 hl235_7
  replace p235 := eq_true p235
  replace q235 := eq_true q235
  have p237 : 0 ≤ (x4_1 : Int) := ZD
  have q237 : x4_1 < (l0.length : Int) := ZD
  obtain ⟨ad237, A237_6, c237_6, A237_7, c237_7, e237, hx237_0, hx237_1, hx237_2, hx237_3, hx237_4, hx237_5, hx237_6, hx237_7, hl237_6, hi237_6, hl237_7, hi237_7⟩ := at_T40 HR0.out x4_1 p237 q237
  have hw237_7 := hx237_7
  have hw237_6 := hx237_6
  have hw237_5 := hx237_5
  have hw237_4 := hx237_4
  have hw237_3 := hx237_3
  have hw237_2 := hx237_2
  have hw237_1 := hx237_1
  have hw237_0 := hx237_0
  obtain rfl : ad235 = ad237 := (by injection e237)
  replace hx237_0 := ZHX HB hx237_0
  replace hx237_1 := ZHX HB hx237_1
  replace hx237_2 := ZHX HB hx237_2
  replace hx237_3 := ZHX HB hx237_3
  replace hx237_4 := ZHX HB hx237_4
  replace hx237_5 := ZHX HB hx237_5
  replace hx237_6 := ZHX HB hx237_6
  replace hx237_7 := ZHX HB hx237_7
  have HR237_6 := AM hi237_6
  have HC237_6 := AM hl237_6
  clear hi237_6 hl237_6
  have HR237_7 := AM hi237_7
  have HC237_7 := AM hl237_7
  clear hi237_7 hl237_7
  replace p237 := eq_true p237
  replace q237 := eq_true q237
  have ea_ := Option.some.inj (hx235_6.symm.trans hx237_6)
  injection ea_ with ea_ en_ ec_
  subst ea_
  subst ec_
  clear en_
  have ea_ := Option.some.inj (hx235_7.symm.trans hx237_7)
  injection ea_ with ea_ en_ ec_
  subst ea_
  subst ec_
  clear en_
  refine start_ (n := 17) (S := fun w' => w'.cell? (ad235.add ((x4_1).toNat * 8)) = some (.int .i64 ((D40 l0 x4_1).f0)) ∧ w'.cell? ⟨(ad235.add ((x4_1).toNat * 8)).block, (ad235.add ((x4_1).toNat * 8)).off + 1, none⟩ = some (.int .i64 ((D40 l0 x4_1).f1)) ∧ w'.cell? ⟨(ad235.add ((x4_1).toNat * 8)).block, (ad235.add ((x4_1).toNat * 8)).off + 2, none⟩ = some (.int .i64 ((D40 l0 x4_1).f2.f0)) ∧ w'.cell? ⟨(ad235.add ((x4_1).toNat * 8)).block, (ad235.add ((x4_1).toNat * 8)).off + 3, none⟩ = some (.int .i64 ((D40 l0 x4_1).f2.f1)) ∧ w'.cell? ⟨(ad235.add ((x4_1).toNat * 8)).block, (ad235.add ((x4_1).toNat * 8)).off + 4, none⟩ = some (.int .i64 ((D40 l0 x4_1).f2.f2)) ∧ w'.cell? ⟨(ad235.add ((x4_1).toNat * 8)).block, (ad235.add ((x4_1).toNat * 8)).off + 5, none⟩ = some (.int .i64 ((D40 l0 x4_1).f3)) ∧ w'.cell? ⟨(ad235.add ((x4_1).toNat * 8)).block, (ad235.add ((x4_1).toNat * 8)).off + 6, none⟩ = some (.slice A235_6 ((D40 l0 x4_1).f4).length c235_6) ∧ w'.cell? ⟨(ad235.add ((x4_1).toNat * 8)).block, (ad235.add ((x4_1).toNat * 8)).off + 7, none⟩ = some (.slice A235_7 ((D40 l0 x4_1).f5).length c235_7) ∧ w'.cell? (ad235.add ((x4_1).toNat * 8)) = some (.int .i64 ((D40 l0 x4_1).f0)) ∧ w'.cell? ⟨(ad235.add ((x4_1).toNat * 8)).block, (ad235.add ((x4_1).toNat * 8)).off + 1, none⟩ = some (.int .i64 ((D40 l0 x4_1).f1)) ∧ w'.cell? ⟨(ad235.add ((x4_1).toNat * 8)).block, (ad235.add ((x4_1).toNat * 8)).off + 2, none⟩ = some (.int .i64 ((D40 l0 x4_1).f2.f0)) ∧ w'.cell? ⟨(ad235.add ((x4_1).toNat * 8)).block, (ad235.add ((x4_1).toNat * 8)).off + 3, none⟩ = some (.int .i64 ((D40 l0 x4_1).f2.f1)) ∧ w'.cell? ⟨(ad235.add ((x4_1).toNat * 8)).block, (ad235.add ((x4_1).toNat * 8)).off + 4, none⟩ = some (.int .i64 ((D40 l0 x4_1).f2.f2)) ∧ w'.cell? ⟨(ad235.add ((x4_1).toNat * 8)).block, (ad235.add ((x4_1).toNat * 8)).off + 5, none⟩ = some (.int .i64 ((D40 l0 x4_1).f3)) ∧ w'.cell? ⟨(ad235.add ((x4_1).toNat * 8)).block, (ad235.add ((x4_1).toNat * 8)).off + 6, none⟩ = some (.slice A235_6 ((D40 l0 x4_1).f4).length c235_6) ∧ w'.cell? ⟨(ad235.add ((x4_1).toNat * 8)).block, (ad235.add ((x4_1).toNat * 8)).off + 7, none⟩ = some (.slice A235_7 ((D40 l0 x4_1).f5).length c235_7)) (ds := []) #[F,F,F,F,F,F,F,F,F,F,F,F,F,F,F,F,F] (by kernel_rfl) rfl rfl ⟨((HB.out.cell (World.block_lt_of_cell? w _ hw235_0)).trans hw235_0), ((HB.out.cell (World.block_lt_of_cell? w _ hw235_1)).trans hw235_1), ((HB.out.cell (World.block_lt_of_cell? w _ hw235_2)).trans hw235_2), ((HB.out.cell (World.block_lt_of_cell? w _ hw235_3)).trans hw235_3), ((HB.out.cell (World.block_lt_of_cell? w _ hw235_4)).trans hw235_4), ((HB.out.cell (World.block_lt_of_cell? w _ hw235_5)).trans hw235_5), ((HB.out.cell (World.block_lt_of_cell? w _ hw235_6)).trans hw235_6), ((HB.out.cell (World.block_lt_of_cell? w _ hw235_7)).trans hw235_7), ((HB.out.cell (World.block_lt_of_cell? w _ hw237_0)).trans hw237_0), ((HB.out.cell (World.block_lt_of_cell? w _ hw237_1)).trans hw237_1), ((HB.out.cell (World.block_lt_of_cell? w _ hw237_2)).trans hw237_2), ((HB.out.cell (World.block_lt_of_cell? w _ hw237_3)).trans hw237_3), ((HB.out.cell (World.block_lt_of_cell? w _ hw237_4)).trans hw237_4), ((HB.out.cell (World.block_lt_of_cell? w _ hw237_5)).trans hw237_5), ((HB.out.cell (World.block_lt_of_cell? w _ hw237_6)).trans hw237_6), ((HB.out.cell (World.block_lt_of_cell? w _ hw237_7)).trans hw237_7)⟩ (fun hHeld => ?_); refine with_tabW spec_l2Count.tab5 spec_l2Count.bits5 (fun HT_ HW_ => ?_)
  generalize wr.drew = w6 at HB HR235_6 HR235_7 HR237_6 HR237_7 hx235_0 hx235_1 hx235_2 hx235_3 hx235_4 hx235_5 hx235_6 hx235_7 hx237_0 hx237_1 hx237_2 hx237_3 hx237_4 hx237_5 hx237_6 hx237_7 hHeld ⊢
  refine ZU 0 11 #[T,F,F,F,F,F,F,F,F,F,F,F,F,F,F,F,F] ?_
  refine ZU 1 12 #[T,T,F,F,F,F,F,F,F,F,F,F,F,F,F,F,F] ?_
  refine ZU 2 13 #[T,T,T,F,F,F,F,F,F,F,F,F,F,F,F,F,F] ?_
  refine ZU 3 14 #[T,T,T,T,F,F,F,F,F,F,F,F,F,F,F,F,F] ?_
  refine ZU 4 15 #[T,T,T,T,T,F,F,F,F,F,F,F,F,F,F,F,F] ?_
  refine ZU 5 16 #[T,T,T,T,T,T,F,F,F,F,F,F,F,F,F,F,F] ?_
  refine ZU 9 20 #[T,T,T,T,T,T,F,F,F,T,F,F,F,F,F,F,F] ?_
  refine ZU 10 21 #[T,T,T,T,T,T,F,F,F,T,T,F,F,F,F,F,F] ?_
  refine ZU 11 22 #[T,T,T,T,T,T,F,F,F,T,T,T,F,F,F,F,F] ?_
  refine ZU 12 23 #[T,T,T,T,T,T,F,F,F,T,T,T,T,F,F,F,F] ?_
  refine ZTK 6 17 #[T,T,T,T,T,T,T,F,F,T,T,T,T,F,F,F,F] hHeld ?_
  refine ZTK 13 24 #[T,T,T,T,T,T,T,F,F,T,T,T,T,T,F,F,F] hHeld ?_
  refine one_ (i := 7) (N := some 18) #[T,T,T,T,T,T,T,T,F,T,T,T,T,T,F,F,F] rfl rfl (one_of HT_.out (by kernel_rfl)) (by decide) (fun K hK => ?_)
  refine ZGO Try.func35 #[.slice A235_6 ((D40 l0 x4_1).f4).length c235_6] ?_
  with_reducible refine (ih k1 (by have := HK1.out; omega) _ _ ((D40 l0 x4_1).f4) t236 _ ?side1 ?side2 A4.out).mono ?_
  (case side1 => exact ZQ (Kd.C_below HR235_6.out HB.out))
  (case side2 => exact HC235_6.out)
  rintro e w7 ⟨rfl, hb⟩
  refine ZV1 ?_
  replace HB := ZT HB hb
  (try clear hb)
  (try clear hb2)
  (try clear hk)
  (try clear hi)
  refine hK.out _ _ ⟨((HB.out.cell (World.block_lt_of_cell? w _ hw235_0)).trans hw235_0), ((HB.out.cell (World.block_lt_of_cell? w _ hw235_1)).trans hw235_1), ((HB.out.cell (World.block_lt_of_cell? w _ hw235_2)).trans hw235_2), ((HB.out.cell (World.block_lt_of_cell? w _ hw235_3)).trans hw235_3), ((HB.out.cell (World.block_lt_of_cell? w _ hw235_4)).trans hw235_4), ((HB.out.cell (World.block_lt_of_cell? w _ hw235_5)).trans hw235_5), ((HB.out.cell (World.block_lt_of_cell? w _ hw235_6)).trans hw235_6), ((HB.out.cell (World.block_lt_of_cell? w _ hw235_7)).trans hw235_7), ((HB.out.cell (World.block_lt_of_cell? w _ hw237_0)).trans hw237_0), ((HB.out.cell (World.block_lt_of_cell? w _ hw237_1)).trans hw237_1), ((HB.out.cell (World.block_lt_of_cell? w _ hw237_2)).trans hw237_2), ((HB.out.cell (World.block_lt_of_cell? w _ hw237_3)).trans hw237_3), ((HB.out.cell (World.block_lt_of_cell? w _ hw237_4)).trans hw237_4), ((HB.out.cell (World.block_lt_of_cell? w _ hw237_5)).trans hw237_5), ((HB.out.cell (World.block_lt_of_cell? w _ hw237_6)).trans hw237_6), ((HB.out.cell (World.block_lt_of_cell? w _ hw237_7)).trans hw237_7)⟩ (fun hHeld => ?_)
  clear hK K
  refine ZNO 18 ?_
  refine ZU 8 19 #[T,T,T,T,T,T,T,T,T,T,T,T,T,T,F,F,F] ?_
  refine one_ (i := 14) (N := some 25) #[T,T,T,T,T,T,T,T,T,T,T,T,T,T,T,F,F] rfl rfl (one_of HT_.out (by kernel_rfl)) (by decide) (fun K hK => ?_)
  refine ZGO Try.func35 #[.slice A235_7 ((D40 l0 x4_1).f5).length c235_7] ?_
  with_reducible refine (ih k1 (by have := HK1.out; omega) _ _ ((D40 l0 x4_1).f5) t238 _ ?side1 ?side2 A5.out).mono ?_
  (case side1 => exact ZQ (Kd.C_below HR237_7.out HB.out))
  (case side2 => exact HC237_7.out)
  rintro e w8 ⟨rfl, hb⟩
  refine ZV1 ?_
  replace HB := ZT HB hb
  (try clear hb)
  (try clear hb2)
  (try clear hk)
  (try clear hi)
  refine hK.out _ _ ⟨((HB.out.cell (World.block_lt_of_cell? w _ hw235_0)).trans hw235_0), ((HB.out.cell (World.block_lt_of_cell? w _ hw235_1)).trans hw235_1), ((HB.out.cell (World.block_lt_of_cell? w _ hw235_2)).trans hw235_2), ((HB.out.cell (World.block_lt_of_cell? w _ hw235_3)).trans hw235_3), ((HB.out.cell (World.block_lt_of_cell? w _ hw235_4)).trans hw235_4), ((HB.out.cell (World.block_lt_of_cell? w _ hw235_5)).trans hw235_5), ((HB.out.cell (World.block_lt_of_cell? w _ hw235_6)).trans hw235_6), ((HB.out.cell (World.block_lt_of_cell? w _ hw235_7)).trans hw235_7), ((HB.out.cell (World.block_lt_of_cell? w _ hw237_0)).trans hw237_0), ((HB.out.cell (World.block_lt_of_cell? w _ hw237_1)).trans hw237_1), ((HB.out.cell (World.block_lt_of_cell? w _ hw237_2)).trans hw237_2), ((HB.out.cell (World.block_lt_of_cell? w _ hw237_3)).trans hw237_3), ((HB.out.cell (World.block_lt_of_cell? w _ hw237_4)).trans hw237_4), ((HB.out.cell (World.block_lt_of_cell? w _ hw237_5)).trans hw237_5), ((HB.out.cell (World.block_lt_of_cell? w _ hw237_6)).trans hw237_6), ((HB.out.cell (World.block_lt_of_cell? w _ hw237_7)).trans hw237_7)⟩ (fun hHeld => ?_)
  clear hK K
  refine ZNO 25 ?_
  refine ZU 15 26 #[T,T,T,T,T,T,T,T,T,T,T,T,T,T,T,T,F] ?_
  refine ZU 16 3 #[T,T,T,T,T,T,T,T,T,T,T,T,T,T,T,T,T] ?_
  refine done_ (done_of HT_.out (by kernel_rfl)) ?_
  try go_wp2
  go_roundg k1
  case measure => have := HK1.out; omega
  case rel => exact ⟨(wrap64 ((wrap64 ((wrap64 (x3_1 + 1)) + t236)) + t238)), (wrap64 (x4_1 + 1)), ZSM, ZSM, H', ⟨by have := HK1.out; omega⟩, ⟨ZB⟩⟩)
  ·(
  rw [if_neg c3] at H
  exact absurd H (by simp)))
  ·(
  rw [if_neg c2] at H
  have c2b0 := decide_eq_false c2
  clear c2
  obtain rfl := Option.some.inj H
  go_wp2
  go_ret
  exact ⟨ZE, ZB⟩))

/-! ### spec_ProgOk: function 16 -/
def spec_ProgOk.l0 : Nat → Int → List (S35) → List (S40) → Option (Bool)
 | 0, _, _, _ => none
 | k + 1, x3, x240000, x240001 => if x3 < (x240000.length : Int) then (if 0 ≤ x3 then ((spec_LabelOk.f ((D35 x240000 x3).f0) ((D35 x240000 x3).f1)).bind fun t241 => (if t241 = true then (spec_ProgOk.l0 k (wrap64 (x3 + 1)) x240000 x240001) else (some false))) else (none)) else ((spec_l2Steps.f k x240000 x240001 x240001 3).bind fun t242 => (if t242 = true then ((spec_l2Count.f k x240001).bind fun t243 => (some (decide (t243 ≤ 8)))) else (some false)))
def spec_ProgOk.f (k : Nat) (l0_0 : List (S35)) (l0_1 : List (S40)) : Option (Bool) := if (l0_0.length : Int) > 4 then (some false) else (spec_ProgOk.l0 k 0 l0_0 l0_1)
theorem spec_ProgOk.calls (k : Nat) (A0_0 : Option Addr) (c0_0 : Nat) (l0_0 : List (S35)) (A0_1 : Option Addr) (c0_1 : Nat) (l0_1 : List (S40)) (r : Bool) (w : World) (hr0_0 : Kd.C k35 w A0_0 l0_0.length l0_0) (hc0_0 : l0_0.length ≤ c0_0) (hr0_1 : Kd.C k40 w A0_1 l0_1.length l0_1) (hc0_1 : l0_1.length ≤ c0_1) (h : spec_ProgOk.f k l0_0 l0_1 = some r) :
  Calls Try.prog 16 #[.agg #[.slice A0_0 l0_0.length c0_0, .slice A0_1 l0_1.length c0_1]] w fun e w' => e = .returned (.bool r) ∧ Below w.heap.size w w' := by
 have hu26 := Try.underlying26
 have hu35 := Try.underlying35
 have HR0_0 := AM hr0_0
 have HC0_0 := AM hc0_0
 clear hr0_0 hc0_0
 have HR0_1 := AM hr0_1
 have HC0_1 := AM hc0_1
 clear hr0_1 hc0_1
 have HB := AM (Below.refl w.heap.size w)
 have H := h
 unfold spec_ProgOk.f at H
 clear h
 by_cases c2 : (l0_0.length : Int) > 4
 ·(
 rw [if_pos c2] at H
 have c2b0 := decide_eq_true c2
 have c2b1 : decide (4 < l0_0.length) = true := decide_eq_true (by omega)
 clear c2
 obtain rfl := Option.some.inj H
 go_enter Try.func16, Try.ntmps16
 go_wp2_with (first | ((with_reducible refine gate_dst (N := 1) rfl ?_); refine ZXW w (N := 1) (cs := #[.slice A0_0 l0_0.length c0_0, .slice A0_1 l0_1.length c0_1]) (t := 26) ?_; intro gb239 hg w3 BK239 GW239 hb; replace HB := ZT HB hb; clear hb hg; have hcz4 := ZC2 w3 BK239))
 go_ret
 exact ⟨ZE, ZB⟩)
 ·(
 rw [if_neg c2] at H
 have c2b0 := decide_eq_false c2
 have c2b1 : decide (4 < l0_0.length) = false := decide_eq_false (by omega)
 clear c2
 have H' := AM H
 clear H
 go_enter Try.func16, Try.ntmps16
 go_wp2_with (first | ((with_reducible refine gate_dst (N := 1) rfl ?_); refine ZXW w (N := 1) (cs := #[.slice A0_0 l0_0.length c0_0, .slice A0_1 l0_1.length c0_1]) (t := 26) ?_; intro gb239 hg w5 BK239 GW239 hb; replace HB := ZT HB hb; clear hb hg; have hcz6 := ZC2 w5 BK239))
 go_loopg [3] k (fun kq v3 w' => ∃ (x3_1 : Int), v3 = .int .i64 x3_1 ∧ Za (spec_ProgOk.l0 kq x3_1 l0_0 l0_1 = some r) ∧ Za (kq ≤ k) ∧ Za (w'.heap[gb239]? = some (.cells #[(.slice A0_0 l0_0.length c0_0), (.slice A0_1 l0_1.length c0_1)] 26 (0, 0))) ∧ Za (Below w.heap.size w w'))
 case atStart => exact ⟨(0), ZSM, H', ⟨Nat.le_refl _⟩, ⟨ZK BK239.out⟩, ⟨ZB⟩⟩
 case round => (
 clear H'
 try clear c1
 try clear c2
 try clear c2b0
 try clear c2b1
 try clear p2
 try clear hcz4
 try clear hcz6
 obtain ⟨x3_1, rfl, HA, HK1, BK239, HB⟩ := hrel
 cases gk with
 | zero => exact absurd HA.out (by simp [spec_ProgOk.l0])
 | succ k1 =>
  have H := HA.out
  clear HA
  simp only [spec_ProgOk.l0] at H
  by_cases c7 : x3_1 < (l0_0.length : Int)
  ·(
  rw [if_pos c7] at H
  have c7b0 := decide_eq_true c7
  clear c7
  by_cases c8 : 0 ≤ x3_1
  ·(
  rw [if_pos c8] at H
  have c8b0 := decide_eq_true c8
  clear c8
  obtain ⟨t241, A9, H⟩ := ZOB H; try dsimp only at H
  by_cases c10 : t241 = true
  ·(
  subst c10
  have H1 := H; rw [if_pos rfl] at H1
  clear H
  have H := H1
  clear H1
  have H' := AM H
  clear H
  have hcz11 := ZC2 wr BK239
  have p240 : 0 ≤ (x3_1 : Int) := ZD
  have q240 : x3_1 < (l0_0.length : Int) := ZD
  obtain ⟨ad240, e240, hx240_0, hx240_1⟩ := at_T35 HR0_0.out x3_1 p240 q240
  cases e240
  replace hx240_0 := ZHX HB hx240_0
  replace hx240_1 := ZHX HB hx240_1
  replace p240 := eq_true p240
  replace q240 := eq_true q240
  go_wp2_with (first | ((with_reducible refine gate_callee (f := 33) rfl ?_); refine ZGL (some 20) Try.func33 #[.agg #[.int .i64 ((D35 l0_0 x3_1).f0), .int .i64 ((D35 l0_0 x3_1).f1)]] ?_; (with_reducible refine (spec_LabelOk.calls ((D35 l0_0 x3_1).f0) ((D35 l0_0 x3_1).f1) true _ A9.out).mono ?_); rintro e w12 ⟨rfl, hb⟩; refine ZV1 ?_; replace BK239 := ZW BK239 hb; replace HB := ZT HB hb; clear hb))
  go_roundg k1
  case measure => have := HK1.out; omega
  case rel => exact ⟨(wrap64 (x3_1 + 1)), ZSM, H', ⟨by have := HK1.out; omega⟩, ⟨ZK BK239.out⟩, ⟨ZB⟩⟩)
  ·(
  replace c10 := Bool.eq_false_iff.mpr c10
  subst c10
  have H1 := H; rw [if_neg ZFT] at H1
  clear H
  have H := H1
  clear H1
  obtain rfl := Option.some.inj H
  have hcz13 := ZC2 wr BK239
  have p240 : 0 ≤ (x3_1 : Int) := ZD
  have q240 : x3_1 < (l0_0.length : Int) := ZD
  obtain ⟨ad240, e240, hx240_0, hx240_1⟩ := at_T35 HR0_0.out x3_1 p240 q240
  cases e240
  replace hx240_0 := ZHX HB hx240_0
  replace hx240_1 := ZHX HB hx240_1
  replace p240 := eq_true p240
  replace q240 := eq_true q240
  go_wp2_with (first | ((with_reducible refine gate_callee (f := 33) rfl ?_); refine ZGL (some 20) Try.func33 #[.agg #[.int .i64 ((D35 l0_0 x3_1).f0), .int .i64 ((D35 l0_0 x3_1).f1)]] ?_; (with_reducible refine (spec_LabelOk.calls ((D35 l0_0 x3_1).f0) ((D35 l0_0 x3_1).f1) false _ A9.out).mono ?_); rintro e w14 ⟨rfl, hb⟩; refine ZV1 ?_; replace BK239 := ZW BK239 hb; replace HB := ZT HB hb; clear hb))
  go_ret
  exact ⟨ZE, ZB⟩))
  ·(
  rw [if_neg c8] at H
  exact absurd H (by simp)))
  ·(
  rw [if_neg c7] at H
  have c7b0 := decide_eq_false c7
  clear c7
  obtain ⟨t242, A15, H⟩ := ZOB H; try dsimp only at H
  by_cases c16 : t242 = true
  ·(
  subst c16
  have H1 := H; rw [if_pos rfl] at H1
  clear H
  have H := H1
  clear H1
  obtain ⟨t243, A17, H⟩ := ZOB H; try dsimp only at H
  obtain rfl := Option.some.inj H
  have hcz18 := ZC2 wr BK239
  go_wp2_with (first | ((with_reducible refine gate_callee (f := 34) rfl ?_); refine ZGL (some 25) Try.func34 #[.agg #[.slice A0_0 l0_0.length c0_0, .slice A0_1 l0_1.length c0_1], .slice A0_1 l0_1.length c0_1, .int .i64 3] ?_; (with_reducible refine (spec_l2Steps.calls k1 _ _ l0_0 _ _ l0_1 _ _ l0_1 3 true _ (ZQ (Kd.C_below HR0_0.out HB.out)) HC0_0.out (ZQ (Kd.C_below HR0_1.out HB.out)) HC0_1.out (ZQ (Kd.C_below HR0_1.out HB.out)) HC0_1.out A15.out).mono ?_); rintro e w19 ⟨rfl, hb⟩; refine ZV1 ?_; replace BK239 := ZW BK239 hb; replace HB := ZT HB hb; clear hb; have hcz20 := ZC2 w19 BK239) | (go_at_call 35; (with_reducible refine (spec_l2Count.calls k1 _ _ l0_1 t243 _ (ZQ (Kd.C_below HR0_1.out HB.out)) HC0_1.out A17.out).mono ?_); rintro e w21 ⟨rfl, hb⟩; replace BK239 := ZW BK239 hb; replace HB := ZT HB hb; clear hb))
  go_ret
  exact ⟨ZE, ZB⟩)
  ·(
  replace c16 := Bool.eq_false_iff.mpr c16
  subst c16
  have H1 := H; rw [if_neg ZFT] at H1
  clear H
  have H := H1
  clear H1
  obtain rfl := Option.some.inj H
  have hcz22 := ZC2 wr BK239
  go_wp2_with (first | ((with_reducible refine gate_callee (f := 34) rfl ?_); refine ZGL (some 25) Try.func34 #[.agg #[.slice A0_0 l0_0.length c0_0, .slice A0_1 l0_1.length c0_1], .slice A0_1 l0_1.length c0_1, .int .i64 3] ?_; (with_reducible refine (spec_l2Steps.calls k1 _ _ l0_0 _ _ l0_1 _ _ l0_1 3 false _ (ZQ (Kd.C_below HR0_0.out HB.out)) HC0_0.out (ZQ (Kd.C_below HR0_1.out HB.out)) HC0_1.out (ZQ (Kd.C_below HR0_1.out HB.out)) HC0_1.out A15.out).mono ?_); rintro e w23 ⟨rfl, hb⟩; refine ZV1 ?_; replace BK239 := ZW BK239 hb; replace HB := ZT HB hb; clear hb))
  go_ret
  exact ⟨ZE, ZB⟩))))

end Go.Proofs.Ytkkdeojbkfjlpaa.A
