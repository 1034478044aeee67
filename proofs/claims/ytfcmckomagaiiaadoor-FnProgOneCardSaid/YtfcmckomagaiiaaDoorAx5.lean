/- Go functions as Lean functions, and for each its contract; written by wip/tools/pr.py over the kit's print. -/
import Derived.Test.YtfcmckomagaiiaaDoorAx0
import Derived.Test.YtfcmckomagaiiaaDoorAx3
import Derived.Test.YtfcmckomagaiiaaDoorAx4
namespace Go.Proofs.YtfcmckomagaiiaaDoor.A
open Go.RowKit Go.Proofs.YtfcmckomagaiiaaDoorW.PrintWords Go.Proofs.YtfcmckomagaiiaaDoorW.PrintLast Go.Proofs.YtfcmckomagaiiaaDoorW.PrintMore
attribute [local go_sem] max2_int min2_int max_two min_two max_three min_three max_four min_four
set_option linter.unusedVariables false
set_option linter.unusedSimpArgs false
set_option maxHeartbeats 8000000
set_option maxRecDepth 100000

/-! ### spec_l2Count: function 30 -/
mutual
def spec_l2Count.l0 : Nat → List (S71) → Int → Int → Option (Int)
 | 0, _, _, _ => none
 | k + 1, x0, x3, x4 => if x4 < (x0.length : Int) then (if 0 ≤ x4 then ((spec_l2Count.f k ((D71 x0 x4).f4)).bind fun t125 => ((spec_l2Count.f k ((D71 x0 x4).f5)).bind fun t127 => (spec_l2Count.l0 k x0 (wrap64 ((wrap64 ((wrap64 (x3 + 1)) + t125)) + t127)) (wrap64 (x4 + 1))))) else (none)) else (some x3)
def spec_l2Count.f : Nat → List (S71) → Option (Int)
 | 0, _ => none
 | k + 1, l0 => spec_l2Count.l0 k l0 0 0
end
def spec_l2Count.T5 : Bool × List (List Nat × List Nat) := (true, [([], []), ([0], [0]), ([], []), ([], []), ([2, 3], [2, 3]), ([4], [4]), ([5], [5]), ([6], [6]), ([1, 7], [1, 7]), ([], []), ([], []), ([9, 10], [9, 10]), ([11], [11]), ([12], [12]), ([13, 7], [13]), ([8, 14], [8, 14]), ([15, 14, 0, 1, 2, 3, 4, 5, 6, 7, 8, 9, 10, 11, 12, 13, 14, 15], [0, 15])])
def spec_l2Count.B5 : List Nat := [0, 1, 0, 0, 12, 28, 60, 124, 255, 0, 0, 1536, 3584, 7680, 16124, 32767, 65535]
theorem spec_l2Count.tab5 : rtab .any (opsOf Tryd.f30 5) = spec_l2Count.T5 := by kernel_rfl
theorem spec_l2Count.bits5 : waitsOk spec_l2Count.T5.2 spec_l2Count.B5 = true := by kernel_rfl
theorem spec_l2Count.calls (k : Nat) : ∀ (A0 : Option Addr) (c0 : Nat) (l0 : List (S71)) (r : Int) (w : World) (hr0 : Kd.C k71 w A0 l0.length l0) (hc0 : l0.length ≤ c0) (h : spec_l2Count.f k l0 = some r),
  Calls Tryd.prog 30 #[.slice A0 l0.length c0] w fun e w' => e = .returned (.int .i64 r) ∧ Below w.heap.size w w' := by
 induction k using Nat.strongRecOn with
 | _ k ih =>
 intro A0 c0 l0 r w hr0 hc0 h
 cases k with
 | zero => exact absurd h (by simp [spec_l2Count.f])
 | succ k =>
 simp only [spec_l2Count.f] at h
 have HR0 := AM hr0
 have HC0 := AM hc0
 clear hr0 hc0
 have HB := AM (Below.refl w.heap.size w)
 have H : (spec_l2Count.l0 k l0 0 0) = some r := h
 clear h
 have H' := AM H
 clear H
 go_enter Tryd.func30, Tryd.ntmps30
 go_wp2
 go_loopg [3, 4] k (fun kq v3 v4 w' => ∃ (x3_1 : Int) (x4_1 : Int), v3 = .int .i64 x3_1 ∧ v4 = .int .i64 x4_1 ∧ Za (spec_l2Count.l0 kq l0 x3_1 x4_1 = some r) ∧ Za (kq ≤ k) ∧ Za (Below w.heap.size w w'))
 case atStart => exact ⟨(0), (0), ZSM, ZSM, H', ⟨Nat.le_refl _⟩, ⟨ZB⟩⟩
 case round => (
 clear H'
 obtain ⟨x3_1, x4_1, rfl, rfl, HA, HK1, HB⟩ := hrel
 cases gk with
 | zero => exact absurd HA.out (by simp [spec_l2Count.l0])
 | succ k1 =>
  have H := HA.out
  clear HA
  simp only [spec_l2Count.l0] at H
  by_cases c2 : x4_1 < (l0.length : Int)
  ·(
  rw [if_pos c2] at H
  have c2b0 := decide_eq_true c2
  clear c2
  by_cases c3 : 0 ≤ x4_1
  ·(
  rw [if_pos c3] at H
  have c3b0 := decide_eq_true c3
  clear c3
  obtain ⟨t125, A4, H⟩ := ZOB H; try dsimp only at H
  obtain ⟨t127, A5, H⟩ := ZOB H; try dsimp only at H
  have H' := AM H
  clear H
  try go_wp2
  replace HB := AM (below_drew1 HB.out)
  have p124 : 0 ≤ (x4_1 : Int) := ZD
  have q124 : x4_1 < (l0.length : Int) := ZD
  obtain ⟨ad124, A124_6, c124_6, A124_7, c124_7, e124, hx124_0, hx124_1, hx124_2, hx124_3, hx124_4, hx124_5, hx124_6, hx124_7, hl124_6, hi124_6, hl124_7, hi124_7⟩ := at_T71 HR0.out x4_1 p124 q124
  have hw124_7 := hx124_7
  have hw124_6 := hx124_6
  have hw124_5 := hx124_5
  have hw124_4 := hx124_4
  have hw124_3 := hx124_3
  have hw124_2 := hx124_2
  have hw124_1 := hx124_1
  have hw124_0 := hx124_0
  cases e124
  replace hx124_0 := ZHX HB hx124_0
  replace hx124_1 := ZHX HB hx124_1
  replace hx124_2 := ZHX HB hx124_2
  replace hx124_3 := ZHX HB hx124_3
  replace hx124_4 := ZHX HB hx124_4
  replace hx124_5 := ZHX HB hx124_5
  replace hx124_6 := ZHX HB hx124_6
  replace hx124_7 := ZHX HB hx124_7
  have HR124_6 := AM hi124_6
  have HC124_6 := AM hl124_6
  clear hi124_6 hl124_6
  have HR124_7 := AM hi124_7
  have HC124_7 := AM hl124_7
  clear hi124_7 hl124_7
  replace p124 := eq_true p124
  replace q124 := eq_true q124
  have p126 : 0 ≤ (x4_1 : Int) := ZD
  have q126 : x4_1 < (l0.length : Int) := ZD
  obtain ⟨ad126, A126_6, c126_6, A126_7, c126_7, e126, hx126_0, hx126_1, hx126_2, hx126_3, hx126_4, hx126_5, hx126_6, hx126_7, hl126_6, hi126_6, hl126_7, hi126_7⟩ := at_T71 HR0.out x4_1 p126 q126
  have hw126_7 := hx126_7
  have hw126_6 := hx126_6
  have hw126_5 := hx126_5
  have hw126_4 := hx126_4
  have hw126_3 := hx126_3
  have hw126_2 := hx126_2
  have hw126_1 := hx126_1
  have hw126_0 := hx126_0
  obtain rfl : ad124 = ad126 := (by injection e126)
  replace hx126_0 := ZHX HB hx126_0
  replace hx126_1 := ZHX HB hx126_1
  replace hx126_2 := ZHX HB hx126_2
  replace hx126_3 := ZHX HB hx126_3
  replace hx126_4 := ZHX HB hx126_4
  replace hx126_5 := ZHX HB hx126_5
  replace hx126_6 := ZHX HB hx126_6
  replace hx126_7 := ZHX HB hx126_7
  have HR126_6 := AM hi126_6
  have HC126_6 := AM hl126_6
  clear hi126_6 hl126_6
  have HR126_7 := AM hi126_7
  have HC126_7 := AM hl126_7
  clear hi126_7 hl126_7
  replace p126 := eq_true p126
  replace q126 := eq_true q126
  have ea_ := Option.some.inj (hx124_6.symm.trans hx126_6)
  injection ea_ with ea_ en_ ec_
  subst ea_
  subst ec_
  clear en_
  have ea_ := Option.some.inj (hx124_7.symm.trans hx126_7)
  injection ea_ with ea_ en_ ec_
  subst ea_
  subst ec_
  clear en_
  refine start_ (n := 17) (S := fun w' => w'.cell? (ad124.add ((x4_1).toNat * 8)) = some (.int .i64 ((D71 l0 x4_1).f0)) ∧ w'.cell? ⟨(ad124.add ((x4_1).toNat * 8)).block, (ad124.add ((x4_1).toNat * 8)).off + 1, none⟩ = some (.int .i64 ((D71 l0 x4_1).f1)) ∧ w'.cell? ⟨(ad124.add ((x4_1).toNat * 8)).block, (ad124.add ((x4_1).toNat * 8)).off + 2, none⟩ = some (.int .i64 ((D71 l0 x4_1).f2.f0)) ∧ w'.cell? ⟨(ad124.add ((x4_1).toNat * 8)).block, (ad124.add ((x4_1).toNat * 8)).off + 3, none⟩ = some (.int .i64 ((D71 l0 x4_1).f2.f1)) ∧ w'.cell? ⟨(ad124.add ((x4_1).toNat * 8)).block, (ad124.add ((x4_1).toNat * 8)).off + 4, none⟩ = some (.int .i64 ((D71 l0 x4_1).f2.f2)) ∧ w'.cell? ⟨(ad124.add ((x4_1).toNat * 8)).block, (ad124.add ((x4_1).toNat * 8)).off + 5, none⟩ = some (.int .i64 ((D71 l0 x4_1).f3)) ∧ w'.cell? ⟨(ad124.add ((x4_1).toNat * 8)).block, (ad124.add ((x4_1).toNat * 8)).off + 6, none⟩ = some (.slice A124_6 ((D71 l0 x4_1).f4).length c124_6) ∧ w'.cell? ⟨(ad124.add ((x4_1).toNat * 8)).block, (ad124.add ((x4_1).toNat * 8)).off + 7, none⟩ = some (.slice A124_7 ((D71 l0 x4_1).f5).length c124_7) ∧ w'.cell? (ad124.add ((x4_1).toNat * 8)) = some (.int .i64 ((D71 l0 x4_1).f0)) ∧ w'.cell? ⟨(ad124.add ((x4_1).toNat * 8)).block, (ad124.add ((x4_1).toNat * 8)).off + 1, none⟩ = some (.int .i64 ((D71 l0 x4_1).f1)) ∧ w'.cell? ⟨(ad124.add ((x4_1).toNat * 8)).block, (ad124.add ((x4_1).toNat * 8)).off + 2, none⟩ = some (.int .i64 ((D71 l0 x4_1).f2.f0)) ∧ w'.cell? ⟨(ad124.add ((x4_1).toNat * 8)).block, (ad124.add ((x4_1).toNat * 8)).off + 3, none⟩ = some (.int .i64 ((D71 l0 x4_1).f2.f1)) ∧ w'.cell? ⟨(ad124.add ((x4_1).toNat * 8)).block, (ad124.add ((x4_1).toNat * 8)).off + 4, none⟩ = some (.int .i64 ((D71 l0 x4_1).f2.f2)) ∧ w'.cell? ⟨(ad124.add ((x4_1).toNat * 8)).block, (ad124.add ((x4_1).toNat * 8)).off + 5, none⟩ = some (.int .i64 ((D71 l0 x4_1).f3)) ∧ w'.cell? ⟨(ad124.add ((x4_1).toNat * 8)).block, (ad124.add ((x4_1).toNat * 8)).off + 6, none⟩ = some (.slice A124_6 ((D71 l0 x4_1).f4).length c124_6) ∧ w'.cell? ⟨(ad124.add ((x4_1).toNat * 8)).block, (ad124.add ((x4_1).toNat * 8)).off + 7, none⟩ = some (.slice A124_7 ((D71 l0 x4_1).f5).length c124_7)) (ds := []) #[F,F,F,F,F,F,F,F,F,F,F,F,F,F,F,F,F] (by kernel_rfl) rfl rfl ⟨((HB.out.cell (World.block_lt_of_cell? w _ hw124_0)).trans hw124_0), ((HB.out.cell (World.block_lt_of_cell? w _ hw124_1)).trans hw124_1), ((HB.out.cell (World.block_lt_of_cell? w _ hw124_2)).trans hw124_2), ((HB.out.cell (World.block_lt_of_cell? w _ hw124_3)).trans hw124_3), ((HB.out.cell (World.block_lt_of_cell? w _ hw124_4)).trans hw124_4), ((HB.out.cell (World.block_lt_of_cell? w _ hw124_5)).trans hw124_5), ((HB.out.cell (World.block_lt_of_cell? w _ hw124_6)).trans hw124_6), ((HB.out.cell (World.block_lt_of_cell? w _ hw124_7)).trans hw124_7), ((HB.out.cell (World.block_lt_of_cell? w _ hw126_0)).trans hw126_0), ((HB.out.cell (World.block_lt_of_cell? w _ hw126_1)).trans hw126_1), ((HB.out.cell (World.block_lt_of_cell? w _ hw126_2)).trans hw126_2), ((HB.out.cell (World.block_lt_of_cell? w _ hw126_3)).trans hw126_3), ((HB.out.cell (World.block_lt_of_cell? w _ hw126_4)).trans hw126_4), ((HB.out.cell (World.block_lt_of_cell? w _ hw126_5)).trans hw126_5), ((HB.out.cell (World.block_lt_of_cell? w _ hw126_6)).trans hw126_6), ((HB.out.cell (World.block_lt_of_cell? w _ hw126_7)).trans hw126_7)⟩ (fun hHeld => ?_); refine with_tabW spec_l2Count.tab5 spec_l2Count.bits5 (fun HT_ HW_ => ?_)
  generalize wr.drew = w6 at HB HR124_6 HR124_7 HR126_6 HR126_7 hx124_0 hx124_1 hx124_2 hx124_3 hx124_4 hx124_5 hx124_6 hx124_7 hx126_0 hx126_1 hx126_2 hx126_3 hx126_4 hx126_5 hx126_6 hx126_7 hHeld ⊢
  refine ZU 0 11 #[T,F,F,F,F,F,F,F,F,F,F,F,F,F,F,F,F] ?_
  refine ZU 1 12 #[T,T,F,F,F,F,F,F,F,F,F,F,F,F,F,F,F] ?_
  refine ZU 2 13 #[T,T,T,F,F,F,F,F,F,F,F,F,F,F,F,F,F] ?_
  refine ZU 3 14 #[T,T,T,T,F,F,F,F,F,F,F,F,F,F,F,F,F] ?_
  refine ZU 4 15 #[T,T,T,T,T,F,F,F,F,F,F,F,F,F,F,F,F] ?_
  refine ZU 5 16 #[T,T,T,T,T,T,F,F,F,F,F,F,F,F,F,F,F] ?_
  refine ZU 9 20 #[T,T,T,T,T,T,F,F,F,T,F,F,F,F,F,F,F] ?_
  refine ZU 10 21 #[T,T,T,T,T,T,F,F,F,T,T,F,F,F,F,F,F] ?_
  refine ZU 11 22 #[T,T,T,T,T,T,F,F,F,T,T,T,F,F,F,F,F] ?_
  refine ZU 12 23 #[T,T,T,T,T,T,F,F,F,T,T,T,T,F,F,F,F] ?_
  refine ZTK 6 17 #[T,T,T,T,T,T,T,F,F,T,T,T,T,F,F,F,F] hHeld ?_
  refine ZTK 13 24 #[T,T,T,T,T,T,T,F,F,T,T,T,T,T,F,F,F] hHeld ?_
  refine one_ (i := 7) (N := some 18) #[T,T,T,T,T,T,T,T,F,T,T,T,T,T,F,F,F] rfl rfl (one_of HT_.out (by kernel_rfl)) (by decide) (fun K hK => ?_)
  refine ZGO Tryd.func30 #[.slice A124_6 ((D71 l0 x4_1).f4).length c124_6] ?_
  with_reducible refine (ih k1 (by have := HK1.out; omega) _ _ ((D71 l0 x4_1).f4) t125 _ ?side1 ?side2 A4.out).mono ?_
  (case side1 => exact ZQ (Kd.C_below HR124_6.out HB.out))
  (case side2 => exact HC124_6.out)
  rintro e w7 ⟨rfl, hb⟩
  refine ZV1 ?_
  replace HB := ZT HB hb
  (try clear hb)
  (try clear hb2)
  (try clear hk)
  (try clear hi)
  refine hK.out _ _ ⟨((HB.out.cell (World.block_lt_of_cell? w _ hw124_0)).trans hw124_0), ((HB.out.cell (World.block_lt_of_cell? w _ hw124_1)).trans hw124_1), ((HB.out.cell (World.block_lt_of_cell? w _ hw124_2)).trans hw124_2), ((HB.out.cell (World.block_lt_of_cell? w _ hw124_3)).trans hw124_3), ((HB.out.cell (World.block_lt_of_cell? w _ hw124_4)).trans hw124_4), ((HB.out.cell (World.block_lt_of_cell? w _ hw124_5)).trans hw124_5), ((HB.out.cell (World.block_lt_of_cell? w _ hw124_6)).trans hw124_6), ((HB.out.cell (World.block_lt_of_cell? w _ hw124_7)).trans hw124_7), ((HB.out.cell (World.block_lt_of_cell? w _ hw126_0)).trans hw126_0), ((HB.out.cell (World.block_lt_of_cell? w _ hw126_1)).trans hw126_1), ((HB.out.cell (World.block_lt_of_cell? w _ hw126_2)).trans hw126_2), ((HB.out.cell (World.block_lt_of_cell? w _ hw126_3)).trans hw126_3), ((HB.out.cell (World.block_lt_of_cell? w _ hw126_4)).trans hw126_4), ((HB.out.cell (World.block_lt_of_cell? w _ hw126_5)).trans hw126_5), ((HB.out.cell (World.block_lt_of_cell? w _ hw126_6)).trans hw126_6), ((HB.out.cell (World.block_lt_of_cell? w _ hw126_7)).trans hw126_7)⟩ (fun hHeld => ?_)
  clear hK K
  refine ZNO 18 ?_
  refine ZU 8 19 #[T,T,T,T,T,T,T,T,T,T,T,T,T,T,F,F,F] ?_
  refine one_ (i := 14) (N := some 25) #[T,T,T,T,T,T,T,T,T,T,T,T,T,T,T,F,F] rfl rfl (one_of HT_.out (by kernel_rfl)) (by decide) (fun K hK => ?_)
  refine ZGO Tryd.func30 #[.slice A124_7 ((D71 l0 x4_1).f5).length c124_7] ?_
  with_reducible refine (ih k1 (by have := HK1.out; omega) _ _ ((D71 l0 x4_1).f5) t127 _ ?side1 ?side2 A5.out).mono ?_
  (case side1 => exact ZQ (Kd.C_below HR126_7.out HB.out))
  (case side2 => exact HC126_7.out)
  rintro e w8 ⟨rfl, hb⟩
  refine ZV1 ?_
  replace HB := ZT HB hb
  (try clear hb)
  (try clear hb2)
  (try clear hk)
  (try clear hi)
  refine hK.out _ _ ⟨((HB.out.cell (World.block_lt_of_cell? w _ hw124_0)).trans hw124_0), ((HB.out.cell (World.block_lt_of_cell? w _ hw124_1)).trans hw124_1), ((HB.out.cell (World.block_lt_of_cell? w _ hw124_2)).trans hw124_2), ((HB.out.cell (World.block_lt_of_cell? w _ hw124_3)).trans hw124_3), ((HB.out.cell (World.block_lt_of_cell? w _ hw124_4)).trans hw124_4), ((HB.out.cell (World.block_lt_of_cell? w _ hw124_5)).trans hw124_5), ((HB.out.cell (World.block_lt_of_cell? w _ hw124_6)).trans hw124_6), ((HB.out.cell (World.block_lt_of_cell? w _ hw124_7)).trans hw124_7), ((HB.out.cell (World.block_lt_of_cell? w _ hw126_0)).trans hw126_0), ((HB.out.cell (World.block_lt_of_cell? w _ hw126_1)).trans hw126_1), ((HB.out.cell (World.block_lt_of_cell? w _ hw126_2)).trans hw126_2), ((HB.out.cell (World.block_lt_of_cell? w _ hw126_3)).trans hw126_3), ((HB.out.cell (World.block_lt_of_cell? w _ hw126_4)).trans hw126_4), ((HB.out.cell (World.block_lt_of_cell? w _ hw126_5)).trans hw126_5), ((HB.out.cell (World.block_lt_of_cell? w _ hw126_6)).trans hw126_6), ((HB.out.cell (World.block_lt_of_cell? w _ hw126_7)).trans hw126_7)⟩ (fun hHeld => ?_)
  clear hK K
  refine ZNO 25 ?_
  refine ZU 15 26 #[T,T,T,T,T,T,T,T,T,T,T,T,T,T,T,T,F] ?_
  refine ZU 16 3 #[T,T,T,T,T,T,T,T,T,T,T,T,T,T,T,T,T] ?_
  refine done_ (done_of HT_.out (by kernel_rfl)) ?_
  try go_wp2
  go_roundg k1
  case measure => have := HK1.out; omega
  case rel => exact ⟨(wrap64 ((wrap64 ((wrap64 (x3_1 + 1)) + t125)) + t127)), (wrap64 (x4_1 + 1)), ZSM, ZSM, H', ⟨by have := HK1.out; omega⟩, ⟨ZB⟩⟩)
  ·(
  rw [if_neg c3] at H
  exact absurd H (by simp)))
  ·(
  rw [if_neg c2] at H
  have c2b0 := decide_eq_false c2
  clear c2
  obtain rfl := Option.some.inj H
  go_wp2
  go_ret
  exact ⟨ZE, ZB⟩))

/-! ### spec_ProgOk: function 11 -/
def spec_ProgOk.l0 : Nat → Int → List (S43) → List (S71) → Option (Bool)
 | 0, _, _, _ => none
 | k + 1, x3, x129000, x129001 => if x3 < (x129000.length : Int) then (if 0 ≤ x3 then ((spec_LabelOk.f ((D43 x129000 x3).f0) ((D43 x129000 x3).f1)).bind fun t130 => (if t130 = true then (spec_ProgOk.l0 k (wrap64 (x3 + 1)) x129000 x129001) else (some false))) else (none)) else ((spec_l2Steps.f k x129000 x129001 x129001 3).bind fun t131 => (if t131 = true then ((spec_l2Count.f k x129001).bind fun t132 => (some (decide (t132 ≤ 8)))) else (some false)))
def spec_ProgOk.f (k : Nat) (l0_0 : List (S43)) (l0_1 : List (S71)) : Option (Bool) := if (l0_0.length : Int) > 4 then (some false) else (spec_ProgOk.l0 k 0 l0_0 l0_1)
theorem spec_ProgOk.calls (k : Nat) (A0_0 : Option Addr) (c0_0 : Nat) (l0_0 : List (S43)) (A0_1 : Option Addr) (c0_1 : Nat) (l0_1 : List (S71)) (r : Bool) (w : World) (hr0_0 : Kd.C k43 w A0_0 l0_0.length l0_0) (hc0_0 : l0_0.length ≤ c0_0) (hr0_1 : Kd.C k71 w A0_1 l0_1.length l0_1) (hc0_1 : l0_1.length ≤ c0_1) (h : spec_ProgOk.f k l0_0 l0_1 = some r) :
  Calls Tryd.prog 11 #[.agg #[.slice A0_0 l0_0.length c0_0, .slice A0_1 l0_1.length c0_1]] w fun e w' => e = .returned (.bool r) ∧ Below w.heap.size w w' := by
 have hu31 := Tryd.underlying31
 have hu43 := Tryd.underlying43
 have HR0_0 := AM hr0_0
 have HC0_0 := AM hc0_0
 clear hr0_0 hc0_0
 have HR0_1 := AM hr0_1
 have HC0_1 := AM hc0_1
 clear hr0_1 hc0_1
 have HB := AM (Below.refl w.heap.size w)
 have H := h
 unfold spec_ProgOk.f at H
 clear h
 by_cases c2 : (l0_0.length : Int) > 4
 ·(
 rw [if_pos c2] at H
 have c2b0 := decide_eq_true c2
 have c2b1 : decide (4 < l0_0.length) = true := decide_eq_true (by omega)
 clear c2
 obtain rfl := Option.some.inj H
 go_enter Tryd.func11, Tryd.ntmps11
 go_wp2_with (first | ((with_reducible refine gate_dst (N := 1) rfl ?_); refine ZXW w (N := 1) (cs := #[.slice A0_0 l0_0.length c0_0, .slice A0_1 l0_1.length c0_1]) (t := 31) ?_; intro gb128 hg w3 BK128 GW128 hb; replace HB := ZT HB hb; clear hb hg; have hcz4 := ZC2 w3 BK128))
 go_ret
 exact ⟨ZE, ZB⟩)
 ·(
 rw [if_neg c2] at H
 have c2b0 := decide_eq_false c2
 have c2b1 : decide (4 < l0_0.length) = false := decide_eq_false (by omega)
 clear c2
 have H' := AM H
 clear H
 go_enter Tryd.func11, Tryd.ntmps11
 go_wp2_with (first | ((with_reducible refine gate_dst (N := 1) rfl ?_); refine ZXW w (N := 1) (cs := #[.slice A0_0 l0_0.length c0_0, .slice A0_1 l0_1.length c0_1]) (t := 31) ?_; intro gb128 hg w5 BK128 GW128 hb; replace HB := ZT HB hb; clear hb hg; have hcz6 := ZC2 w5 BK128))
 go_loopg [3] k (fun kq v3 w' => ∃ (x3_1 : Int), v3 = .int .i64 x3_1 ∧ Za (spec_ProgOk.l0 kq x3_1 l0_0 l0_1 = some r) ∧ Za (kq ≤ k) ∧ Za (w'.heap[gb128]? = some (.cells #[(.slice A0_0 l0_0.length c0_0), (.slice A0_1 l0_1.length c0_1)] 31 (0, 0))) ∧ Za (Below w.heap.size w w'))
 case atStart => exact ⟨(0), ZSM, H', ⟨Nat.le_refl _⟩, ⟨ZK BK128.out⟩, ⟨ZB⟩⟩
 case round => (
 clear H'
 try clear c1
 try clear c2
 try clear c2b0
 try clear c2b1
 try clear p2
 try clear hcz4
 try clear hcz6
 obtain ⟨x3_1, rfl, HA, HK1, BK128, HB⟩ := hrel
 cases gk with
 | zero => exact absurd HA.out (by simp [spec_ProgOk.l0])
 | succ k1 =>
  have H := HA.out
  clear HA
  simp only [spec_ProgOk.l0] at H
  by_cases c7 : x3_1 < (l0_0.length : Int)
  ·(
  rw [if_pos c7] at H
  have c7b0 := decide_eq_true c7
  clear c7
  by_cases c8 : 0 ≤ x3_1
  ·(
  rw [if_pos c8] at H
  have c8b0 := decide_eq_true c8
  clear c8
  obtain ⟨t130, A9, H⟩ := ZOB H; try dsimp only at H
  by_cases c10 : t130 = true
  ·(
  subst c10
  have H1 := H; rw [if_pos rfl] at H1
  clear H
  have H := H1
  clear H1
  have H' := AM H
  clear H
  have hcz11 := ZC2 wr BK128
  have p129 : 0 ≤ (x3_1 : Int) := ZD
  have q129 : x3_1 < (l0_0.length : Int) := ZD
  obtain ⟨ad129, e129, hx129_0, hx129_1⟩ := at_T43 HR0_0.out x3_1 p129 q129
  cases e129
  replace hx129_0 := ZHX HB hx129_0
  replace hx129_1 := ZHX HB hx129_1
  replace p129 := eq_true p129
  replace q129 := eq_true q129
  go_wp2_with (first | ((with_reducible refine gate_callee (f := 28) rfl ?_); refine ZGL (some 20) Tryd.func28 #[.agg #[.int .i64 ((D43 l0_0 x3_1).f0), .int .i64 ((D43 l0_0 x3_1).f1)]] ?_; (with_reducible refine (spec_LabelOk.calls ((D43 l0_0 x3_1).f0) ((D43 l0_0 x3_1).f1) true _ A9.out).mono ?_); rintro e w12 ⟨rfl, hb⟩; refine ZV1 ?_; replace BK128 := ZW BK128 hb; replace HB := ZT HB hb; clear hb))
  go_roundg k1
  case measure => have := HK1.out; omega
  case rel => exact ⟨(wrap64 (x3_1 + 1)), ZSM, H', ⟨by have := HK1.out; omega⟩, ⟨ZK BK128.out⟩, ⟨ZB⟩⟩)
  ·(
  replace c10 := Bool.eq_false_iff.mpr c10
  subst c10
  have H1 := H; rw [if_neg ZFT] at H1
  clear H
  have H := H1
  clear H1
  obtain rfl := Option.some.inj H
  have hcz13 := ZC2 wr BK128
  have p129 : 0 ≤ (x3_1 : Int) := ZD
  have q129 : x3_1 < (l0_0.length : Int) := ZD
  obtain ⟨ad129, e129, hx129_0, hx129_1⟩ := at_T43 HR0_0.out x3_1 p129 q129
  cases e129
  replace hx129_0 := ZHX HB hx129_0
  replace hx129_1 := ZHX HB hx129_1
  replace p129 := eq_true p129
  replace q129 := eq_true q129
  go_wp2_with (first | ((with_reducible refine gate_callee (f := 28) rfl ?_); refine ZGL (some 20) Tryd.func28 #[.agg #[.int .i64 ((D43 l0_0 x3_1).f0), .int .i64 ((D43 l0_0 x3_1).f1)]] ?_; (with_reducible refine (spec_LabelOk.calls ((D43 l0_0 x3_1).f0) ((D43 l0_0 x3_1).f1) false _ A9.out).mono ?_); rintro e w14 ⟨rfl, hb⟩; refine ZV1 ?_; replace BK128 := ZW BK128 hb; replace HB := ZT HB hb; clear hb))
  go_ret
  exact ⟨ZE, ZB⟩))
  ·(
  rw [if_neg c8] at H
  exact absurd H (by simp)))
  ·(
  rw [if_neg c7] at H
  have c7b0 := decide_eq_false c7
  clear c7
  obtain ⟨t131, A15, H⟩ := ZOB H; try dsimp only at H
  by_cases c16 : t131 = true
  ·(
  subst c16
  have H1 := H; rw [if_pos rfl] at H1
  clear H
  have H := H1
  clear H1
  obtain ⟨t132, A17, H⟩ := ZOB H; try dsimp only at H
  obtain rfl := Option.some.inj H
  have hcz18 := ZC2 wr BK128
  go_wp2_with (first | ((with_reducible refine gate_callee (f := 29) rfl ?_); refine ZGL (some 25) Tryd.func29 #[.agg #[.slice A0_0 l0_0.length c0_0, .slice A0_1 l0_1.length c0_1], .slice A0_1 l0_1.length c0_1, .int .i64 3] ?_; (with_reducible refine (spec_l2Steps.calls k1 _ _ l0_0 _ _ l0_1 _ _ l0_1 3 true _ (ZQ (Kd.C_below HR0_0.out HB.out)) HC0_0.out (ZQ (Kd.C_below HR0_1.out HB.out)) HC0_1.out (ZQ (Kd.C_below HR0_1.out HB.out)) HC0_1.out A15.out).mono ?_); rintro e w19 ⟨rfl, hb⟩; refine ZV1 ?_; replace BK128 := ZW BK128 hb; replace HB := ZT HB hb; clear hb; have hcz20 := ZC2 w19 BK128) | (go_at_call 30; (with_reducible refine (spec_l2Count.calls k1 _ _ l0_1 t132 _ (ZQ (Kd.C_below HR0_1.out HB.out)) HC0_1.out A17.out).mono ?_); rintro e w21 ⟨rfl, hb⟩; replace BK128 := ZW BK128 hb; replace HB := ZT HB hb; clear hb))
  go_ret
  exact ⟨ZE, ZB⟩)
  ·(
  replace c16 := Bool.eq_false_iff.mpr c16
  subst c16
  have H1 := H; rw [if_neg ZFT] at H1
  clear H
  have H := H1
  clear H1
  obtain rfl := Option.some.inj H
  have hcz22 := ZC2 wr BK128
  go_wp2_with (first | ((with_reducible refine gate_callee (f := 29) rfl ?_); refine ZGL (some 25) Tryd.func29 #[.agg #[.slice A0_0 l0_0.length c0_0, .slice A0_1 l0_1.length c0_1], .slice A0_1 l0_1.length c0_1, .int .i64 3] ?_; (with_reducible refine (spec_l2Steps.calls k1 _ _ l0_0 _ _ l0_1 _ _ l0_1 3 false _ (ZQ (Kd.C_below HR0_0.out HB.out)) HC0_0.out (ZQ (Kd.C_below HR0_1.out HB.out)) HC0_1.out (ZQ (Kd.C_below HR0_1.out HB.out)) HC0_1.out A15.out).mono ?_); rintro e w23 ⟨rfl, hb⟩; refine ZV1 ?_; replace BK128 := ZW BK128 hb; replace HB := ZT HB hb; clear hb))
  go_ret
  exact ⟨ZE, ZB⟩))))

/-! ### spec_l6Dec: function 36 -/
def spec_l6Dec.f : Nat → Int → Option (ByteArray)
 | 0, _ => none
 | k + 1, a0 => if a0 < (-9223372036854775807) then (some (⟨#[45, 57, 50, 50, 51, 51, 55, 50, 48, 51, 54, 56, 53, 52, 55, 55, 53, 56, 48, 56]⟩ : ByteArray)) else (if a0 < 0 then ((spec_l6Dec.f k (wrap64 (-a0))).bind fun t133 => (if 1 + t133.size ≤ 9223372036854775807 then (some ((⟨#[45]⟩ : ByteArray) ++ t133)) else (none))) else (if a0 < 10 then (some (strOfNums (([(wrap64 (48 + a0)) % 256] : List Int)))) else ((spec_l6Dec.f k (wrap64 (Int.tdiv a0 10))).bind fun t137 => ((some (([(wrap64 (48 + (Int.tmod a0 10))) % 256] : List Int) : List Int)).bind fun y138 => (if t137.size + (strOfNums y138).size ≤ 9223372036854775807 then (some (t137 ++ (strOfNums y138))) else (none))))))
def spec_l6Dec.T7 : Bool × List (List Nat × List Nat) := (true, [([], []), ([0], [0]), ([1], [1]), ([], []), ([3], [3]), ([4], [4]), ([5], [5]), ([6], [6]), ([7], [7]), ([2, 8], [2, 8]), ([9, 2, 0, 1, 2, 3, 4, 5, 6, 7, 8, 9], [9])])
def spec_l6Dec.B7 : List Nat := [0, 1, 3, 0, 8, 24, 56, 120, 248, 511, 1023]
theorem spec_l6Dec.tab7 : rtab .any (opsOf Tryd.f36 7) = spec_l6Dec.T7 := by kernel_rfl
theorem spec_l6Dec.bits7 : waitsOk spec_l6Dec.T7.2 spec_l6Dec.B7 = true := by kernel_rfl
theorem spec_l6Dec.calls (k : Nat) : ∀ (a0 : Int) (r : ByteArray) (w : World) (h : spec_l6Dec.f k a0 = some r),
  Calls Tryd.prog 36 #[.int .i64 a0] w fun e w' => e = .returned (.string r) ∧ Below w.heap.size w w' := by
 induction k using Nat.strongRecOn with
 | _ k ih =>
 intro a0 r w h
 cases k with
 | zero => exact absurd h (by simp [spec_l6Dec.f])
 | succ k =>
 simp only [spec_l6Dec.f] at h
 have HB := AM (Below.refl w.heap.size w)
 have H : (if a0 < (-9223372036854775807) then (some (⟨#[45, 57, 50, 50, 51, 51, 55, 50, 48, 51, 54, 56, 53, 52, 55, 55, 53, 56, 48, 56]⟩ : ByteArray)) else (if a0 < 0 then ((spec_l6Dec.f k (wrap64 (-a0))).bind fun t133 => (if 1 + t133.size ≤ 9223372036854775807 then (some ((⟨#[45]⟩ : ByteArray) ++ t133)) else (none))) else (if a0 < 10 then (some (strOfNums (([(wrap64 (48 + a0)) % 256] : List Int)))) else ((spec_l6Dec.f k (wrap64 (Int.tdiv a0 10))).bind fun t137 => ((some (([(wrap64 (48 + (Int.tmod a0 10))) % 256] : List Int) : List Int)).bind fun y138 => (if t137.size + (strOfNums y138).size ≤ 9223372036854775807 then (some (t137 ++ (strOfNums y138))) else (none))))))) = some r := h
 clear h
 by_cases c2 : a0 < (-9223372036854775807)
 ·(
 rw [if_pos c2] at H
 have c2b0 := decide_eq_true c2
 clear c2
 obtain rfl := Option.some.inj H
 go_enter Tryd.func36, Tryd.ntmps36
 go_wp2
 go_ret
 exact ⟨ZE, ZB⟩)
 ·(
 rw [if_neg c2] at H
 have c2b0 := decide_eq_false c2
 clear c2
 by_cases c3 : a0 < 0
 ·(
 rw [if_pos c3] at H
 have c3b0 := decide_eq_true c3
 clear c3
 obtain ⟨t133, A4, H⟩ := ZOB H; try dsimp only at H
 by_cases c5 : 1 + t133.size ≤ 9223372036854775807
 ·(
 rw [if_pos c5] at H
 have c5b0 := eq_true c5
 have c5b1 := decide_eq_true c5
 try have c5b2 : (9223372036854775807 < 1 + t133.size) = False := eq_false (Nat.not_lt.2 c5)
 obtain rfl := Option.some.inj H
 go_enter Tryd.func36, Tryd.ntmps36
 go_wp2_with (first | ((with_reducible refine gate_callee (f := 36) rfl ?_); refine ZGL (some 9) Tryd.func36 #[.int .i64 (wrap64 (-a0))] ?_; (with_reducible refine (ih k (by omega) (wrap64 (-a0)) t133 _ A4.out).mono ?_); rintro e w6 ⟨rfl, hb⟩; refine ZV1 ?_; replace HB := ZT HB hb; clear hb))
 go_ret
 exact ⟨ZE, ZB⟩)
 ·(
 rw [if_neg c5] at H
 exact absurd H (by simp)))
 ·(
 rw [if_neg c3] at H
 have c3b0 := decide_eq_false c3
 clear c3
 by_cases c7 : a0 < 10
 ·(
 rw [if_pos c7] at H
 have c7b0 := decide_eq_true c7
 clear c7
 obtain ⟨y134, hy134⟩ : ∃ y_ : List Int, y_ = (([(wrap64 (48 + a0)) % 256] : List Int)) := ⟨_, rfl⟩
 replace H : (some (strOfNums y134)) = some r := by rw [hy134]; exact H
 have Ny134 := AM hy134
 clear hy134
 obtain rfl := Option.some.inj H
 go_enter Tryd.func36, Tryd.ntmps36
 go_wp2_with (first | ((with_reducible refine gate_dst (N := 16) rfl ?_); refine Kd.R_lit (Kd.int .u8) _ 5 ?hg (N := 16) ?hd (xs := ([(wrap64 (48 + a0)) % 256] : List Int)) (inner := [.int .u8 ((wrap64 (48 + a0)) % 256)]) (ok := fun _ => True) (okp := fun _ => True) ?hr ?hp (fun _ hk => hk) trivial (Below.refl _ _) (Nat.le_refl _) (by simp) ?_; (case hd => rfl); (case hg => rfl); (case hr => first | (go_simp; done) | (go_simp; rfl)); (case hp => exact (Reps.one (show Kd.M (Kd.int .u8) _ _ _ ((wrap64 (48 + a0)) % 256) [.int .u8 ((wrap64 (48 + a0)) % 256)] from rfl) (Reps.none _ _))); intro v135 w8 ho9 hb hg_ hnew_; clear hg_ hnew_; (first | rw [← Ny134.out] at ho9 | (simp only [Int.reduceToNat] at ho9; rw [← Ny134.out] at ho9)); have HO136 := AM (Kd.R_lower ho9 (below_size (ZB))); replace HB := ZT HB hb; clear hb ho9; have hcv10 := own_string (P := Tryd.prog) Tryd.underlying35 Tryd.underlying5 Tryd.underlying9 (Kd.own_of_R HO136.out)))
 go_ret
 exact ⟨ZE, ZB⟩)
 ·(
 rw [if_neg c7] at H
 have c7b0 := decide_eq_false c7
 clear c7
 obtain ⟨t137, A11, H⟩ := ZOB H; try dsimp only at H
 obtain ⟨y138, Ny138, H⟩ := ZLET H; try dsimp only at H
 by_cases c12 : t137.size + (strOfNums y138).size ≤ 9223372036854775807
 ·(
 rw [if_pos c12] at H
 have c12b0 := eq_true c12
 have c12b1 := decide_eq_true c12
 try have c12b2 : (9223372036854775807 < t137.size + (strOfNums y138).size) = False := eq_false (Nat.not_lt.2 c12)
 obtain rfl := Option.some.inj H
 go_enter Tryd.func36, Tryd.ntmps36
 try go_wp2
 replace HB := AM (below_drew1 HB.out)
 refine start_ (n := 11) (S := fun w' => True) (ds := []) #[F,F,F,F,F,F,F,F,F,F,F] (by kernel_rfl) rfl rfl trivial (fun hHeld => ?_); refine with_tabW spec_l6Dec.tab7 spec_l6Dec.bits7 (fun HT_ HW_ => ?_)
 generalize w.drew = w13 at HB hHeld ⊢
 refine ZU 0 18 #[T,F,F,F,F,F,F,F,F,F,F] ?_
 refine ZU 1 19 #[T,T,F,F,F,F,F,F,F,F,F] ?_
 refine ZU 3 21 #[T,T,F,T,F,F,F,F,F,F,F] ?_
 refine ZU 4 22 #[T,T,F,T,T,F,F,F,F,F,F] ?_
 refine ZU 5 23 #[T,T,F,T,T,T,F,F,F,F,F] ?_
 refine ZU 6 24 #[T,T,F,T,T,T,T,F,F,F,F] ?_
 refine join_ (σ := Value) 2 #[T,T,T,T,T,T,T,T,T,F,F] (fun s_ => [(20, .string t137), (25, s_), (26, .string (strOfNums y138))]) (fun s_ w' => (Kd.R (Kd.int .u8) 5 w' w.heap.size (fun _ => True) s_ y138) ∧ (Below w.heap.size w w')) ?_ ?_
 rotate_left
 ·(
 intro hCont
 refine two_ (i := 2) (j := 7) (Ni := some 20) (Nj := some 25) #[T,T,T,T,T,T,T,F,F,F,F] #[T,T,F,T,T,T,T,T,F,F,F] rfl rfl rfl rfl (two_of HT_.out (by kernel_rfl)) (by decide) (by decide) (fun K hK => ?_) (fun K hK => ?_)
 ·(
 skip
 refine ZGO Tryd.func36 #[.int .i64 (wrap64 (Int.tdiv a0 10))] ?_
 with_reducible refine (ih k (by omega) (wrap64 (Int.tdiv a0 10)) t137 _ A11.out).mono ?_
 rintro e w14 ⟨rfl, hb⟩
 refine ZV1 ?_
 replace HB := ZT HB hb
 (try clear hb)
 (try clear hb2)
 (try clear hk)
 (try clear hi)
 refine hK.out _ _ trivial (fun hHeld => ?_)
 clear hK K
 refine ZNO 20 ?_
 refine one_ (i := 7) (N := some 25) #[T,T,T,T,T,T,T,T,F,F,F] rfl rfl (one_of HT_.out (by kernel_rfl)) (by decide) (fun K hK => ?_)
 refine Kd.R_lit_step (Kd.int .u8) _ 5 ?hg (N := 25) ?hd (xs := ([(wrap64 (48 + (Int.tmod a0 10))) % 256] : List Int)) (inner := [.int .u8 ((wrap64 (48 + (Int.tmod a0 10))) % 256)]) (ok := fun _ => True) (okp := fun _ => True) ?hr ?hp (fun _ hk => hk) trivial (Below.refl _ _) (Nat.le_refl _) (by simp) ?_; (case hd => rfl); (case hg => rfl); (case hr => first | (go_simp; done) | (go_simp; rfl)); (case hp => exact (Reps.one (show Kd.M (Kd.int .u8) _ _ _ ((wrap64 (48 + (Int.tmod a0 10))) % 256) [.int .u8 ((wrap64 (48 + (Int.tmod a0 10))) % 256)] from rfl) (Reps.none _ _)))
 intro v139 w15 ho16 hb hg_ hnew_
 clear hg_ hnew_
 (first | rw [← Ny138.out] at ho16 | (simp only [Int.reduceToNat] at ho16; rw [← Ny138.out] at ho16))
 have HO140 := AM (Kd.R_lower ho16 (below_size (ZB)))
 replace HB := ZT HB hb
 clear hb ho16
 refine hK.out _ _ trivial (fun hHeld => ?_)
 clear hK K
 refine ZNO 25 ?_
 refine one_ (i := 8) (N := some 26) #[T,T,T,T,T,T,T,T,T,F,F] rfl rfl (one_of HT_.out (by kernel_rfl)) (by decide) (fun K hK => ?_)
 have hcv17 := own_string (P := Tryd.prog) Tryd.underlying35 Tryd.underlying5 Tryd.underlying9 (Kd.own_of_R HO140.out)
 refine value_ (w1 := ?_) (v := ?_) (by rfl) rfl ?_ ?_
 rotate_left 2
 ·(
 go_simp
 constructor
 ·rfl
 ·rfl)
 clear hcv17
 refine hK.out _ _ trivial (fun hHeld => ?_)
 clear hK K
 refine ZNO 26 ?_
 exact norm_ (by simp only [putAll, Act.put, List.setIfInBounds_toArray, List.set_cons_zero, List.set_cons_succ]) (hCont (v139) _ ⟨(ZR HO140.out), (ZB)⟩))
 ·(
 skip
 refine Kd.R_lit_step (Kd.int .u8) _ 5 ?hg (N := 25) ?hd (xs := ([(wrap64 (48 + (Int.tmod a0 10))) % 256] : List Int)) (inner := [.int .u8 ((wrap64 (48 + (Int.tmod a0 10))) % 256)]) (ok := fun _ => True) (okp := fun _ => True) ?hr ?hp (fun _ hk => hk) trivial (Below.refl _ _) (Nat.le_refl _) (by simp) ?_; (case hd => rfl); (case hg => rfl); (case hr => first | (go_simp; done) | (go_simp; rfl)); (case hp => exact (Reps.one (show Kd.M (Kd.int .u8) _ _ _ ((wrap64 (48 + (Int.tmod a0 10))) % 256) [.int .u8 ((wrap64 (48 + (Int.tmod a0 10))) % 256)] from rfl) (Reps.none _ _)))
 intro v139 w14 ho15 hb hg_ hnew_
 clear hg_ hnew_
 (first | rw [← Ny138.out] at ho15 | (simp only [Int.reduceToNat] at ho15; rw [← Ny138.out] at ho15))
 have HO140 := AM (Kd.R_lower ho15 (below_size (ZB)))
 replace HB := ZT HB hb
 clear hb ho15
 refine hK.out _ _ trivial (fun hHeld => ?_)
 clear hK K
 refine ZNO 25 ?_
 refine two_ (i := 2) (j := 8) (Ni := some 20) (Nj := some 26) #[T,T,T,T,T,T,T,T,F,F,F] #[T,T,F,T,T,T,T,T,T,F,F] rfl rfl rfl rfl (two_of HT_.out (by kernel_rfl)) (by decide) (by decide) (fun K hK => ?_) (fun K hK => ?_)
 ·(
 skip
 refine ZGO Tryd.func36 #[.int .i64 (wrap64 (Int.tdiv a0 10))] ?_
 with_reducible refine (ih k (by omega) (wrap64 (Int.tdiv a0 10)) t137 _ A11.out).mono ?_
 rintro e w16 ⟨rfl, hb⟩
 refine ZV1 ?_
 replace HO140 := AM (Kd.R_below (ZR HO140.out) hb)
 replace HB := ZT HB hb
 (try clear hb)
 (try clear hb2)
 (try clear hk)
 (try clear hi)
 refine hK.out _ _ trivial (fun hHeld => ?_)
 clear hK K
 refine ZNO 20 ?_
 refine one_ (i := 8) (N := some 26) #[T,T,T,T,T,T,T,T,T,F,F] rfl rfl (one_of HT_.out (by kernel_rfl)) (by decide) (fun K hK => ?_)
 have hcv17 := own_string (P := Tryd.prog) Tryd.underlying35 Tryd.underlying5 Tryd.underlying9 (Kd.own_of_R HO140.out)
 refine value_ (w1 := ?_) (v := ?_) (by rfl) rfl ?_ ?_
 rotate_left 2
 ·(
 go_simp
 constructor
 ·rfl
 ·rfl)
 clear hcv17
 refine hK.out _ _ trivial (fun hHeld => ?_)
 clear hK K
 refine ZNO 26 ?_
 exact norm_ (by simp only [putAll, Act.put, List.setIfInBounds_toArray, List.set_cons_zero, List.set_cons_succ]) (hCont (v139) _ ⟨(ZR HO140.out), (ZB)⟩))
 ·(
 skip
 have hcv16 := own_string (P := Tryd.prog) Tryd.underlying35 Tryd.underlying5 Tryd.underlying9 (Kd.own_of_R HO140.out)
 refine value_ (w1 := ?_) (v := ?_) (by rfl) rfl ?_ ?_
 rotate_left 2
 ·(
 go_simp
 constructor
 ·rfl
 ·rfl)
 clear hcv16
 refine hK.out _ _ trivial (fun hHeld => ?_)
 clear hK K
 refine ZNO 26 ?_
 refine one_ (i := 2) (N := some 20) #[T,T,T,T,T,T,T,T,T,F,F] rfl rfl (one_of HT_.out (by kernel_rfl)) (by decide) (fun K hK => ?_)
 refine ZGO Tryd.func36 #[.int .i64 (wrap64 (Int.tdiv a0 10))] ?_
 with_reducible refine (ih k (by omega) (wrap64 (Int.tdiv a0 10)) t137 _ A11.out).mono ?_
 rintro e w17 ⟨rfl, hb⟩
 refine ZV1 ?_
 replace HO140 := AM (Kd.R_below (ZR HO140.out) hb)
 replace HB := ZT HB hb
 (try clear hb)
 (try clear hb2)
 (try clear hk)
 (try clear hi)
 refine hK.out _ _ trivial (fun hHeld => ?_)
 clear hK K
 refine ZNO 20 ?_
 exact norm_ (by simp only [putAll, Act.put, List.setIfInBounds_toArray, List.set_cons_zero, List.set_cons_succ]) (hCont (v139) _ ⟨(ZR HO140.out), (ZB)⟩))))
 rintro v139 w18 ⟨h0_, h1_⟩
 try dsimp only at h0_ h1_
 have n0_ := AM h0_
 have n1_ := AM h1_
 clear HB h0_ h1_
 have HO140 := n0_
 have HB := n1_
 clear n0_ n1_
 have hHeld := trivial
 refine ZNP ?_
 refine ZU 9 27 #[T,T,T,T,T,T,T,T,T,T,F] ?_
 refine ZU 10 2 #[T,T,T,T,T,T,T,T,T,T,T] ?_
 refine done_ (done_of HT_.out (by kernel_rfl)) ?_
 try go_wp2
 go_ret
 exact ⟨ZE, ZB⟩)
 ·(
 rw [if_neg c12] at H
 exact absurd H (by simp)))))

/-! ### spec_l1Has: function 57 -/
def spec_l1Has.f (a0 : Int) (a1 : Int) : Option (Bool) := if a1 ≥ 0 then (if a1 < 3 then (if 0 ≤ a1 then (some ((Int.tmod (shr .i64 a0 a1) 2) == 1)) else (none)) else (some false)) else (some false)
theorem spec_l1Has.calls (a0 : Int) (a1 : Int) (r : Bool) (w : World) (h : spec_l1Has.f a0 a1 = some r) :
  Calls Tryd.prog 57 #[.int .i64 a0, .int .i64 a1] w fun e w' => e = .returned (.bool r) ∧ Drawn0 w w' := by
 have H := h
 unfold spec_l1Has.f at H
 clear h
 by_cases c3 : a1 ≥ 0
 ·(
 rw [if_pos c3] at H
 have c3b0 := decide_eq_true c3
 clear c3
 by_cases c4 : a1 < 3
 ·(
 rw [if_pos c4] at H
 have c4b0 := decide_eq_true c4
 clear c4
 by_cases c5 : 0 ≤ a1
 ·(
 rw [if_pos c5] at H
 have c5b0 := eq_true c5
 have c5b1 := decide_eq_true c5
 clear c5
 obtain ⟨ji6, hji6⟩ : ∃ j_ : Int, (shr .i64 a0 a1) = j_ := ⟨_, rfl⟩
 replace H : (some ((Int.tmod (ji6) 2) == 1)) = some r := by first | (rw [hji6] at H; exact H) | (simp only [hji6] at H ⊢; exact H)
 have hji6_ : (a0 / 2 ^ min a1.toNat 64) = ji6 := hji6
 have hji6z : a1 ≤ 64 → (a0 / 2 ^ a1.toNat) = ji6 := shr_small hji6
 obtain rfl := Option.some.inj H
 go_enter Tryd.func57, Tryd.ntmps57
 go_wp2
 go_ret
 exact ⟨by first | rfl | (simp; done) | (simp only [← hji6] <;> (first | rfl | simp)) | (simp [*]; done), by repeat (first | exact Drawn0.refl _ | apply Drawn0.step)⟩)
 ·(
 rw [if_neg c5] at H
 exact absurd H (by simp)))
 ·(
 rw [if_neg c4] at H
 have c4b0 := decide_eq_false c4
 clear c4
 obtain rfl := Option.some.inj H
 go_enter Tryd.func57, Tryd.ntmps57
 go_wp2
 go_ret
 exact ⟨by first | rfl | (simp; done) | (simp [*]; done), by repeat (first | exact Drawn0.refl _ | apply Drawn0.step)⟩))
 ·(
 rw [if_neg c3] at H
 have c3b0 := decide_eq_false c3
 clear c3
 obtain rfl := Option.some.inj H
 go_enter Tryd.func57, Tryd.ntmps57
 go_wp2
 go_ret
 exact ⟨by first | rfl | (simp; done) | (simp [*]; done), by repeat (first | exact Drawn0.refl _ | apply Drawn0.step)⟩)

/-! ### spec_l1Say: function 33 -/
def spec_l1Say.l0 : Nat → Int → ByteArray → Int → Option (ByteArray)
 | 0, _, _, _ => none
 | k + 1, x0, x3, x4 => if x4 < 3 then ((spec_l1Has.f x0 x4).bind fun t141 => (if t141 = true then ((spec_l6Dec.f k x4).bind fun t142 => (if x3.size + t142.size ≤ 9223372036854775807 then (spec_l1Say.l0 k x0 (x3 ++ t142) (wrap64 (x4 + 1))) else (none))) else (spec_l1Say.l0 k x0 x3 (wrap64 (x4 + 1))))) else (some x3)
def spec_l1Say.f (k : Nat) (a0 : Int) : Option (ByteArray) := spec_l1Say.l0 k a0 (⟨#[]⟩ : ByteArray) 0
theorem spec_l1Say.calls (k : Nat) (a0 : Int) (r : ByteArray) (w : World) (h : spec_l1Say.f k a0 = some r) :
  Calls Tryd.prog 33 #[.int .i64 a0] w fun e w' => e = .returned (.string r) ∧ Below w.heap.size w w' := by
 have HB := AM (Below.refl w.heap.size w)
 have H := h
 unfold spec_l1Say.f at H
 clear h
 have H' := AM H
 clear H
 go_enter Tryd.func33, Tryd.ntmps33
 go_wp2
 go_loopg [3, 4] k (fun kq v3 v4 w' => ∃ (x3_1 : ByteArray) (x4_1 : Int), v3 = .string x3_1 ∧ v4 = .int .i64 x4_1 ∧ Za (spec_l1Say.l0 kq a0 x3_1 x4_1 = some r) ∧ Za (kq ≤ k) ∧ Za (Below w.heap.size w w'))
 case atStart => exact ⟨((⟨#[]⟩ : ByteArray)), (0), ZSM, ZSM, H', ⟨Nat.le_refl _⟩, ⟨ZB⟩⟩
 case round => (
 clear H'
 obtain ⟨x3_1, x4_1, rfl, rfl, HA, HK1, HB⟩ := hrel
 cases gk with
 | zero => exact absurd HA.out (by simp [spec_l1Say.l0])
 | succ k1 =>
  have H := HA.out
  clear HA
  simp only [spec_l1Say.l0] at H
  by_cases c2 : x4_1 < 3
  ·(
  rw [if_pos c2] at H
  have c2b0 := decide_eq_true c2
  clear c2
  obtain ⟨t141, A3, H⟩ := ZOB H; try dsimp only at H
  by_cases c4 : t141 = true
  ·(
  subst c4
  have H1 := H; rw [if_pos rfl] at H1
  clear H
  have H := H1
  clear H1
  obtain ⟨t142, A5, H⟩ := ZOB H; try dsimp only at H
  by_cases c6 : x3_1.size + t142.size ≤ 9223372036854775807
  ·(
  rw [if_pos c6] at H
  have c6b0 := eq_true c6
  have c6b1 := decide_eq_true c6
  try have c6b2 : (9223372036854775807 < x3_1.size + t142.size) = False := eq_false (Nat.not_lt.2 c6)
  have H' := AM H
  clear H
  go_wp2_with (first | ((with_reducible refine gate_callee (f := 57) rfl ?_); refine ZGL (some 11) Tryd.func57 #[.int .i64 a0, .int .i64 x4_1] ?_; (with_reducible refine (spec_l1Has.calls a0 x4_1 true _ A3.out).mono ?_); rintro e w' ⟨rfl, ⟨nd, rfl⟩⟩; refine ZV1 ?_) | ((with_reducible refine gate_callee (f := 36) rfl ?_); refine ZGL (some 14) Tryd.func36 #[.int .i64 x4_1] ?_; (with_reducible refine (spec_l6Dec.calls k1 x4_1 t142 _ A5.out).mono ?_); rintro e w7 ⟨rfl, hb⟩; refine ZV1 ?_; replace HB := ZT HB hb; clear hb))
  go_roundg k1
  case measure => have := HK1.out; omega
  case rel => exact ⟨(x3_1 ++ t142), (wrap64 (x4_1 + 1)), ZSM, ZSM, H', ⟨by have := HK1.out; omega⟩, ⟨ZB⟩⟩)
  ·(
  rw [if_neg c6] at H
  exact absurd H (by simp)))
  ·(
  replace c4 := Bool.eq_false_iff.mpr c4
  subst c4
  have H1 := H; rw [if_neg ZFT] at H1
  clear H
  have H := H1
  clear H1
  have H' := AM H
  clear H
  go_wp2_with (first | ((with_reducible refine gate_callee (f := 57) rfl ?_); refine ZGL (some 11) Tryd.func57 #[.int .i64 a0, .int .i64 x4_1] ?_; (with_reducible refine (spec_l1Has.calls a0 x4_1 false _ A3.out).mono ?_); rintro e w' ⟨rfl, ⟨nd, rfl⟩⟩; refine ZV1 ?_))
  go_roundg k1
  case measure => have := HK1.out; omega
  case rel => exact ⟨(x3_1), (wrap64 (x4_1 + 1)), ZSM, ZSM, H', ⟨by have := HK1.out; omega⟩, ⟨ZB⟩⟩))
  ·(
  rw [if_neg c2] at H
  have c2b0 := decide_eq_false c2
  clear c2
  obtain rfl := Option.some.inj H
  go_wp2
  go_ret
  exact ⟨ZE, ZB⟩))

end Go.Proofs.YtfcmckomagaiiaaDoor.A
