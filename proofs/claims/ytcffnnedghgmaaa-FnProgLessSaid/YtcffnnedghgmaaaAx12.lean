/- What Go functions compute, as Lean functions, and for each its contract: for every input at which the Lean function answers the call returns that; written by wip/tools/pr.py over the kit's print. -/
import Derived.Test.YtcffnnedghgmaaaAx0
import Derived.Test.YtcffnnedghgmaaaAx2
import Derived.Test.YtcffnnedghgmaaaAx6
import Derived.Test.YtcffnnedghgmaaaAx11
namespace Go.Proofs.Ytcffnnedghgmaaa.A
open Go.RowKit Go.Proofs.YtcffnnedghgmaaaW.PrintWords Go.Proofs.YtcffnnedghgmaaaW.PrintLast Go.Proofs.YtcffnnedghgmaaaW.PrintMore
attribute [local go_sem] max2_int min2_int max_two min_two max_three min_three max_four min_four   -- for this text's walks alone
set_option linter.unusedVariables false
set_option linter.unusedSimpArgs false

/-- Flags of a region: what is done, what is not. -/
abbrev spec_l71Bent.T := true
abbrev spec_l71Bent.F := false
/-! ### spec_l71Bent: function 86 -/
mutual
def spec_l71Bent.l0 : Nat → List Int → Int → List (S35) → List (S59) → Option ((List (S35)) × (List (S59)) × Int)
 | 0, _, _, _, _ => none
 | k + 1, x1000, x1001, x275000, x275001 => if (x275001.length : Int) ≤ 8 then (if x275001.length < 1466015503701 then (spec_l71Bent.l0 k x1000 x1001 x275000 (x275001 ++ [(⟨3, 0, (⟨0, 0, 0⟩ : S57), 0, ([] : List (S59)), ([] : List (S59))⟩ : S59)])) else (none)) else (some (x275000, x275001, x1001))
def spec_l71Bent.l1 : Nat → Int → List Int → Int → List (S35) → List (S59) → Option ((List (S35)) × (List (S59)) × Int)
 | 0, _, _, _, _, _ => none
 | k + 1, x6, x1000, x1001, x275000, x275001 => if x6 < 4 then (spec_l71Bent.l1 k (wrap64 (x6 + 1)) x1000 x1001 x275000 (([(⟨2, 0, (⟨0, 0, 0⟩ : S57), 0, x275001, ([] : List (S59))⟩ : S59)] : List (S59)))) else (some (x275000, x275001, x1001))
end
def spec_l71Bent.f (k : Nat) (s0_0 : List Int) (s0_1 : Int) (l1_0 : List (S35)) (l1_1 : List (S59)) : Option ((List (S35)) × (List (S59)) × Int) := (some (([] : List (S35)) : List (S35))).bind fun y265 => (if y265.length + l1_0.length < 8796093022208 then ((some (y265 ++ l1_0 : List (S35))).bind fun y268 => ((spec_l2Copy.f k l1_1).bind fun t271 => ((spec_l6Rd_pick.f k s0_0 s0_1 8).bind fun bt275 => (if bt275.1 = 0 then (if 0 < (y268.length : Int) then (some ((y268.set (0 : Int).toNat (⟨8, (rd_T35 y268 0).f1⟩ : S35)), t271, bt275.2)) else (none)) else (if bt275.1 = 1 then ((spec_l6Rd_pick.f k s0_0 bt275.2 6).bind fun bt278 => (if t271.length < 1466015503701 then (some (y268, (t271 ++ [(⟨wrap64 (bt278.1 - 1), 0, (⟨0, 0, 0⟩ : S57), 0, ([] : List (S59)), ([] : List (S59))⟩ : S59)]), bt278.2)) else (none))) else (if bt275.1 = 2 then (if t271.length < 1466015503701 then (some (y268, (t271 ++ [(⟨1, (y268.length : Int), (⟨1, 0, 0⟩ : S57), 0, ([] : List (S59)), ([] : List (S59))⟩ : S59)]), bt275.2)) else (none)) else (if bt275.1 = 3 then ((some (([1, 1, 2, 3, 0, 5] : List Int) : List Int)).bind fun y286 => ((spec_l6Rd_pick.f k s0_0 bt275.2 6).bind fun bt289 => (if 0 ≤ bt289.1 then (if bt289.1 < (y286.length : Int) then ((some (([10, (-1), 4] : List Int) : List Int)).bind fun y292 => ((spec_l6Rd_pick.f k s0_0 bt289.2 3).bind fun bt295 => (if 0 ≤ bt295.1 then (if bt295.1 < (y292.length : Int) then (if t271.length < 1466015503701 then (some (y268, (t271 ++ [(⟨1, 0, (⟨rd y286 bt289.1, rd y292 bt295.1, 0⟩ : S57), 0, ([] : List (S59)), ([] : List (S59))⟩ : S59)]), bt295.2)) else (none)) else (none)) else (none)))) else (none)) else (none)))) else (if bt275.1 = 4 then (spec_l71Bent.l0 k s0_0 bt275.2 y268 t271) else (if bt275.1 = 5 then (spec_l71Bent.l1 k 0 s0_0 bt275.2 y268 t271) else (if bt275.1 = 6 then ((some (([(⟨0, 0⟩ : S35), (⟨0, 0⟩ : S35), (⟨0, 0⟩ : S35), (⟨0, 0⟩ : S35)] : List (S35)) : List (S35))).bind fun y307 => (if y268.length + y307.length < 8796093022208 then (some ((y268 ++ y307), t271, bt275.2)) else (none))) else (if t271.length < 1466015503701 then (some (y268, (t271 ++ [(⟨3, 0, (⟨0, 0, 0⟩ : S57), 3, ([] : List (S59)), ([] : List (S59))⟩ : S59)]), bt275.2)) else (none)))))))))))) else (none))
def spec_l71Bent.T1 : Bool × List (List Nat × List Nat) := (true, [([], []), ([], []), ([1], [1]), ([0, 2], [0, 2]), ([], []), ([4], [4]), ([5, 3], [5]), ([3, 6], [3, 6]), ([], []), ([8, 7, 6, 0, 1, 2, 3, 4, 5, 6, 7, 8], [7, 8])])
def spec_l71Bent.B1 : List Nat := [0, 0, 2, 7, 0, 16, 63, 127, 0, 511]
theorem spec_l71Bent.tab1 : rtab .any (opsOf Try.f86 1) = spec_l71Bent.T1 := by kernel_rfl
theorem spec_l71Bent.bits1 : waitsOk spec_l71Bent.T1.2 spec_l71Bent.B1 = true := by kernel_rfl
def spec_l71Bent.T7 : Bool × List (List Nat × List Nat) := (true, [([], []), ([0], [0]), ([], []), ([2], [2]), ([3], [3]), ([4], [4]), ([5], [5]), ([1, 6, 3], [1, 6]), ([0, 1, 2, 3, 4, 5, 6, 7], []), ([8, 7, 7, 0, 1, 2, 3, 4, 5, 6, 7], [7, 8])])
def spec_l71Bent.B7 : List Nat := [0, 1, 0, 4, 12, 28, 60, 127, 255, 511]
theorem spec_l71Bent.tab7 : rtab .any (opsOf Try.f86 7) = spec_l71Bent.T7 := by kernel_rfl
theorem spec_l71Bent.bits7 : waitsOk spec_l71Bent.T7.2 spec_l71Bent.B7 = true := by kernel_rfl
def spec_l71Bent.T11 : Bool × List (List Nat × List Nat) := (true, [([], []), ([0], [0]), ([], []), ([], []), ([3], [3]), ([2, 4], [2, 4]), ([5], [5]), ([], []), ([], []), ([8, 4], [8]), ([7, 9], [7, 9]), ([10], [10]), ([6, 11], [6, 11]), ([12], [12]), ([13], [13]), ([1, 14, 9], [1, 14]), ([0, 1, 2, 3, 4, 5, 6, 7, 8, 9, 10, 11, 12, 13, 14, 15], []), ([16, 15, 15, 0, 1, 2, 3, 4, 5, 6, 7, 8, 9, 10, 11, 12, 13, 14, 15], [15, 16])])
def spec_l71Bent.B11 : List Nat := [0, 1, 0, 0, 8, 28, 60, 0, 0, 280, 920, 1944, 4092, 8188, 16380, 32767, 65535, 131071]
theorem spec_l71Bent.tab11 : rtab .any (opsOf Try.f86 11) = spec_l71Bent.T11 := by kernel_rfl
theorem spec_l71Bent.bits11 : waitsOk spec_l71Bent.T11.2 spec_l71Bent.B11 = true := by kernel_rfl
set_option maxHeartbeats 8000000 in
open spec_l71Bent (T F) in
set_option maxRecDepth 100000 in
theorem spec_l71Bent.calls (k : Nat) (g : Nat) (s0_0 : List Int) (s0_1 : Int) (A1_0 : Option Addr) (c1_0 : Nat) (l1_0 : List (S35)) (A1_1 : Option Addr) (c1_1 : Nat) (l1_1 : List (S59)) (r1 : List (S35)) (r2 : List (S59)) (r3 : Int) (w0 w : World) (hI : IsS101 w0 w g s0_0 s0_1) (hB : Below w0.heap.size w0 w) (hr1_0 : ∀ W_, KeepBut w W_ g none → Kd.C k35 W_ A1_0 l1_0.length l1_0) (hc1_0 : l1_0.length ≤ c1_0) (hr1_1 : ∀ W_, KeepBut w W_ g none → Kd.C k59 W_ A1_1 l1_1.length l1_1) (hc1_1 : l1_1.length ≤ c1_1) (h : spec_l71Bent.f k s0_0 s0_1 l1_0 l1_1 = some (r1, r2, r3)) :
  Calls Try.prog 86 #[.pointer (some ⟨g, 0, none⟩), .agg #[.slice A1_0 l1_0.length c1_0, .slice A1_1 l1_1.length c1_1]] w fun e w' => ∃ v0_ v1_ : Value, e = .returned (.agg #[v0_, v1_]) ∧ Kd.R k35 35 w' w.heap.size (fun k_ => (w.heap.size ≤ k_)) v0_ r1 ∧ Kd.N k59 59 w' w.heap.size (fun k_ => (w.heap.size ≤ k_) ∧ some k_ ≠ (v0_ : Value).ownBlock) v1_ r2 ∧ IsS101 w0 w' g s0_0 r3 ∧ Below w0.heap.size w0 w' ∧ KeepBut w w' g none := by
 have hu26 := Try.underlying26
 have hu59 := Try.underlying59
 have hu57 := Try.underlying57
 have hu35 := Try.underlying35
 have HR1_0 := Aside0.mk hr1_0
 have HC1_0 := Aside0.mk hc1_0
 clear hr1_0 hc1_0
 have HR1_1 := Aside0.mk hr1_1
 have HC1_1 := Aside0.mk hc1_1
 clear hr1_1 hc1_1
 have HI0 := Aside0.mk hI
 have HK := Aside0.mk (KeepBut.refl w g none)
 have HL := Aside0.mk hB.size
 clear hI
 have HW0 := Aside0.mk hB.size
 have HB := Aside0.mk hB
 clear hB
 have H : ((some (([] : List (S35)) : List (S35))).bind fun y265 => (if y265.length + l1_0.length < 8796093022208 then ((some (y265 ++ l1_0 : List (S35))).bind fun y268 => ((spec_l2Copy.f k l1_1).bind fun t271 => ((spec_l6Rd_pick.f k s0_0 s0_1 8).bind fun bt275 => (if bt275.1 = 0 then (if 0 < (y268.length : Int) then (some ((y268.set (0 : Int).toNat (⟨8, (rd_T35 y268 0).f1⟩ : S35)), t271, bt275.2)) else (none)) else (if bt275.1 = 1 then ((spec_l6Rd_pick.f k s0_0 bt275.2 6).bind fun bt278 => (if t271.length < 1466015503701 then (some (y268, (t271 ++ [(⟨wrap64 (bt278.1 - 1), 0, (⟨0, 0, 0⟩ : S57), 0, ([] : List (S59)), ([] : List (S59))⟩ : S59)]), bt278.2)) else (none))) else (if bt275.1 = 2 then (if t271.length < 1466015503701 then (some (y268, (t271 ++ [(⟨1, (y268.length : Int), (⟨1, 0, 0⟩ : S57), 0, ([] : List (S59)), ([] : List (S59))⟩ : S59)]), bt275.2)) else (none)) else (if bt275.1 = 3 then ((some (([1, 1, 2, 3, 0, 5] : List Int) : List Int)).bind fun y286 => ((spec_l6Rd_pick.f k s0_0 bt275.2 6).bind fun bt289 => (if 0 ≤ bt289.1 then (if bt289.1 < (y286.length : Int) then ((some (([10, (-1), 4] : List Int) : List Int)).bind fun y292 => ((spec_l6Rd_pick.f k s0_0 bt289.2 3).bind fun bt295 => (if 0 ≤ bt295.1 then (if bt295.1 < (y292.length : Int) then (if t271.length < 1466015503701 then (some (y268, (t271 ++ [(⟨1, 0, (⟨rd y286 bt289.1, rd y292 bt295.1, 0⟩ : S57), 0, ([] : List (S59)), ([] : List (S59))⟩ : S59)]), bt295.2)) else (none)) else (none)) else (none)))) else (none)) else (none)))) else (if bt275.1 = 4 then (spec_l71Bent.l0 k s0_0 bt275.2 y268 t271) else (if bt275.1 = 5 then (spec_l71Bent.l1 k 0 s0_0 bt275.2 y268 t271) else (if bt275.1 = 6 then ((some (([(⟨0, 0⟩ : S35), (⟨0, 0⟩ : S35), (⟨0, 0⟩ : S35), (⟨0, 0⟩ : S35)] : List (S35)) : List (S35))).bind fun y307 => (if y268.length + y307.length < 8796093022208 then (some ((y268 ++ y307), t271, bt275.2)) else (none))) else (if t271.length < 1466015503701 then (some (y268, (t271 ++ [(⟨3, 0, (⟨0, 0, 0⟩ : S57), 3, ([] : List (S59)), ([] : List (S59))⟩ : S59)]), bt275.2)) else (none)))))))))))) else (none))) = some (r1, r2, r3) := h
 clear h
 obtain ⟨y265, hy265⟩ : ∃ y_ : List (S35), y_ = (([] : List (S35))) := ⟨_, rfl⟩
 replace H : (if y265.length + l1_0.length < 8796093022208 then ((some (y265 ++ l1_0 : List (S35))).bind fun y268 => ((spec_l2Copy.f k l1_1).bind fun t271 => ((spec_l6Rd_pick.f k s0_0 s0_1 8).bind fun bt275 => (if bt275.1 = 0 then (if 0 < (y268.length : Int) then (some ((y268.set (0 : Int).toNat (⟨8, (rd_T35 y268 0).f1⟩ : S35)), t271, bt275.2)) else (none)) else (if bt275.1 = 1 then ((spec_l6Rd_pick.f k s0_0 bt275.2 6).bind fun bt278 => (if t271.length < 1466015503701 then (some (y268, (t271 ++ [(⟨wrap64 (bt278.1 - 1), 0, (⟨0, 0, 0⟩ : S57), 0, ([] : List (S59)), ([] : List (S59))⟩ : S59)]), bt278.2)) else (none))) else (if bt275.1 = 2 then (if t271.length < 1466015503701 then (some (y268, (t271 ++ [(⟨1, (y268.length : Int), (⟨1, 0, 0⟩ : S57), 0, ([] : List (S59)), ([] : List (S59))⟩ : S59)]), bt275.2)) else (none)) else (if bt275.1 = 3 then ((some (([1, 1, 2, 3, 0, 5] : List Int) : List Int)).bind fun y286 => ((spec_l6Rd_pick.f k s0_0 bt275.2 6).bind fun bt289 => (if 0 ≤ bt289.1 then (if bt289.1 < (y286.length : Int) then ((some (([10, (-1), 4] : List Int) : List Int)).bind fun y292 => ((spec_l6Rd_pick.f k s0_0 bt289.2 3).bind fun bt295 => (if 0 ≤ bt295.1 then (if bt295.1 < (y292.length : Int) then (if t271.length < 1466015503701 then (some (y268, (t271 ++ [(⟨1, 0, (⟨rd y286 bt289.1, rd y292 bt295.1, 0⟩ : S57), 0, ([] : List (S59)), ([] : List (S59))⟩ : S59)]), bt295.2)) else (none)) else (none)) else (none)))) else (none)) else (none)))) else (if bt275.1 = 4 then (spec_l71Bent.l0 k s0_0 bt275.2 y268 t271) else (if bt275.1 = 5 then (spec_l71Bent.l1 k 0 s0_0 bt275.2 y268 t271) else (if bt275.1 = 6 then ((some (([(⟨0, 0⟩ : S35), (⟨0, 0⟩ : S35), (⟨0, 0⟩ : S35), (⟨0, 0⟩ : S35)] : List (S35)) : List (S35))).bind fun y307 => (if y268.length + y307.length < 8796093022208 then (some ((y268 ++ y307), t271, bt275.2)) else (none))) else (if t271.length < 1466015503701 then (some (y268, (t271 ++ [(⟨3, 0, (⟨0, 0, 0⟩ : S57), 3, ([] : List (S59)), ([] : List (S59))⟩ : S59)]), bt275.2)) else (none)))))))))))) else (none)) = some (r1, r2, r3) := by first | (rw [hy265]; with_reducible exact H) | (have H2_ := (Option.bind_some _ _).symm.trans H; rw [hy265]; with_reducible exact H2_) | (have H2_ := (Option.bind_some _ _).symm.trans H; with_reducible exact H2_) | with_reducible exact H | (rw [hy265]; exact H) | exact H
 have Ny265 := Aside0.mk hy265
 clear hy265
 by_cases c3 : y265.length + l1_0.length < 8796093022208
 focus
  rw [if_pos c3] at H
  have LMc3 := Aside0.mk c3
  clear c3
  obtain ⟨y268, hy268⟩ : ∃ y_ : List (S35), y_ = (y265 ++ l1_0) := ⟨_, rfl⟩
  replace H : ((spec_l2Copy.f k l1_1).bind fun t271 => ((spec_l6Rd_pick.f k s0_0 s0_1 8).bind fun bt275 => (if bt275.1 = 0 then (if 0 < (y268.length : Int) then (some ((y268.set (0 : Int).toNat (⟨8, (rd_T35 y268 0).f1⟩ : S35)), t271, bt275.2)) else (none)) else (if bt275.1 = 1 then ((spec_l6Rd_pick.f k s0_0 bt275.2 6).bind fun bt278 => (if t271.length < 1466015503701 then (some (y268, (t271 ++ [(⟨wrap64 (bt278.1 - 1), 0, (⟨0, 0, 0⟩ : S57), 0, ([] : List (S59)), ([] : List (S59))⟩ : S59)]), bt278.2)) else (none))) else (if bt275.1 = 2 then (if t271.length < 1466015503701 then (some (y268, (t271 ++ [(⟨1, (y268.length : Int), (⟨1, 0, 0⟩ : S57), 0, ([] : List (S59)), ([] : List (S59))⟩ : S59)]), bt275.2)) else (none)) else (if bt275.1 = 3 then ((some (([1, 1, 2, 3, 0, 5] : List Int) : List Int)).bind fun y286 => ((spec_l6Rd_pick.f k s0_0 bt275.2 6).bind fun bt289 => (if 0 ≤ bt289.1 then (if bt289.1 < (y286.length : Int) then ((some (([10, (-1), 4] : List Int) : List Int)).bind fun y292 => ((spec_l6Rd_pick.f k s0_0 bt289.2 3).bind fun bt295 => (if 0 ≤ bt295.1 then (if bt295.1 < (y292.length : Int) then (if t271.length < 1466015503701 then (some (y268, (t271 ++ [(⟨1, 0, (⟨rd y286 bt289.1, rd y292 bt295.1, 0⟩ : S57), 0, ([] : List (S59)), ([] : List (S59))⟩ : S59)]), bt295.2)) else (none)) else (none)) else (none)))) else (none)) else (none)))) else (if bt275.1 = 4 then (spec_l71Bent.l0 k s0_0 bt275.2 y268 t271) else (if bt275.1 = 5 then (spec_l71Bent.l1 k 0 s0_0 bt275.2 y268 t271) else (if bt275.1 = 6 then ((some (([(⟨0, 0⟩ : S35), (⟨0, 0⟩ : S35), (⟨0, 0⟩ : S35), (⟨0, 0⟩ : S35)] : List (S35)) : List (S35))).bind fun y307 => (if y268.length + y307.length < 8796093022208 then (some ((y268 ++ y307), t271, bt275.2)) else (none))) else (if t271.length < 1466015503701 then (some (y268, (t271 ++ [(⟨3, 0, (⟨0, 0, 0⟩ : S57), 3, ([] : List (S59)), ([] : List (S59))⟩ : S59)]), bt275.2)) else (none))))))))))) = some (r1, r2, r3) := by first | (rw [hy268]; with_reducible exact H) | (have H2_ := (Option.bind_some _ _).symm.trans H; rw [hy268]; with_reducible exact H2_) | (have H2_ := (Option.bind_some _ _).symm.trans H; with_reducible exact H2_) | with_reducible exact H | (rw [hy268]; exact H) | exact H
  have Ny268 := Aside0.mk hy268
  clear hy268
  replace H := Option.bind_eq_some_iff.mp H
  obtain ⟨t271, A40, H⟩ := H
  replace H : ((spec_l6Rd_pick.f k s0_0 s0_1 8).bind fun bt275 => (if bt275.1 = 0 then (if 0 < (y268.length : Int) then (some ((y268.set (0 : Int).toNat (⟨8, (rd_T35 y268 0).f1⟩ : S35)), t271, bt275.2)) else (none)) else (if bt275.1 = 1 then ((spec_l6Rd_pick.f k s0_0 bt275.2 6).bind fun bt278 => (if t271.length < 1466015503701 then (some (y268, (t271 ++ [(⟨wrap64 (bt278.1 - 1), 0, (⟨0, 0, 0⟩ : S57), 0, ([] : List (S59)), ([] : List (S59))⟩ : S59)]), bt278.2)) else (none))) else (if bt275.1 = 2 then (if t271.length < 1466015503701 then (some (y268, (t271 ++ [(⟨1, (y268.length : Int), (⟨1, 0, 0⟩ : S57), 0, ([] : List (S59)), ([] : List (S59))⟩ : S59)]), bt275.2)) else (none)) else (if bt275.1 = 3 then ((some (([1, 1, 2, 3, 0, 5] : List Int) : List Int)).bind fun y286 => ((spec_l6Rd_pick.f k s0_0 bt275.2 6).bind fun bt289 => (if 0 ≤ bt289.1 then (if bt289.1 < (y286.length : Int) then ((some (([10, (-1), 4] : List Int) : List Int)).bind fun y292 => ((spec_l6Rd_pick.f k s0_0 bt289.2 3).bind fun bt295 => (if 0 ≤ bt295.1 then (if bt295.1 < (y292.length : Int) then (if t271.length < 1466015503701 then (some (y268, (t271 ++ [(⟨1, 0, (⟨rd y286 bt289.1, rd y292 bt295.1, 0⟩ : S57), 0, ([] : List (S59)), ([] : List (S59))⟩ : S59)]), bt295.2)) else (none)) else (none)) else (none)))) else (none)) else (none)))) else (if bt275.1 = 4 then (spec_l71Bent.l0 k s0_0 bt275.2 y268 t271) else (if bt275.1 = 5 then (spec_l71Bent.l1 k 0 s0_0 bt275.2 y268 t271) else (if bt275.1 = 6 then ((some (([(⟨0, 0⟩ : S35), (⟨0, 0⟩ : S35), (⟨0, 0⟩ : S35), (⟨0, 0⟩ : S35)] : List (S35)) : List (S35))).bind fun y307 => (if y268.length + y307.length < 8796093022208 then (some ((y268 ++ y307), t271, bt275.2)) else (none))) else (if t271.length < 1466015503701 then (some (y268, (t271 ++ [(⟨3, 0, (⟨0, 0, 0⟩ : S57), 3, ([] : List (S59)), ([] : List (S59))⟩ : S59)]), bt275.2)) else (none)))))))))) = some (r1, r2, r3) := H
  have A4 := Aside0.mk A40
  clear A40
  replace H := Option.bind_eq_some_iff.mp H
  obtain ⟨⟨t275, t276⟩, A50, H⟩ := H
  replace H : (if t275 = 0 then (if 0 < (y268.length : Int) then (some ((y268.set (0 : Int).toNat (⟨8, (rd_T35 y268 0).f1⟩ : S35)), t271, t276)) else (none)) else (if t275 = 1 then ((spec_l6Rd_pick.f k s0_0 t276 6).bind fun bt278 => (if t271.length < 1466015503701 then (some (y268, (t271 ++ [(⟨wrap64 (bt278.1 - 1), 0, (⟨0, 0, 0⟩ : S57), 0, ([] : List (S59)), ([] : List (S59))⟩ : S59)]), bt278.2)) else (none))) else (if t275 = 2 then (if t271.length < 1466015503701 then (some (y268, (t271 ++ [(⟨1, (y268.length : Int), (⟨1, 0, 0⟩ : S57), 0, ([] : List (S59)), ([] : List (S59))⟩ : S59)]), t276)) else (none)) else (if t275 = 3 then ((some (([1, 1, 2, 3, 0, 5] : List Int) : List Int)).bind fun y286 => ((spec_l6Rd_pick.f k s0_0 t276 6).bind fun bt289 => (if 0 ≤ bt289.1 then (if bt289.1 < (y286.length : Int) then ((some (([10, (-1), 4] : List Int) : List Int)).bind fun y292 => ((spec_l6Rd_pick.f k s0_0 bt289.2 3).bind fun bt295 => (if 0 ≤ bt295.1 then (if bt295.1 < (y292.length : Int) then (if t271.length < 1466015503701 then (some (y268, (t271 ++ [(⟨1, 0, (⟨rd y286 bt289.1, rd y292 bt295.1, 0⟩ : S57), 0, ([] : List (S59)), ([] : List (S59))⟩ : S59)]), bt295.2)) else (none)) else (none)) else (none)))) else (none)) else (none)))) else (if t275 = 4 then (spec_l71Bent.l0 k s0_0 t276 y268 t271) else (if t275 = 5 then (spec_l71Bent.l1 k 0 s0_0 t276 y268 t271) else (if t275 = 6 then ((some (([(⟨0, 0⟩ : S35), (⟨0, 0⟩ : S35), (⟨0, 0⟩ : S35), (⟨0, 0⟩ : S35)] : List (S35)) : List (S35))).bind fun y307 => (if y268.length + y307.length < 8796093022208 then (some ((y268 ++ y307), t271, t276)) else (none))) else (if t271.length < 1466015503701 then (some (y268, (t271 ++ [(⟨3, 0, (⟨0, 0, 0⟩ : S57), 3, ([] : List (S59)), ([] : List (S59))⟩ : S59)]), t276)) else (none))))))))) = some (r1, r2, r3) := H
  have A5 := Aside0.mk A50
  clear A50
  by_cases c6 : t275 = 0
  focus
   rw [if_pos c6] at H
   have c6b0 : (t275 == 0) = true := beq_iff_eq.mpr c6
   have c6b1 : (t275 != 0) = false := bne_eq_false_iff_eq.mpr c6
   clear c6
   by_cases c7 : 0 < (y268.length : Int)
   focus
    rw [if_pos c7] at H
    have c7b0 : decide (0 < (y268.length : Int)) = true := decide_eq_true c7
    have c7b1 : decide (0 < y268.length) = true := decide_eq_true (by omega)
    clear c7
    obtain ⟨y277, hy277⟩ : ∃ y_ : List (S35), y_ = (y268.set (0 : Int).toNat (⟨8, (rd_T35 y268 0).f1⟩ : S35)) := ⟨_, rfl⟩
    replace H : (some (y277, t271, t276)) = some (r1, r2, r3) := by first | (rw [hy277]; with_reducible exact H) | (have H2_ := (Option.bind_some _ _).symm.trans H; rw [hy277]; with_reducible exact H2_) | (have H2_ := (Option.bind_some _ _).symm.trans H; with_reducible exact H2_) | with_reducible exact H | (rw [hy277]; exact H) | exact H
    have Ny277 := Aside0.mk hy277
    clear hy277
    simp only [Option.some.injEq, Prod.mk.injEq] at H
    obtain ⟨rfl, rfl, rfl⟩ := H
    have tag0_ : Aside0 True := ⟨trivial⟩
   rotate_left
   focus
    rw [if_neg c7] at H
    exact absurd H (by simp)
  rotate_left
  focus
   rw [if_neg c6] at H
   have c6b0 : (t275 == 0) = false := beq_eq_false_iff_ne.mpr c6
   have c6b1 : (t275 != 0) = true := bne_iff_ne.mpr c6
   by_cases c35 : t275 = 1
   focus
    rw [if_pos c35] at H
    have c35b0 : (t275 == 1) = true := beq_iff_eq.mpr c35
    have c35b1 : (t275 != 1) = false := bne_eq_false_iff_eq.mpr c35
    clear c35
    replace H := Option.bind_eq_some_iff.mp H
    obtain ⟨⟨t278, t279⟩, A360, H⟩ := H
    replace H : (if t271.length < 1466015503701 then (some (y268, (t271 ++ [(⟨wrap64 (t278 - 1), 0, (⟨0, 0, 0⟩ : S57), 0, ([] : List (S59)), ([] : List (S59))⟩ : S59)]), t279)) else (none)) = some (r1, r2, r3) := H
    have A36 := Aside0.mk A360
    clear A360
    by_cases c37 : t271.length < 1466015503701
    focus
     rw [if_pos c37] at H
     have LMc37 := Aside0.mk c37
     clear c37
     obtain ⟨y280, hy280⟩ : ∃ y_ : List (S59), y_ = (t271 ++ [(⟨wrap64 (t278 - 1), 0, (⟨0, 0, 0⟩ : S57), 0, ([] : List (S59)), ([] : List (S59))⟩ : S59)]) := ⟨_, rfl⟩
     replace H : (some (y268, y280, t279)) = some (r1, r2, r3) := by first | (rw [hy280]; with_reducible exact H) | (have H2_ := (Option.bind_some _ _).symm.trans H; rw [hy280]; with_reducible exact H2_) | (have H2_ := (Option.bind_some _ _).symm.trans H; with_reducible exact H2_) | with_reducible exact H | (rw [hy280]; exact H) | exact H
     have Ny280 := Aside0.mk hy280
     clear hy280
     simp only [Option.some.injEq, Prod.mk.injEq] at H
     obtain ⟨rfl, rfl, rfl⟩ := H
     have tag1_ : Aside0 True := ⟨trivial⟩
    rotate_left
    focus
     rw [if_neg c37] at H
     exact absurd H (by simp)
   rotate_left
   focus
    rw [if_neg c35] at H
    have c35b0 : (t275 == 1) = false := beq_eq_false_iff_ne.mpr c35
    have c35b1 : (t275 != 1) = true := bne_iff_ne.mpr c35
    by_cases c66 : t275 = 2
    focus
     rw [if_pos c66] at H
     have c66b0 : (t275 == 2) = true := beq_iff_eq.mpr c66
     have c66b1 : (t275 != 2) = false := bne_eq_false_iff_eq.mpr c66
     clear c66
     by_cases c67 : t271.length < 1466015503701
     focus
      rw [if_pos c67] at H
      have LMc67 := Aside0.mk c67
      clear c67
      obtain ⟨y283, hy283⟩ : ∃ y_ : List (S59), y_ = (t271 ++ [(⟨1, (y268.length : Int), (⟨1, 0, 0⟩ : S57), 0, ([] : List (S59)), ([] : List (S59))⟩ : S59)]) := ⟨_, rfl⟩
      replace H : (some (y268, y283, t276)) = some (r1, r2, r3) := by first | (rw [hy283]; with_reducible exact H) | (have H2_ := (Option.bind_some _ _).symm.trans H; rw [hy283]; with_reducible exact H2_) | (have H2_ := (Option.bind_some _ _).symm.trans H; with_reducible exact H2_) | with_reducible exact H | (rw [hy283]; exact H) | exact H
      have Ny283 := Aside0.mk hy283
      clear hy283
      simp only [Option.some.injEq, Prod.mk.injEq] at H
      obtain ⟨rfl, rfl, rfl⟩ := H
      have tag2_ : Aside0 True := ⟨trivial⟩
     rotate_left
     focus
      rw [if_neg c67] at H
      exact absurd H (by simp)
    rotate_left
    focus
     rw [if_neg c66] at H
     have c66b0 : (t275 == 2) = false := beq_eq_false_iff_ne.mpr c66
     have c66b1 : (t275 != 2) = true := bne_iff_ne.mpr c66
     by_cases c94 : t275 = 3
     focus
      rw [if_pos c94] at H
      have c94b0 : (t275 == 3) = true := beq_iff_eq.mpr c94
      have c94b1 : (t275 != 3) = false := bne_eq_false_iff_eq.mpr c94
      clear c94
      obtain ⟨y286, hy286⟩ : ∃ y_ : List Int, y_ = (([1, 1, 2, 3, 0, 5] : List Int)) := ⟨_, rfl⟩
      replace H : ((spec_l6Rd_pick.f k s0_0 t276 6).bind fun bt289 => (if 0 ≤ bt289.1 then (if bt289.1 < (y286.length : Int) then ((some (([10, (-1), 4] : List Int) : List Int)).bind fun y292 => ((spec_l6Rd_pick.f k s0_0 bt289.2 3).bind fun bt295 => (if 0 ≤ bt295.1 then (if bt295.1 < (y292.length : Int) then (if t271.length < 1466015503701 then (some (y268, (t271 ++ [(⟨1, 0, (⟨rd y286 bt289.1, rd y292 bt295.1, 0⟩ : S57), 0, ([] : List (S59)), ([] : List (S59))⟩ : S59)]), bt295.2)) else (none)) else (none)) else (none)))) else (none)) else (none))) = some (r1, r2, r3) := by first | (rw [hy286]; with_reducible exact H) | (have H2_ := (Option.bind_some _ _).symm.trans H; rw [hy286]; with_reducible exact H2_) | (have H2_ := (Option.bind_some _ _).symm.trans H; with_reducible exact H2_) | with_reducible exact H | (rw [hy286]; exact H) | exact H
      have Ny286 := Aside0.mk hy286
      clear hy286
      replace H := Option.bind_eq_some_iff.mp H
      obtain ⟨⟨t289, t290⟩, A950, H⟩ := H
      replace H : (if 0 ≤ t289 then (if t289 < (y286.length : Int) then ((some (([10, (-1), 4] : List Int) : List Int)).bind fun y292 => ((spec_l6Rd_pick.f k s0_0 t290 3).bind fun bt295 => (if 0 ≤ bt295.1 then (if bt295.1 < (y292.length : Int) then (if t271.length < 1466015503701 then (some (y268, (t271 ++ [(⟨1, 0, (⟨rd y286 t289, rd y292 bt295.1, 0⟩ : S57), 0, ([] : List (S59)), ([] : List (S59))⟩ : S59)]), bt295.2)) else (none)) else (none)) else (none)))) else (none)) else (none)) = some (r1, r2, r3) := H
      have A95 := Aside0.mk A950
      clear A950
      by_cases c96 : 0 ≤ t289
      focus
       rw [if_pos c96] at H
       have c96b0 : decide (0 ≤ t289) = true := decide_eq_true c96
       clear c96
       by_cases c97 : t289 < (y286.length : Int)
       focus
        rw [if_pos c97] at H
        have c97b0 : decide (t289 < (y286.length : Int)) = true := decide_eq_true c97
        clear c97
        obtain ⟨y292, hy292⟩ : ∃ y_ : List Int, y_ = (([10, (-1), 4] : List Int)) := ⟨_, rfl⟩
        replace H : ((spec_l6Rd_pick.f k s0_0 t290 3).bind fun bt295 => (if 0 ≤ bt295.1 then (if bt295.1 < (y292.length : Int) then (if t271.length < 1466015503701 then (some (y268, (t271 ++ [(⟨1, 0, (⟨rd y286 t289, rd y292 bt295.1, 0⟩ : S57), 0, ([] : List (S59)), ([] : List (S59))⟩ : S59)]), bt295.2)) else (none)) else (none)) else (none))) = some (r1, r2, r3) := by first | (rw [hy292]; with_reducible exact H) | (have H2_ := (Option.bind_some _ _).symm.trans H; rw [hy292]; with_reducible exact H2_) | (have H2_ := (Option.bind_some _ _).symm.trans H; with_reducible exact H2_) | with_reducible exact H | (rw [hy292]; exact H) | exact H
        have Ny292 := Aside0.mk hy292
        clear hy292
        replace H := Option.bind_eq_some_iff.mp H
        obtain ⟨⟨t295, t296⟩, A980, H⟩ := H
        replace H : (if 0 ≤ t295 then (if t295 < (y292.length : Int) then (if t271.length < 1466015503701 then (some (y268, (t271 ++ [(⟨1, 0, (⟨rd y286 t289, rd y292 t295, 0⟩ : S57), 0, ([] : List (S59)), ([] : List (S59))⟩ : S59)]), t296)) else (none)) else (none)) else (none)) = some (r1, r2, r3) := H
        have A98 := Aside0.mk A980
        clear A980
        by_cases c99 : 0 ≤ t295
        focus
         rw [if_pos c99] at H
         have c99b0 : decide (0 ≤ t295) = true := decide_eq_true c99
         clear c99
         by_cases c100 : t295 < (y292.length : Int)
         focus
          rw [if_pos c100] at H
          have c100b0 : decide (t295 < (y292.length : Int)) = true := decide_eq_true c100
          clear c100
          by_cases c101 : t271.length < 1466015503701
          focus
           rw [if_pos c101] at H
           have LMc101 := Aside0.mk c101
           clear c101
           obtain ⟨y298, hy298⟩ : ∃ y_ : List (S59), y_ = (t271 ++ [(⟨1, 0, (⟨rd y286 t289, rd y292 t295, 0⟩ : S57), 0, ([] : List (S59)), ([] : List (S59))⟩ : S59)]) := ⟨_, rfl⟩
           replace H : (some (y268, y298, t296)) = some (r1, r2, r3) := by first | (rw [hy298]; with_reducible exact H) | (have H2_ := (Option.bind_some _ _).symm.trans H; rw [hy298]; with_reducible exact H2_) | (have H2_ := (Option.bind_some _ _).symm.trans H; with_reducible exact H2_) | with_reducible exact H | (rw [hy298]; exact H) | exact H
           have Ny298 := Aside0.mk hy298
           clear hy298
           simp only [Option.some.injEq, Prod.mk.injEq] at H
           obtain ⟨rfl, rfl, rfl⟩ := H
           have tag3_ : Aside0 True := ⟨trivial⟩
          rotate_left
          focus
           rw [if_neg c101] at H
           exact absurd H (by simp)
         rotate_left
         focus
          rw [if_neg c100] at H
          exact absurd H (by simp)
        rotate_left
        focus
         rw [if_neg c99] at H
         exact absurd H (by simp)
       rotate_left
       focus
        rw [if_neg c97] at H
        exact absurd H (by simp)
      rotate_left
      focus
       rw [if_neg c96] at H
       exact absurd H (by simp)
     rotate_left
     focus
      rw [if_neg c94] at H
      have c94b0 : (t275 == 3) = false := beq_eq_false_iff_ne.mpr c94
      have c94b1 : (t275 != 3) = true := bne_iff_ne.mpr c94
      by_cases c140 : t275 = 4
      focus
       rw [if_pos c140] at H
       have c140b0 : (t275 == 4) = true := beq_iff_eq.mpr c140
       have c140b1 : (t275 != 4) = false := bne_eq_false_iff_eq.mpr c140
       clear c140
       have H' := Aside0.mk H
       clear H
       have tag4_ : Aside0 True := ⟨trivial⟩
      rotate_left
      focus
       rw [if_neg c140] at H
       have c140b0 : (t275 == 4) = false := beq_eq_false_iff_ne.mpr c140
       have c140b1 : (t275 != 4) = true := bne_iff_ne.mpr c140
       by_cases c175 : t275 = 5
       focus
        rw [if_pos c175] at H
        have c175b0 : (t275 == 5) = true := beq_iff_eq.mpr c175
        have c175b1 : (t275 != 5) = false := bne_eq_false_iff_eq.mpr c175
        clear c175
        have H' := Aside0.mk H
        clear H
        have tag5_ : Aside0 True := ⟨trivial⟩
       rotate_left
       focus
        rw [if_neg c175] at H
        have c175b0 : (t275 == 5) = false := beq_eq_false_iff_ne.mpr c175
        have c175b1 : (t275 != 5) = true := bne_iff_ne.mpr c175
        by_cases c210 : t275 = 6
        focus
         rw [if_pos c210] at H
         have c210b0 : (t275 == 6) = true := beq_iff_eq.mpr c210
         have c210b1 : (t275 != 6) = false := bne_eq_false_iff_eq.mpr c210
         clear c210
         obtain ⟨y307, hy307⟩ : ∃ y_ : List (S35), y_ = (([(⟨0, 0⟩ : S35), (⟨0, 0⟩ : S35), (⟨0, 0⟩ : S35), (⟨0, 0⟩ : S35)] : List (S35))) := ⟨_, rfl⟩
         replace H : (if y268.length + y307.length < 8796093022208 then (some ((y268 ++ y307), t271, t276)) else (none)) = some (r1, r2, r3) := by first | (rw [hy307]; with_reducible exact H) | (have H2_ := (Option.bind_some _ _).symm.trans H; rw [hy307]; with_reducible exact H2_) | (have H2_ := (Option.bind_some _ _).symm.trans H; with_reducible exact H2_) | with_reducible exact H | (rw [hy307]; exact H) | exact H
         have Ny307 := Aside0.mk hy307
         clear hy307
         by_cases c211 : y268.length + y307.length < 8796093022208
         focus
          rw [if_pos c211] at H
          have LMc211 := Aside0.mk c211
          clear c211
          obtain ⟨y310, hy310⟩ : ∃ y_ : List (S35), y_ = (y268 ++ y307) := ⟨_, rfl⟩
          replace H : (some (y310, t271, t276)) = some (r1, r2, r3) := by first | (rw [hy310]; with_reducible exact H) | (have H2_ := (Option.bind_some _ _).symm.trans H; rw [hy310]; with_reducible exact H2_) | (have H2_ := (Option.bind_some _ _).symm.trans H; with_reducible exact H2_) | with_reducible exact H | (rw [hy310]; exact H) | exact H
          have Ny310 := Aside0.mk hy310
          clear hy310
          simp only [Option.some.injEq, Prod.mk.injEq] at H
          obtain ⟨rfl, rfl, rfl⟩ := H
          have tag6_ : Aside0 True := ⟨trivial⟩
         rotate_left
         focus
          rw [if_neg c211] at H
          exact absurd H (by simp)
        rotate_left
        focus
         rw [if_neg c210] at H
         have c210b0 : (t275 == 6) = false := beq_eq_false_iff_ne.mpr c210
         have c210b1 : (t275 != 6) = true := bne_iff_ne.mpr c210
         by_cases c241 : t271.length < 1466015503701
         focus
          rw [if_pos c241] at H
          have LMc241 := Aside0.mk c241
          clear c241
          obtain ⟨y313, hy313⟩ : ∃ y_ : List (S59), y_ = (t271 ++ [(⟨3, 0, (⟨0, 0, 0⟩ : S57), 3, ([] : List (S59)), ([] : List (S59))⟩ : S59)]) := ⟨_, rfl⟩
          replace H : (some (y268, y313, t276)) = some (r1, r2, r3) := by first | (rw [hy313]; with_reducible exact H) | (have H2_ := (Option.bind_some _ _).symm.trans H; rw [hy313]; with_reducible exact H2_) | (have H2_ := (Option.bind_some _ _).symm.trans H; with_reducible exact H2_) | with_reducible exact H | (rw [hy313]; exact H) | exact H
          have Ny313 := Aside0.mk hy313
          clear hy313
          simp only [Option.some.injEq, Prod.mk.injEq] at H
          obtain ⟨rfl, rfl, rfl⟩ := H
          have tag7_ : Aside0 True := ⟨trivial⟩
         rotate_left
         focus
          rw [if_neg c241] at H
          exact absurd H (by simp)
        rotate_left
       rotate_left 2
      rotate_left 3
     rotate_left 4
    rotate_left 5
   rotate_left 6
  rotate_left 7
 rotate_left 8
 focus
  rw [if_neg c3] at H
  exact absurd H (by simp)
 all_goals
  go_enter Try.func86, Try.ntmps86
  try go_wp2_with (first | ((with_reducible refine gate_dst (N := 3) rfl ?_); refine ZX (N := 3) (cs := #[.slice A1_0 l1_0.length c1_0, .slice A1_1 l1_1.length c1_1]) (t := 26) ?_; intro gbq0 hg wq0 hbox hb; have BKq0 := Aside0.mk (hbox); have GWq0 := Aside0.mk ((by rw [hg]; exact (keep_size (w := w) (g := g) (row := none) (ZJ)) : w.heap.size ≤ gbq0)); have GEq0 := Aside0.mk ((Nat.le_trans HW0.out (by rw [hg]; exact (keep_size (w := w) (g := g) (row := none) (ZJ)) : w.heap.size ≤ gbq0) : w0.heap.size ≤ gbq0)); have NBq0_263 := Aside0.mk ((by rw [hg]; exact Nat.ne_of_lt (IsS101.lt (show IsS101 w0 _ g s0_0 s0_1 from ZI)) : g ≠ gbq0)); have NBq1_0 := Aside0.mk ((by rw [hg]; exact Nat.ne_of_gt (IsS101.lt (show IsS101 w0 _ g s0_0 s0_1 from ZI)) : gbq0 ≠ g)); replace HK := ZKT HK (KeepBut.of_below hb g none); replace HB := ZTI HB hb; replace HI0 := Aside0.mk (IsS101.below (ZI) hb); clear hb hbox hg) | ((with_reducible refine gate_dst (N := 4) rfl ?_); refine ZX (N := 4) (cs := #[.slice none 0 0, .slice none 0 0]) (t := 26) ?_; intro gbq1 hg wq1 hbox hb; have BKq1 := Aside0.mk (hbox); have GWq1 := Aside0.mk ((by rw [hg]; exact (keep_size (w := w) (g := g) (row := none) (ZJ)) : w.heap.size ≤ gbq1)); have GEq1 := Aside0.mk ((Nat.le_trans HW0.out (by rw [hg]; exact (keep_size (w := w) (g := g) (row := none) (ZJ)) : w.heap.size ≤ gbq1) : w0.heap.size ≤ gbq1)); have NBq1_264 : Aside0 (gbq0 ≠ gbq1) := ZN hg BKq0; have NBq2_263 : Aside0 (gbq1 ≠ gbq0) := ZM hg BKq0; have NBq0_264 := Aside0.mk ((by rw [hg]; exact Nat.ne_of_lt (IsS101.lt (show IsS101 w0 _ g s0_0 s0_1 from ZI)) : g ≠ gbq1)); have NBq2_0 := Aside0.mk ((by rw [hg]; exact Nat.ne_of_gt (IsS101.lt (show IsS101 w0 _ g s0_0 s0_1 from ZI)) : gbq1 ≠ g)); replace BKq0 := ZW BKq0 hb; replace HK := ZKT HK (KeepBut.of_below hb g none); replace HB := ZTI HB hb; replace HI0 := Aside0.mk (IsS101.below (ZI) hb); clear hb hbox hg))
  have nq0_ := Aside0.mk (blk_drew BKq0.out)
  have nq1_ := Aside0.mk (blk_drew BKq1.out)
  have nq2_ := Aside0.mk (IsS101.drew HI0.out)
  have nq3_ := Aside0.mk (keep_drew HK.out)
  have nq4_ := Aside0.mk (below_drew1 HB.out)
  clear BKq0
  clear BKq1
  clear HI0
  clear HK
  clear HB
  have BKq0 := nq0_
  have BKq1 := nq1_
  have HI0 := nq2_
  have HK := nq3_
  have HB := nq4_
  clear nq0_ nq1_ nq2_ nq3_ nq4_
  refine start_ (n := 10) (S := fun w' => w'.cell? ⟨gbq0, 0, none⟩ = some (.slice A1_0 l1_0.length c1_0) ∧ w'.cell? ⟨gbq0, 1, none⟩ = some (.slice A1_1 l1_1.length c1_1)) (ds := []) #[F,F,F,F,F,F,F,F,F,F] (by kernel_rfl) rfl rfl ⟨(blk_cell BKq0.out 0).trans rfl, (blk_cell BKq0.out 1).trans rfl⟩ (fun hHeld => ?_); refine with_tabW spec_l71Bent.tab1 spec_l71Bent.bits1 (fun HT_ HW_ => ?_)
  generalize wq1.drew = wq2 at BKq0 BKq1 HI0 HK HB hHeld ⊢
  refine pure_ (i := 1) (N := some 8) (v := ?_) (a' := ?_) #[F,T,F,F,F,F,F,F,F,F] rfl rfl (any_of HT_.out (by kernel_rfl)) (fun _ _ _ h => h) (Or.inl ⟨by rfl, ?_⟩) ?_ ?_
  rotate_left
  ·intro w'
   go_simp
   with_reducible rfl
  rotate_left
  ·simp only [Act.put, List.setIfInBounds_toArray, List.set_cons_zero, List.set_cons_succ, i64_w, i32_w]; rfl
  refine pure_ (i := 4) (N := some 11) (v := ?_) (a' := ?_) #[F,T,F,F,T,F,F,F,F,F] rfl rfl (any_of HT_.out (by kernel_rfl)) (fun _ _ _ h => h) (Or.inl ⟨by rfl, ?_⟩) ?_ ?_
  rotate_left
  ·intro w'
   go_simp
   with_reducible rfl
  rotate_left
  ·simp only [Act.put, List.setIfInBounds_toArray, List.set_cons_zero, List.set_cons_succ, i64_w, i32_w]; rfl
  refine take_ (i := 2) (N := some 9) (v := ?_) (a' := ?_) #[F,T,T,F,T,F,F,F,F,F] rfl rfl (take_ofW HT_.out HW_.out (by kernel_rfl)) (fun _ _ _ h => h) (Or.inl ⟨by rfl, ?_⟩) hHeld ?_ ?_
  rotate_left
  ·rintro w' ⟨sq0, sq1⟩
   go_simp
   with_reducible rfl
  rotate_left
  ·simp only [Act.put, List.setIfInBounds_toArray, List.set_cons_zero, List.set_cons_succ, i64_w, i32_w]; rfl
  refine take_ (i := 5) (N := some 12) (v := ?_) (a' := ?_) #[F,T,T,F,T,T,F,F,F,F] rfl rfl (take_ofW HT_.out HW_.out (by kernel_rfl)) (fun _ _ _ h => h) (Or.inl ⟨by rfl, ?_⟩) hHeld ?_ ?_
  rotate_left
  ·rintro w' ⟨sq0, sq1⟩
   go_simp
   with_reducible rfl
  rotate_left
  ·simp only [Act.put, List.setIfInBounds_toArray, List.set_cons_zero, List.set_cons_succ, i64_w, i32_w]; rfl
  refine join_ (σ := Value × Value × Value × Nat) 1 #[T,T,T,T,T,T,T,T,T,F] (fun s_ => [(7, s_.1), (10, s_.2.1), (13, s_.2.2.1), (5, .pointer (some ⟨s_.2.2.2, 0, none⟩)), (14, .agg #[s_.2.1, s_.2.2.1])]) (fun s_ w' => (w'.cell? ⟨gbq0, 0, none⟩ = some (.slice A1_0 l1_0.length c1_0) ∧ w'.cell? ⟨gbq0, 1, none⟩ = some (.slice A1_1 l1_1.length c1_1)) ∧ (Kd.R k35 35 w' w.heap.size (fun k_ => (w.heap.size ≤ k_)) s_.2.1 y268) ∧ (Kd.N k59 59 w' w.heap.size (fun k_ => (w.heap.size ≤ k_) ∧ some k_ ≠ (s_.2.1 : Value).ownBlock ∧ k_ ≠ g ∧ k_ ≠ gbq0 ∧ k_ ≠ gbq1 ∧ k_ ≠ s_.2.2.2) s_.2.2.1 t271) ∧ (w'.heap[gbq0]? = some (.cells #[.slice A1_0 l1_0.length c1_0, .slice A1_1 l1_1.length c1_1] 26 (0, 0))) ∧ (w'.heap[gbq1]? = some (.cells #[.slice none 0 0, .slice none 0 0] 26 (0, 0))) ∧ (w'.heap[s_.2.2.2]? = some (.cells #[.slice none 0 0, .slice none 0 0] 26 (0, 0))) ∧ (w.heap.size ≤ s_.2.2.2) ∧ (w0.heap.size ≤ s_.2.2.2) ∧ (g ≠ s_.2.2.2) ∧ (s_.2.2.2 ≠ g) ∧ (gbq0 ≠ s_.2.2.2) ∧ (s_.2.2.2 ≠ gbq0) ∧ (gbq1 ≠ s_.2.2.2) ∧ (s_.2.2.2 ≠ gbq1) ∧ (IsS101 w0 w' g s0_0 s0_1) ∧ (KeepBut w w' g none) ∧ (Below w0.heap.size w0 w')) ?_ ?_
  rotate_left
  ·intro hCont
   refine two_ (i := 0) (j := 8) (Ni := some 7) (Nj := some 5) #[T,T,T,F,T,T,F,F,F,F] #[F,T,T,F,T,T,F,F,T,F] rfl rfl rfl rfl (two_of HT_.out (by kernel_rfl)) (by decide) (by decide) (fun K hK => ?_) (fun K hK => ?_)
   ·skip
    refine Kd.R_lit_step k35 _ 35 ?hg (N := 7) ?hd (xs := ([] : List (S35))) (inner := []) (ok := fun _ => True) (okp := fun _ => True) ?hr ?hp (fun _ hk => hk) trivial (Below.refl _ _) (Nat.le_refl _) (by simp) ?_; (case hd => rfl); (case hg => rfl); (case hr => first | (go_simp; done) | (go_simp; rfl)); (case hp => exact (Reps.none _ _))
    intro vq0 wq3 hoq0 hb hg_ hnew_
    clear hg_ hnew_
    (first | rw [← Ny265.out] at hoq0 | (simp only [Int.reduceToNat] at hoq0; rw [← Ny265.out] at hoq0))
    have HOq0 := Aside0.mk (Kd.R_lower (Kd.R_newM (M := fun k_ => (w.heap.size ≤ k_)) hoq0 (keep_size (w := w) (g := g) (row := none) (ZJ)) (fun k_ h_ => h_)) (keep_size (w := w) (g := g) (row := none) (ZJ)))
    replace BKq0 := ZW BKq0 hb
    replace BKq1 := ZW BKq1 hb
    replace HK := ZKT HK (KeepBut.of_below hb g none)
    replace HB := ZTI HB hb
    replace HI0 := Aside0.mk (IsS101.below (ZI) hb)
    clear hb hoq0
    refine hK.out _ _ ⟨(blk_cell BKq0.out 0).trans rfl, (blk_cell BKq0.out 1).trans rfl⟩ (fun hHeld => ?_)
    clear hK K
    refine ZNO 7 ?_
    refine two_ (i := 3) (j := 8) (Ni := some 10) (Nj := some 5) #[T,T,T,T,T,T,F,F,F,F] #[T,T,T,F,T,T,F,F,T,F] rfl rfl rfl rfl (two_of HT_.out (by kernel_rfl)) (by decide) (by decide) (fun K hK => ?_) (fun K hK => ?_)
    ·skip
     refine Kd.R_append_rows_step k35 w.heap.size (by rfl) (.tmp 7) (.tmp 9) 23 35 (.agg #[(.int .i64 0), (.int .i64 0)]) 16 rfl Try.underlying23 info35 rfl (by decide) (by omega) vq0 y265 l1_0 _ _ _ (fun k_ => (w.heap.size ≤ k_)) (fun _ => False) rfl rfl ?aO ?aR (fun _ _ h => h) (fun _ h => h.elim) ?aF (Below.refl _ _) ?aS ?aL ?_
     (case aR => exact Kd.C_foot_now HR1_0.out (ZJ))
     (case aF => exact (fun k_ hk => (Nat.le_trans (keep_size (w := w) (g := g) (row := none) (ZJ)) hk)))
     (case aO => exact (ZR (Kd.R_mono HOq0.out (fun _ hk => hk.1))))
     (case aS => exact (keep_size (w := w) (g := g) (row := none) (ZJ)))
     (case aL => have := LMc3.out; omega)
     intro vq1 wq4 ho hb hg hat
     rw [← Ny268.out] at ho
     have nq0_ := Aside0.mk (IsS101.grown (ZI) hg (IsS101.own_ne HI0.out HOq0.out (by decide)))
     have nq1_ := Aside0.mk (blk_grown (g := gbq0) (o := .cells #[.slice A1_0 l1_0.length c1_0, .slice A1_1 l1_1.length c1_1] 26 (0, 0)) (ZK BKq0.out) hg (Kd.R_ne HOq0.out BKq0.out (by decide)))
     have nq2_ := Aside0.mk (blk_grown (g := gbq1) (o := .cells #[.slice none 0 0, .slice none 0 0] 26 (0, 0)) (ZK BKq1.out) hg (Kd.R_ne HOq0.out BKq1.out (by decide)))
     have nq3_ := Aside0.mk (below_weaken (ZBI) HL.out hb)
     have nq4_ := Aside0.mk (KeepBut.trans (ZJ) (KeepBut.of_grown hg g) (Kd.R_base2 HOq0.out))
     have nq5_ := Aside0.mk (ho)
     clear HI0; clear BKq0; clear BKq1; clear HB; clear HK; clear HOq0; have HI0 := nq0_; have BKq0 := nq1_; have BKq1 := nq2_; have HB := nq3_; have HK := nq4_; have HOq1 := nq5_; clear nq0_ nq1_ nq2_ nq3_ nq4_ nq5_; clear ho hb hg hat
     refine hK.out _ _ ⟨(blk_cell BKq0.out 0).trans rfl, (blk_cell BKq0.out 1).trans rfl⟩ (fun hHeld => ?_)
     clear hK K
     refine ZNO 10 ?_
     refine two_ (i := 6) (j := 8) (Ni := some 13) (Nj := some 5) #[T,T,T,T,T,T,T,F,F,F] #[T,T,T,T,T,T,F,F,T,F] rfl rfl rfl rfl (two_of HT_.out (by kernel_rfl)) (by decide) (by decide) (fun K hK => ?_) (fun K hK => ?_)
     ·skip
      refine goes_ Try.func111 (by kernel_rfl) rfl #[.slice A1_1 l1_1.length c1_1] (by rfl) rfl rfl ZG ?_
      with_reducible refine (spec_l2Copy.calls k _ _ l1_1 t271 _ ?side1 ?side2 A4.out).mono ?_
      (case side1 => exact Kd.C_foot_now HR1_1.out (ZJ))
      (case side2 => exact HC1_1.out)
      rintro e wq5 ⟨vq2, rfl, hoq1, hb⟩
      refine ⟨_, rfl, ?_⟩
      have HOq2 := Aside0.mk (Kd.N_lower (Kd.N_mono (ok' := fun k_ => (w.heap.size ≤ k_) ∧ some k_ ≠ (vq1 : Value).ownBlock ∧ k_ ≠ gbq0 ∧ k_ ≠ gbq1 ∧ k_ ≠ g) (Kd.R_N (Kd.R_bound hoq1)) (fun k_ hk_ => ⟨(Nat.le_trans (keep_size (w := w) (g := g) (row := none) (ZJ)) hk_.2.1), (Kd.fresh' (Kd.R_lt (ZR HOq1.out)) k_ hk_.2.1), (Kd.freshB (g := gbq0) (o := .cells #[.slice A1_0 l1_0.length c1_0, .slice A1_1 l1_1.length c1_1] 26 (0, 0)) (ZK BKq0.out) k_ hk_.2.1), (Kd.freshB (g := gbq1) (o := .cells #[.slice none 0 0, .slice none 0 0] 26 (0, 0)) (ZK BKq1.out) k_ hk_.2.1), (IsS101.fresh (ZI) k_ hk_.2.1)⟩)) (keep_size (w := w) (g := g) (row := none) (ZJ)))
      replace HOq1 := Aside0.mk (Kd.R_below (ZR HOq1.out) hb)
      replace BKq0 := ZW BKq0 hb
      replace BKq1 := ZW BKq1 hb
      replace HK := ZKT HK (KeepBut.of_below hb g none)
      replace HB := ZTI HB hb
      replace HI0 := Aside0.mk (IsS101.below (ZI) hb)
      (try clear hb)
      (try clear hb2)
      (try clear hk)
      (try clear hi)
      (try clear hoq1)
      obtain ⟨Aoq0, coq0, eoq0⟩ := Kd.N_slice HOq2.out
      (first | subst eoq0 | (injection eoq0 with f1_ f2_ f3_; have fq0_ := f1_.symm; have fq1_ := f3_.symm; clear f1_ f2_ f3_; subst fq0_; subst fq1_))
      obtain ⟨Aoq1, coq1, eoq1⟩ := Kd.R_slice HOq1.out
      (first | subst eoq1 | (injection eoq1 with f1_ f2_ f3_; have fq0_ := f1_.symm; have fq1_ := f3_.symm; clear f1_ f2_ f3_; subst fq0_; subst fq1_))
      refine hK.out _ _ ⟨(blk_cell BKq0.out 0).trans rfl, (blk_cell BKq0.out 1).trans rfl⟩ (fun hHeld => ?_)
      clear hK K
      refine ZNO 13 ?_
      refine ZU 7 14 #[T,T,T,T,T,T,T,T,F,F] ?_
      refine one_ (i := 8) (N := some 5) #[T,T,T,T,T,T,T,T,T,F] rfl rfl (one_of HT_.out (by kernel_rfl)) (by decide) (fun K hK => ?_)
      refine box_step ?hg (N := 5) ?hd (cs := #[.slice none 0 0, .slice none 0 0]) (t := 26) ?hr ?_; (case hd => rfl); (case hg => rfl); (case hr => first | (go_simp; done) | (go_simp; rfl))
      intro gbq2 hg wq6 hbox hb
      have BKq2 := Aside0.mk (hbox)
      have GWq2 := Aside0.mk ((by rw [hg]; exact (keep_size (w := w) (g := g) (row := none) (ZJ)) : w.heap.size ≤ gbq2))
      have GEq2 := Aside0.mk ((Nat.le_trans HW0.out (by rw [hg]; exact (keep_size (w := w) (g := g) (row := none) (ZJ)) : w.heap.size ≤ gbq2) : w0.heap.size ≤ gbq2))
      have NBq1_274 : Aside0 (gbq0 ≠ gbq2) := ZN hg BKq0
      have NBq3_263 : Aside0 (gbq2 ≠ gbq0) := ZM hg BKq0
      have NBq2_274 : Aside0 (gbq1 ≠ gbq2) := ZN hg BKq1
      have NBq3_264 : Aside0 (gbq2 ≠ gbq1) := ZM hg BKq1
      have NBq0_274 := Aside0.mk ((by rw [hg]; exact Nat.ne_of_lt (IsS101.lt (show IsS101 w0 _ g s0_0 s0_1 from ZI)) : g ≠ gbq2))
      have NBq3_0 := Aside0.mk ((by rw [hg]; exact Nat.ne_of_gt (IsS101.lt (show IsS101 w0 _ g s0_0 s0_1 from ZI)) : gbq2 ≠ g))
      replace HOq1 := Aside0.mk (Kd.R_below (ZR HOq1.out) hb)
      replace HOq2 := Aside0.mk (Kd.N_below (Kd.N_elderB (ZRN HOq2.out) gbq2 (Nat.le_of_eq hg.symm)) hb)
      replace BKq0 := ZW BKq0 hb
      replace BKq1 := ZW BKq1 hb
      replace HK := ZKT HK (KeepBut.of_below hb g none)
      replace HB := ZTI HB hb
      replace HI0 := Aside0.mk (IsS101.below (ZI) hb)
      clear hb hbox hg
      refine hK.out _ _ ⟨(blk_cell BKq0.out 0).trans rfl, (blk_cell BKq0.out 1).trans rfl⟩ (fun hHeld => ?_)
      clear hK K
      refine ZNO 5 ?_
      exact norm_ (by simp only [putAll, Act.put, List.setIfInBounds_toArray, List.set_cons_zero, List.set_cons_succ]) (hCont (vq0, .slice Aoq1 y268.length coq1, .slice Aoq0 t271.length coq0, gbq2) _ ⟨hHeld, (ZR HOq1.out), (by (with_reducible repeat (first | apply Kd.N_alloc | apply Kd.N_drewN | apply Kd.N_drew)); exact Kd.N_mono HOq2.out (fun _ hk => ⟨hk.1.1, ⟨hk.1.2.1, ⟨hk.1.2.2.2.2, ⟨hk.1.2.2.1, ⟨hk.1.2.2.2.1, hk.2⟩⟩⟩⟩⟩)), (ZK BKq0.out), (ZK BKq1.out), (ZK BKq2.out), GWq2.out, GEq2.out, NBq0_274.out, NBq3_0.out, NBq1_274.out, NBq3_263.out, NBq2_274.out, NBq3_264.out, (ZI), (ZJ), (ZBI)⟩)
     ·skip
      refine box_step ?hg (N := 5) ?hd (cs := #[.slice none 0 0, .slice none 0 0]) (t := 26) ?hr ?_; (case hd => rfl); (case hg => rfl); (case hr => first | (go_simp; done) | (go_simp; rfl))
      intro gbq2 hg wq5 hbox hb
      have BKq2 := Aside0.mk (hbox)
      have GWq2 := Aside0.mk ((by rw [hg]; exact (keep_size (w := w) (g := g) (row := none) (ZJ)) : w.heap.size ≤ gbq2))
      have GEq2 := Aside0.mk ((Nat.le_trans HW0.out (by rw [hg]; exact (keep_size (w := w) (g := g) (row := none) (ZJ)) : w.heap.size ≤ gbq2) : w0.heap.size ≤ gbq2))
      have NBq1_274 : Aside0 (gbq0 ≠ gbq2) := ZN hg BKq0
      have NBq3_263 : Aside0 (gbq2 ≠ gbq0) := ZM hg BKq0
      have NBq2_274 : Aside0 (gbq1 ≠ gbq2) := ZN hg BKq1
      have NBq3_264 : Aside0 (gbq2 ≠ gbq1) := ZM hg BKq1
      have NBq0_274 := Aside0.mk ((by rw [hg]; exact Nat.ne_of_lt (IsS101.lt (show IsS101 w0 _ g s0_0 s0_1 from ZI)) : g ≠ gbq2))
      have NBq3_0 := Aside0.mk ((by rw [hg]; exact Nat.ne_of_gt (IsS101.lt (show IsS101 w0 _ g s0_0 s0_1 from ZI)) : gbq2 ≠ g))
      replace HOq1 := Aside0.mk (Kd.R_below (ZR HOq1.out) hb)
      replace BKq0 := ZW BKq0 hb
      replace BKq1 := ZW BKq1 hb
      replace HK := ZKT HK (KeepBut.of_below hb g none)
      replace HB := ZTI HB hb
      replace HI0 := Aside0.mk (IsS101.below (ZI) hb)
      clear hb hbox hg
      refine hK.out _ _ ⟨(blk_cell BKq0.out 0).trans rfl, (blk_cell BKq0.out 1).trans rfl⟩ (fun hHeld => ?_)
      clear hK K
      refine ZNO 5 ?_
      refine one_ (i := 6) (N := some 13) #[T,T,T,T,T,T,T,F,T,F] rfl rfl (one_of HT_.out (by kernel_rfl)) (by decide) (fun K hK => ?_)
      refine goes_ Try.func111 (by kernel_rfl) rfl #[.slice A1_1 l1_1.length c1_1] (by rfl) rfl rfl ZG ?_
      with_reducible refine (spec_l2Copy.calls k _ _ l1_1 t271 _ ?side1 ?side2 A4.out).mono ?_
      (case side1 => exact Kd.C_foot_now HR1_1.out (ZJ))
      (case side2 => exact HC1_1.out)
      rintro e wq7 ⟨vq2, rfl, hoq1, hb⟩
      refine ⟨_, rfl, ?_⟩
      have HOq2 := Aside0.mk (Kd.N_lower (Kd.N_mono (ok' := fun k_ => (w.heap.size ≤ k_) ∧ some k_ ≠ (vq1 : Value).ownBlock ∧ k_ ≠ gbq0 ∧ k_ ≠ gbq1 ∧ k_ ≠ gbq2 ∧ k_ ≠ g) (Kd.R_N (Kd.R_bound hoq1)) (fun k_ hk_ => ⟨(Nat.le_trans (keep_size (w := w) (g := g) (row := none) (ZJ)) hk_.2.1), (Kd.fresh' (Kd.R_lt (ZR HOq1.out)) k_ hk_.2.1), (Kd.freshB (g := gbq0) (o := .cells #[.slice A1_0 l1_0.length c1_0, .slice A1_1 l1_1.length c1_1] 26 (0, 0)) (ZK BKq0.out) k_ hk_.2.1), (Kd.freshB (g := gbq1) (o := .cells #[.slice none 0 0, .slice none 0 0] 26 (0, 0)) (ZK BKq1.out) k_ hk_.2.1), (Kd.freshB (g := gbq2) (o := .cells #[.slice none 0 0, .slice none 0 0] 26 (0, 0)) (ZK BKq2.out) k_ hk_.2.1), (IsS101.fresh (ZI) k_ hk_.2.1)⟩)) (keep_size (w := w) (g := g) (row := none) (ZJ)))
      replace HOq1 := Aside0.mk (Kd.R_below (ZR HOq1.out) hb)
      replace BKq0 := ZW BKq0 hb
      replace BKq1 := ZW BKq1 hb
      replace BKq2 := ZW BKq2 hb
      replace HK := ZKT HK (KeepBut.of_below hb g none)
      replace HB := ZTI HB hb
      replace HI0 := Aside0.mk (IsS101.below (ZI) hb)
      (try clear hb)
      (try clear hb2)
      (try clear hk)
      (try clear hi)
      (try clear hoq1)
      obtain ⟨Aoq1, coq1, eoq1⟩ := Kd.N_slice HOq2.out
      (first | subst eoq1 | (injection eoq1 with f1_ f2_ f3_; have fq0_ := f1_.symm; have fq1_ := f3_.symm; clear f1_ f2_ f3_; subst fq0_; subst fq1_))
      obtain ⟨Aoq2, coq2, eoq2⟩ := Kd.R_slice HOq1.out
      (first | subst eoq2 | (injection eoq2 with f1_ f2_ f3_; have fq0_ := f1_.symm; have fq1_ := f3_.symm; clear f1_ f2_ f3_; subst fq0_; subst fq1_))
      refine hK.out _ _ ⟨(blk_cell BKq0.out 0).trans rfl, (blk_cell BKq0.out 1).trans rfl⟩ (fun hHeld => ?_)
      clear hK K
      refine ZNO 13 ?_
      refine ZU 7 14 #[T,T,T,T,T,T,T,T,T,F] ?_
      exact norm_ (by simp only [putAll, Act.put, List.setIfInBounds_toArray, List.set_cons_zero, List.set_cons_succ]) (hCont (vq0, .slice Aoq2 y268.length coq2, .slice Aoq1 t271.length coq1, gbq2) _ ⟨hHeld, (ZR HOq1.out), (by (with_reducible repeat (first | apply Kd.N_alloc | apply Kd.N_drewN | apply Kd.N_drew)); exact Kd.N_mono HOq2.out (fun _ hk => ⟨hk.1, ⟨hk.2.1, ⟨hk.2.2.2.2.2, ⟨hk.2.2.1, ⟨hk.2.2.2.1, hk.2.2.2.2.1⟩⟩⟩⟩⟩)), (ZK BKq0.out), (ZK BKq1.out), (ZK BKq2.out), GWq2.out, GEq2.out, NBq0_274.out, NBq3_0.out, NBq1_274.out, NBq3_263.out, NBq2_274.out, NBq3_264.out, (ZI), (ZJ), (ZBI)⟩)
    ·skip
     refine box_step ?hg (N := 5) ?hd (cs := #[.slice none 0 0, .slice none 0 0]) (t := 26) ?hr ?_; (case hd => rfl); (case hg => rfl); (case hr => first | (go_simp; done) | (go_simp; rfl))
     intro gbq2 hg wq4 hbox hb
     have BKq2 := Aside0.mk (hbox)
     have GWq2 := Aside0.mk ((by rw [hg]; exact (keep_size (w := w) (g := g) (row := none) (ZJ)) : w.heap.size ≤ gbq2))
     have GEq2 := Aside0.mk ((Nat.le_trans HW0.out (by rw [hg]; exact (keep_size (w := w) (g := g) (row := none) (ZJ)) : w.heap.size ≤ gbq2) : w0.heap.size ≤ gbq2))
     have NBq1_274 : Aside0 (gbq0 ≠ gbq2) := ZN hg BKq0
     have NBq3_263 : Aside0 (gbq2 ≠ gbq0) := ZM hg BKq0
     have NBq2_274 : Aside0 (gbq1 ≠ gbq2) := ZN hg BKq1
     have NBq3_264 : Aside0 (gbq2 ≠ gbq1) := ZM hg BKq1
     have NBq0_274 := Aside0.mk ((by rw [hg]; exact Nat.ne_of_lt (IsS101.lt (show IsS101 w0 _ g s0_0 s0_1 from ZI)) : g ≠ gbq2))
     have NBq3_0 := Aside0.mk ((by rw [hg]; exact Nat.ne_of_gt (IsS101.lt (show IsS101 w0 _ g s0_0 s0_1 from ZI)) : gbq2 ≠ g))
     replace HOq0 := Aside0.mk (Kd.R_below (ZR HOq0.out) hb)
     replace BKq0 := ZW BKq0 hb
     replace BKq1 := ZW BKq1 hb
     replace HK := ZKT HK (KeepBut.of_below hb g none)
     replace HB := ZTI HB hb
     replace HI0 := Aside0.mk (IsS101.below (ZI) hb)
     clear hb hbox hg
     refine hK.out _ _ ⟨(blk_cell BKq0.out 0).trans rfl, (blk_cell BKq0.out 1).trans rfl⟩ (fun hHeld => ?_)
     clear hK K
     refine ZNO 5 ?_
     refine one_ (i := 3) (N := some 10) #[T,T,T,T,T,T,F,F,T,F] rfl rfl (one_of HT_.out (by kernel_rfl)) (by decide) (fun K hK => ?_)
     refine Kd.R_append_rows_step k35 w.heap.size (by rfl) (.tmp 7) (.tmp 9) 23 35 (.agg #[(.int .i64 0), (.int .i64 0)]) 16 rfl Try.underlying23 info35 rfl (by decide) (by omega) vq0 y265 l1_0 _ _ _ (fun k_ => (w.heap.size ≤ k_)) (fun _ => False) rfl rfl ?aO ?aR (fun _ _ h => h) (fun _ h => h.elim) ?aF (Below.refl _ _) ?aS ?aL ?_
     (case aR => exact Kd.C_foot_now HR1_0.out (ZJ))
     (case aF => exact (fun k_ hk => (Nat.le_trans (keep_size (w := w) (g := g) (row := none) (ZJ)) hk)))
     (case aO => exact (ZR (Kd.R_mono HOq0.out (fun _ hk => hk.1))))
     (case aS => exact (keep_size (w := w) (g := g) (row := none) (ZJ)))
     (case aL => have := LMc3.out; omega)
     intro vq1 wq5 ho hb hg hat
     rw [← Ny268.out] at ho
     have nq0_ := Aside0.mk (IsS101.grown (ZI) hg (IsS101.own_ne HI0.out HOq0.out (by decide)))
     have nq1_ := Aside0.mk (blk_grown (g := gbq0) (o := .cells #[.slice A1_0 l1_0.length c1_0, .slice A1_1 l1_1.length c1_1] 26 (0, 0)) (ZK BKq0.out) hg (Kd.R_ne HOq0.out BKq0.out (by decide)))
     have nq2_ := Aside0.mk (blk_grown (g := gbq1) (o := .cells #[.slice none 0 0, .slice none 0 0] 26 (0, 0)) (ZK BKq1.out) hg (Kd.R_ne HOq0.out BKq1.out (by decide)))
     have nq3_ := Aside0.mk (blk_grown (g := gbq2) (o := .cells #[.slice none 0 0, .slice none 0 0] 26 (0, 0)) (ZK BKq2.out) hg (Kd.R_ne HOq0.out BKq2.out (by decide)))
     have nq4_ := Aside0.mk (below_weaken (ZBI) HL.out hb)
     have nq5_ := Aside0.mk (KeepBut.trans (ZJ) (KeepBut.of_grown hg g) (Kd.R_base2 HOq0.out))
     have nq6_ := Aside0.mk (ho)
     clear HI0; clear BKq0; clear BKq1; clear BKq2; clear HB; clear HK; clear HOq0; have HI0 := nq0_; have BKq0 := nq1_; have BKq1 := nq2_; have BKq2 := nq3_; have HB := nq4_; have HK := nq5_; have HOq1 := nq6_; clear nq0_ nq1_ nq2_ nq3_ nq4_ nq5_ nq6_; clear ho hb hg hat
     refine hK.out _ _ ⟨(blk_cell BKq0.out 0).trans rfl, (blk_cell BKq0.out 1).trans rfl⟩ (fun hHeld => ?_)
     clear hK K
     refine ZNO 10 ?_
     refine one_ (i := 6) (N := some 13) #[T,T,T,T,T,T,T,F,T,F] rfl rfl (one_of HT_.out (by kernel_rfl)) (by decide) (fun K hK => ?_)
     refine goes_ Try.func111 (by kernel_rfl) rfl #[.slice A1_1 l1_1.length c1_1] (by rfl) rfl rfl ZG ?_
     with_reducible refine (spec_l2Copy.calls k _ _ l1_1 t271 _ ?side1 ?side2 A4.out).mono ?_
     (case side1 => exact Kd.C_foot_now HR1_1.out (ZJ))
     (case side2 => exact HC1_1.out)
     rintro e wq7 ⟨vq2, rfl, hoq1, hb⟩
     refine ⟨_, rfl, ?_⟩
     have HOq2 := Aside0.mk (Kd.N_lower (Kd.N_mono (ok' := fun k_ => (w.heap.size ≤ k_) ∧ some k_ ≠ (vq1 : Value).ownBlock ∧ k_ ≠ gbq0 ∧ k_ ≠ gbq1 ∧ k_ ≠ gbq2 ∧ k_ ≠ g) (Kd.R_N (Kd.R_bound hoq1)) (fun k_ hk_ => ⟨(Nat.le_trans (keep_size (w := w) (g := g) (row := none) (ZJ)) hk_.2.1), (Kd.fresh' (Kd.R_lt (ZR HOq1.out)) k_ hk_.2.1), (Kd.freshB (g := gbq0) (o := .cells #[.slice A1_0 l1_0.length c1_0, .slice A1_1 l1_1.length c1_1] 26 (0, 0)) (ZK BKq0.out) k_ hk_.2.1), (Kd.freshB (g := gbq1) (o := .cells #[.slice none 0 0, .slice none 0 0] 26 (0, 0)) (ZK BKq1.out) k_ hk_.2.1), (Kd.freshB (g := gbq2) (o := .cells #[.slice none 0 0, .slice none 0 0] 26 (0, 0)) (ZK BKq2.out) k_ hk_.2.1), (IsS101.fresh (ZI) k_ hk_.2.1)⟩)) (keep_size (w := w) (g := g) (row := none) (ZJ)))
     replace HOq1 := Aside0.mk (Kd.R_below (ZR HOq1.out) hb)
     replace BKq0 := ZW BKq0 hb
     replace BKq1 := ZW BKq1 hb
     replace BKq2 := ZW BKq2 hb
     replace HK := ZKT HK (KeepBut.of_below hb g none)
     replace HB := ZTI HB hb
     replace HI0 := Aside0.mk (IsS101.below (ZI) hb)
     (try clear hb)
     (try clear hb2)
     (try clear hk)
     (try clear hi)
     (try clear hoq1)
     obtain ⟨Aoq1, coq1, eoq1⟩ := Kd.N_slice HOq2.out
     (first | subst eoq1 | (injection eoq1 with f1_ f2_ f3_; have fq0_ := f1_.symm; have fq1_ := f3_.symm; clear f1_ f2_ f3_; subst fq0_; subst fq1_))
     obtain ⟨Aoq2, coq2, eoq2⟩ := Kd.R_slice HOq1.out
     (first | subst eoq2 | (injection eoq2 with f1_ f2_ f3_; have fq0_ := f1_.symm; have fq1_ := f3_.symm; clear f1_ f2_ f3_; subst fq0_; subst fq1_))
     refine hK.out _ _ ⟨(blk_cell BKq0.out 0).trans rfl, (blk_cell BKq0.out 1).trans rfl⟩ (fun hHeld => ?_)
     clear hK K
     refine ZNO 13 ?_
     refine ZU 7 14 #[T,T,T,T,T,T,T,T,T,F] ?_
     exact norm_ (by simp only [putAll, Act.put, List.setIfInBounds_toArray, List.set_cons_zero, List.set_cons_succ]) (hCont (vq0, .slice Aoq2 y268.length coq2, .slice Aoq1 t271.length coq1, gbq2) _ ⟨hHeld, (ZR HOq1.out), (by (with_reducible repeat (first | apply Kd.N_alloc | apply Kd.N_drewN | apply Kd.N_drew)); exact Kd.N_mono HOq2.out (fun _ hk => ⟨hk.1, ⟨hk.2.1, ⟨hk.2.2.2.2.2, ⟨hk.2.2.1, ⟨hk.2.2.2.1, hk.2.2.2.2.1⟩⟩⟩⟩⟩)), (ZK BKq0.out), (ZK BKq1.out), (ZK BKq2.out), GWq2.out, GEq2.out, NBq0_274.out, NBq3_0.out, NBq1_274.out, NBq3_263.out, NBq2_274.out, NBq3_264.out, (ZI), (ZJ), (ZBI)⟩)
   ·skip
    refine box_step ?hg (N := 5) ?hd (cs := #[.slice none 0 0, .slice none 0 0]) (t := 26) ?hr ?_; (case hd => rfl); (case hg => rfl); (case hr => first | (go_simp; done) | (go_simp; rfl))
    intro gbq2 hg wq3 hbox hb
    have BKq2 := Aside0.mk (hbox)
    have GWq2 := Aside0.mk ((by rw [hg]; exact (keep_size (w := w) (g := g) (row := none) (ZJ)) : w.heap.size ≤ gbq2))
    have GEq2 := Aside0.mk ((Nat.le_trans HW0.out (by rw [hg]; exact (keep_size (w := w) (g := g) (row := none) (ZJ)) : w.heap.size ≤ gbq2) : w0.heap.size ≤ gbq2))
    have NBq1_274 : Aside0 (gbq0 ≠ gbq2) := ZN hg BKq0
    have NBq3_263 : Aside0 (gbq2 ≠ gbq0) := ZM hg BKq0
    have NBq2_274 : Aside0 (gbq1 ≠ gbq2) := ZN hg BKq1
    have NBq3_264 : Aside0 (gbq2 ≠ gbq1) := ZM hg BKq1
    have NBq0_274 := Aside0.mk ((by rw [hg]; exact Nat.ne_of_lt (IsS101.lt (show IsS101 w0 _ g s0_0 s0_1 from ZI)) : g ≠ gbq2))
    have NBq3_0 := Aside0.mk ((by rw [hg]; exact Nat.ne_of_gt (IsS101.lt (show IsS101 w0 _ g s0_0 s0_1 from ZI)) : gbq2 ≠ g))
    replace BKq0 := ZW BKq0 hb
    replace BKq1 := ZW BKq1 hb
    replace HK := ZKT HK (KeepBut.of_below hb g none)
    replace HB := ZTI HB hb
    replace HI0 := Aside0.mk (IsS101.below (ZI) hb)
    clear hb hbox hg
    refine hK.out _ _ ⟨(blk_cell BKq0.out 0).trans rfl, (blk_cell BKq0.out 1).trans rfl⟩ (fun hHeld => ?_)
    clear hK K
    refine ZNO 5 ?_
    refine one_ (i := 0) (N := some 7) #[T,T,T,F,T,T,F,F,T,F] rfl rfl (one_of HT_.out (by kernel_rfl)) (by decide) (fun K hK => ?_)
    refine Kd.R_lit_step k35 _ 35 ?hg (N := 7) ?hd (xs := ([] : List (S35))) (inner := []) (ok := fun _ => True) (okp := fun _ => True) ?hr ?hp (fun _ hk => hk) trivial (Below.refl _ _) (Nat.le_refl _) (by simp) ?_; (case hd => rfl); (case hg => rfl); (case hr => first | (go_simp; done) | (go_simp; rfl)); (case hp => exact (Reps.none _ _))
    intro vq0 wq8 hoq2 hb hg_ hnew_
    clear hg_ hnew_
    (first | rw [← Ny265.out] at hoq2 | (simp only [Int.reduceToNat] at hoq2; rw [← Ny265.out] at hoq2))
    have HOq0 := Aside0.mk (Kd.R_lower (Kd.R_newM (M := fun k_ => (w.heap.size ≤ k_)) hoq2 (keep_size (w := w) (g := g) (row := none) (ZJ)) (fun k_ h_ => h_)) (keep_size (w := w) (g := g) (row := none) (ZJ)))
    replace BKq0 := ZW BKq0 hb
    replace BKq1 := ZW BKq1 hb
    replace BKq2 := ZW BKq2 hb
    replace HK := ZKT HK (KeepBut.of_below hb g none)
    replace HB := ZTI HB hb
    replace HI0 := Aside0.mk (IsS101.below (ZI) hb)
    clear hb hoq2
    refine hK.out _ _ ⟨(blk_cell BKq0.out 0).trans rfl, (blk_cell BKq0.out 1).trans rfl⟩ (fun hHeld => ?_)
    clear hK K
    refine ZNO 7 ?_
    refine one_ (i := 3) (N := some 10) #[T,T,T,T,T,T,F,F,T,F] rfl rfl (one_of HT_.out (by kernel_rfl)) (by decide) (fun K hK => ?_)
    refine Kd.R_append_rows_step k35 w.heap.size (by rfl) (.tmp 7) (.tmp 9) 23 35 (.agg #[(.int .i64 0), (.int .i64 0)]) 16 rfl Try.underlying23 info35 rfl (by decide) (by omega) vq0 y265 l1_0 _ _ _ (fun k_ => (w.heap.size ≤ k_)) (fun _ => False) rfl rfl ?aO ?aR (fun _ _ h => h) (fun _ h => h.elim) ?aF (Below.refl _ _) ?aS ?aL ?_
    (case aR => exact Kd.C_foot_now HR1_0.out (ZJ))
    (case aF => exact (fun k_ hk => (Nat.le_trans (keep_size (w := w) (g := g) (row := none) (ZJ)) hk)))
    (case aO => exact (ZR (Kd.R_mono HOq0.out (fun _ hk => hk.1))))
    (case aS => exact (keep_size (w := w) (g := g) (row := none) (ZJ)))
    (case aL => have := LMc3.out; omega)
    intro vq1 wq5 ho hb hg hat
    rw [← Ny268.out] at ho
    have nq0_ := Aside0.mk (IsS101.grown (ZI) hg (IsS101.own_ne HI0.out HOq0.out (by decide)))
    have nq1_ := Aside0.mk (blk_grown (g := gbq0) (o := .cells #[.slice A1_0 l1_0.length c1_0, .slice A1_1 l1_1.length c1_1] 26 (0, 0)) (ZK BKq0.out) hg (Kd.R_ne HOq0.out BKq0.out (by decide)))
    have nq2_ := Aside0.mk (blk_grown (g := gbq1) (o := .cells #[.slice none 0 0, .slice none 0 0] 26 (0, 0)) (ZK BKq1.out) hg (Kd.R_ne HOq0.out BKq1.out (by decide)))
    have nq3_ := Aside0.mk (blk_grown (g := gbq2) (o := .cells #[.slice none 0 0, .slice none 0 0] 26 (0, 0)) (ZK BKq2.out) hg (Kd.R_ne HOq0.out BKq2.out (by decide)))
    have nq4_ := Aside0.mk (below_weaken (ZBI) HL.out hb)
    have nq5_ := Aside0.mk (KeepBut.trans (ZJ) (KeepBut.of_grown hg g) (Kd.R_base2 HOq0.out))
    have nq6_ := Aside0.mk (ho)
    clear HI0; clear BKq0; clear BKq1; clear BKq2; clear HB; clear HK; clear HOq0; have HI0 := nq0_; have BKq0 := nq1_; have BKq1 := nq2_; have BKq2 := nq3_; have HB := nq4_; have HK := nq5_; have HOq1 := nq6_; clear nq0_ nq1_ nq2_ nq3_ nq4_ nq5_ nq6_; clear ho hb hg hat
    refine hK.out _ _ ⟨(blk_cell BKq0.out 0).trans rfl, (blk_cell BKq0.out 1).trans rfl⟩ (fun hHeld => ?_)
    clear hK K
    refine ZNO 10 ?_
    refine one_ (i := 6) (N := some 13) #[T,T,T,T,T,T,T,F,T,F] rfl rfl (one_of HT_.out (by kernel_rfl)) (by decide) (fun K hK => ?_)
    refine goes_ Try.func111 (by kernel_rfl) rfl #[.slice A1_1 l1_1.length c1_1] (by rfl) rfl rfl ZG ?_
    with_reducible refine (spec_l2Copy.calls k _ _ l1_1 t271 _ ?side1 ?side2 A4.out).mono ?_
    (case side1 => exact Kd.C_foot_now HR1_1.out (ZJ))
    (case side2 => exact HC1_1.out)
    rintro e wq7 ⟨vq2, rfl, hoq1, hb⟩
    refine ⟨_, rfl, ?_⟩
    have HOq2 := Aside0.mk (Kd.N_lower (Kd.N_mono (ok' := fun k_ => (w.heap.size ≤ k_) ∧ some k_ ≠ (vq1 : Value).ownBlock ∧ k_ ≠ gbq0 ∧ k_ ≠ gbq1 ∧ k_ ≠ gbq2 ∧ k_ ≠ g) (Kd.R_N (Kd.R_bound hoq1)) (fun k_ hk_ => ⟨(Nat.le_trans (keep_size (w := w) (g := g) (row := none) (ZJ)) hk_.2.1), (Kd.fresh' (Kd.R_lt (ZR HOq1.out)) k_ hk_.2.1), (Kd.freshB (g := gbq0) (o := .cells #[.slice A1_0 l1_0.length c1_0, .slice A1_1 l1_1.length c1_1] 26 (0, 0)) (ZK BKq0.out) k_ hk_.2.1), (Kd.freshB (g := gbq1) (o := .cells #[.slice none 0 0, .slice none 0 0] 26 (0, 0)) (ZK BKq1.out) k_ hk_.2.1), (Kd.freshB (g := gbq2) (o := .cells #[.slice none 0 0, .slice none 0 0] 26 (0, 0)) (ZK BKq2.out) k_ hk_.2.1), (IsS101.fresh (ZI) k_ hk_.2.1)⟩)) (keep_size (w := w) (g := g) (row := none) (ZJ)))
    replace HOq1 := Aside0.mk (Kd.R_below (ZR HOq1.out) hb)
    replace BKq0 := ZW BKq0 hb
    replace BKq1 := ZW BKq1 hb
    replace BKq2 := ZW BKq2 hb
    replace HK := ZKT HK (KeepBut.of_below hb g none)
    replace HB := ZTI HB hb
    replace HI0 := Aside0.mk (IsS101.below (ZI) hb)
    (try clear hb)
    (try clear hb2)
    (try clear hk)
    (try clear hi)
    (try clear hoq1)
    obtain ⟨Aoq1, coq1, eoq1⟩ := Kd.N_slice HOq2.out
    (first | subst eoq1 | (injection eoq1 with f1_ f2_ f3_; have fq0_ := f1_.symm; have fq1_ := f3_.symm; clear f1_ f2_ f3_; subst fq0_; subst fq1_))
    obtain ⟨Aoq2, coq2, eoq2⟩ := Kd.R_slice HOq1.out
    (first | subst eoq2 | (injection eoq2 with f1_ f2_ f3_; have fq0_ := f1_.symm; have fq1_ := f3_.symm; clear f1_ f2_ f3_; subst fq0_; subst fq1_))
    refine hK.out _ _ ⟨(blk_cell BKq0.out 0).trans rfl, (blk_cell BKq0.out 1).trans rfl⟩ (fun hHeld => ?_)
    clear hK K
    refine ZNO 13 ?_
    refine ZU 7 14 #[T,T,T,T,T,T,T,T,T,F] ?_
    exact norm_ (by simp only [putAll, Act.put, List.setIfInBounds_toArray, List.set_cons_zero, List.set_cons_succ]) (hCont (vq0, .slice Aoq2 y268.length coq2, .slice Aoq1 t271.length coq1, gbq2) _ ⟨hHeld, (ZR HOq1.out), (by (with_reducible repeat (first | apply Kd.N_alloc | apply Kd.N_drewN | apply Kd.N_drew)); exact Kd.N_mono HOq2.out (fun _ hk => ⟨hk.1, ⟨hk.2.1, ⟨hk.2.2.2.2.2, ⟨hk.2.2.1, ⟨hk.2.2.2.1, hk.2.2.2.2.1⟩⟩⟩⟩⟩)), (ZK BKq0.out), (ZK BKq1.out), (ZK BKq2.out), GWq2.out, GEq2.out, NBq0_274.out, NBq3_0.out, NBq1_274.out, NBq3_263.out, NBq2_274.out, NBq3_264.out, (ZI), (ZJ), (ZBI)⟩)
  rintro ⟨vq0, vq1, vq2, gbq2⟩ wq9 ⟨hS_, hq0_, hq1_, hq2_, hq3_, hq4_, hq5_, hq6_, hq7_, hq8_, hq9_, hq10_, hq11_, hq12_, hq13_, hq14_, hq15_⟩
  have nq0_ : Aside0 (Kd.R k35 35 wq9 w.heap.size (fun k_ => (w.heap.size ≤ k_)) vq1 y268) := ⟨hq0_⟩
  have nq1_ : Aside0 (Kd.N k59 59 wq9 w.heap.size (fun k_ => (w.heap.size ≤ k_) ∧ some k_ ≠ (vq1 : Value).ownBlock ∧ k_ ≠ g ∧ k_ ≠ gbq0 ∧ k_ ≠ gbq1 ∧ k_ ≠ gbq2) vq2 t271) := ⟨hq1_⟩
  have nq2_ : Aside0 (wq9.heap[gbq0]? = some (.cells #[.slice A1_0 l1_0.length c1_0, .slice A1_1 l1_1.length c1_1] 26 (0, 0))) := ⟨hq2_⟩
  have nq3_ : Aside0 (wq9.heap[gbq1]? = some (.cells #[.slice none 0 0, .slice none 0 0] 26 (0, 0))) := ⟨hq3_⟩
  have nq4_ : Aside0 (wq9.heap[gbq2]? = some (.cells #[.slice none 0 0, .slice none 0 0] 26 (0, 0))) := ⟨hq4_⟩
  have nq5_ : Aside0 (w.heap.size ≤ gbq2) := ⟨hq5_⟩
  have nq6_ : Aside0 (w0.heap.size ≤ gbq2) := ⟨hq6_⟩
  have nq7_ : Aside0 (g ≠ gbq2) := ⟨hq7_⟩
  have nq8_ : Aside0 (gbq2 ≠ g) := ⟨hq8_⟩
  have nq9_ : Aside0 (gbq0 ≠ gbq2) := ⟨hq9_⟩
  have nq10_ : Aside0 (gbq2 ≠ gbq0) := ⟨hq10_⟩
  have nq11_ : Aside0 (gbq1 ≠ gbq2) := ⟨hq11_⟩
  have nq12_ : Aside0 (gbq2 ≠ gbq1) := ⟨hq12_⟩
  have nq13_ : Aside0 (IsS101 w0 wq9 g s0_0 s0_1) := ⟨hq13_⟩
  have nq14_ : Aside0 (KeepBut w wq9 g none) := ⟨hq14_⟩
  have nq15_ : Aside0 (Below w0.heap.size w0 wq9) := ⟨hq15_⟩
  clear BKq0
  clear BKq1
  clear HI0
  clear HK
  clear HB
  clear hq0_ hq1_ hq2_ hq3_ hq4_ hq5_ hq6_ hq7_ hq8_ hq9_ hq10_ hq11_ hq12_ hq13_ hq14_ hq15_
  have HOq1 := nq0_
  have HOq2 := nq1_
  have BKq0 := nq2_
  have BKq1 := nq3_
  have BKq2 := nq4_
  have GWq2 := nq5_
  have GEq2 := nq6_
  have NBq0_274 := nq7_
  have NBq3_0 := nq8_
  have NBq1_274 := nq9_
  have NBq3_263 := nq10_
  have NBq2_274 := nq11_
  have NBq3_264 := nq12_
  have HI0 := nq13_
  have HK := nq14_
  have HB := nq15_
  clear nq0_ nq1_ nq2_ nq3_ nq4_ nq5_ nq6_ nq7_ nq8_ nq9_ nq10_ nq11_ nq12_ nq13_ nq14_ nq15_
  have hHeld : wq9.cell? ⟨gbq0, 0, none⟩ = some (.slice A1_0 l1_0.length c1_0) ∧ wq9.cell? ⟨gbq0, 1, none⟩ = some (.slice A1_1 l1_1.length c1_1) := hS_
  obtain ⟨Aoq3, coq3, eoq3⟩ := Kd.N_slice HOq2.out
  (first | subst eoq3 | (injection eoq3 with f1_ f2_ f3_; have fq0_ := f1_.symm; have fq1_ := f3_.symm; clear f1_ f2_ f3_; subst fq0_; subst fq1_))
  obtain ⟨Aoq4, coq4, eoq4⟩ := Kd.R_slice HOq1.out
  (first | subst eoq4 | (injection eoq4 with f1_ f2_ f3_; have fq0_ := f1_.symm; have fq1_ := f3_.symm; clear f1_ f2_ f3_; subst fq0_; subst fq1_))
  refine norm_ (a' := ?_) ?_ ?_
  rotate_left
  ·simp only [putAll, Act.put, List.setIfInBounds_toArray, List.set_cons_zero, List.set_cons_succ]; rfl
  refine one_ (i := 9) (N := none) #[T,T,T,T,T,T,T,T,T,T] rfl rfl (one_of HT_.out (by kernel_rfl)) (by decide) (fun K hK => ?_)
  have hsq0 : wq9.cell? ⟨gbq2, 0, none⟩ = some (.slice none 0 0) := (blk_cell BKq2.out 0).trans rfl
  have hfsq0 := blk_frozen BKq2.out 0
  have hnsq0_0 := NBq1_274.out
  have hnsq0_1 := NBq2_274.out
  have hmsq0_0 := NBq3_263.out
  have hmsq0_1 := NBq3_264.out
  have hsq1 : wq9.cell? ⟨gbq2, 1, none⟩ = some (.slice none 0 0) := (blk_cell BKq2.out 1).trans rfl
  have hfsq1 := blk_frozen BKq2.out 1
  have hnsq1_0 := NBq1_274.out
  have hnsq1_1 := NBq2_274.out
  have hmsq1_0 := NBq3_263.out
  have hmsq1_1 := NBq3_264.out
  refine skip_ (w1 := ?_) (by rfl) rfl ?_ ?_
  rotate_left
  ·go_simp
   rfl
  refine hK.out _ _ ⟨((cell_far (p := ⟨gbq2, _, none⟩) NBq1_274.out _).trans (((cell_far (p := ⟨gbq2, _, none⟩) NBq1_274.out _).trans (hHeld.1)))), ((cell_far (p := ⟨gbq2, _, none⟩) NBq1_274.out _).trans (((cell_far (p := ⟨gbq2, _, none⟩) NBq1_274.out _).trans (hHeld.2))))⟩ (fun hHeld => ?_)
  clear hK K
  refine done_ (done_of HT_.out (by kernel_rfl)) ?_
  first
  | (
    (have z_ := tag0_; clear z_)
    try go_wp2_with (first | ((with_reducible refine gate_callee (f := 85) rfl ?_); refine goesL_ (some 16) rfl rfl Try.func85 (by kernel_rfl) rfl #[.pointer (some ⟨g, 0, none⟩), .int .i64 8] rfl ZG ?_; (with_reducible refine (spec_l6Rd_pick.calls k g s0_0 s0_1 8 t275 t276 w0 _ ?side1 ?side2 A5.out).mono ?_); (case side1 => exact ZI); (case side2 => exact ZBI); rintro e wq10 ⟨rfl, hi, hb, hk⟩; refine ⟨_, rfl, ?_⟩; replace BKq0 := ZLV #[.slice A1_0 l1_0.length c1_0, .slice A1_1 l1_1.length c1_1] hk BKq0 NBq1_0; replace BKq1 := ZLV #[.slice none 0 0, .slice none 0 0] hk BKq1 NBq2_0; replace HOq1 := Aside0.mk (Kd.R_mono (Kd.R_keep (IsS101.apart (show IsS101 w0 _ g s0_0 s0_1 from ZI) (ZR ((Kd.R_mono (Kd.R_far (p := ⟨gbq2, 1, none⟩) (Kd.R_far (p := ⟨gbq2, 0, none⟩) (Kd.R_types HOq1.out BKq2.out (by decide)) (fun _ hk => hk.2) (.slice Aoq4 y268.length coq4)) (fun _ hk => hk.2) (.slice Aoq3 t271.length coq3)) (fun _ h_ => h_.1)))) (by decide)) hk (fun _ h => h.2)) (fun _ h => h.1)); replace HOq2 := Aside0.mk (Kd.N_mono (Kd.N_keep (Kd.N_mono (ok := fun k_ => (((w.heap.size ≤ k_)) ∧ (some k_ ≠ (.slice Aoq4 y268.length coq4 : Value).ownBlock ∧ (k_ ≠ g ∧ (k_ ≠ gbq0 ∧ (k_ ≠ gbq1 ∧ k_ ≠ gbq2)))))) (by (with_reducible repeat (first | apply Kd.N_alloc | apply Kd.N_drewN | apply Kd.N_drew)); exact (Kd.N_mono (Kd.N_far (p := ⟨gbq2, 1, none⟩) (Kd.N_far (p := ⟨gbq2, 0, none⟩) (Kd.N_mono HOq2.out (fun k_ hk => (⟨hk, hk.2.2.2.2.2⟩ : _ ∧ k_ ≠ gbq2))) (fun _ hk => hk.2) (.slice Aoq4 y268.length coq4)) (fun _ hk => hk.2) (.slice Aoq3 t271.length coq3)) (fun _ h_ => h_.1))) (fun k_ hk_ => (⟨hk_, hk_.2.2.1⟩ : _ ∧ k_ ≠ g))) hk (fun _ h => h.2)) (fun _ h => h.1)); replace BKq2 := ZLV #[.slice Aoq4 y268.length coq4, .slice Aoq3 t271.length coq3] hk BKq2 NBq3_0; replace HK := ZKT HK hk; replace HB := Aside0.mk (hb); replace HI0 := Aside0.mk (hi); (try clear hb); (try clear hb2); (try clear hk); (try clear hi); have hnbq0 := NBq3_263.out; have hncq0 := NBq1_274.out; have hnbq1 := NBq3_264.out; have hncq1 := NBq2_274.out; have hnbq2 := NBq3_0.out; have hncq2 := NBq0_274.out; obtain ⟨hczq0_0, hczq0_1⟩ := ZC2 wq10 BKq2; obtain ⟨hfzq0_0, hfzq0_1⟩ := ZF2 BKq2; have pq0 : 0 ≤ (0 : Int) := (by omega); have qq0 : (0 : Int) < ((y268.length : Int) : Int) := ZD; have qiq0 : (0 < y268.length) = True := eq_true (by omega); obtain ⟨goq0, coq5, eoq5, gbq3, glq0, clq0, HGq0⟩ := Kd.R_form HOq1.out (by omega); (first | cases eoq5 | (injection eoq5 with ea_ en_ ec_; (first | subst ea_ | (injection ea_ with ea_; subst ea_)); subst ec_; clear en_)); have GBq0 := Aside0.mk gbq3; have GGq0 := Aside0.mk HGq0; clear gbq3 glq0 HGq0; obtain ⟨ceq0, hclq0, hMq0, hccq0, hfrq0⟩ := Kd.R_elem HOq1.out z35 (0 : Int) pq0 qq0; obtain rfl := k35_openM hMq0; have hxq0_0 : wq10.cell? ⟨goq0, (0 : Int).toNat * 2, none⟩ = some (.int .i64 ((rd_T35 y268 0).f0)) := hccq0 0 _ rfl; have hxq0_1 : wq10.cell? ⟨goq0, (0 : Int).toNat * 2 + 1, none⟩ = some (.int .i64 ((rd_T35 y268 0).f1)) := hccq0 1 _ rfl; have hfq0_0 : wq10.frozen? ⟨goq0, (0 : Int).toNat * 2, none⟩ = false := hfrq0 0; have hfq0_1 : wq10.frozen? ⟨goq0, (0 : Int).toNat * 2 + 1, none⟩ = false := hfrq0 1; clear hclq0 hccq0 hfrq0 hMq0; (try rw [show ((0 : Int)).toNat = 0 from rfl] at hxq0_0); (try simp only [Nat.reduceMul, Nat.zero_mul, Nat.zero_add, Nat.reduceAdd] at hxq0_0); (try rw [show ((0 : Int)).toNat = 0 from rfl] at hfq0_0); (try simp only [Nat.reduceMul, Nat.zero_mul, Nat.zero_add, Nat.reduceAdd] at hfq0_0); (try rw [show ((0 : Int)).toNat = 0 from rfl] at hxq0_1); (try simp only [Nat.reduceMul, Nat.zero_mul, Nat.zero_add, Nat.reduceAdd] at hxq0_1); (try rw [show ((0 : Int)).toNat = 0 from rfl] at hfq0_1); (try simp only [Nat.reduceMul, Nat.zero_mul, Nat.zero_add, Nat.reduceAdd] at hfq0_1); replace pq0 := eq_true pq0; replace qq0 := eq_true qq0; have HXq0 := Aside0.mk (show Kd.R k35 35 wq10 w.heap.size (fun k_ => (w.heap.size ≤ k_)) (.slice (some ⟨goq0, 0, none⟩) y268.length coq4) y268 from (ZR HOq1.out)); obtain ⟨ceq1, hclq1, hMq1, hccq1, hfrq1⟩ := Kd.R_elem HXq0.out z35 (0 : Int) (by omega) (by have h_ : (0 : Int) < ((y268.length : Int) : Int) := ZD; first | exact h_ | (have e_ := (Kd.R_reads' HOq1.out).1; omega) | simpa using h_); obtain rfl := k35_openM hMq1; have HPq0 := Kd.R_seg HXq0.out (0 : Int) (by omega) (by have h_ : (0 : Int) < ((y268.length : Int) : Int) := ZD; first | exact h_ | (have e_ := (Kd.R_reads' HOq1.out).1; omega) | simpa using h_) (seg := [.int .i64 8]) (j := 0) hclq1 hccq1 (show 1 ≤ 2 from by decide) (x' := (⟨8, (rd_T35 y268 0).f1⟩ : S35)) (k35_mkM _ _ _ (⟨8, (rd_T35 y268 0).f1⟩ : S35) ) (fun _ hk => hk); have hxq1_0 := hccq1 0 _ rfl; (try simp only [show (k35).sz = 2 from rfl, Nat.mul_one, Nat.add_zero] at hxq1_0); (try rw [show ((0 : Int)).toNat = 0 from rfl] at hxq1_0); (try simp only [Nat.reduceMul, Nat.zero_mul, Nat.zero_add, Nat.reduceAdd] at hxq1_0); have hfq1_0 := hfrq1 0; (try simp only [show (k35).sz = 2 from rfl, Nat.mul_one, Nat.add_zero] at hfq1_0); (try rw [show ((0 : Int)).toNat = 0 from rfl] at hfq1_0); (try simp only [Nat.reduceMul, Nat.zero_mul, Nat.zero_add, Nat.reduceAdd] at hfq1_0); clear hclq1 hccq1 hfrq1 hMq1) | ((with_reducible refine gate_store (t := 3) (p := 28) rfl ?_); refine store_event (t := 3) (p := 28) (v := ?vo_w30) (w1 := (wq10.setCell ⟨goq0, 0, none⟩ (.int .i64 8))) ?hg ?ho ?hn ?hr ?_; (case ho => rfl); (case hg => rfl); (case hn => rfl); (case hr => first | (go_simp; done) | (go_simp; rfl)); intro wq11 hw; have hg : wq10.grownBy wq11 (some goq0) := (by rw [hw]; exact HPq0.2); have hp_ : Kd.R k35 35 wq11 w.heap.size (fun k_ => (w.heap.size ≤ k_)) (.slice (some ⟨goq0, 0, none⟩) y268.length coq4) y277 := (by rw [hw, Ny277.out]; exact HPq0.1); clear HPq0; replace HI0 := Aside0.mk (IsS101.grown (ZI) hg (IsS101.own_ne HI0.out HOq1.out (by decide))); replace BKq0 := Aside0.mk (blk_grown (g := gbq0) (o := .cells #[.slice A1_0 l1_0.length c1_0, .slice A1_1 l1_1.length c1_1] 26 (0, 0)) (ZK BKq0.out) hg (Kd.R_ne HOq1.out BKq0.out (by decide))); replace BKq1 := Aside0.mk (blk_grown (g := gbq1) (o := .cells #[.slice none 0 0, .slice none 0 0] 26 (0, 0)) (ZK BKq1.out) hg (Kd.R_ne HOq1.out BKq1.out (by decide))); replace HOq2 := Aside0.mk (Kd.N_afterv (v := (.slice (some ⟨goq0, 0, none⟩) y268.length coq4)) (v1 := (.slice (some ⟨goq0, 0, none⟩) y268.length coq4)) (ok := (fun k_ => (w.heap.size ≤ k_) ∧ k_ ≠ g ∧ k_ ≠ gbq0 ∧ k_ ≠ gbq1 ∧ k_ ≠ gbq2)) (by (with_reducible repeat (first | apply Kd.N_alloc | apply Kd.N_drewN | apply Kd.N_drew)); exact Kd.N_mono HOq2.out (fun _ hk => ⟨⟨hk.1, ⟨hk.2.2.1, ⟨hk.2.2.2.1, ⟨hk.2.2.2.2.1, hk.2.2.2.2.2⟩⟩⟩⟩, hk.2.1⟩)) hg (.inl rfl)); replace BKq2 := Aside0.mk (blk_grown (g := gbq2) (o := .cells #[.slice (some ⟨goq0, 0, none⟩) y268.length coq4, .slice Aoq3 t271.length coq3] 26 (0, 0)) (ZK BKq2.out) hg (Kd.R_ne HOq1.out BKq2.out (by decide))); replace HB := Aside0.mk ((by rw [hw]; exact below_set (HB.out) (Nat.le_trans HL.out GBq0.out) : Below w0.heap.size w0 wq11)); replace HK := Aside0.mk (KeepBut.trans (ZJ) (KeepBut.of_grown hg g) (Kd.R_base2 HOq1.out)); replace HOq1 := Aside0.mk (hp_); clear hg hw hp_; obtain ⟨hczq1_0, hczq1_1⟩ := ZC2 wq11 BKq2; obtain ⟨hfzq1_0, hfzq1_1⟩ := ZF2 BKq2; have hnbq3 := NBq2_263.out; have hncq3 := NBq1_264.out; have hnbq4 := NBq2_0.out; have hncq4 := NBq0_264.out; obtain ⟨hczq2_0, hczq2_1⟩ := ZC2 wq11 BKq1; obtain ⟨hfzq2_0, hfzq2_1⟩ := ZF2 BKq1))
    refine bodyPost_ret (results_cell_row rfl _ _ gbq1 26 #[.slice (some ⟨goq0, 0, none⟩) y268.length coq4, .slice Aoq3 t271.length coq3] (0, 0) _ rfl (ZZ BKq1.out) Try.underlying26 rfl (by kernel_rfl)) rfl ?_
    exact ⟨_, _, ZE, by (with_reducible repeat (first | apply Kd.R_alloc | apply Kd.R_drewN | apply Kd.R_drew)); exact Kd.R_mono (Kd.R_far (p := ⟨gbq1, 1, none⟩) (Kd.R_far (p := ⟨gbq1, 0, none⟩) (Kd.R_types HOq1.out BKq1.out (by decide)) (fun _ hk => hk.2) (.slice (some ⟨goq0, 0, none⟩) y268.length coq4)) (fun _ hk => hk.2) (.slice Aoq3 t271.length coq3)) (fun _ hk => hk.1), by (with_reducible repeat (first | apply Kd.N_alloc | apply Kd.N_drewN | apply Kd.N_drew)); exact Kd.N_mono (Kd.N_far (p := ⟨gbq1, 1, none⟩) (Kd.N_far (p := ⟨gbq1, 0, none⟩) (Kd.N_mono HOq2.out (fun k_ hk => (⟨hk, hk.1.2.2.2.1⟩ : _ ∧ k_ ≠ gbq1))) (fun _ hk => hk.2) (.slice (some ⟨goq0, 0, none⟩) y268.length coq4)) (fun _ hk => hk.2) (.slice Aoq3 t271.length coq3)) (fun _ hk => ⟨hk.1.1.1, hk.1.2⟩), ZI, ZBI, ZJ⟩)
  | (
    (first | (have z_ := tag1_; clear z_) | (have z_ := tag3_; clear z_) | (have z_ := tag4_; clear z_) | (have z_ := tag5_; clear z_))
    try go_wp2_with (first | ((with_reducible refine gate_callee (f := 85) rfl ?_); refine goesL_ (some 16) rfl rfl Try.func85 (by kernel_rfl) rfl #[.pointer (some ⟨g, 0, none⟩), .int .i64 8] rfl ZG ?_; (with_reducible refine (spec_l6Rd_pick.calls k g s0_0 s0_1 8 t275 t276 w0 _ ?side1 ?side2 A5.out).mono ?_); (case side1 => exact ZI); (case side2 => exact ZBI); rintro e wq10 ⟨rfl, hi, hb, hk⟩; refine ⟨_, rfl, ?_⟩; replace BKq0 := ZLV #[.slice A1_0 l1_0.length c1_0, .slice A1_1 l1_1.length c1_1] hk BKq0 NBq1_0; replace BKq1 := ZLV #[.slice none 0 0, .slice none 0 0] hk BKq1 NBq2_0; replace HOq1 := Aside0.mk (Kd.R_mono (Kd.R_keep (IsS101.apart (show IsS101 w0 _ g s0_0 s0_1 from ZI) (ZR ((Kd.R_mono (Kd.R_far (p := ⟨gbq2, 1, none⟩) (Kd.R_far (p := ⟨gbq2, 0, none⟩) (Kd.R_types HOq1.out BKq2.out (by decide)) (fun _ hk => hk.2) (.slice Aoq4 y268.length coq4)) (fun _ hk => hk.2) (.slice Aoq3 t271.length coq3)) (fun _ h_ => h_.1)))) (by decide)) hk (fun _ h => h.2)) (fun _ h => h.1)); replace HOq2 := Aside0.mk (Kd.N_mono (Kd.N_keep (Kd.N_mono (ok := fun k_ => (((w.heap.size ≤ k_)) ∧ (some k_ ≠ (.slice Aoq4 y268.length coq4 : Value).ownBlock ∧ (k_ ≠ g ∧ (k_ ≠ gbq0 ∧ (k_ ≠ gbq1 ∧ k_ ≠ gbq2)))))) (by (with_reducible repeat (first | apply Kd.N_alloc | apply Kd.N_drewN | apply Kd.N_drew)); exact (Kd.N_mono (Kd.N_far (p := ⟨gbq2, 1, none⟩) (Kd.N_far (p := ⟨gbq2, 0, none⟩) (Kd.N_mono HOq2.out (fun k_ hk => (⟨hk, hk.2.2.2.2.2⟩ : _ ∧ k_ ≠ gbq2))) (fun _ hk => hk.2) (.slice Aoq4 y268.length coq4)) (fun _ hk => hk.2) (.slice Aoq3 t271.length coq3)) (fun _ h_ => h_.1))) (fun k_ hk_ => (⟨hk_, hk_.2.2.1⟩ : _ ∧ k_ ≠ g))) hk (fun _ h => h.2)) (fun _ h => h.1)); replace BKq2 := ZLV #[.slice Aoq4 y268.length coq4, .slice Aoq3 t271.length coq3] hk BKq2 NBq3_0; replace HK := ZKT HK hk; replace HB := Aside0.mk (hb); replace HI0 := Aside0.mk (hi); (try clear hb); (try clear hb2); (try clear hk); (try clear hi)))
    first
    | (
      (have z_ := tag1_; clear z_)
      replace HOq1 := Aside0.mk (Kd.R_drew HOq1.out)
      replace HOq2 := Aside0.mk (Kd.N_drew HOq2.out)
      replace BKq0 := Aside0.mk (blk_drew BKq0.out)
      replace BKq1 := Aside0.mk (blk_drew BKq1.out)
      replace BKq2 := Aside0.mk (blk_drew BKq2.out)
      replace HI0 := Aside0.mk (IsS101.drew HI0.out)
      replace HK := Aside0.mk (keep_drew HK.out)
      replace HB := Aside0.mk (below_drew1 HB.out)
      refine start_ (n := 10) (S := fun w' => w'.cell? ⟨gbq2, 0, none⟩ = some (.slice Aoq4 y268.length coq4) ∧ w'.cell? ⟨gbq2, 1, none⟩ = some (.slice Aoq3 t271.length coq3)) (ds := [9]) #[F,F,F,F,F,F,F,F,F,F] (by kernel_rfl) rfl rfl ⟨(blk_cell BKq2.out 0).trans rfl, (blk_cell BKq2.out 1).trans rfl⟩ (fun hHeld => ?_); refine with_tabW spec_l71Bent.tab7 spec_l71Bent.bits7 (fun HT_ HW_ => ?_)
      generalize wq10.drew = wq11 at HOq1 HOq2 BKq0 BKq1 BKq2 HI0 HK HB hHeld ⊢
      refine ZU 0 31 #[T,F,F,F,F,F,F,F,F,F] ?_
      refine ZU 2 33 #[T,F,T,F,F,F,F,F,F,F] ?_
      refine take_ (i := 1) (N := some 32) (v := ?_) (a' := ?_) #[T,T,T,F,F,F,F,F,F,F] rfl rfl (take_ofW HT_.out HW_.out (by kernel_rfl)) (fun _ _ _ h => h) (Or.inl ⟨by rfl, ?_⟩) hHeld ?_ ?_; rotate_left
      ·rintro w' ⟨sq0, sq1⟩
       go_simp
       with_reducible rfl
      rotate_left
      ·simp only [Act.put, List.setIfInBounds_toArray, List.set_cons_zero, List.set_cons_succ, i64_w, i32_w]; rfl
      refine one_ (i := 3) (N := some 34) #[T,T,T,T,F,F,F,F,F,F] rfl rfl (one_of HT_.out (by kernel_rfl)) (by decide) (fun K hK => ?_)
      refine goes_ Try.func85 (by kernel_rfl) rfl #[.pointer (some ⟨g, 0, none⟩), .int .i64 6] (by rfl) rfl rfl ZG ?_
      with_reducible refine (spec_l6Rd_pick.calls k g s0_0 t276 6 t278 t279 w0 _ ?side1 ?side2 A36.out).mono ?_
      (case side1 => exact ZI)
      (case side2 => exact ZBI)
      rintro e wq12 ⟨rfl, hi, hb, hk⟩
      refine ⟨_, rfl, ?_⟩
      replace BKq0 := ZL hk BKq0 NBq1_0
      replace BKq1 := ZL hk BKq1 NBq2_0
      replace HOq1 := Aside0.mk (Kd.R_mono (Kd.R_keep (IsS101.apart (show IsS101 w0 _ g s0_0 t276 from ZI) (ZR HOq1.out) (by decide)) hk (fun _ h => h.2)) (fun _ h => h.1))
      replace HOq2 := Aside0.mk (Kd.N_mono (Kd.N_keep (Kd.N_mono (ok := fun k_ => (((w.heap.size ≤ k_)) ∧ (some k_ ≠ (.slice Aoq4 y268.length coq4 : Value).ownBlock ∧ (k_ ≠ g ∧ (k_ ≠ gbq0 ∧ (k_ ≠ gbq1 ∧ k_ ≠ gbq2)))))) (ZRN HOq2.out) (fun k_ hk_ => (⟨hk_, hk_.2.2.1⟩ : _ ∧ k_ ≠ g))) hk (fun _ h => h.2)) (fun _ h => h.1))
      replace BKq2 := ZL hk BKq2 NBq3_0
      replace HK := ZKT HK hk
      replace HB := Aside0.mk (hb)
      replace HI0 := Aside0.mk (hi)
      (try clear hb)
      (try clear hb2)
      (try clear hk)
      (try clear hi)
      refine hK.out _ _ ⟨(blk_cell BKq2.out 0).trans rfl, (blk_cell BKq2.out 1).trans rfl⟩ (fun hHeld => ?_)
      clear hK K
      refine ZNO 34 ?_
      refine ZU 4 35 #[T,T,T,T,T,F,F,F,F,F] ?_
      refine ZU 5 36 #[T,T,T,T,T,T,F,F,F,F] ?_
      refine one_ (i := 6) (N := some 37) #[T,T,T,T,T,T,T,F,F,F] rfl rfl (one_of HT_.out (by kernel_rfl)) (by decide) (fun K hK => ?_)
      refine value_ (w1 := ?_) (v := ?_) (by rfl) rfl ?_ ?_
      rotate_left 2
      ·go_simp
       constructor
       ·rfl
       ·rfl
      refine hK.out _ _ ⟨(blk_cell (blk_alloc BKq2.out _) 0).trans rfl, (blk_cell (blk_alloc BKq2.out _) 1).trans rfl⟩ (fun hHeld => ?_)
      clear hK K
      refine ZNO 37 ?_
      refine one_ (i := 7) (N := some 38) #[T,T,T,T,T,T,T,T,F,F] rfl rfl (one_of HT_.out (by kernel_rfl)) (by decide) (fun K hK => ?_)
      refine Kd.N_append_step k59 w.heap.size (by rfl) (.tmp 32) (.tmp 37) 24 59 (.agg #[(.int .i64 0), (.int .i64 0), (.int .i64 0), (.int .i64 0), (.int .i64 0), (.int .i64 0), (.slice none 0 0), (.slice none 0 0)]) 96 rfl Try.underlying24 info59 rfl (by decide) (by omega) (.slice Aoq3 t271.length coq3) t271 (⟨wrap64 (t278 - 1), 0, (⟨0, 0, 0⟩ : S57), 0, ([] : List (S59)), ([] : List (S59))⟩ : S59) [.int .i64 (wrap64 (t278 - 1)), .int .i64 0, .int .i64 0, .int .i64 0, .int .i64 0, .int .i64 0, .slice none 0 0, .slice none 0 0] (fun k_ => (w.heap.size ≤ k_) ∧ some k_ ≠ (.slice Aoq4 y268.length coq4 : Value).ownBlock ∧ k_ ≠ gbq0 ∧ k_ ≠ gbq1 ∧ k_ ≠ gbq2 ∧ k_ ≠ g) (fun k_ => ((fun k_ => (w.heap.size ≤ k_) ∧ some k_ ≠ (.slice Aoq4 y268.length coq4 : Value).ownBlock ∧ k_ ≠ gbq0 ∧ k_ ≠ gbq1 ∧ k_ ≠ gbq2 ∧ k_ ≠ g)) k_ ∧ some k_ ≠ (.slice Aoq3 t271.length coq3 : Value).ownBlock) rfl rfl ?aP (fun _ hk => hk) ?aF ?aO (Below.refl _ _) ?aS ?aL ?_
      (case aP => exact (k59_mkF _ _ (⟨wrap64 (t278 - 1), 0, (⟨0, 0, 0⟩ : S57), 0, ([] : List (S59)), ([] : List (S59))⟩ : S59) (Nat.le_refl _) (Kd.F_nil _ _ _) (Nat.le_refl _) (Kd.F_nil _ _ _)))
      (case aF => exact (fun k_ hk => ⟨(Nat.le_trans (keep_size (w := w) (g := g) (row := none) (ZJ)) hk), Kd.fresh' (Kd.R_lt (ZR HOq1.out)) k_ hk, Kd.freshB (g := gbq0) (o := .cells #[.slice A1_0 l1_0.length c1_0, .slice A1_1 l1_1.length c1_1] 26 (0, 0)) (ZK BKq0.out) k_ hk, Kd.freshB (g := gbq1) (o := .cells #[.slice none 0 0, .slice none 0 0] 26 (0, 0)) (ZK BKq1.out) k_ hk, Kd.freshB (g := gbq2) (o := .cells #[.slice Aoq4 y268.length coq4, .slice Aoq3 t271.length coq3] 26 (0, 0)) (ZK BKq2.out) k_ hk, IsS101.fresh (ZI) k_ hk⟩))
      (case aO => exact (by (with_reducible repeat (first | apply Kd.N_alloc | apply Kd.N_drewN | apply Kd.N_drew)); exact Kd.N_mono HOq2.out (fun _ hk => ⟨hk.1, ⟨hk.2.1, ⟨hk.2.2.2.1, ⟨hk.2.2.2.2.1, ⟨hk.2.2.2.2.2, hk.2.2.1⟩⟩⟩⟩⟩)))
      (case aS => exact (keep_size (w := w) (g := g) (row := none) (ZJ)))
      (case aL => have := LMc37.out; omega)
      intro vq3 wq13 ho hb hg hat
      rw [← Ny280.out] at ho
      have nq0_ := Aside0.mk (IsS101.grown (ZI) hg (IsS101.own_neN HI0.out HOq2.out (by decide)))
      have nq1_ := Aside0.mk (blk_grown (g := gbq0) (o := .cells #[.slice A1_0 l1_0.length c1_0, .slice A1_1 l1_1.length c1_1] 26 (0, 0)) (ZK BKq0.out) hg (Kd.N_ne HOq2.out BKq0.out (by decide)))
      have nq2_ := Aside0.mk (blk_grown (g := gbq1) (o := .cells #[.slice none 0 0, .slice none 0 0] 26 (0, 0)) (ZK BKq1.out) hg (Kd.N_ne HOq2.out BKq1.out (by decide)))
      have nq3_ := Aside0.mk (Kd.R_over' (ZR HOq1.out) (Kd.N_typed (ZRN HOq2.out)) (by decide) hg)
      have nq4_ := Aside0.mk (blk_grown (g := gbq2) (o := .cells #[.slice Aoq4 y268.length coq4, .slice Aoq3 t271.length coq3] 26 (0, 0)) (ZK BKq2.out) hg (Kd.N_ne HOq2.out BKq2.out (by decide)))
      have nq5_ := Aside0.mk (below_weaken (ZBI) HL.out hb)
      have nq6_ := Aside0.mk (KeepBut.trans (ZJ) (KeepBut.of_grown hg g) (Kd.N_base2 HOq2.out))
      have nq7_ := Aside0.mk (ho)
      clear HI0; clear BKq0; clear BKq1; clear HOq1; clear BKq2; clear HB; clear HK; clear HOq2; have HI0 := nq0_; have BKq0 := nq1_; have BKq1 := nq2_; have HOq1 := nq3_; have BKq2 := nq4_; have HB := nq5_; have HK := nq6_; have HOq3 := nq7_; clear nq0_ nq1_ nq2_ nq3_ nq4_ nq5_ nq6_ nq7_; clear ho hb hg hat
      obtain ⟨Aoq5, coq5, eoq5⟩ := Kd.N_slice HOq3.out
      (first | subst eoq5 | (injection eoq5 with f1_ f2_ f3_; have fq0_ := f1_.symm; have fq1_ := f3_.symm; clear f1_ f2_ f3_; subst fq0_; subst fq1_))
      refine hK.out _ _ ⟨(blk_cell BKq2.out 0).trans rfl, (blk_cell BKq2.out 1).trans rfl⟩ (fun hHeld => ?_)
      clear hK K
      refine ZNO 38 ?_
      refine ZU 8 39 #[T,T,T,T,T,T,T,T,T,F] ?_
      refine last_ (i := 9) (N := none) #[T,T,T,T,T,T,T,T,T,T] rfl rfl (one_of HT_.out (by kernel_rfl)) (by decide) (fun K hK => ?_)
      have hsq2 : wq13.cell? ⟨gbq2, 1, none⟩ = some (.slice Aoq3 t271.length coq3) := (blk_cell BKq2.out 1).trans rfl
      have hfsq2 := blk_frozen BKq2.out 1
      have hnsq2_0 := NBq1_274.out
      have hnsq2_1 := NBq2_274.out
      have hmsq2_0 := NBq3_263.out
      have hmsq2_1 := NBq3_264.out
      refine skip_ (w1 := ?_) (by rfl) rfl ?_ ?_
      rotate_left
      ·go_simp
       rfl
      refine hK.out _ _ ?_
      clear hK K
      refine done_ (done_of HT_.out (by kernel_rfl)) ?_
      have hnbq0 := NBq3_263.out
      have hncq0 := NBq1_274.out
      have hnbq1 := NBq3_264.out
      have hncq1 := NBq2_274.out
      have hnbq2 := NBq3_0.out
      have hncq2 := NBq0_274.out
      obtain ⟨hczq0_0, hczq0_1⟩ := ZC2 wq13 BKq2
      obtain ⟨hfzq0_0, hfzq0_1⟩ := ZF2 BKq2
      have hnbq3 := NBq2_263.out
      have hncq3 := NBq1_264.out
      have hnbq4 := NBq2_0.out
      have hncq4 := NBq0_264.out
      obtain ⟨hczq1_0, hczq1_1⟩ := ZC2 wq13 BKq1
      obtain ⟨hfzq1_0, hfzq1_1⟩ := ZF2 BKq1
      try go_wp2
      refine bodyPost_ret (results_cell_row rfl _ _ gbq1 26 #[.slice Aoq4 y268.length coq4, .slice Aoq5 y280.length coq5] (0, 0) _ rfl (ZZ BKq1.out) Try.underlying26 rfl (by kernel_rfl)) rfl ?_
      exact ⟨_, _, ZE, by (with_reducible repeat (first | apply Kd.R_alloc | apply Kd.R_drewN | apply Kd.R_drew)); exact Kd.R_mono (Kd.R_far (p := ⟨gbq1, 1, none⟩) (Kd.R_far (p := ⟨gbq1, 0, none⟩) (Kd.R_far (p := ⟨gbq2, 1, none⟩) (Kd.R_types (Kd.R_types HOq1.out BKq2.out (by decide)) BKq1.out (by decide)) (fun _ hk => hk.1.2) (.slice Aoq5 y280.length coq5)) (fun _ hk => hk.2) (.slice Aoq4 y268.length coq4)) (fun _ hk => hk.2) (.slice Aoq5 y280.length coq5)) (fun _ hk => hk.1.1), by (with_reducible repeat (first | apply Kd.N_alloc | apply Kd.N_drewN | apply Kd.N_drew)); exact Kd.N_mono (Kd.N_far (p := ⟨gbq1, 1, none⟩) (Kd.N_far (p := ⟨gbq1, 0, none⟩) (Kd.N_far (p := ⟨gbq2, 1, none⟩) (Kd.N_mono (Kd.N_mono HOq3.out (fun k_ hk => (⟨hk, hk.2.2.2.2.1⟩ : _ ∧ k_ ≠ gbq2))) (fun k_ hk => (⟨hk, hk.1.2.2.2.1⟩ : _ ∧ k_ ≠ gbq1))) (fun _ hk => hk.1.2) (.slice Aoq5 y280.length coq5)) (fun _ hk => hk.2) (.slice Aoq4 y268.length coq4)) (fun _ hk => hk.2) (.slice Aoq5 y280.length coq5)) (fun _ hk => ⟨hk.1.1.1, hk.1.1.2.1⟩), ZI, ZBI, ZJ⟩)
    | (
      (have z_ := tag3_; clear z_)
      have piq0 : (0 ≤ (t289 : Int)) = True := eq_true (ZD)
      have qiq0 : (t289 < (y286.length : Int)) = True := eq_true (ZD)
      have piq1 : (0 ≤ (t295 : Int)) = True := eq_true (ZD)
      have qiq1 : (t295 < (y292.length : Int)) = True := eq_true (ZD)
      replace HOq1 := Aside0.mk (Kd.R_drew HOq1.out)
      replace HOq2 := Aside0.mk (Kd.N_drew HOq2.out)
      replace BKq0 := Aside0.mk (blk_drew BKq0.out)
      replace BKq1 := Aside0.mk (blk_drew BKq1.out)
      replace BKq2 := Aside0.mk (blk_drew BKq2.out)
      replace HI0 := Aside0.mk (IsS101.drew HI0.out)
      replace HK := Aside0.mk (keep_drew HK.out)
      replace HB := Aside0.mk (below_drew1 HB.out)
      refine start_ (n := 18) (S := fun w' => w'.cell? ⟨gbq2, 0, none⟩ = some (.slice Aoq4 y268.length coq4) ∧ w'.cell? ⟨gbq2, 1, none⟩ = some (.slice Aoq3 t271.length coq3)) (ds := [17]) #[F,F,F,F,F,F,F,F,F,F,F,F,F,F,F,F,F,F] (by kernel_rfl) rfl rfl ⟨(blk_cell BKq2.out 0).trans rfl, (blk_cell BKq2.out 1).trans rfl⟩ (fun hHeld => ?_); refine with_tabW spec_l71Bent.tab11 spec_l71Bent.bits11 (fun HT_ HW_ => ?_)
      generalize wq10.drew = wq11 at HOq1 HOq2 BKq0 BKq1 BKq2 HI0 HK HB hHeld ⊢
      refine ZU 0 54 #[T,F,F,F,F,F,F,F,F,F,F,F,F,F,F,F,F,F] ?_
      refine ZU 3 57 #[T,F,F,T,F,F,F,F,F,F,F,F,F,F,F,F,F,F] ?_
      refine ZU 8 62 #[T,F,F,T,F,F,F,F,T,F,F,F,F,F,F,F,F,F] ?_
      refine take_ (i := 1) (N := some 55) (v := ?_) (a' := ?_) #[T,T,F,T,F,F,F,F,T,F,F,F,F,F,F,F,F,F] rfl rfl (take_ofW HT_.out HW_.out (by kernel_rfl)) (fun _ _ _ h => h) (Or.inl ⟨by rfl, ?_⟩) hHeld ?_ ?_; rotate_left
      ·rintro w' ⟨sq0, sq1⟩
       go_simp
       with_reducible rfl
      rotate_left
      ·simp only [Act.put, List.setIfInBounds_toArray, List.set_cons_zero, List.set_cons_succ, i64_w, i32_w]; rfl
      refine join_ (σ := Value × Addr × Value × Addr) 6 #[T,T,T,T,T,T,T,T,T,T,T,T,F,F,F,F,F,F] (fun s_ => [(56, s_.1), (58, .int .i64 t289), (60, .int .i64 (rd y286 t289)), (61, s_.2.2.1), (63, .int .i64 t295), (65, .int .i64 (rd y292 t295)), (59, .pointer (some (s_.2.1.add (t289).toNat))), (64, .pointer (some (s_.2.2.2.add (t295).toNat)))]) (fun s_ w' => (w'.cell? ⟨gbq2, 0, none⟩ = some (.slice Aoq4 y268.length coq4) ∧ w'.cell? ⟨gbq2, 1, none⟩ = some (.slice Aoq3 t271.length coq3)) ∧ (Kd.R k35 35 w' w.heap.size (fun k_ => (w.heap.size ≤ k_)) (.slice Aoq4 y268.length coq4) y268) ∧ (Kd.N k59 59 w' w.heap.size (fun k_ => (w.heap.size ≤ k_) ∧ some k_ ≠ (.slice Aoq4 y268.length coq4 : Value).ownBlock ∧ some k_ ≠ (s_.1 : Value).ownBlock ∧ some k_ ≠ (s_.2.2.1 : Value).ownBlock ∧ k_ ≠ g ∧ k_ ≠ gbq0 ∧ k_ ≠ gbq1 ∧ k_ ≠ gbq2) (.slice Aoq3 t271.length coq3) t271) ∧ (Kd.R (Kd.int .i64) 3 w' w.heap.size (fun k_ => (w.heap.size ≤ k_) ∧ some k_ ≠ (s_.2.2.1 : Value).ownBlock) s_.1 y286) ∧ (Kd.R (Kd.int .i64) 3 w' w.heap.size (fun k_ => (w.heap.size ≤ k_) ∧ some k_ ≠ (s_.1 : Value).ownBlock) s_.2.2.1 y292) ∧ (∃ c_, (s_.1 : Value) = .slice (some s_.2.1) y286.length c_) ∧ (∃ c_, (s_.2.2.1 : Value) = .slice (some s_.2.2.2) y292.length c_) ∧ (w'.heap[gbq0]? = some (.cells #[.slice A1_0 l1_0.length c1_0, .slice A1_1 l1_1.length c1_1] 26 (0, 0))) ∧ (w'.heap[gbq1]? = some (.cells #[.slice none 0 0, .slice none 0 0] 26 (0, 0))) ∧ (w'.heap[gbq2]? = some (.cells #[.slice Aoq4 y268.length coq4, .slice Aoq3 t271.length coq3] 26 (0, 0))) ∧ (IsS101 w0 w' g s0_0 t296) ∧ (KeepBut w w' g none) ∧ (Below w0.heap.size w0 w')) ?_ ?_
      rotate_left
      ·intro hJq0_4_6_7_9_11
       refine join_ (σ := Value × Addr × Value × Addr) 7 #[T,T,T,T,T,T,T,T,T,T,T,F,F,F,F,F,F,F] (fun s_ => [(56, s_.1), (58, .int .i64 t289), (60, .int .i64 (rd y286 t289)), (61, s_.2.2.1), (63, .int .i64 t295), (59, .pointer (some (s_.2.1.add (t289).toNat))), (64, .pointer (some (s_.2.2.2.add (t295).toNat)))]) (fun s_ w' => (w'.cell? ⟨gbq2, 0, none⟩ = some (.slice Aoq4 y268.length coq4) ∧ w'.cell? ⟨gbq2, 1, none⟩ = some (.slice Aoq3 t271.length coq3)) ∧ (Kd.R k35 35 w' w.heap.size (fun k_ => (w.heap.size ≤ k_)) (.slice Aoq4 y268.length coq4) y268) ∧ (Kd.N k59 59 w' w.heap.size (fun k_ => (w.heap.size ≤ k_) ∧ some k_ ≠ (.slice Aoq4 y268.length coq4 : Value).ownBlock ∧ some k_ ≠ (s_.1 : Value).ownBlock ∧ some k_ ≠ (s_.2.2.1 : Value).ownBlock ∧ k_ ≠ g ∧ k_ ≠ gbq0 ∧ k_ ≠ gbq1 ∧ k_ ≠ gbq2) (.slice Aoq3 t271.length coq3) t271) ∧ (Kd.R (Kd.int .i64) 3 w' w.heap.size (fun k_ => (w.heap.size ≤ k_) ∧ some k_ ≠ (s_.2.2.1 : Value).ownBlock) s_.1 y286) ∧ (Kd.R (Kd.int .i64) 3 w' w.heap.size (fun k_ => (w.heap.size ≤ k_) ∧ some k_ ≠ (s_.1 : Value).ownBlock) s_.2.2.1 y292) ∧ (∃ c_, (s_.1 : Value) = .slice (some s_.2.1) y286.length c_) ∧ (∃ c_, (s_.2.2.1 : Value) = .slice (some s_.2.2.2) y292.length c_) ∧ (w'.heap[gbq0]? = some (.cells #[.slice A1_0 l1_0.length c1_0, .slice A1_1 l1_1.length c1_1] 26 (0, 0))) ∧ (w'.heap[gbq1]? = some (.cells #[.slice none 0 0, .slice none 0 0] 26 (0, 0))) ∧ (w'.heap[gbq2]? = some (.cells #[.slice Aoq4 y268.length coq4, .slice Aoq3 t271.length coq3] 26 (0, 0))) ∧ (IsS101 w0 w' g s0_0 t296) ∧ (KeepBut w w' g none) ∧ (Below w0.heap.size w0 w')) ?_ ?_
       rotate_left
       ·intro hJq0_4_6_7_9
        refine join_ (σ := Value × Addr × Value × Addr) 7 #[T,T,T,T,T,T,F,T,T,T,T,T,F,F,F,F,F,F] (fun s_ => [(56, s_.1), (58, .int .i64 t289), (61, s_.2.2.1), (63, .int .i64 t295), (65, .int .i64 (rd y292 t295)), (59, .pointer (some (s_.2.1.add (t289).toNat))), (64, .pointer (some (s_.2.2.2.add (t295).toNat)))]) (fun s_ w' => (w'.cell? ⟨gbq2, 0, none⟩ = some (.slice Aoq4 y268.length coq4) ∧ w'.cell? ⟨gbq2, 1, none⟩ = some (.slice Aoq3 t271.length coq3)) ∧ (Kd.R k35 35 w' w.heap.size (fun k_ => (w.heap.size ≤ k_)) (.slice Aoq4 y268.length coq4) y268) ∧ (Kd.N k59 59 w' w.heap.size (fun k_ => (w.heap.size ≤ k_) ∧ some k_ ≠ (.slice Aoq4 y268.length coq4 : Value).ownBlock ∧ some k_ ≠ (s_.1 : Value).ownBlock ∧ some k_ ≠ (s_.2.2.1 : Value).ownBlock ∧ k_ ≠ g ∧ k_ ≠ gbq0 ∧ k_ ≠ gbq1 ∧ k_ ≠ gbq2) (.slice Aoq3 t271.length coq3) t271) ∧ (Kd.R (Kd.int .i64) 3 w' w.heap.size (fun k_ => (w.heap.size ≤ k_) ∧ some k_ ≠ (s_.2.2.1 : Value).ownBlock) s_.1 y286) ∧ (Kd.R (Kd.int .i64) 3 w' w.heap.size (fun k_ => (w.heap.size ≤ k_) ∧ some k_ ≠ (s_.1 : Value).ownBlock) s_.2.2.1 y292) ∧ (∃ c_, (s_.1 : Value) = .slice (some s_.2.1) y286.length c_) ∧ (∃ c_, (s_.2.2.1 : Value) = .slice (some s_.2.2.2) y292.length c_) ∧ (w'.heap[gbq0]? = some (.cells #[.slice A1_0 l1_0.length c1_0, .slice A1_1 l1_1.length c1_1] 26 (0, 0))) ∧ (w'.heap[gbq1]? = some (.cells #[.slice none 0 0, .slice none 0 0] 26 (0, 0))) ∧ (w'.heap[gbq2]? = some (.cells #[.slice Aoq4 y268.length coq4, .slice Aoq3 t271.length coq3] 26 (0, 0))) ∧ (IsS101 w0 w' g s0_0 t296) ∧ (KeepBut w w' g none) ∧ (Below w0.heap.size w0 w')) ?_ ?_
        rotate_left
        ·intro hJq0_4_7_9_11
         refine join_ (σ := Value × Addr × Value × Addr) 9 #[T,T,T,T,T,T,T,T,T,F,F,F,F,F,F,F,F,F] (fun s_ => [(56, s_.1), (58, .int .i64 t289), (60, .int .i64 (rd y286 t289)), (61, s_.2.2.1), (59, .pointer (some (s_.2.1.add (t289).toNat)))]) (fun s_ w' => (w'.cell? ⟨gbq2, 0, none⟩ = some (.slice Aoq4 y268.length coq4) ∧ w'.cell? ⟨gbq2, 1, none⟩ = some (.slice Aoq3 t271.length coq3)) ∧ (Kd.R k35 35 w' w.heap.size (fun k_ => (w.heap.size ≤ k_)) (.slice Aoq4 y268.length coq4) y268) ∧ (Kd.N k59 59 w' w.heap.size (fun k_ => (w.heap.size ≤ k_) ∧ some k_ ≠ (.slice Aoq4 y268.length coq4 : Value).ownBlock ∧ some k_ ≠ (s_.1 : Value).ownBlock ∧ some k_ ≠ (s_.2.2.1 : Value).ownBlock ∧ k_ ≠ g ∧ k_ ≠ gbq0 ∧ k_ ≠ gbq1 ∧ k_ ≠ gbq2) (.slice Aoq3 t271.length coq3) t271) ∧ (Kd.R (Kd.int .i64) 3 w' w.heap.size (fun k_ => (w.heap.size ≤ k_) ∧ some k_ ≠ (s_.2.2.1 : Value).ownBlock) s_.1 y286) ∧ (Kd.R (Kd.int .i64) 3 w' w.heap.size (fun k_ => (w.heap.size ≤ k_) ∧ some k_ ≠ (s_.1 : Value).ownBlock) s_.2.2.1 y292) ∧ (∃ c_, (s_.1 : Value) = .slice (some s_.2.1) y286.length c_) ∧ (∃ c_, (s_.2.2.1 : Value) = .slice (some s_.2.2.2) y292.length c_) ∧ (w'.heap[gbq0]? = some (.cells #[.slice A1_0 l1_0.length c1_0, .slice A1_1 l1_1.length c1_1] 26 (0, 0))) ∧ (w'.heap[gbq1]? = some (.cells #[.slice none 0 0, .slice none 0 0] 26 (0, 0))) ∧ (w'.heap[gbq2]? = some (.cells #[.slice Aoq4 y268.length coq4, .slice Aoq3 t271.length coq3] 26 (0, 0))) ∧ (IsS101 w0 w' g s0_0 t290) ∧ (KeepBut w w' g none) ∧ (Below w0.heap.size w0 w')) ?_ ?_
         rotate_left
         ·intro hJq0_4_6_7
          refine join_ (σ := Value × Addr) 9 #[T,T,T,T,T,T,T,F,T,T,F,F,F,F,F,F,F,F] (fun s_ => [(56, s_.1), (58, .int .i64 t289), (60, .int .i64 (rd y286 t289)), (63, .int .i64 t295), (59, .pointer (some (s_.2.add (t289).toNat)))]) (fun s_ w' => (w'.cell? ⟨gbq2, 0, none⟩ = some (.slice Aoq4 y268.length coq4) ∧ w'.cell? ⟨gbq2, 1, none⟩ = some (.slice Aoq3 t271.length coq3)) ∧ (Kd.R k35 35 w' w.heap.size (fun k_ => (w.heap.size ≤ k_)) (.slice Aoq4 y268.length coq4) y268) ∧ (Kd.N k59 59 w' w.heap.size (fun k_ => (w.heap.size ≤ k_) ∧ some k_ ≠ (.slice Aoq4 y268.length coq4 : Value).ownBlock ∧ some k_ ≠ (s_.1 : Value).ownBlock ∧ k_ ≠ g ∧ k_ ≠ gbq0 ∧ k_ ≠ gbq1 ∧ k_ ≠ gbq2) (.slice Aoq3 t271.length coq3) t271) ∧ (Kd.R (Kd.int .i64) 3 w' w.heap.size (fun k_ => (w.heap.size ≤ k_)) s_.1 y286) ∧ (∃ c_, (s_.1 : Value) = .slice (some s_.2) y286.length c_) ∧ (w'.heap[gbq0]? = some (.cells #[.slice A1_0 l1_0.length c1_0, .slice A1_1 l1_1.length c1_1] 26 (0, 0))) ∧ (w'.heap[gbq1]? = some (.cells #[.slice none 0 0, .slice none 0 0] 26 (0, 0))) ∧ (w'.heap[gbq2]? = some (.cells #[.slice Aoq4 y268.length coq4, .slice Aoq3 t271.length coq3] 26 (0, 0))) ∧ (IsS101 w0 w' g s0_0 t296) ∧ (KeepBut w w' g none) ∧ (Below w0.heap.size w0 w')) ?_ ?_
          rotate_left
          ·intro hJq0_4_6_9
           refine join_ (σ := Value × Addr × Value × Addr) 8 #[T,T,T,T,T,T,F,T,T,T,T,F,F,F,F,F,F,F] (fun s_ => [(56, s_.1), (58, .int .i64 t289), (61, s_.2.2.1), (63, .int .i64 t295), (59, .pointer (some (s_.2.1.add (t289).toNat))), (64, .pointer (some (s_.2.2.2.add (t295).toNat)))]) (fun s_ w' => (w'.cell? ⟨gbq2, 0, none⟩ = some (.slice Aoq4 y268.length coq4) ∧ w'.cell? ⟨gbq2, 1, none⟩ = some (.slice Aoq3 t271.length coq3)) ∧ (Kd.R k35 35 w' w.heap.size (fun k_ => (w.heap.size ≤ k_)) (.slice Aoq4 y268.length coq4) y268) ∧ (Kd.N k59 59 w' w.heap.size (fun k_ => (w.heap.size ≤ k_) ∧ some k_ ≠ (.slice Aoq4 y268.length coq4 : Value).ownBlock ∧ some k_ ≠ (s_.1 : Value).ownBlock ∧ some k_ ≠ (s_.2.2.1 : Value).ownBlock ∧ k_ ≠ g ∧ k_ ≠ gbq0 ∧ k_ ≠ gbq1 ∧ k_ ≠ gbq2) (.slice Aoq3 t271.length coq3) t271) ∧ (Kd.R (Kd.int .i64) 3 w' w.heap.size (fun k_ => (w.heap.size ≤ k_) ∧ some k_ ≠ (s_.2.2.1 : Value).ownBlock) s_.1 y286) ∧ (Kd.R (Kd.int .i64) 3 w' w.heap.size (fun k_ => (w.heap.size ≤ k_) ∧ some k_ ≠ (s_.1 : Value).ownBlock) s_.2.2.1 y292) ∧ (∃ c_, (s_.1 : Value) = .slice (some s_.2.1) y286.length c_) ∧ (∃ c_, (s_.2.2.1 : Value) = .slice (some s_.2.2.2) y292.length c_) ∧ (w'.heap[gbq0]? = some (.cells #[.slice A1_0 l1_0.length c1_0, .slice A1_1 l1_1.length c1_1] 26 (0, 0))) ∧ (w'.heap[gbq1]? = some (.cells #[.slice none 0 0, .slice none 0 0] 26 (0, 0))) ∧ (w'.heap[gbq2]? = some (.cells #[.slice Aoq4 y268.length coq4, .slice Aoq3 t271.length coq3] 26 (0, 0))) ∧ (IsS101 w0 w' g s0_0 t296) ∧ (KeepBut w w' g none) ∧ (Below w0.heap.size w0 w')) ?_ ?_
           rotate_left
           ·intro hJq0_4_7_9
            refine join_ (σ := Value × Addr) 9 #[T,T,F,T,T,F,F,T,T,T,T,T,F,F,F,F,F,F] (fun s_ => [(58, .int .i64 t289), (61, s_.1), (63, .int .i64 t295), (65, .int .i64 (rd y292 t295)), (64, .pointer (some (s_.2.add (t295).toNat)))]) (fun s_ w' => (w'.cell? ⟨gbq2, 0, none⟩ = some (.slice Aoq4 y268.length coq4) ∧ w'.cell? ⟨gbq2, 1, none⟩ = some (.slice Aoq3 t271.length coq3)) ∧ (Kd.R k35 35 w' w.heap.size (fun k_ => (w.heap.size ≤ k_)) (.slice Aoq4 y268.length coq4) y268) ∧ (Kd.N k59 59 w' w.heap.size (fun k_ => (w.heap.size ≤ k_) ∧ some k_ ≠ (.slice Aoq4 y268.length coq4 : Value).ownBlock ∧ some k_ ≠ (s_.1 : Value).ownBlock ∧ k_ ≠ g ∧ k_ ≠ gbq0 ∧ k_ ≠ gbq1 ∧ k_ ≠ gbq2) (.slice Aoq3 t271.length coq3) t271) ∧ (Kd.R (Kd.int .i64) 3 w' w.heap.size (fun k_ => (w.heap.size ≤ k_)) s_.1 y292) ∧ (∃ c_, (s_.1 : Value) = .slice (some s_.2) y292.length c_) ∧ (w'.heap[gbq0]? = some (.cells #[.slice A1_0 l1_0.length c1_0, .slice A1_1 l1_1.length c1_1] 26 (0, 0))) ∧ (w'.heap[gbq1]? = some (.cells #[.slice none 0 0, .slice none 0 0] 26 (0, 0))) ∧ (w'.heap[gbq2]? = some (.cells #[.slice Aoq4 y268.length coq4, .slice Aoq3 t271.length coq3] 26 (0, 0))) ∧ (IsS101 w0 w' g s0_0 t296) ∧ (KeepBut w w' g none) ∧ (Below w0.heap.size w0 w')) ?_ ?_
            rotate_left
            ·intro hJq1_7_9_11
             refine join_ (σ := Value × Addr) 10 #[T,T,T,T,T,T,T,F,T,F,F,F,F,F,F,F,F,F] (fun s_ => [(56, s_.1), (58, .int .i64 t289), (60, .int .i64 (rd y286 t289)), (59, .pointer (some (s_.2.add (t289).toNat)))]) (fun s_ w' => (w'.cell? ⟨gbq2, 0, none⟩ = some (.slice Aoq4 y268.length coq4) ∧ w'.cell? ⟨gbq2, 1, none⟩ = some (.slice Aoq3 t271.length coq3)) ∧ (Kd.R k35 35 w' w.heap.size (fun k_ => (w.heap.size ≤ k_)) (.slice Aoq4 y268.length coq4) y268) ∧ (Kd.N k59 59 w' w.heap.size (fun k_ => (w.heap.size ≤ k_) ∧ some k_ ≠ (.slice Aoq4 y268.length coq4 : Value).ownBlock ∧ some k_ ≠ (s_.1 : Value).ownBlock ∧ k_ ≠ g ∧ k_ ≠ gbq0 ∧ k_ ≠ gbq1 ∧ k_ ≠ gbq2) (.slice Aoq3 t271.length coq3) t271) ∧ (Kd.R (Kd.int .i64) 3 w' w.heap.size (fun k_ => (w.heap.size ≤ k_)) s_.1 y286) ∧ (∃ c_, (s_.1 : Value) = .slice (some s_.2) y286.length c_) ∧ (w'.heap[gbq0]? = some (.cells #[.slice A1_0 l1_0.length c1_0, .slice A1_1 l1_1.length c1_1] 26 (0, 0))) ∧ (w'.heap[gbq1]? = some (.cells #[.slice none 0 0, .slice none 0 0] 26 (0, 0))) ∧ (w'.heap[gbq2]? = some (.cells #[.slice Aoq4 y268.length coq4, .slice Aoq3 t271.length coq3] 26 (0, 0))) ∧ (IsS101 w0 w' g s0_0 t290) ∧ (KeepBut w w' g none) ∧ (Below w0.heap.size w0 w')) ?_ ?_
             rotate_left
             ·intro hJq0_4_6
              refine join_ (σ := Value × Addr × Value × Addr) 10 #[T,T,T,T,T,T,F,T,T,F,F,F,F,F,F,F,F,F] (fun s_ => [(56, s_.1), (58, .int .i64 t289), (61, s_.2.2.1), (59, .pointer (some (s_.2.1.add (t289).toNat)))]) (fun s_ w' => (w'.cell? ⟨gbq2, 0, none⟩ = some (.slice Aoq4 y268.length coq4) ∧ w'.cell? ⟨gbq2, 1, none⟩ = some (.slice Aoq3 t271.length coq3)) ∧ (Kd.R k35 35 w' w.heap.size (fun k_ => (w.heap.size ≤ k_)) (.slice Aoq4 y268.length coq4) y268) ∧ (Kd.N k59 59 w' w.heap.size (fun k_ => (w.heap.size ≤ k_) ∧ some k_ ≠ (.slice Aoq4 y268.length coq4 : Value).ownBlock ∧ some k_ ≠ (s_.1 : Value).ownBlock ∧ some k_ ≠ (s_.2.2.1 : Value).ownBlock ∧ k_ ≠ g ∧ k_ ≠ gbq0 ∧ k_ ≠ gbq1 ∧ k_ ≠ gbq2) (.slice Aoq3 t271.length coq3) t271) ∧ (Kd.R (Kd.int .i64) 3 w' w.heap.size (fun k_ => (w.heap.size ≤ k_) ∧ some k_ ≠ (s_.2.2.1 : Value).ownBlock) s_.1 y286) ∧ (Kd.R (Kd.int .i64) 3 w' w.heap.size (fun k_ => (w.heap.size ≤ k_) ∧ some k_ ≠ (s_.1 : Value).ownBlock) s_.2.2.1 y292) ∧ (∃ c_, (s_.1 : Value) = .slice (some s_.2.1) y286.length c_) ∧ (∃ c_, (s_.2.2.1 : Value) = .slice (some s_.2.2.2) y292.length c_) ∧ (w'.heap[gbq0]? = some (.cells #[.slice A1_0 l1_0.length c1_0, .slice A1_1 l1_1.length c1_1] 26 (0, 0))) ∧ (w'.heap[gbq1]? = some (.cells #[.slice none 0 0, .slice none 0 0] 26 (0, 0))) ∧ (w'.heap[gbq2]? = some (.cells #[.slice Aoq4 y268.length coq4, .slice Aoq3 t271.length coq3] 26 (0, 0))) ∧ (IsS101 w0 w' g s0_0 t290) ∧ (KeepBut w w' g none) ∧ (Below w0.heap.size w0 w')) ?_ ?_
              rotate_left
              ·intro hJq0_4_7
               refine join_ (σ := Value × Addr) 10 #[T,T,T,T,T,T,F,F,T,T,F,F,F,F,F,F,F,F] (fun s_ => [(56, s_.1), (58, .int .i64 t289), (63, .int .i64 t295), (59, .pointer (some (s_.2.add (t289).toNat)))]) (fun s_ w' => (w'.cell? ⟨gbq2, 0, none⟩ = some (.slice Aoq4 y268.length coq4) ∧ w'.cell? ⟨gbq2, 1, none⟩ = some (.slice Aoq3 t271.length coq3)) ∧ (Kd.R k35 35 w' w.heap.size (fun k_ => (w.heap.size ≤ k_)) (.slice Aoq4 y268.length coq4) y268) ∧ (Kd.N k59 59 w' w.heap.size (fun k_ => (w.heap.size ≤ k_) ∧ some k_ ≠ (.slice Aoq4 y268.length coq4 : Value).ownBlock ∧ some k_ ≠ (s_.1 : Value).ownBlock ∧ k_ ≠ g ∧ k_ ≠ gbq0 ∧ k_ ≠ gbq1 ∧ k_ ≠ gbq2) (.slice Aoq3 t271.length coq3) t271) ∧ (Kd.R (Kd.int .i64) 3 w' w.heap.size (fun k_ => (w.heap.size ≤ k_)) s_.1 y286) ∧ (∃ c_, (s_.1 : Value) = .slice (some s_.2) y286.length c_) ∧ (w'.heap[gbq0]? = some (.cells #[.slice A1_0 l1_0.length c1_0, .slice A1_1 l1_1.length c1_1] 26 (0, 0))) ∧ (w'.heap[gbq1]? = some (.cells #[.slice none 0 0, .slice none 0 0] 26 (0, 0))) ∧ (w'.heap[gbq2]? = some (.cells #[.slice Aoq4 y268.length coq4, .slice Aoq3 t271.length coq3] 26 (0, 0))) ∧ (IsS101 w0 w' g s0_0 t296) ∧ (KeepBut w w' g none) ∧ (Below w0.heap.size w0 w')) ?_ ?_
               rotate_left
               ·intro hJq0_4_9
                refine join_ (σ := Value × Addr) 10 #[T,T,F,T,T,F,F,T,T,T,T,F,F,F,F,F,F,F] (fun s_ => [(58, .int .i64 t289), (61, s_.1), (63, .int .i64 t295), (64, .pointer (some (s_.2.add (t295).toNat)))]) (fun s_ w' => (w'.cell? ⟨gbq2, 0, none⟩ = some (.slice Aoq4 y268.length coq4) ∧ w'.cell? ⟨gbq2, 1, none⟩ = some (.slice Aoq3 t271.length coq3)) ∧ (Kd.R k35 35 w' w.heap.size (fun k_ => (w.heap.size ≤ k_)) (.slice Aoq4 y268.length coq4) y268) ∧ (Kd.N k59 59 w' w.heap.size (fun k_ => (w.heap.size ≤ k_) ∧ some k_ ≠ (.slice Aoq4 y268.length coq4 : Value).ownBlock ∧ some k_ ≠ (s_.1 : Value).ownBlock ∧ k_ ≠ g ∧ k_ ≠ gbq0 ∧ k_ ≠ gbq1 ∧ k_ ≠ gbq2) (.slice Aoq3 t271.length coq3) t271) ∧ (Kd.R (Kd.int .i64) 3 w' w.heap.size (fun k_ => (w.heap.size ≤ k_)) s_.1 y292) ∧ (∃ c_, (s_.1 : Value) = .slice (some s_.2) y292.length c_) ∧ (w'.heap[gbq0]? = some (.cells #[.slice A1_0 l1_0.length c1_0, .slice A1_1 l1_1.length c1_1] 26 (0, 0))) ∧ (w'.heap[gbq1]? = some (.cells #[.slice none 0 0, .slice none 0 0] 26 (0, 0))) ∧ (w'.heap[gbq2]? = some (.cells #[.slice Aoq4 y268.length coq4, .slice Aoq3 t271.length coq3] 26 (0, 0))) ∧ (IsS101 w0 w' g s0_0 t296) ∧ (KeepBut w w' g none) ∧ (Below w0.heap.size w0 w')) ?_ ?_
                rotate_left
                ·intro hJq1_7_9
                 refine join_ (σ := Value × Addr) 11 #[T,T,T,T,T,T,F,F,T,F,F,F,F,F,F,F,F,F] (fun s_ => [(56, s_.1), (58, .int .i64 t289), (59, .pointer (some (s_.2.add (t289).toNat)))]) (fun s_ w' => (w'.cell? ⟨gbq2, 0, none⟩ = some (.slice Aoq4 y268.length coq4) ∧ w'.cell? ⟨gbq2, 1, none⟩ = some (.slice Aoq3 t271.length coq3)) ∧ (Kd.R k35 35 w' w.heap.size (fun k_ => (w.heap.size ≤ k_)) (.slice Aoq4 y268.length coq4) y268) ∧ (Kd.N k59 59 w' w.heap.size (fun k_ => (w.heap.size ≤ k_) ∧ some k_ ≠ (.slice Aoq4 y268.length coq4 : Value).ownBlock ∧ some k_ ≠ (s_.1 : Value).ownBlock ∧ k_ ≠ g ∧ k_ ≠ gbq0 ∧ k_ ≠ gbq1 ∧ k_ ≠ gbq2) (.slice Aoq3 t271.length coq3) t271) ∧ (Kd.R (Kd.int .i64) 3 w' w.heap.size (fun k_ => (w.heap.size ≤ k_)) s_.1 y286) ∧ (∃ c_, (s_.1 : Value) = .slice (some s_.2) y286.length c_) ∧ (w'.heap[gbq0]? = some (.cells #[.slice A1_0 l1_0.length c1_0, .slice A1_1 l1_1.length c1_1] 26 (0, 0))) ∧ (w'.heap[gbq1]? = some (.cells #[.slice none 0 0, .slice none 0 0] 26 (0, 0))) ∧ (w'.heap[gbq2]? = some (.cells #[.slice Aoq4 y268.length coq4, .slice Aoq3 t271.length coq3] 26 (0, 0))) ∧ (IsS101 w0 w' g s0_0 t290) ∧ (KeepBut w w' g none) ∧ (Below w0.heap.size w0 w')) ?_ ?_
                 rotate_left
                 ·intro hJq0_4
                  refine join_ (σ := Value × Addr × Value × Addr) 12 #[T,T,T,T,F,F,F,T,T,F,F,F,F,F,F,F,F,F] (fun s_ => [(56, s_.1), (61, s_.2.2.1)]) (fun s_ w' => (w'.cell? ⟨gbq2, 0, none⟩ = some (.slice Aoq4 y268.length coq4) ∧ w'.cell? ⟨gbq2, 1, none⟩ = some (.slice Aoq3 t271.length coq3)) ∧ (Kd.R k35 35 w' w.heap.size (fun k_ => (w.heap.size ≤ k_)) (.slice Aoq4 y268.length coq4) y268) ∧ (Kd.N k59 59 w' w.heap.size (fun k_ => (w.heap.size ≤ k_) ∧ some k_ ≠ (.slice Aoq4 y268.length coq4 : Value).ownBlock ∧ some k_ ≠ (s_.1 : Value).ownBlock ∧ some k_ ≠ (s_.2.2.1 : Value).ownBlock ∧ k_ ≠ g ∧ k_ ≠ gbq0 ∧ k_ ≠ gbq1 ∧ k_ ≠ gbq2) (.slice Aoq3 t271.length coq3) t271) ∧ (Kd.R (Kd.int .i64) 3 w' w.heap.size (fun k_ => (w.heap.size ≤ k_) ∧ some k_ ≠ (s_.2.2.1 : Value).ownBlock) s_.1 y286) ∧ (Kd.R (Kd.int .i64) 3 w' w.heap.size (fun k_ => (w.heap.size ≤ k_) ∧ some k_ ≠ (s_.1 : Value).ownBlock) s_.2.2.1 y292) ∧ (∃ c_, (s_.1 : Value) = .slice (some s_.2.1) y286.length c_) ∧ (∃ c_, (s_.2.2.1 : Value) = .slice (some s_.2.2.2) y292.length c_) ∧ (w'.heap[gbq0]? = some (.cells #[.slice A1_0 l1_0.length c1_0, .slice A1_1 l1_1.length c1_1] 26 (0, 0))) ∧ (w'.heap[gbq1]? = some (.cells #[.slice none 0 0, .slice none 0 0] 26 (0, 0))) ∧ (w'.heap[gbq2]? = some (.cells #[.slice Aoq4 y268.length coq4, .slice Aoq3 t271.length coq3] 26 (0, 0))) ∧ (IsS101 w0 w' g s0_0 t276) ∧ (KeepBut w w' g none) ∧ (Below w0.heap.size w0 w')) ?_ ?_
                  rotate_left
                  ·intro hJq0_7
                   refine join_ (σ := Value × Addr) 12 #[T,T,F,T,T,F,F,T,T,F,F,F,F,F,F,F,F,F] (fun s_ => [(58, .int .i64 t289), (61, s_.1)]) (fun s_ w' => (w'.cell? ⟨gbq2, 0, none⟩ = some (.slice Aoq4 y268.length coq4) ∧ w'.cell? ⟨gbq2, 1, none⟩ = some (.slice Aoq3 t271.length coq3)) ∧ (Kd.R k35 35 w' w.heap.size (fun k_ => (w.heap.size ≤ k_)) (.slice Aoq4 y268.length coq4) y268) ∧ (Kd.N k59 59 w' w.heap.size (fun k_ => (w.heap.size ≤ k_) ∧ some k_ ≠ (.slice Aoq4 y268.length coq4 : Value).ownBlock ∧ some k_ ≠ (s_.1 : Value).ownBlock ∧ k_ ≠ g ∧ k_ ≠ gbq0 ∧ k_ ≠ gbq1 ∧ k_ ≠ gbq2) (.slice Aoq3 t271.length coq3) t271) ∧ (Kd.R (Kd.int .i64) 3 w' w.heap.size (fun k_ => (w.heap.size ≤ k_)) s_.1 y292) ∧ (∃ c_, (s_.1 : Value) = .slice (some s_.2) y292.length c_) ∧ (w'.heap[gbq0]? = some (.cells #[.slice A1_0 l1_0.length c1_0, .slice A1_1 l1_1.length c1_1] 26 (0, 0))) ∧ (w'.heap[gbq1]? = some (.cells #[.slice none 0 0, .slice none 0 0] 26 (0, 0))) ∧ (w'.heap[gbq2]? = some (.cells #[.slice Aoq4 y268.length coq4, .slice Aoq3 t271.length coq3] 26 (0, 0))) ∧ (IsS101 w0 w' g s0_0 t290) ∧ (KeepBut w w' g none) ∧ (Below w0.heap.size w0 w')) ?_ ?_
                   rotate_left
                   ·intro hJq1_7
                    refine join_ (σ := Unit) 12 #[T,T,F,T,T,F,F,F,T,T,F,F,F,F,F,F,F,F] (fun s_ => [(58, .int .i64 t289), (63, .int .i64 t295)]) (fun s_ w' => (w'.cell? ⟨gbq2, 0, none⟩ = some (.slice Aoq4 y268.length coq4) ∧ w'.cell? ⟨gbq2, 1, none⟩ = some (.slice Aoq3 t271.length coq3)) ∧ (Kd.R k35 35 w' w.heap.size (fun k_ => (w.heap.size ≤ k_)) (.slice Aoq4 y268.length coq4) y268) ∧ (Kd.N k59 59 w' w.heap.size (fun k_ => (w.heap.size ≤ k_) ∧ some k_ ≠ (.slice Aoq4 y268.length coq4 : Value).ownBlock ∧ k_ ≠ g ∧ k_ ≠ gbq0 ∧ k_ ≠ gbq1 ∧ k_ ≠ gbq2) (.slice Aoq3 t271.length coq3) t271) ∧ (w'.heap[gbq0]? = some (.cells #[.slice A1_0 l1_0.length c1_0, .slice A1_1 l1_1.length c1_1] 26 (0, 0))) ∧ (w'.heap[gbq1]? = some (.cells #[.slice none 0 0, .slice none 0 0] 26 (0, 0))) ∧ (w'.heap[gbq2]? = some (.cells #[.slice Aoq4 y268.length coq4, .slice Aoq3 t271.length coq3] 26 (0, 0))) ∧ (IsS101 w0 w' g s0_0 t296) ∧ (KeepBut w w' g none) ∧ (Below w0.heap.size w0 w')) ?_ ?_
                    rotate_left
                    ·intro hJq1_9
                     refine join_ (σ := Value × Addr) 13 #[T,T,T,T,F,F,F,F,T,F,F,F,F,F,F,F,F,F] (fun s_ => [(56, s_.1)]) (fun s_ w' => (w'.cell? ⟨gbq2, 0, none⟩ = some (.slice Aoq4 y268.length coq4) ∧ w'.cell? ⟨gbq2, 1, none⟩ = some (.slice Aoq3 t271.length coq3)) ∧ (Kd.R k35 35 w' w.heap.size (fun k_ => (w.heap.size ≤ k_)) (.slice Aoq4 y268.length coq4) y268) ∧ (Kd.N k59 59 w' w.heap.size (fun k_ => (w.heap.size ≤ k_) ∧ some k_ ≠ (.slice Aoq4 y268.length coq4 : Value).ownBlock ∧ some k_ ≠ (s_.1 : Value).ownBlock ∧ k_ ≠ g ∧ k_ ≠ gbq0 ∧ k_ ≠ gbq1 ∧ k_ ≠ gbq2) (.slice Aoq3 t271.length coq3) t271) ∧ (Kd.R (Kd.int .i64) 3 w' w.heap.size (fun k_ => (w.heap.size ≤ k_)) s_.1 y286) ∧ (∃ c_, (s_.1 : Value) = .slice (some s_.2) y286.length c_) ∧ (w'.heap[gbq0]? = some (.cells #[.slice A1_0 l1_0.length c1_0, .slice A1_1 l1_1.length c1_1] 26 (0, 0))) ∧ (w'.heap[gbq1]? = some (.cells #[.slice none 0 0, .slice none 0 0] 26 (0, 0))) ∧ (w'.heap[gbq2]? = some (.cells #[.slice Aoq4 y268.length coq4, .slice Aoq3 t271.length coq3] 26 (0, 0))) ∧ (IsS101 w0 w' g s0_0 t276) ∧ (KeepBut w w' g none) ∧ (Below w0.heap.size w0 w')) ?_ ?_
                     rotate_left
                     ·intro hJq0
                      refine join_ (σ := Unit) 13 #[T,T,F,T,T,F,F,F,T,F,F,F,F,F,F,F,F,F] (fun s_ => [(58, .int .i64 t289)]) (fun s_ w' => (w'.cell? ⟨gbq2, 0, none⟩ = some (.slice Aoq4 y268.length coq4) ∧ w'.cell? ⟨gbq2, 1, none⟩ = some (.slice Aoq3 t271.length coq3)) ∧ (Kd.R k35 35 w' w.heap.size (fun k_ => (w.heap.size ≤ k_)) (.slice Aoq4 y268.length coq4) y268) ∧ (Kd.N k59 59 w' w.heap.size (fun k_ => (w.heap.size ≤ k_) ∧ some k_ ≠ (.slice Aoq4 y268.length coq4 : Value).ownBlock ∧ k_ ≠ g ∧ k_ ≠ gbq0 ∧ k_ ≠ gbq1 ∧ k_ ≠ gbq2) (.slice Aoq3 t271.length coq3) t271) ∧ (w'.heap[gbq0]? = some (.cells #[.slice A1_0 l1_0.length c1_0, .slice A1_1 l1_1.length c1_1] 26 (0, 0))) ∧ (w'.heap[gbq1]? = some (.cells #[.slice none 0 0, .slice none 0 0] 26 (0, 0))) ∧ (w'.heap[gbq2]? = some (.cells #[.slice Aoq4 y268.length coq4, .slice Aoq3 t271.length coq3] 26 (0, 0))) ∧ (IsS101 w0 w' g s0_0 t290) ∧ (KeepBut w w' g none) ∧ (Below w0.heap.size w0 w')) ?_ ?_
                      rotate_left
                      ·intro hJq1
                       refine join_ (σ := Value × Addr) 13 #[T,T,F,T,F,F,F,T,T,F,F,F,F,F,F,F,F,F] (fun s_ => [(61, s_.1)]) (fun s_ w' => (w'.cell? ⟨gbq2, 0, none⟩ = some (.slice Aoq4 y268.length coq4) ∧ w'.cell? ⟨gbq2, 1, none⟩ = some (.slice Aoq3 t271.length coq3)) ∧ (Kd.R k35 35 w' w.heap.size (fun k_ => (w.heap.size ≤ k_)) (.slice Aoq4 y268.length coq4) y268) ∧ (Kd.N k59 59 w' w.heap.size (fun k_ => (w.heap.size ≤ k_) ∧ some k_ ≠ (.slice Aoq4 y268.length coq4 : Value).ownBlock ∧ some k_ ≠ (s_.1 : Value).ownBlock ∧ k_ ≠ g ∧ k_ ≠ gbq0 ∧ k_ ≠ gbq1 ∧ k_ ≠ gbq2) (.slice Aoq3 t271.length coq3) t271) ∧ (Kd.R (Kd.int .i64) 3 w' w.heap.size (fun k_ => (w.heap.size ≤ k_)) s_.1 y292) ∧ (∃ c_, (s_.1 : Value) = .slice (some s_.2) y292.length c_) ∧ (w'.heap[gbq0]? = some (.cells #[.slice A1_0 l1_0.length c1_0, .slice A1_1 l1_1.length c1_1] 26 (0, 0))) ∧ (w'.heap[gbq1]? = some (.cells #[.slice none 0 0, .slice none 0 0] 26 (0, 0))) ∧ (w'.heap[gbq2]? = some (.cells #[.slice Aoq4 y268.length coq4, .slice Aoq3 t271.length coq3] 26 (0, 0))) ∧ (IsS101 w0 w' g s0_0 t276) ∧ (KeepBut w w' g none) ∧ (Below w0.heap.size w0 w')) ?_ ?_
                       rotate_left
                       ·intro hJq2
                        refine three_ (i := 2) (j := 4) (k := 7) (Ni := some 56) (Nj := some 58) (Nk := some 61) #[T,T,T,T,F,F,F,F,T,F,F,F,F,F,F,F,F,F] #[T,T,F,T,T,F,F,F,T,F,F,F,F,F,F,F,F,F] #[T,T,F,T,F,F,F,T,T,F,F,F,F,F,F,F,F,F] rfl rfl rfl rfl rfl rfl (three_of HT_.out (by kernel_rfl)) (by decide) (by decide) (by decide) (fun K hK => ?_) (fun K hK => ?_) (fun K hK => ?_)
                        ·skip
                         refine Kd.R_lit_step (Kd.int .i64) _ 3 ?hg (N := 56) ?hd (xs := ([1, 1, 2, 3, 0, 5] : List Int)) (inner := [.int .i64 1, .int .i64 1, .int .i64 2, .int .i64 3, .int .i64 0, .int .i64 5]) (ok := fun _ => True) (okp := fun _ => True) ?hr ?hp (fun _ hk => hk) trivial (Below.refl _ _) (Nat.le_refl _) (by simp) ?_; (case hd => rfl); (case hg => rfl); (case hr => first | (go_simp; done) | (go_simp; rfl)); (case hp => exact (Reps.one (show Kd.M (Kd.int .i64) _ _ _ 1 [.int .i64 1] from rfl) (Reps.one (show Kd.M (Kd.int .i64) _ _ _ 1 [.int .i64 1] from rfl) (Reps.one (show Kd.M (Kd.int .i64) _ _ _ 2 [.int .i64 2] from rfl) (Reps.one (show Kd.M (Kd.int .i64) _ _ _ 3 [.int .i64 3] from rfl) (Reps.one (show Kd.M (Kd.int .i64) _ _ _ 0 [.int .i64 0] from rfl) (Reps.one (show Kd.M (Kd.int .i64) _ _ _ 5 [.int .i64 5] from rfl) (Reps.none _ _))))))))
                         intro vq3 wq12 hoq3 hb hg_ hnew_
                         clear hg_ hnew_
                         (first | rw [← Ny286.out] at hoq3 | (simp only [Int.reduceToNat] at hoq3; rw [← Ny286.out] at hoq3))
                         have HOq3 := Aside0.mk (Kd.R_lower (Kd.R_newM (M := fun k_ => (w.heap.size ≤ k_)) hoq3 (keep_size (w := w) (g := g) (row := none) (ZJ)) (fun k_ h_ => h_)) (keep_size (w := w) (g := g) (row := none) (ZJ)))
                         replace HOq1 := Aside0.mk (Kd.R_below (ZR HOq1.out) hb)
                         replace HOq2 := Aside0.mk (Kd.N_elder' (ZRN HOq2.out) (Kd.R_base hoq3) hb)
                         replace BKq0 := ZW BKq0 hb
                         replace BKq1 := ZW BKq1 hb
                         replace BKq2 := ZW BKq2 hb
                         replace HK := ZKT HK (KeepBut.of_below hb g none)
                         replace HB := ZTI HB hb
                         replace HI0 := Aside0.mk (IsS101.below (ZI) hb)
                         clear hb hoq3
                         obtain ⟨Aoq5, coq5, eoq5⟩ := Kd.R_slice HOq3.out
                         subst eoq5
                         obtain ⟨adoq0, foq0, _⟩ := Kd.at_int (Kd.R_reads' HOq3.out).2.2 0 (by decide) (by rw [Ny286.out]; simp)
                         cases foq0
                         refine hK.out _ _ ⟨(blk_cell BKq2.out 0).trans rfl, (blk_cell BKq2.out 1).trans rfl⟩ (fun hHeld => ?_)
                         clear hK K
                         refine ZNO 56 ?_
                         exact norm_ ZP (hJq0 (.slice (some adoq0) y286.length coq5, adoq0) _ ⟨hHeld, (ZR HOq1.out), (by (with_reducible repeat (first | apply Kd.N_alloc | apply Kd.N_drewN | apply Kd.N_drew)); exact Kd.N_mono HOq2.out (fun _ hk => ⟨hk.1.1, ⟨hk.1.2.1, ⟨hk.2, ⟨hk.1.2.2.1, ⟨hk.1.2.2.2.1, ⟨hk.1.2.2.2.2.1, hk.1.2.2.2.2.2⟩⟩⟩⟩⟩⟩)), (ZR (Kd.R_mono HOq3.out (fun _ hk => hk.1))), ⟨_, rfl⟩, (ZK BKq0.out), (ZK BKq1.out), (ZK BKq2.out), (ZI), (ZJ), (ZBI)⟩)
                        ·skip
                         refine goes_ Try.func85 (by kernel_rfl) rfl #[.pointer (some ⟨g, 0, none⟩), .int .i64 6] (by rfl) rfl rfl ZG ?_
                         with_reducible refine (spec_l6Rd_pick.calls k g s0_0 t276 6 t289 t290 w0 _ ?side1 ?side2 A95.out).mono ?_
                         (case side1 => exact ZI)
                         (case side2 => exact ZBI)
                         rintro e wq12 ⟨rfl, hi, hb, hk⟩
                         refine ⟨_, rfl, ?_⟩
                         replace BKq0 := ZL hk BKq0 NBq1_0
                         replace BKq1 := ZL hk BKq1 NBq2_0
                         replace HOq1 := Aside0.mk (Kd.R_mono (Kd.R_keep (IsS101.apart (show IsS101 w0 _ g s0_0 t276 from ZI) (ZR HOq1.out) (by decide)) hk (fun _ h => h.2)) (fun _ h => h.1))
                         replace HOq2 := Aside0.mk (Kd.N_mono (Kd.N_keep (Kd.N_mono (ok := fun k_ => (((w.heap.size ≤ k_)) ∧ (some k_ ≠ (.slice Aoq4 y268.length coq4 : Value).ownBlock ∧ (k_ ≠ g ∧ (k_ ≠ gbq0 ∧ (k_ ≠ gbq1 ∧ k_ ≠ gbq2)))))) (ZRN HOq2.out) (fun k_ hk_ => (⟨hk_, hk_.2.2.1⟩ : _ ∧ k_ ≠ g))) hk (fun _ h => h.2)) (fun _ h => h.1))
                         replace BKq2 := ZL hk BKq2 NBq3_0
                         replace HK := ZKT HK hk
                         replace HB := Aside0.mk (hb)
                         replace HI0 := Aside0.mk (hi)
                         (try clear hb)
                         (try clear hb2)
                         (try clear hk)
                         (try clear hi)
                         refine hK.out _ _ ⟨(blk_cell BKq2.out 0).trans rfl, (blk_cell BKq2.out 1).trans rfl⟩ (fun hHeld => ?_)
                         clear hK K
                         refine ZNO 58 ?_
                         exact norm_ ZP (hJq1 () _ ⟨hHeld, (ZR HOq1.out), (ZRN HOq2.out), (ZK BKq0.out), (ZK BKq1.out), (ZK BKq2.out), (ZI), (ZJ), (ZBI)⟩)
                        ·skip
                         refine Kd.R_lit_step (Kd.int .i64) _ 3 ?hg (N := 61) ?hd (xs := ([10, (-1), 4] : List Int)) (inner := [.int .i64 10, .int .i64 (-1), .int .i64 4]) (ok := fun _ => True) (okp := fun _ => True) ?hr ?hp (fun _ hk => hk) trivial (Below.refl _ _) (Nat.le_refl _) (by simp) ?_; (case hd => rfl); (case hg => rfl); (case hr => first | (go_simp; done) | (go_simp; rfl)); (case hp => exact (Reps.one (show Kd.M (Kd.int .i64) _ _ _ 10 [.int .i64 10] from rfl) (Reps.one (show Kd.M (Kd.int .i64) _ _ _ (-1) [.int .i64 (-1)] from rfl) (Reps.one (show Kd.M (Kd.int .i64) _ _ _ 4 [.int .i64 4] from rfl) (Reps.none _ _)))))
                         intro vq4 wq12 hoq3 hb hg_ hnew_
                         clear hg_ hnew_
                         (first | rw [← Ny292.out] at hoq3 | (simp only [Int.reduceToNat] at hoq3; rw [← Ny292.out] at hoq3))
                         have HOq4 := Aside0.mk (Kd.R_lower (Kd.R_newM (M := fun k_ => (w.heap.size ≤ k_)) hoq3 (keep_size (w := w) (g := g) (row := none) (ZJ)) (fun k_ h_ => h_)) (keep_size (w := w) (g := g) (row := none) (ZJ)))
                         replace HOq1 := Aside0.mk (Kd.R_below (ZR HOq1.out) hb)
                         replace HOq2 := Aside0.mk (Kd.N_elder' (ZRN HOq2.out) (Kd.R_base hoq3) hb)
                         replace BKq0 := ZW BKq0 hb
                         replace BKq1 := ZW BKq1 hb
                         replace BKq2 := ZW BKq2 hb
                         replace HK := ZKT HK (KeepBut.of_below hb g none)
                         replace HB := ZTI HB hb
                         replace HI0 := Aside0.mk (IsS101.below (ZI) hb)
                         clear hb hoq3
                         obtain ⟨Aoq5, coq5, eoq5⟩ := Kd.R_slice HOq4.out
                         subst eoq5
                         obtain ⟨adoq0, foq0, _⟩ := Kd.at_int (Kd.R_reads' HOq4.out).2.2 0 (by decide) (by rw [Ny292.out]; simp)
                         cases foq0
                         refine hK.out _ _ ⟨(blk_cell BKq2.out 0).trans rfl, (blk_cell BKq2.out 1).trans rfl⟩ (fun hHeld => ?_)
                         clear hK K
                         refine ZNO 61 ?_
                         exact norm_ ZP (hJq2 (.slice (some adoq0) y292.length coq5, adoq0) _ ⟨hHeld, (ZR HOq1.out), (by (with_reducible repeat (first | apply Kd.N_alloc | apply Kd.N_drewN | apply Kd.N_drew)); exact Kd.N_mono HOq2.out (fun _ hk => ⟨hk.1.1, ⟨hk.1.2.1, ⟨hk.2, ⟨hk.1.2.2.1, ⟨hk.1.2.2.2.1, ⟨hk.1.2.2.2.2.1, hk.1.2.2.2.2.2⟩⟩⟩⟩⟩⟩)), (ZR (Kd.R_mono HOq4.out (fun _ hk => hk.1))), ⟨_, rfl⟩, (ZK BKq0.out), (ZK BKq1.out), (ZK BKq2.out), (ZI), (ZJ), (ZBI)⟩)
                       ·skip
                        rintro ⟨vq4, adz_vq0⟩ wq13 ⟨hS_, hq0_, hq1_, hq2_, hq3_, hq4_, hq5_, hq6_, hq7_, hq8_, hq9_⟩
                        have nq0_ : Aside0 (Kd.R k35 35 wq13 w.heap.size (fun k_ => (w.heap.size ≤ k_)) (.slice Aoq4 y268.length coq4) y268) := ⟨hq0_⟩
                        have nq1_ : Aside0 (Kd.N k59 59 wq13 w.heap.size (fun k_ => (w.heap.size ≤ k_) ∧ some k_ ≠ (.slice Aoq4 y268.length coq4 : Value).ownBlock ∧ some k_ ≠ (vq4 : Value).ownBlock ∧ k_ ≠ g ∧ k_ ≠ gbq0 ∧ k_ ≠ gbq1 ∧ k_ ≠ gbq2) (.slice Aoq3 t271.length coq3) t271) := ⟨hq1_⟩
                        have nq2_ : Aside0 (Kd.R (Kd.int .i64) 3 wq13 w.heap.size (fun k_ => (w.heap.size ≤ k_)) vq4 y292) := ⟨hq2_⟩
                        have nq3_ : Aside0 (∃ c_, (vq4 : Value) = .slice (some adz_vq0) y292.length c_) := ⟨hq3_⟩
                        have nq4_ : Aside0 (wq13.heap[gbq0]? = some (.cells #[.slice A1_0 l1_0.length c1_0, .slice A1_1 l1_1.length c1_1] 26 (0, 0))) := ⟨hq4_⟩
                        have nq5_ : Aside0 (wq13.heap[gbq1]? = some (.cells #[.slice none 0 0, .slice none 0 0] 26 (0, 0))) := ⟨hq5_⟩
                        have nq6_ : Aside0 (wq13.heap[gbq2]? = some (.cells #[.slice Aoq4 y268.length coq4, .slice Aoq3 t271.length coq3] 26 (0, 0))) := ⟨hq6_⟩
                        have nq7_ : Aside0 (IsS101 w0 wq13 g s0_0 t276) := ⟨hq7_⟩
                        have nq8_ : Aside0 (KeepBut w wq13 g none) := ⟨hq8_⟩
                        have nq9_ : Aside0 (Below w0.heap.size w0 wq13) := ⟨hq9_⟩
                        clear HOq1; clear HOq2; clear BKq0; clear BKq1; clear BKq2; clear HI0; clear HK; clear HB; clear hq0_ hq1_ hq2_ hq3_ hq4_ hq5_ hq6_ hq7_ hq8_ hq9_; have HOq1 := nq0_; have HOq2 := nq1_; have HOq4 := nq2_; have HA_HOq0 := nq3_; have BKq0 := nq4_; have BKq1 := nq5_; have BKq2 := nq6_; have HI0 := nq7_; have HK := nq8_; have HB := nq9_; clear nq0_ nq1_ nq2_ nq3_ nq4_ nq5_ nq6_ nq7_ nq8_ nq9_
                        have hHeld : wq13.cell? ⟨gbq2, 0, none⟩ = some (.slice Aoq4 y268.length coq4) ∧ wq13.cell? ⟨gbq2, 1, none⟩ = some (.slice Aoq3 t271.length coq3) := hS_
                        obtain ⟨coq6, eoq6⟩ := HA_HOq0.out
                        clear HA_HOq0
                        subst eoq6
                        refine norm_ (a' := ?_) ?_ ?_
                        rotate_left
                        ·simp only [putAll, Act.put, List.setIfInBounds_toArray, List.set_cons_zero, List.set_cons_succ]; rfl
                        refine two_ (i := 2) (j := 4) (Ni := some 56) (Nj := some 58) #[T,T,T,T,F,F,F,T,T,F,F,F,F,F,F,F,F,F] #[T,T,F,T,T,F,F,T,T,F,F,F,F,F,F,F,F,F] rfl rfl rfl rfl (two_of HT_.out (by kernel_rfl)) (by decide) (by decide) (fun K hK => ?_) (fun K hK => ?_)
                        ·skip
                         refine Kd.R_lit_step (Kd.int .i64) _ 3 ?hg (N := 56) ?hd (xs := ([1, 1, 2, 3, 0, 5] : List Int)) (inner := [.int .i64 1, .int .i64 1, .int .i64 2, .int .i64 3, .int .i64 0, .int .i64 5]) (ok := fun _ => True) (okp := fun _ => True) ?hr ?hp (fun _ hk => hk) trivial (Below.refl _ _) (Nat.le_refl _) (by simp) ?_; (case hd => rfl); (case hg => rfl); (case hr => first | (go_simp; done) | (go_simp; rfl)); (case hp => exact (Reps.one (show Kd.M (Kd.int .i64) _ _ _ 1 [.int .i64 1] from rfl) (Reps.one (show Kd.M (Kd.int .i64) _ _ _ 1 [.int .i64 1] from rfl) (Reps.one (show Kd.M (Kd.int .i64) _ _ _ 2 [.int .i64 2] from rfl) (Reps.one (show Kd.M (Kd.int .i64) _ _ _ 3 [.int .i64 3] from rfl) (Reps.one (show Kd.M (Kd.int .i64) _ _ _ 0 [.int .i64 0] from rfl) (Reps.one (show Kd.M (Kd.int .i64) _ _ _ 5 [.int .i64 5] from rfl) (Reps.none _ _))))))))
                         intro vq3 wq14 hoq4 hb hg_ hnew_
                         clear hg_ hnew_
                         (first | rw [← Ny286.out] at hoq4 | (simp only [Int.reduceToNat] at hoq4; rw [← Ny286.out] at hoq4))
                         have HOq3 := Aside0.mk (Kd.R_lower (Kd.R_new' (Kd.R_newM (M := fun k_ => (w.heap.size ≤ k_)) hoq4 (keep_size (w := w) (g := g) (row := none) (ZJ)) (fun k_ h_ => h_)) (Kd.R_lt (ZR HOq4.out))) (keep_size (w := w) (g := g) (row := none) (ZJ)))
                         replace HOq1 := Aside0.mk (Kd.R_below (ZR HOq1.out) hb)
                         replace HOq2 := Aside0.mk (Kd.N_elder' (ZRN HOq2.out) (Kd.R_base hoq4) hb)
                         replace HOq4 := Aside0.mk (Kd.R_elder' (ZR HOq4.out) (Kd.R_base hoq4) hb)
                         replace BKq0 := ZW BKq0 hb
                         replace BKq1 := ZW BKq1 hb
                         replace BKq2 := ZW BKq2 hb
                         replace HK := ZKT HK (KeepBut.of_below hb g none)
                         replace HB := ZTI HB hb
                         replace HI0 := Aside0.mk (IsS101.below (ZI) hb)
                         clear hb hoq4
                         obtain ⟨Aoq6, coq7, eoq7⟩ := Kd.R_slice HOq3.out
                         subst eoq7
                         obtain ⟨adoq1, foq1, _⟩ := Kd.at_int (Kd.R_reads' HOq3.out).2.2 0 (by decide) (by rw [Ny286.out]; simp)
                         cases foq1
                         refine hK.out _ _ ⟨(blk_cell BKq2.out 0).trans rfl, (blk_cell BKq2.out 1).trans rfl⟩ (fun hHeld => ?_)
                         clear hK K
                         refine ZNO 56 ?_
                         exact norm_ ZP (hJq0_7 (.slice (some adoq1) y286.length coq7, adoq1, .slice (some adz_vq0) y292.length coq6, adz_vq0) _ ⟨hHeld, (ZR HOq1.out), (by (with_reducible repeat (first | apply Kd.N_alloc | apply Kd.N_drewN | apply Kd.N_drew)); exact Kd.N_mono HOq2.out (fun _ hk => ⟨hk.1.1, ⟨hk.1.2.1, ⟨hk.2, ⟨hk.1.2.2.1, ⟨hk.1.2.2.2.1, ⟨hk.1.2.2.2.2.1, ⟨hk.1.2.2.2.2.2.1, hk.1.2.2.2.2.2.2⟩⟩⟩⟩⟩⟩⟩)), (by (with_reducible repeat (first | apply Kd.R_alloc | apply Kd.R_drewN | apply Kd.R_drew)); exact Kd.R_mono HOq3.out (fun _ hk => ⟨hk.1.1, hk.2⟩)), (ZR HOq4.out), ⟨_, rfl⟩, ⟨_, rfl⟩, (ZK BKq0.out), (ZK BKq1.out), (ZK BKq2.out), (ZI), (ZJ), (ZBI)⟩)
                        ·skip
                         refine goes_ Try.func85 (by kernel_rfl) rfl #[.pointer (some ⟨g, 0, none⟩), .int .i64 6] (by rfl) rfl rfl ZG ?_
                         with_reducible refine (spec_l6Rd_pick.calls k g s0_0 t276 6 t289 t290 w0 _ ?side1 ?side2 A95.out).mono ?_
                         (case side1 => exact ZI)
                         (case side2 => exact ZBI)
                         rintro e wq14 ⟨rfl, hi, hb, hk⟩
                         refine ⟨_, rfl, ?_⟩
                         replace BKq0 := ZL hk BKq0 NBq1_0
                         replace BKq1 := ZL hk BKq1 NBq2_0
                         replace HOq1 := Aside0.mk (Kd.R_mono (Kd.R_keep (IsS101.apart (show IsS101 w0 _ g s0_0 t276 from ZI) (ZR HOq1.out) (by decide)) hk (fun _ h => h.2)) (fun _ h => h.1))
                         replace HOq2 := Aside0.mk (Kd.N_mono (Kd.N_keep (Kd.N_mono (ok := fun k_ => (((w.heap.size ≤ k_)) ∧ (some k_ ≠ (.slice Aoq4 y268.length coq4 : Value).ownBlock ∧ (some k_ ≠ (.slice (some adz_vq0) y292.length coq6 : Value).ownBlock ∧ (k_ ≠ g ∧ (k_ ≠ gbq0 ∧ (k_ ≠ gbq1 ∧ k_ ≠ gbq2))))))) (ZRN HOq2.out) (fun k_ hk_ => (⟨hk_, hk_.2.2.2.1⟩ : _ ∧ k_ ≠ g))) hk (fun _ h => h.2)) (fun _ h => h.1))
                         replace BKq2 := ZL hk BKq2 NBq3_0
                         replace HOq4 := Aside0.mk (Kd.R_mono (Kd.R_keep (IsS101.apart (show IsS101 w0 _ g s0_0 t276 from ZI) (ZR HOq4.out) (by decide)) hk (fun _ h => h.2)) (fun _ h => h.1))
                         replace HK := ZKT HK hk
                         replace HB := Aside0.mk (hb)
                         replace HI0 := Aside0.mk (hi)
                         (try clear hb)
                         (try clear hb2)
                         (try clear hk)
                         (try clear hi)
                         refine hK.out _ _ ⟨(blk_cell BKq2.out 0).trans rfl, (blk_cell BKq2.out 1).trans rfl⟩ (fun hHeld => ?_)
                         clear hK K
                         refine ZNO 58 ?_
                         exact norm_ ZP (hJq1_7 (.slice (some adz_vq0) y292.length coq6, adz_vq0) _ ⟨hHeld, (ZR HOq1.out), (ZRN HOq2.out), (ZR HOq4.out), ⟨_, rfl⟩, (ZK BKq0.out), (ZK BKq1.out), (ZK BKq2.out), (ZI), (ZJ), (ZBI)⟩)
                      ·skip
                       rintro _ wq15 ⟨hS_, hq0_, hq1_, hq2_, hq3_, hq4_, hq5_, hq6_, hq7_⟩
                       have nq0_ : Aside0 (Kd.R k35 35 wq15 w.heap.size (fun k_ => (w.heap.size ≤ k_)) (.slice Aoq4 y268.length coq4) y268) := ⟨hq0_⟩
                       have nq1_ : Aside0 (Kd.N k59 59 wq15 w.heap.size (fun k_ => (w.heap.size ≤ k_) ∧ some k_ ≠ (.slice Aoq4 y268.length coq4 : Value).ownBlock ∧ k_ ≠ g ∧ k_ ≠ gbq0 ∧ k_ ≠ gbq1 ∧ k_ ≠ gbq2) (.slice Aoq3 t271.length coq3) t271) := ⟨hq1_⟩
                       have nq2_ : Aside0 (wq15.heap[gbq0]? = some (.cells #[.slice A1_0 l1_0.length c1_0, .slice A1_1 l1_1.length c1_1] 26 (0, 0))) := ⟨hq2_⟩
                       have nq3_ : Aside0 (wq15.heap[gbq1]? = some (.cells #[.slice none 0 0, .slice none 0 0] 26 (0, 0))) := ⟨hq3_⟩
                       have nq4_ : Aside0 (wq15.heap[gbq2]? = some (.cells #[.slice Aoq4 y268.length coq4, .slice Aoq3 t271.length coq3] 26 (0, 0))) := ⟨hq4_⟩
                       have nq5_ : Aside0 (IsS101 w0 wq15 g s0_0 t290) := ⟨hq5_⟩
                       have nq6_ : Aside0 (KeepBut w wq15 g none) := ⟨hq6_⟩
                       have nq7_ : Aside0 (Below w0.heap.size w0 wq15) := ⟨hq7_⟩
                       clear HOq1; clear HOq2; clear BKq0; clear BKq1; clear BKq2; clear HI0; clear HK; clear HB; clear hq0_ hq1_ hq2_ hq3_ hq4_ hq5_ hq6_ hq7_; have HOq1 := nq0_; have HOq2 := nq1_; have BKq0 := nq2_; have BKq1 := nq3_; have BKq2 := nq4_; have HI0 := nq5_; have HK := nq6_; have HB := nq7_; clear nq0_ nq1_ nq2_ nq3_ nq4_ nq5_ nq6_ nq7_
                       have hHeld : wq15.cell? ⟨gbq2, 0, none⟩ = some (.slice Aoq4 y268.length coq4) ∧ wq15.cell? ⟨gbq2, 1, none⟩ = some (.slice Aoq3 t271.length coq3) := hS_
                       refine norm_ (a' := ?_) ?_ ?_
                       rotate_left
                       ·simp only [putAll, Act.put, List.setIfInBounds_toArray, List.set_cons_zero, List.set_cons_succ]; rfl
                       refine three_ (i := 2) (j := 7) (k := 9) (Ni := some 56) (Nj := some 61) (Nk := some 63) #[T,T,T,T,T,F,F,F,T,F,F,F,F,F,F,F,F,F] #[T,T,F,T,T,F,F,T,T,F,F,F,F,F,F,F,F,F] #[T,T,F,T,T,F,F,F,T,T,F,F,F,F,F,F,F,F] rfl rfl rfl rfl rfl rfl (three_of HT_.out (by kernel_rfl)) (by decide) (by decide) (by decide) (fun K hK => ?_) (fun K hK => ?_) (fun K hK => ?_)
                       ·skip
                        refine Kd.R_lit_step (Kd.int .i64) _ 3 ?hg (N := 56) ?hd (xs := ([1, 1, 2, 3, 0, 5] : List Int)) (inner := [.int .i64 1, .int .i64 1, .int .i64 2, .int .i64 3, .int .i64 0, .int .i64 5]) (ok := fun _ => True) (okp := fun _ => True) ?hr ?hp (fun _ hk => hk) trivial (Below.refl _ _) (Nat.le_refl _) (by simp) ?_; (case hd => rfl); (case hg => rfl); (case hr => first | (go_simp; done) | (go_simp; rfl)); (case hp => exact (Reps.one (show Kd.M (Kd.int .i64) _ _ _ 1 [.int .i64 1] from rfl) (Reps.one (show Kd.M (Kd.int .i64) _ _ _ 1 [.int .i64 1] from rfl) (Reps.one (show Kd.M (Kd.int .i64) _ _ _ 2 [.int .i64 2] from rfl) (Reps.one (show Kd.M (Kd.int .i64) _ _ _ 3 [.int .i64 3] from rfl) (Reps.one (show Kd.M (Kd.int .i64) _ _ _ 0 [.int .i64 0] from rfl) (Reps.one (show Kd.M (Kd.int .i64) _ _ _ 5 [.int .i64 5] from rfl) (Reps.none _ _))))))))
                        intro vq3 wq16 hoq5 hb hg_ hnew_
                        clear hg_ hnew_
                        (first | rw [← Ny286.out] at hoq5 | (simp only [Int.reduceToNat] at hoq5; rw [← Ny286.out] at hoq5))
                        have HOq3 := Aside0.mk (Kd.R_lower (Kd.R_newM (M := fun k_ => (w.heap.size ≤ k_)) hoq5 (keep_size (w := w) (g := g) (row := none) (ZJ)) (fun k_ h_ => h_)) (keep_size (w := w) (g := g) (row := none) (ZJ)))
                        replace HOq1 := Aside0.mk (Kd.R_below (ZR HOq1.out) hb)
                        replace HOq2 := Aside0.mk (Kd.N_elder' (ZRN HOq2.out) (Kd.R_base hoq5) hb)
                        replace BKq0 := ZW BKq0 hb
                        replace BKq1 := ZW BKq1 hb
                        replace BKq2 := ZW BKq2 hb
                        replace HK := ZKT HK (KeepBut.of_below hb g none)
                        replace HB := ZTI HB hb
                        replace HI0 := Aside0.mk (IsS101.below (ZI) hb)
                        clear hb hoq5
                        obtain ⟨Aoq7, coq6, eoq6⟩ := Kd.R_slice HOq3.out
                        subst eoq6
                        obtain ⟨adoq2, foq2, _⟩ := Kd.at_int (Kd.R_reads' HOq3.out).2.2 0 (by decide) (by rw [Ny286.out]; simp)
                        cases foq2
                        refine hK.out _ _ ⟨(blk_cell BKq2.out 0).trans rfl, (blk_cell BKq2.out 1).trans rfl⟩ (fun hHeld => ?_)
                        clear hK K
                        refine ZNO 56 ?_
                        refine ZU 5 59 #[T,T,T,T,T,T,F,F,T,F,F,F,F,F,F,F,F,F] ?_
                        exact norm_ ZP (hJq0_4 (.slice (some adoq2) y286.length coq6, adoq2) _ ⟨hHeld, (ZR HOq1.out), (by (with_reducible repeat (first | apply Kd.N_alloc | apply Kd.N_drewN | apply Kd.N_drew)); exact Kd.N_mono HOq2.out (fun _ hk => ⟨hk.1.1, ⟨hk.1.2.1, ⟨hk.2, ⟨hk.1.2.2.1, ⟨hk.1.2.2.2.1, ⟨hk.1.2.2.2.2.1, hk.1.2.2.2.2.2⟩⟩⟩⟩⟩⟩)), (ZR (Kd.R_mono HOq3.out (fun _ hk => hk.1))), ⟨_, rfl⟩, (ZK BKq0.out), (ZK BKq1.out), (ZK BKq2.out), (ZI), (ZJ), (ZBI)⟩)
                       ·skip
                        refine Kd.R_lit_step (Kd.int .i64) _ 3 ?hg (N := 61) ?hd (xs := ([10, (-1), 4] : List Int)) (inner := [.int .i64 10, .int .i64 (-1), .int .i64 4]) (ok := fun _ => True) (okp := fun _ => True) ?hr ?hp (fun _ hk => hk) trivial (Below.refl _ _) (Nat.le_refl _) (by simp) ?_; (case hd => rfl); (case hg => rfl); (case hr => first | (go_simp; done) | (go_simp; rfl)); (case hp => exact (Reps.one (show Kd.M (Kd.int .i64) _ _ _ 10 [.int .i64 10] from rfl) (Reps.one (show Kd.M (Kd.int .i64) _ _ _ (-1) [.int .i64 (-1)] from rfl) (Reps.one (show Kd.M (Kd.int .i64) _ _ _ 4 [.int .i64 4] from rfl) (Reps.none _ _)))))
                        intro vq4 wq16 hoq5 hb hg_ hnew_
                        clear hg_ hnew_
                        (first | rw [← Ny292.out] at hoq5 | (simp only [Int.reduceToNat] at hoq5; rw [← Ny292.out] at hoq5))
                        have HOq4 := Aside0.mk (Kd.R_lower (Kd.R_newM (M := fun k_ => (w.heap.size ≤ k_)) hoq5 (keep_size (w := w) (g := g) (row := none) (ZJ)) (fun k_ h_ => h_)) (keep_size (w := w) (g := g) (row := none) (ZJ)))
                        replace HOq1 := Aside0.mk (Kd.R_below (ZR HOq1.out) hb)
                        replace HOq2 := Aside0.mk (Kd.N_elder' (ZRN HOq2.out) (Kd.R_base hoq5) hb)
                        replace BKq0 := ZW BKq0 hb
                        replace BKq1 := ZW BKq1 hb
                        replace BKq2 := ZW BKq2 hb
                        replace HK := ZKT HK (KeepBut.of_below hb g none)
                        replace HB := ZTI HB hb
                        replace HI0 := Aside0.mk (IsS101.below (ZI) hb)
                        clear hb hoq5
                        obtain ⟨Aoq7, coq6, eoq6⟩ := Kd.R_slice HOq4.out
                        subst eoq6
                        obtain ⟨adoq2, foq2, _⟩ := Kd.at_int (Kd.R_reads' HOq4.out).2.2 0 (by decide) (by rw [Ny292.out]; simp)
                        cases foq2
                        refine hK.out _ _ ⟨(blk_cell BKq2.out 0).trans rfl, (blk_cell BKq2.out 1).trans rfl⟩ (fun hHeld => ?_)
                        clear hK K
                        refine ZNO 61 ?_
                        exact norm_ ZP (hJq1_7 (.slice (some adoq2) y292.length coq6, adoq2) _ ⟨hHeld, (ZR HOq1.out), (by (with_reducible repeat (first | apply Kd.N_alloc | apply Kd.N_drewN | apply Kd.N_drew)); exact Kd.N_mono HOq2.out (fun _ hk => ⟨hk.1.1, ⟨hk.1.2.1, ⟨hk.2, ⟨hk.1.2.2.1, ⟨hk.1.2.2.2.1, ⟨hk.1.2.2.2.2.1, hk.1.2.2.2.2.2⟩⟩⟩⟩⟩⟩)), (ZR (Kd.R_mono HOq4.out (fun _ hk => hk.1))), ⟨_, rfl⟩, (ZK BKq0.out), (ZK BKq1.out), (ZK BKq2.out), (ZI), (ZJ), (ZBI)⟩)
                       ·skip
                        refine goes_ Try.func85 (by kernel_rfl) rfl #[.pointer (some ⟨g, 0, none⟩), .int .i64 3] (by rfl) rfl rfl ZG ?_
                        with_reducible refine (spec_l6Rd_pick.calls k g s0_0 t290 3 t295 t296 w0 _ ?side1 ?side2 A98.out).mono ?_
                        (case side1 => exact ZI)
                        (case side2 => exact ZBI)
                        rintro e wq16 ⟨rfl, hi, hb, hk⟩
                        refine ⟨_, rfl, ?_⟩
                        replace BKq0 := ZL hk BKq0 NBq1_0
                        replace BKq1 := ZL hk BKq1 NBq2_0
                        replace HOq1 := Aside0.mk (Kd.R_mono (Kd.R_keep (IsS101.apart (show IsS101 w0 _ g s0_0 t290 from ZI) (ZR HOq1.out) (by decide)) hk (fun _ h => h.2)) (fun _ h => h.1))
                        replace HOq2 := Aside0.mk (Kd.N_mono (Kd.N_keep (Kd.N_mono (ok := fun k_ => (((w.heap.size ≤ k_)) ∧ (some k_ ≠ (.slice Aoq4 y268.length coq4 : Value).ownBlock ∧ (k_ ≠ g ∧ (k_ ≠ gbq0 ∧ (k_ ≠ gbq1 ∧ k_ ≠ gbq2)))))) (ZRN HOq2.out) (fun k_ hk_ => (⟨hk_, hk_.2.2.1⟩ : _ ∧ k_ ≠ g))) hk (fun _ h => h.2)) (fun _ h => h.1))
                        replace BKq2 := ZL hk BKq2 NBq3_0
                        replace HK := ZKT HK hk
                        replace HB := Aside0.mk (hb)
                        replace HI0 := Aside0.mk (hi)
                        (try clear hb)
                        (try clear hb2)
                        (try clear hk)
                        (try clear hi)
                        refine hK.out _ _ ⟨(blk_cell BKq2.out 0).trans rfl, (blk_cell BKq2.out 1).trans rfl⟩ (fun hHeld => ?_)
                        clear hK K
                        refine ZNO 63 ?_
                        exact norm_ ZP (hJq1_9 () _ ⟨hHeld, (ZR HOq1.out), (ZRN HOq2.out), (ZK BKq0.out), (ZK BKq1.out), (ZK BKq2.out), (ZI), (ZJ), (ZBI)⟩)
                     ·skip
                      rintro ⟨vq3, adz_vq1⟩ wq13 ⟨hS_, hq0_, hq1_, hq2_, hq3_, hq4_, hq5_, hq6_, hq7_, hq8_, hq9_⟩
                      have nq0_ : Aside0 (Kd.R k35 35 wq13 w.heap.size (fun k_ => (w.heap.size ≤ k_)) (.slice Aoq4 y268.length coq4) y268) := ⟨hq0_⟩
                      have nq1_ : Aside0 (Kd.N k59 59 wq13 w.heap.size (fun k_ => (w.heap.size ≤ k_) ∧ some k_ ≠ (.slice Aoq4 y268.length coq4 : Value).ownBlock ∧ some k_ ≠ (vq3 : Value).ownBlock ∧ k_ ≠ g ∧ k_ ≠ gbq0 ∧ k_ ≠ gbq1 ∧ k_ ≠ gbq2) (.slice Aoq3 t271.length coq3) t271) := ⟨hq1_⟩
                      have nq2_ : Aside0 (Kd.R (Kd.int .i64) 3 wq13 w.heap.size (fun k_ => (w.heap.size ≤ k_)) vq3 y286) := ⟨hq2_⟩
                      have nq3_ : Aside0 (∃ c_, (vq3 : Value) = .slice (some adz_vq1) y286.length c_) := ⟨hq3_⟩
                      have nq4_ : Aside0 (wq13.heap[gbq0]? = some (.cells #[.slice A1_0 l1_0.length c1_0, .slice A1_1 l1_1.length c1_1] 26 (0, 0))) := ⟨hq4_⟩
                      have nq5_ : Aside0 (wq13.heap[gbq1]? = some (.cells #[.slice none 0 0, .slice none 0 0] 26 (0, 0))) := ⟨hq5_⟩
                      have nq6_ : Aside0 (wq13.heap[gbq2]? = some (.cells #[.slice Aoq4 y268.length coq4, .slice Aoq3 t271.length coq3] 26 (0, 0))) := ⟨hq6_⟩
                      have nq7_ : Aside0 (IsS101 w0 wq13 g s0_0 t276) := ⟨hq7_⟩
                      have nq8_ : Aside0 (KeepBut w wq13 g none) := ⟨hq8_⟩
                      have nq9_ : Aside0 (Below w0.heap.size w0 wq13) := ⟨hq9_⟩
                      clear HOq1; clear HOq2; clear BKq0; clear BKq1; clear BKq2; clear HI0; clear HK; clear HB; clear hq0_ hq1_ hq2_ hq3_ hq4_ hq5_ hq6_ hq7_ hq8_ hq9_; have HOq1 := nq0_; have HOq2 := nq1_; have HOq3 := nq2_; have HA_HOq1 := nq3_; have BKq0 := nq4_; have BKq1 := nq5_; have BKq2 := nq6_; have HI0 := nq7_; have HK := nq8_; have HB := nq9_; clear nq0_ nq1_ nq2_ nq3_ nq4_ nq5_ nq6_ nq7_ nq8_ nq9_
                      have hHeld : wq13.cell? ⟨gbq2, 0, none⟩ = some (.slice Aoq4 y268.length coq4) ∧ wq13.cell? ⟨gbq2, 1, none⟩ = some (.slice Aoq3 t271.length coq3) := hS_
                      obtain ⟨coq6, eoq6⟩ := HA_HOq1.out
                      clear HA_HOq1
                      subst eoq6
                      refine norm_ (a' := ?_) ?_ ?_
                      rotate_left
                      ·simp only [putAll, Act.put, List.setIfInBounds_toArray, List.set_cons_zero, List.set_cons_succ]; rfl
                      refine two_ (i := 4) (j := 7) (Ni := some 58) (Nj := some 61) #[T,T,T,T,T,F,F,F,T,F,F,F,F,F,F,F,F,F] #[T,T,T,T,F,F,F,T,T,F,F,F,F,F,F,F,F,F] rfl rfl rfl rfl (two_of HT_.out (by kernel_rfl)) (by decide) (by decide) (fun K hK => ?_) (fun K hK => ?_)
                      ·skip
                       refine goes_ Try.func85 (by kernel_rfl) rfl #[.pointer (some ⟨g, 0, none⟩), .int .i64 6] (by rfl) rfl rfl ZG ?_
                       with_reducible refine (spec_l6Rd_pick.calls k g s0_0 t276 6 t289 t290 w0 _ ?side1 ?side2 A95.out).mono ?_
                       (case side1 => exact ZI)
                       (case side2 => exact ZBI)
                       rintro e wq14 ⟨rfl, hi, hb, hk⟩
                       refine ⟨_, rfl, ?_⟩
                       replace BKq0 := ZL hk BKq0 NBq1_0
                       replace BKq1 := ZL hk BKq1 NBq2_0
                       replace HOq1 := Aside0.mk (Kd.R_mono (Kd.R_keep (IsS101.apart (show IsS101 w0 _ g s0_0 t276 from ZI) (ZR HOq1.out) (by decide)) hk (fun _ h => h.2)) (fun _ h => h.1))
                       replace HOq2 := Aside0.mk (Kd.N_mono (Kd.N_keep (Kd.N_mono (ok := fun k_ => (((w.heap.size ≤ k_)) ∧ (some k_ ≠ (.slice Aoq4 y268.length coq4 : Value).ownBlock ∧ (some k_ ≠ (.slice (some adz_vq1) y286.length coq6 : Value).ownBlock ∧ (k_ ≠ g ∧ (k_ ≠ gbq0 ∧ (k_ ≠ gbq1 ∧ k_ ≠ gbq2))))))) (ZRN HOq2.out) (fun k_ hk_ => (⟨hk_, hk_.2.2.2.1⟩ : _ ∧ k_ ≠ g))) hk (fun _ h => h.2)) (fun _ h => h.1))
                       replace BKq2 := ZL hk BKq2 NBq3_0
                       replace HOq3 := Aside0.mk (Kd.R_mono (Kd.R_keep (IsS101.apart (show IsS101 w0 _ g s0_0 t276 from ZI) (ZR HOq3.out) (by decide)) hk (fun _ h => h.2)) (fun _ h => h.1))
                       replace HK := ZKT HK hk
                       replace HB := Aside0.mk (hb)
                       replace HI0 := Aside0.mk (hi)
                       (try clear hb)
                       (try clear hb2)
                       (try clear hk)
                       (try clear hi)
                       refine hK.out _ _ ⟨(blk_cell BKq2.out 0).trans rfl, (blk_cell BKq2.out 1).trans rfl⟩ (fun hHeld => ?_)
                       clear hK K
                       refine ZNO 58 ?_
                       refine ZU 5 59 #[T,T,T,T,T,T,F,F,T,F,F,F,F,F,F,F,F,F] ?_
                       exact norm_ ZP (hJq0_4 (.slice (some adz_vq1) y286.length coq6, adz_vq1) _ ⟨hHeld, (ZR HOq1.out), (ZRN HOq2.out), (ZR HOq3.out), ⟨_, rfl⟩, (ZK BKq0.out), (ZK BKq1.out), (ZK BKq2.out), (ZI), (ZJ), (ZBI)⟩)
                      ·skip
                       refine Kd.R_lit_step (Kd.int .i64) _ 3 ?hg (N := 61) ?hd (xs := ([10, (-1), 4] : List Int)) (inner := [.int .i64 10, .int .i64 (-1), .int .i64 4]) (ok := fun _ => True) (okp := fun _ => True) ?hr ?hp (fun _ hk => hk) trivial (Below.refl _ _) (Nat.le_refl _) (by simp) ?_; (case hd => rfl); (case hg => rfl); (case hr => first | (go_simp; done) | (go_simp; rfl)); (case hp => exact (Reps.one (show Kd.M (Kd.int .i64) _ _ _ 10 [.int .i64 10] from rfl) (Reps.one (show Kd.M (Kd.int .i64) _ _ _ (-1) [.int .i64 (-1)] from rfl) (Reps.one (show Kd.M (Kd.int .i64) _ _ _ 4 [.int .i64 4] from rfl) (Reps.none _ _)))))
                       intro vq4 wq14 hoq4 hb hg_ hnew_
                       clear hg_ hnew_
                       (first | rw [← Ny292.out] at hoq4 | (simp only [Int.reduceToNat] at hoq4; rw [← Ny292.out] at hoq4))
                       have HOq4 := Aside0.mk (Kd.R_lower (Kd.R_new' (Kd.R_newM (M := fun k_ => (w.heap.size ≤ k_)) hoq4 (keep_size (w := w) (g := g) (row := none) (ZJ)) (fun k_ h_ => h_)) (Kd.R_lt (ZR HOq3.out))) (keep_size (w := w) (g := g) (row := none) (ZJ)))
                       replace HOq1 := Aside0.mk (Kd.R_below (ZR HOq1.out) hb)
                       replace HOq2 := Aside0.mk (Kd.N_elder' (ZRN HOq2.out) (Kd.R_base hoq4) hb)
                       replace HOq3 := Aside0.mk (Kd.R_elder' (ZR HOq3.out) (Kd.R_base hoq4) hb)
                       replace BKq0 := ZW BKq0 hb
                       replace BKq1 := ZW BKq1 hb
                       replace BKq2 := ZW BKq2 hb
                       replace HK := ZKT HK (KeepBut.of_below hb g none)
                       replace HB := ZTI HB hb
                       replace HI0 := Aside0.mk (IsS101.below (ZI) hb)
                       clear hb hoq4
                       obtain ⟨Aoq6, coq7, eoq7⟩ := Kd.R_slice HOq4.out
                       subst eoq7
                       obtain ⟨adoq1, foq1, _⟩ := Kd.at_int (Kd.R_reads' HOq4.out).2.2 0 (by decide) (by rw [Ny292.out]; simp)
                       cases foq1
                       refine hK.out _ _ ⟨(blk_cell BKq2.out 0).trans rfl, (blk_cell BKq2.out 1).trans rfl⟩ (fun hHeld => ?_)
                       clear hK K
                       refine ZNO 61 ?_
                       exact norm_ ZP (hJq0_7 (.slice (some adz_vq1) y286.length coq6, adz_vq1, .slice (some adoq1) y292.length coq7, adoq1) _ ⟨hHeld, (ZR HOq1.out), (by (with_reducible repeat (first | apply Kd.N_alloc | apply Kd.N_drewN | apply Kd.N_drew)); exact Kd.N_mono HOq2.out (fun _ hk => ⟨hk.1.1, ⟨hk.1.2.1, ⟨hk.1.2.2.1, ⟨hk.2, ⟨hk.1.2.2.2.1, ⟨hk.1.2.2.2.2.1, ⟨hk.1.2.2.2.2.2.1, hk.1.2.2.2.2.2.2⟩⟩⟩⟩⟩⟩⟩)), (ZR HOq3.out), (by (with_reducible repeat (first | apply Kd.R_alloc | apply Kd.R_drewN | apply Kd.R_drew)); exact Kd.R_mono HOq4.out (fun _ hk => ⟨hk.1.1, hk.2⟩)), ⟨_, rfl⟩, ⟨_, rfl⟩, (ZK BKq0.out), (ZK BKq1.out), (ZK BKq2.out), (ZI), (ZJ), (ZBI)⟩)
                    ·skip
                     rintro _ wq16 ⟨hS_, hq0_, hq1_, hq2_, hq3_, hq4_, hq5_, hq6_, hq7_⟩
                     have nq0_ : Aside0 (Kd.R k35 35 wq16 w.heap.size (fun k_ => (w.heap.size ≤ k_)) (.slice Aoq4 y268.length coq4) y268) := ⟨hq0_⟩
                     have nq1_ : Aside0 (Kd.N k59 59 wq16 w.heap.size (fun k_ => (w.heap.size ≤ k_) ∧ some k_ ≠ (.slice Aoq4 y268.length coq4 : Value).ownBlock ∧ k_ ≠ g ∧ k_ ≠ gbq0 ∧ k_ ≠ gbq1 ∧ k_ ≠ gbq2) (.slice Aoq3 t271.length coq3) t271) := ⟨hq1_⟩
                     have nq2_ : Aside0 (wq16.heap[gbq0]? = some (.cells #[.slice A1_0 l1_0.length c1_0, .slice A1_1 l1_1.length c1_1] 26 (0, 0))) := ⟨hq2_⟩
                     have nq3_ : Aside0 (wq16.heap[gbq1]? = some (.cells #[.slice none 0 0, .slice none 0 0] 26 (0, 0))) := ⟨hq3_⟩
                     have nq4_ : Aside0 (wq16.heap[gbq2]? = some (.cells #[.slice Aoq4 y268.length coq4, .slice Aoq3 t271.length coq3] 26 (0, 0))) := ⟨hq4_⟩
                     have nq5_ : Aside0 (IsS101 w0 wq16 g s0_0 t296) := ⟨hq5_⟩
                     have nq6_ : Aside0 (KeepBut w wq16 g none) := ⟨hq6_⟩
                     have nq7_ : Aside0 (Below w0.heap.size w0 wq16) := ⟨hq7_⟩
                     clear HOq1; clear HOq2; clear BKq0; clear BKq1; clear BKq2; clear HI0; clear HK; clear HB; clear hq0_ hq1_ hq2_ hq3_ hq4_ hq5_ hq6_ hq7_; have HOq1 := nq0_; have HOq2 := nq1_; have BKq0 := nq2_; have BKq1 := nq3_; have BKq2 := nq4_; have HI0 := nq5_; have HK := nq6_; have HB := nq7_; clear nq0_ nq1_ nq2_ nq3_ nq4_ nq5_ nq6_ nq7_
                     have hHeld : wq16.cell? ⟨gbq2, 0, none⟩ = some (.slice Aoq4 y268.length coq4) ∧ wq16.cell? ⟨gbq2, 1, none⟩ = some (.slice Aoq3 t271.length coq3) := hS_
                     refine norm_ (a' := ?_) ?_ ?_
                     rotate_left
                     ·simp only [putAll, Act.put, List.setIfInBounds_toArray, List.set_cons_zero, List.set_cons_succ]; rfl
                     refine two_ (i := 2) (j := 7) (Ni := some 56) (Nj := some 61) #[T,T,T,T,T,F,F,F,T,T,F,F,F,F,F,F,F,F] #[T,T,F,T,T,F,F,T,T,T,F,F,F,F,F,F,F,F] rfl rfl rfl rfl (two_of HT_.out (by kernel_rfl)) (by decide) (by decide) (fun K hK => ?_) (fun K hK => ?_)
                     ·skip
                      refine Kd.R_lit_step (Kd.int .i64) _ 3 ?hg (N := 56) ?hd (xs := ([1, 1, 2, 3, 0, 5] : List Int)) (inner := [.int .i64 1, .int .i64 1, .int .i64 2, .int .i64 3, .int .i64 0, .int .i64 5]) (ok := fun _ => True) (okp := fun _ => True) ?hr ?hp (fun _ hk => hk) trivial (Below.refl _ _) (Nat.le_refl _) (by simp) ?_; (case hd => rfl); (case hg => rfl); (case hr => first | (go_simp; done) | (go_simp; rfl)); (case hp => exact (Reps.one (show Kd.M (Kd.int .i64) _ _ _ 1 [.int .i64 1] from rfl) (Reps.one (show Kd.M (Kd.int .i64) _ _ _ 1 [.int .i64 1] from rfl) (Reps.one (show Kd.M (Kd.int .i64) _ _ _ 2 [.int .i64 2] from rfl) (Reps.one (show Kd.M (Kd.int .i64) _ _ _ 3 [.int .i64 3] from rfl) (Reps.one (show Kd.M (Kd.int .i64) _ _ _ 0 [.int .i64 0] from rfl) (Reps.one (show Kd.M (Kd.int .i64) _ _ _ 5 [.int .i64 5] from rfl) (Reps.none _ _))))))))
                      intro vq3 wq13 hoq6 hb hg_ hnew_
                      clear hg_ hnew_
                      (first | rw [← Ny286.out] at hoq6 | (simp only [Int.reduceToNat] at hoq6; rw [← Ny286.out] at hoq6))
                      have HOq3 := Aside0.mk (Kd.R_lower (Kd.R_newM (M := fun k_ => (w.heap.size ≤ k_)) hoq6 (keep_size (w := w) (g := g) (row := none) (ZJ)) (fun k_ h_ => h_)) (keep_size (w := w) (g := g) (row := none) (ZJ)))
                      replace HOq1 := Aside0.mk (Kd.R_below (ZR HOq1.out) hb)
                      replace HOq2 := Aside0.mk (Kd.N_elder' (ZRN HOq2.out) (Kd.R_base hoq6) hb)
                      replace BKq0 := ZW BKq0 hb
                      replace BKq1 := ZW BKq1 hb
                      replace BKq2 := ZW BKq2 hb
                      replace HK := ZKT HK (KeepBut.of_below hb g none)
                      replace HB := ZTI HB hb
                      replace HI0 := Aside0.mk (IsS101.below (ZI) hb)
                      clear hb hoq6
                      obtain ⟨Aoq8, coq8, eoq8⟩ := Kd.R_slice HOq3.out
                      subst eoq8
                      obtain ⟨adoq3, foq3, _⟩ := Kd.at_int (Kd.R_reads' HOq3.out).2.2 0 (by decide) (by rw [Ny286.out]; simp)
                      cases foq3
                      refine hK.out _ _ ⟨(blk_cell BKq2.out 0).trans rfl, (blk_cell BKq2.out 1).trans rfl⟩ (fun hHeld => ?_)
                      clear hK K
                      refine ZNO 56 ?_
                      refine ZU 5 59 #[T,T,T,T,T,T,F,F,T,T,F,F,F,F,F,F,F,F] ?_
                      exact norm_ ZP (hJq0_4_9 (.slice (some adoq3) y286.length coq8, adoq3) _ ⟨hHeld, (ZR HOq1.out), (by (with_reducible repeat (first | apply Kd.N_alloc | apply Kd.N_drewN | apply Kd.N_drew)); exact Kd.N_mono HOq2.out (fun _ hk => ⟨hk.1.1, ⟨hk.1.2.1, ⟨hk.2, ⟨hk.1.2.2.1, ⟨hk.1.2.2.2.1, ⟨hk.1.2.2.2.2.1, hk.1.2.2.2.2.2⟩⟩⟩⟩⟩⟩)), (ZR (Kd.R_mono HOq3.out (fun _ hk => hk.1))), ⟨_, rfl⟩, (ZK BKq0.out), (ZK BKq1.out), (ZK BKq2.out), (ZI), (ZJ), (ZBI)⟩)
                     ·skip
                      refine Kd.R_lit_step (Kd.int .i64) _ 3 ?hg (N := 61) ?hd (xs := ([10, (-1), 4] : List Int)) (inner := [.int .i64 10, .int .i64 (-1), .int .i64 4]) (ok := fun _ => True) (okp := fun _ => True) ?hr ?hp (fun _ hk => hk) trivial (Below.refl _ _) (Nat.le_refl _) (by simp) ?_; (case hd => rfl); (case hg => rfl); (case hr => first | (go_simp; done) | (go_simp; rfl)); (case hp => exact (Reps.one (show Kd.M (Kd.int .i64) _ _ _ 10 [.int .i64 10] from rfl) (Reps.one (show Kd.M (Kd.int .i64) _ _ _ (-1) [.int .i64 (-1)] from rfl) (Reps.one (show Kd.M (Kd.int .i64) _ _ _ 4 [.int .i64 4] from rfl) (Reps.none _ _)))))
                      intro vq4 wq13 hoq6 hb hg_ hnew_
                      clear hg_ hnew_
                      (first | rw [← Ny292.out] at hoq6 | (simp only [Int.reduceToNat] at hoq6; rw [← Ny292.out] at hoq6))
                      have HOq4 := Aside0.mk (Kd.R_lower (Kd.R_newM (M := fun k_ => (w.heap.size ≤ k_)) hoq6 (keep_size (w := w) (g := g) (row := none) (ZJ)) (fun k_ h_ => h_)) (keep_size (w := w) (g := g) (row := none) (ZJ)))
                      replace HOq1 := Aside0.mk (Kd.R_below (ZR HOq1.out) hb)
                      replace HOq2 := Aside0.mk (Kd.N_elder' (ZRN HOq2.out) (Kd.R_base hoq6) hb)
                      replace BKq0 := ZW BKq0 hb
                      replace BKq1 := ZW BKq1 hb
                      replace BKq2 := ZW BKq2 hb
                      replace HK := ZKT HK (KeepBut.of_below hb g none)
                      replace HB := ZTI HB hb
                      replace HI0 := Aside0.mk (IsS101.below (ZI) hb)
                      clear hb hoq6
                      obtain ⟨Aoq8, coq8, eoq8⟩ := Kd.R_slice HOq4.out
                      subst eoq8
                      obtain ⟨adoq3, foq3, _⟩ := Kd.at_int (Kd.R_reads' HOq4.out).2.2 0 (by decide) (by rw [Ny292.out]; simp)
                      cases foq3
                      refine hK.out _ _ ⟨(blk_cell BKq2.out 0).trans rfl, (blk_cell BKq2.out 1).trans rfl⟩ (fun hHeld => ?_)
                      clear hK K
                      refine ZNO 61 ?_
                      refine ZU 10 64 #[T,T,F,T,T,F,F,T,T,T,T,F,F,F,F,F,F,F] ?_
                      exact norm_ ZP (hJq1_7_9 (.slice (some adoq3) y292.length coq8, adoq3) _ ⟨hHeld, (ZR HOq1.out), (by (with_reducible repeat (first | apply Kd.N_alloc | apply Kd.N_drewN | apply Kd.N_drew)); exact Kd.N_mono HOq2.out (fun _ hk => ⟨hk.1.1, ⟨hk.1.2.1, ⟨hk.2, ⟨hk.1.2.2.1, ⟨hk.1.2.2.2.1, ⟨hk.1.2.2.2.2.1, hk.1.2.2.2.2.2⟩⟩⟩⟩⟩⟩)), (ZR (Kd.R_mono HOq4.out (fun _ hk => hk.1))), ⟨_, rfl⟩, (ZK BKq0.out), (ZK BKq1.out), (ZK BKq2.out), (ZI), (ZJ), (ZBI)⟩)
                   ·skip
                    rintro ⟨vq4, adz_vq0⟩ wq17 ⟨hS_, hq0_, hq1_, hq2_, hq3_, hq4_, hq5_, hq6_, hq7_, hq8_, hq9_⟩
                    have nq0_ : Aside0 (Kd.R k35 35 wq17 w.heap.size (fun k_ => (w.heap.size ≤ k_)) (.slice Aoq4 y268.length coq4) y268) := ⟨hq0_⟩
                    have nq1_ : Aside0 (Kd.N k59 59 wq17 w.heap.size (fun k_ => (w.heap.size ≤ k_) ∧ some k_ ≠ (.slice Aoq4 y268.length coq4 : Value).ownBlock ∧ some k_ ≠ (vq4 : Value).ownBlock ∧ k_ ≠ g ∧ k_ ≠ gbq0 ∧ k_ ≠ gbq1 ∧ k_ ≠ gbq2) (.slice Aoq3 t271.length coq3) t271) := ⟨hq1_⟩
                    have nq2_ : Aside0 (Kd.R (Kd.int .i64) 3 wq17 w.heap.size (fun k_ => (w.heap.size ≤ k_)) vq4 y292) := ⟨hq2_⟩
                    have nq3_ : Aside0 (∃ c_, (vq4 : Value) = .slice (some adz_vq0) y292.length c_) := ⟨hq3_⟩
                    have nq4_ : Aside0 (wq17.heap[gbq0]? = some (.cells #[.slice A1_0 l1_0.length c1_0, .slice A1_1 l1_1.length c1_1] 26 (0, 0))) := ⟨hq4_⟩
                    have nq5_ : Aside0 (wq17.heap[gbq1]? = some (.cells #[.slice none 0 0, .slice none 0 0] 26 (0, 0))) := ⟨hq5_⟩
                    have nq6_ : Aside0 (wq17.heap[gbq2]? = some (.cells #[.slice Aoq4 y268.length coq4, .slice Aoq3 t271.length coq3] 26 (0, 0))) := ⟨hq6_⟩
                    have nq7_ : Aside0 (IsS101 w0 wq17 g s0_0 t290) := ⟨hq7_⟩
                    have nq8_ : Aside0 (KeepBut w wq17 g none) := ⟨hq8_⟩
                    have nq9_ : Aside0 (Below w0.heap.size w0 wq17) := ⟨hq9_⟩
                    clear HOq1; clear HOq2; clear BKq0; clear BKq1; clear BKq2; clear HI0; clear HK; clear HB; clear hq0_ hq1_ hq2_ hq3_ hq4_ hq5_ hq6_ hq7_ hq8_ hq9_; have HOq1 := nq0_; have HOq2 := nq1_; have HOq4 := nq2_; have HA_HOq0 := nq3_; have BKq0 := nq4_; have BKq1 := nq5_; have BKq2 := nq6_; have HI0 := nq7_; have HK := nq8_; have HB := nq9_; clear nq0_ nq1_ nq2_ nq3_ nq4_ nq5_ nq6_ nq7_ nq8_ nq9_
                    have hHeld : wq17.cell? ⟨gbq2, 0, none⟩ = some (.slice Aoq4 y268.length coq4) ∧ wq17.cell? ⟨gbq2, 1, none⟩ = some (.slice Aoq3 t271.length coq3) := hS_
                    obtain ⟨coq8, eoq8⟩ := HA_HOq0.out
                    clear HA_HOq0
                    subst eoq8
                    refine norm_ (a' := ?_) ?_ ?_
                    rotate_left
                    ·simp only [putAll, Act.put, List.setIfInBounds_toArray, List.set_cons_zero, List.set_cons_succ]; rfl
                    refine two_ (i := 2) (j := 9) (Ni := some 56) (Nj := some 63) #[T,T,T,T,T,F,F,T,T,F,F,F,F,F,F,F,F,F] #[T,T,F,T,T,F,F,T,T,T,F,F,F,F,F,F,F,F] rfl rfl rfl rfl (two_of HT_.out (by kernel_rfl)) (by decide) (by decide) (fun K hK => ?_) (fun K hK => ?_)
                    ·skip
                     refine Kd.R_lit_step (Kd.int .i64) _ 3 ?hg (N := 56) ?hd (xs := ([1, 1, 2, 3, 0, 5] : List Int)) (inner := [.int .i64 1, .int .i64 1, .int .i64 2, .int .i64 3, .int .i64 0, .int .i64 5]) (ok := fun _ => True) (okp := fun _ => True) ?hr ?hp (fun _ hk => hk) trivial (Below.refl _ _) (Nat.le_refl _) (by simp) ?_; (case hd => rfl); (case hg => rfl); (case hr => first | (go_simp; done) | (go_simp; rfl)); (case hp => exact (Reps.one (show Kd.M (Kd.int .i64) _ _ _ 1 [.int .i64 1] from rfl) (Reps.one (show Kd.M (Kd.int .i64) _ _ _ 1 [.int .i64 1] from rfl) (Reps.one (show Kd.M (Kd.int .i64) _ _ _ 2 [.int .i64 2] from rfl) (Reps.one (show Kd.M (Kd.int .i64) _ _ _ 3 [.int .i64 3] from rfl) (Reps.one (show Kd.M (Kd.int .i64) _ _ _ 0 [.int .i64 0] from rfl) (Reps.one (show Kd.M (Kd.int .i64) _ _ _ 5 [.int .i64 5] from rfl) (Reps.none _ _))))))))
                     intro vq3 wq18 hoq7 hb hg_ hnew_
                     clear hg_ hnew_
                     (first | rw [← Ny286.out] at hoq7 | (simp only [Int.reduceToNat] at hoq7; rw [← Ny286.out] at hoq7))
                     have HOq3 := Aside0.mk (Kd.R_lower (Kd.R_new' (Kd.R_newM (M := fun k_ => (w.heap.size ≤ k_)) hoq7 (keep_size (w := w) (g := g) (row := none) (ZJ)) (fun k_ h_ => h_)) (Kd.R_lt (ZR HOq4.out))) (keep_size (w := w) (g := g) (row := none) (ZJ)))
                     replace HOq1 := Aside0.mk (Kd.R_below (ZR HOq1.out) hb)
                     replace HOq2 := Aside0.mk (Kd.N_elder' (ZRN HOq2.out) (Kd.R_base hoq7) hb)
                     replace HOq4 := Aside0.mk (Kd.R_elder' (ZR HOq4.out) (Kd.R_base hoq7) hb)
                     replace BKq0 := ZW BKq0 hb
                     replace BKq1 := ZW BKq1 hb
                     replace BKq2 := ZW BKq2 hb
                     replace HK := ZKT HK (KeepBut.of_below hb g none)
                     replace HB := ZTI HB hb
                     replace HI0 := Aside0.mk (IsS101.below (ZI) hb)
                     clear hb hoq7
                     obtain ⟨Aoq9, coq9, eoq9⟩ := Kd.R_slice HOq3.out
                     subst eoq9
                     obtain ⟨adoq4, foq4, _⟩ := Kd.at_int (Kd.R_reads' HOq3.out).2.2 0 (by decide) (by rw [Ny286.out]; simp)
                     cases foq4
                     refine hK.out _ _ ⟨(blk_cell BKq2.out 0).trans rfl, (blk_cell BKq2.out 1).trans rfl⟩ (fun hHeld => ?_)
                     clear hK K
                     refine ZNO 56 ?_
                     refine ZU 5 59 #[T,T,T,T,T,T,F,T,T,F,F,F,F,F,F,F,F,F] ?_
                     exact norm_ ZP (hJq0_4_7 (.slice (some adoq4) y286.length coq9, adoq4, .slice (some adz_vq0) y292.length coq8, adz_vq0) _ ⟨hHeld, (ZR HOq1.out), (by (with_reducible repeat (first | apply Kd.N_alloc | apply Kd.N_drewN | apply Kd.N_drew)); exact Kd.N_mono HOq2.out (fun _ hk => ⟨hk.1.1, ⟨hk.1.2.1, ⟨hk.2, ⟨hk.1.2.2.1, ⟨hk.1.2.2.2.1, ⟨hk.1.2.2.2.2.1, ⟨hk.1.2.2.2.2.2.1, hk.1.2.2.2.2.2.2⟩⟩⟩⟩⟩⟩⟩)), (by (with_reducible repeat (first | apply Kd.R_alloc | apply Kd.R_drewN | apply Kd.R_drew)); exact Kd.R_mono HOq3.out (fun _ hk => ⟨hk.1.1, hk.2⟩)), (ZR HOq4.out), ⟨_, rfl⟩, ⟨_, rfl⟩, (ZK BKq0.out), (ZK BKq1.out), (ZK BKq2.out), (ZI), (ZJ), (ZBI)⟩)
                    ·skip
                     refine goes_ Try.func85 (by kernel_rfl) rfl #[.pointer (some ⟨g, 0, none⟩), .int .i64 3] (by rfl) rfl rfl ZG ?_
                     with_reducible refine (spec_l6Rd_pick.calls k g s0_0 t290 3 t295 t296 w0 _ ?side1 ?side2 A98.out).mono ?_
                     (case side1 => exact ZI)
                     (case side2 => exact ZBI)
                     rintro e wq18 ⟨rfl, hi, hb, hk⟩
                     refine ⟨_, rfl, ?_⟩
                     replace BKq0 := ZL hk BKq0 NBq1_0
                     replace BKq1 := ZL hk BKq1 NBq2_0
                     replace HOq1 := Aside0.mk (Kd.R_mono (Kd.R_keep (IsS101.apart (show IsS101 w0 _ g s0_0 t290 from ZI) (ZR HOq1.out) (by decide)) hk (fun _ h => h.2)) (fun _ h => h.1))
                     replace HOq2 := Aside0.mk (Kd.N_mono (Kd.N_keep (Kd.N_mono (ok := fun k_ => (((w.heap.size ≤ k_)) ∧ (some k_ ≠ (.slice Aoq4 y268.length coq4 : Value).ownBlock ∧ (some k_ ≠ (.slice (some adz_vq0) y292.length coq8 : Value).ownBlock ∧ (k_ ≠ g ∧ (k_ ≠ gbq0 ∧ (k_ ≠ gbq1 ∧ k_ ≠ gbq2))))))) (ZRN HOq2.out) (fun k_ hk_ => (⟨hk_, hk_.2.2.2.1⟩ : _ ∧ k_ ≠ g))) hk (fun _ h => h.2)) (fun _ h => h.1))
                     replace BKq2 := ZL hk BKq2 NBq3_0
                     replace HOq4 := Aside0.mk (Kd.R_mono (Kd.R_keep (IsS101.apart (show IsS101 w0 _ g s0_0 t290 from ZI) (ZR HOq4.out) (by decide)) hk (fun _ h => h.2)) (fun _ h => h.1))
                     replace HK := ZKT HK hk
                     replace HB := Aside0.mk (hb)
                     replace HI0 := Aside0.mk (hi)
                     (try clear hb)
                     (try clear hb2)
                     (try clear hk)
                     (try clear hi)
                     refine hK.out _ _ ⟨(blk_cell BKq2.out 0).trans rfl, (blk_cell BKq2.out 1).trans rfl⟩ (fun hHeld => ?_)
                     clear hK K
                     refine ZNO 63 ?_
                     refine ZU 10 64 #[T,T,F,T,T,F,F,T,T,T,T,F,F,F,F,F,F,F] ?_
                     exact norm_ ZP (hJq1_7_9 (.slice (some adz_vq0) y292.length coq8, adz_vq0) _ ⟨hHeld, (ZR HOq1.out), (ZRN HOq2.out), (ZR HOq4.out), ⟨_, rfl⟩, (ZK BKq0.out), (ZK BKq1.out), (ZK BKq2.out), (ZI), (ZJ), (ZBI)⟩)
                  ·skip
                   rintro ⟨vq3, adz_vq1, vq4, adz_vq0⟩ wq18 ⟨hS_, hq0_, hq1_, hq2_, hq3_, hq4_, hq5_, hq6_, hq7_, hq8_, hq9_, hq10_, hq11_⟩
                   have nq0_ : Aside0 (Kd.R k35 35 wq18 w.heap.size (fun k_ => (w.heap.size ≤ k_)) (.slice Aoq4 y268.length coq4) y268) := ⟨hq0_⟩
                   have nq1_ : Aside0 (Kd.N k59 59 wq18 w.heap.size (fun k_ => (w.heap.size ≤ k_) ∧ some k_ ≠ (.slice Aoq4 y268.length coq4 : Value).ownBlock ∧ some k_ ≠ (vq3 : Value).ownBlock ∧ some k_ ≠ (vq4 : Value).ownBlock ∧ k_ ≠ g ∧ k_ ≠ gbq0 ∧ k_ ≠ gbq1 ∧ k_ ≠ gbq2) (.slice Aoq3 t271.length coq3) t271) := ⟨hq1_⟩
                   have nq2_ : Aside0 (Kd.R (Kd.int .i64) 3 wq18 w.heap.size (fun k_ => (w.heap.size ≤ k_) ∧ some k_ ≠ (vq4 : Value).ownBlock) vq3 y286) := ⟨hq2_⟩
                   have nq3_ : Aside0 (Kd.R (Kd.int .i64) 3 wq18 w.heap.size (fun k_ => (w.heap.size ≤ k_) ∧ some k_ ≠ (vq3 : Value).ownBlock) vq4 y292) := ⟨hq3_⟩
                   have nq4_ : Aside0 (∃ c_, (vq3 : Value) = .slice (some adz_vq1) y286.length c_) := ⟨hq4_⟩
                   have nq5_ : Aside0 (∃ c_, (vq4 : Value) = .slice (some adz_vq0) y292.length c_) := ⟨hq5_⟩
                   have nq6_ : Aside0 (wq18.heap[gbq0]? = some (.cells #[.slice A1_0 l1_0.length c1_0, .slice A1_1 l1_1.length c1_1] 26 (0, 0))) := ⟨hq6_⟩
                   have nq7_ : Aside0 (wq18.heap[gbq1]? = some (.cells #[.slice none 0 0, .slice none 0 0] 26 (0, 0))) := ⟨hq7_⟩
                   have nq8_ : Aside0 (wq18.heap[gbq2]? = some (.cells #[.slice Aoq4 y268.length coq4, .slice Aoq3 t271.length coq3] 26 (0, 0))) := ⟨hq8_⟩
                   have nq9_ : Aside0 (IsS101 w0 wq18 g s0_0 t276) := ⟨hq9_⟩
                   have nq10_ : Aside0 (KeepBut w wq18 g none) := ⟨hq10_⟩
                   have nq11_ : Aside0 (Below w0.heap.size w0 wq18) := ⟨hq11_⟩
                   clear HOq1; clear HOq2; clear BKq0; clear BKq1; clear BKq2; clear HI0; clear HK; clear HB; clear hq0_ hq1_ hq2_ hq3_ hq4_ hq5_ hq6_ hq7_ hq8_ hq9_ hq10_ hq11_; have HOq1 := nq0_; have HOq2 := nq1_; have HOq3 := nq2_; have HOq4 := nq3_; have HA_HOq1 := nq4_; have HA_HOq0 := nq5_; have BKq0 := nq6_; have BKq1 := nq7_; have BKq2 := nq8_; have HI0 := nq9_; have HK := nq10_; have HB := nq11_; clear nq0_ nq1_ nq2_ nq3_ nq4_ nq5_ nq6_ nq7_ nq8_ nq9_ nq10_ nq11_
                   have hHeld : wq18.cell? ⟨gbq2, 0, none⟩ = some (.slice Aoq4 y268.length coq4) ∧ wq18.cell? ⟨gbq2, 1, none⟩ = some (.slice Aoq3 t271.length coq3) := hS_
                   obtain ⟨coq7, eoq7⟩ := HA_HOq1.out
                   clear HA_HOq1
                   subst eoq7
                   obtain ⟨coq9, eoq9⟩ := HA_HOq0.out
                   clear HA_HOq0
                   subst eoq9
                   refine norm_ (a' := ?_) ?_ ?_
                   rotate_left
                   ·simp only [putAll, Act.put, List.setIfInBounds_toArray, List.set_cons_zero, List.set_cons_succ]; rfl
                   refine one_ (i := 4) (N := some 58) #[T,T,T,T,T,F,F,T,T,F,F,F,F,F,F,F,F,F] rfl rfl (one_of HT_.out (by kernel_rfl)) (by decide) (fun K hK => ?_)
                   refine goes_ Try.func85 (by kernel_rfl) rfl #[.pointer (some ⟨g, 0, none⟩), .int .i64 6] (by rfl) rfl rfl ZG ?_
                   with_reducible refine (spec_l6Rd_pick.calls k g s0_0 t276 6 t289 t290 w0 _ ?side1 ?side2 A95.out).mono ?_
                   (case side1 => exact ZI)
                   (case side2 => exact ZBI)
                   rintro e wq19 ⟨rfl, hi, hb, hk⟩
                   refine ⟨_, rfl, ?_⟩
                   replace BKq0 := ZL hk BKq0 NBq1_0
                   replace BKq1 := ZL hk BKq1 NBq2_0
                   replace HOq1 := Aside0.mk (Kd.R_mono (Kd.R_keep (IsS101.apart (show IsS101 w0 _ g s0_0 t276 from ZI) (ZR HOq1.out) (by decide)) hk (fun _ h => h.2)) (fun _ h => h.1))
                   replace HOq2 := Aside0.mk (Kd.N_mono (Kd.N_keep (Kd.N_mono (ok := fun k_ => (((w.heap.size ≤ k_)) ∧ (some k_ ≠ (.slice Aoq4 y268.length coq4 : Value).ownBlock ∧ (some k_ ≠ (.slice (some adz_vq1) y286.length coq7 : Value).ownBlock ∧ (some k_ ≠ (.slice (some adz_vq0) y292.length coq9 : Value).ownBlock ∧ (k_ ≠ g ∧ (k_ ≠ gbq0 ∧ (k_ ≠ gbq1 ∧ k_ ≠ gbq2)))))))) (ZRN HOq2.out) (fun k_ hk_ => (⟨hk_, hk_.2.2.2.2.1⟩ : _ ∧ k_ ≠ g))) hk (fun _ h => h.2)) (fun _ h => h.1))
                   replace BKq2 := ZL hk BKq2 NBq3_0
                   replace HOq3 := Aside0.mk (Kd.R_mono (Kd.R_keep (IsS101.apart (show IsS101 w0 _ g s0_0 t276 from ZI) (ZR HOq3.out) (by decide)) hk (fun _ h => h.2)) (fun _ h => h.1))
                   replace HOq4 := Aside0.mk (Kd.R_mono (Kd.R_keep (IsS101.apart (show IsS101 w0 _ g s0_0 t276 from ZI) (ZR HOq4.out) (by decide)) hk (fun _ h => h.2)) (fun _ h => h.1))
                   replace HK := ZKT HK hk
                   replace HB := Aside0.mk (hb)
                   replace HI0 := Aside0.mk (hi)
                   (try clear hb)
                   (try clear hb2)
                   (try clear hk)
                   (try clear hi)
                   refine hK.out _ _ ⟨(blk_cell BKq2.out 0).trans rfl, (blk_cell BKq2.out 1).trans rfl⟩ (fun hHeld => ?_)
                   clear hK K
                   refine ZNO 58 ?_
                   refine ZU 5 59 #[T,T,T,T,T,T,F,T,T,F,F,F,F,F,F,F,F,F] ?_
                   exact norm_ ZP (hJq0_4_7 (.slice (some adz_vq1) y286.length coq7, adz_vq1, .slice (some adz_vq0) y292.length coq9, adz_vq0) _ ⟨hHeld, (ZR HOq1.out), (ZRN HOq2.out), (ZR HOq3.out), (ZR HOq4.out), ⟨_, rfl⟩, ⟨_, rfl⟩, (ZK BKq0.out), (ZK BKq1.out), (ZK BKq2.out), (ZI), (ZJ), (ZBI)⟩)
                 ·skip
                  rintro ⟨vq3, adz_vq1⟩ wq17 ⟨hS_, hq0_, hq1_, hq2_, hq3_, hq4_, hq5_, hq6_, hq7_, hq8_, hq9_⟩
                  have nq0_ : Aside0 (Kd.R k35 35 wq17 w.heap.size (fun k_ => (w.heap.size ≤ k_)) (.slice Aoq4 y268.length coq4) y268) := ⟨hq0_⟩
                  have nq1_ : Aside0 (Kd.N k59 59 wq17 w.heap.size (fun k_ => (w.heap.size ≤ k_) ∧ some k_ ≠ (.slice Aoq4 y268.length coq4 : Value).ownBlock ∧ some k_ ≠ (vq3 : Value).ownBlock ∧ k_ ≠ g ∧ k_ ≠ gbq0 ∧ k_ ≠ gbq1 ∧ k_ ≠ gbq2) (.slice Aoq3 t271.length coq3) t271) := ⟨hq1_⟩
                  have nq2_ : Aside0 (Kd.R (Kd.int .i64) 3 wq17 w.heap.size (fun k_ => (w.heap.size ≤ k_)) vq3 y286) := ⟨hq2_⟩
                  have nq3_ : Aside0 (∃ c_, (vq3 : Value) = .slice (some adz_vq1) y286.length c_) := ⟨hq3_⟩
                  have nq4_ : Aside0 (wq17.heap[gbq0]? = some (.cells #[.slice A1_0 l1_0.length c1_0, .slice A1_1 l1_1.length c1_1] 26 (0, 0))) := ⟨hq4_⟩
                  have nq5_ : Aside0 (wq17.heap[gbq1]? = some (.cells #[.slice none 0 0, .slice none 0 0] 26 (0, 0))) := ⟨hq5_⟩
                  have nq6_ : Aside0 (wq17.heap[gbq2]? = some (.cells #[.slice Aoq4 y268.length coq4, .slice Aoq3 t271.length coq3] 26 (0, 0))) := ⟨hq6_⟩
                  have nq7_ : Aside0 (IsS101 w0 wq17 g s0_0 t290) := ⟨hq7_⟩
                  have nq8_ : Aside0 (KeepBut w wq17 g none) := ⟨hq8_⟩
                  have nq9_ : Aside0 (Below w0.heap.size w0 wq17) := ⟨hq9_⟩
                  clear HOq1; clear HOq2; clear BKq0; clear BKq1; clear BKq2; clear HI0; clear HK; clear HB; clear hq0_ hq1_ hq2_ hq3_ hq4_ hq5_ hq6_ hq7_ hq8_ hq9_; have HOq1 := nq0_; have HOq2 := nq1_; have HOq3 := nq2_; have HA_HOq1 := nq3_; have BKq0 := nq4_; have BKq1 := nq5_; have BKq2 := nq6_; have HI0 := nq7_; have HK := nq8_; have HB := nq9_; clear nq0_ nq1_ nq2_ nq3_ nq4_ nq5_ nq6_ nq7_ nq8_ nq9_
                  have hHeld : wq17.cell? ⟨gbq2, 0, none⟩ = some (.slice Aoq4 y268.length coq4) ∧ wq17.cell? ⟨gbq2, 1, none⟩ = some (.slice Aoq3 t271.length coq3) := hS_
                  obtain ⟨coq8, eoq8⟩ := HA_HOq1.out
                  clear HA_HOq1
                  subst eoq8
                  refine norm_ (a' := ?_) ?_ ?_
                  rotate_left
                  ·simp only [putAll, Act.put, List.setIfInBounds_toArray, List.set_cons_zero, List.set_cons_succ]; rfl
                  refine three_ (i := 6) (j := 7) (k := 9) (Ni := some 60) (Nj := some 61) (Nk := some 63) #[T,T,T,T,T,T,T,F,T,F,F,F,F,F,F,F,F,F] #[T,T,T,T,T,T,F,T,T,F,F,F,F,F,F,F,F,F] #[T,T,T,T,T,T,F,F,T,T,F,F,F,F,F,F,F,F] rfl rfl rfl rfl rfl rfl (three_of HT_.out (by kernel_rfl)) (by decide) (by decide) (by decide) (fun K hK => ?_) (fun K hK => ?_) (fun K hK => ?_)
                  ·skip
                   (have pq0 : 0 ≤ (t289 : Int) := ZD; have qq0 : t289 < (y286.length : Int) := ZD; obtain ⟨adq0, eq0, hxq0_0⟩ := Kd.at_int (Kd.R_reads' HOq3.out).2.2 t289 pq0 qq0; obtain rfl : adz_vq1 = adq0 := (by injection eq0))
                   refine value_ (w1 := ?_) (v := ?_) (by rfl) rfl ?_ ?_
                   rotate_left 2
                   ·go_simp
                    constructor
                    ·rfl
                    ·rfl
                   clear hxq0_0
                   refine hK.out _ _ ⟨(blk_cell BKq2.out 0).trans rfl, (blk_cell BKq2.out 1).trans rfl⟩ (fun hHeld => ?_)
                   clear hK K
                   refine ZNO 60 ?_
                   exact norm_ ZP (hJq0_4_6 (.slice (some adz_vq1) y286.length coq8, adz_vq1) _ ⟨hHeld, (ZR HOq1.out), (ZRN HOq2.out), (ZR HOq3.out), ⟨_, rfl⟩, (ZK BKq0.out), (ZK BKq1.out), (ZK BKq2.out), (ZI), (ZJ), (ZBI)⟩)
                  ·skip
                   refine Kd.R_lit_step (Kd.int .i64) _ 3 ?hg (N := 61) ?hd (xs := ([10, (-1), 4] : List Int)) (inner := [.int .i64 10, .int .i64 (-1), .int .i64 4]) (ok := fun _ => True) (okp := fun _ => True) ?hr ?hp (fun _ hk => hk) trivial (Below.refl _ _) (Nat.le_refl _) (by simp) ?_; (case hd => rfl); (case hg => rfl); (case hr => first | (go_simp; done) | (go_simp; rfl)); (case hp => exact (Reps.one (show Kd.M (Kd.int .i64) _ _ _ 10 [.int .i64 10] from rfl) (Reps.one (show Kd.M (Kd.int .i64) _ _ _ (-1) [.int .i64 (-1)] from rfl) (Reps.one (show Kd.M (Kd.int .i64) _ _ _ 4 [.int .i64 4] from rfl) (Reps.none _ _)))))
                   intro vq4 wq18 hoq7 hb hg_ hnew_
                   clear hg_ hnew_
                   (first | rw [← Ny292.out] at hoq7 | (simp only [Int.reduceToNat] at hoq7; rw [← Ny292.out] at hoq7))
                   have HOq4 := Aside0.mk (Kd.R_lower (Kd.R_new' (Kd.R_newM (M := fun k_ => (w.heap.size ≤ k_)) hoq7 (keep_size (w := w) (g := g) (row := none) (ZJ)) (fun k_ h_ => h_)) (Kd.R_lt (ZR HOq3.out))) (keep_size (w := w) (g := g) (row := none) (ZJ)))
                   replace HOq1 := Aside0.mk (Kd.R_below (ZR HOq1.out) hb)
                   replace HOq2 := Aside0.mk (Kd.N_elder' (ZRN HOq2.out) (Kd.R_base hoq7) hb)
                   replace HOq3 := Aside0.mk (Kd.R_elder' (ZR HOq3.out) (Kd.R_base hoq7) hb)
                   replace BKq0 := ZW BKq0 hb
                   replace BKq1 := ZW BKq1 hb
                   replace BKq2 := ZW BKq2 hb
                   replace HK := ZKT HK (KeepBut.of_below hb g none)
                   replace HB := ZTI HB hb
                   replace HI0 := Aside0.mk (IsS101.below (ZI) hb)
                   clear hb hoq7
                   obtain ⟨Aoq9, coq9, eoq9⟩ := Kd.R_slice HOq4.out
                   subst eoq9
                   obtain ⟨adoq4, foq4, _⟩ := Kd.at_int (Kd.R_reads' HOq4.out).2.2 0 (by decide) (by rw [Ny292.out]; simp)
                   cases foq4
                   refine hK.out _ _ ⟨(blk_cell BKq2.out 0).trans rfl, (blk_cell BKq2.out 1).trans rfl⟩ (fun hHeld => ?_)
                   clear hK K
                   refine ZNO 61 ?_
                   exact norm_ ZP (hJq0_4_7 (.slice (some adz_vq1) y286.length coq8, adz_vq1, .slice (some adoq4) y292.length coq9, adoq4) _ ⟨hHeld, (ZR HOq1.out), (by (with_reducible repeat (first | apply Kd.N_alloc | apply Kd.N_drewN | apply Kd.N_drew)); exact Kd.N_mono HOq2.out (fun _ hk => ⟨hk.1.1, ⟨hk.1.2.1, ⟨hk.1.2.2.1, ⟨hk.2, ⟨hk.1.2.2.2.1, ⟨hk.1.2.2.2.2.1, ⟨hk.1.2.2.2.2.2.1, hk.1.2.2.2.2.2.2⟩⟩⟩⟩⟩⟩⟩)), (ZR HOq3.out), (by (with_reducible repeat (first | apply Kd.R_alloc | apply Kd.R_drewN | apply Kd.R_drew)); exact Kd.R_mono HOq4.out (fun _ hk => ⟨hk.1.1, hk.2⟩)), ⟨_, rfl⟩, ⟨_, rfl⟩, (ZK BKq0.out), (ZK BKq1.out), (ZK BKq2.out), (ZI), (ZJ), (ZBI)⟩)
                  ·skip
                   refine goes_ Try.func85 (by kernel_rfl) rfl #[.pointer (some ⟨g, 0, none⟩), .int .i64 3] (by rfl) rfl rfl ZG ?_
                   with_reducible refine (spec_l6Rd_pick.calls k g s0_0 t290 3 t295 t296 w0 _ ?side1 ?side2 A98.out).mono ?_
                   (case side1 => exact ZI)
                   (case side2 => exact ZBI)
                   rintro e wq18 ⟨rfl, hi, hb, hk⟩
                   refine ⟨_, rfl, ?_⟩
                   replace BKq0 := ZL hk BKq0 NBq1_0
                   replace BKq1 := ZL hk BKq1 NBq2_0
                   replace HOq1 := Aside0.mk (Kd.R_mono (Kd.R_keep (IsS101.apart (show IsS101 w0 _ g s0_0 t290 from ZI) (ZR HOq1.out) (by decide)) hk (fun _ h => h.2)) (fun _ h => h.1))
                   replace HOq2 := Aside0.mk (Kd.N_mono (Kd.N_keep (Kd.N_mono (ok := fun k_ => (((w.heap.size ≤ k_)) ∧ (some k_ ≠ (.slice Aoq4 y268.length coq4 : Value).ownBlock ∧ (some k_ ≠ (.slice (some adz_vq1) y286.length coq8 : Value).ownBlock ∧ (k_ ≠ g ∧ (k_ ≠ gbq0 ∧ (k_ ≠ gbq1 ∧ k_ ≠ gbq2))))))) (ZRN HOq2.out) (fun k_ hk_ => (⟨hk_, hk_.2.2.2.1⟩ : _ ∧ k_ ≠ g))) hk (fun _ h => h.2)) (fun _ h => h.1))
                   replace BKq2 := ZL hk BKq2 NBq3_0
                   replace HOq3 := Aside0.mk (Kd.R_mono (Kd.R_keep (IsS101.apart (show IsS101 w0 _ g s0_0 t290 from ZI) (ZR HOq3.out) (by decide)) hk (fun _ h => h.2)) (fun _ h => h.1))
                   replace HK := ZKT HK hk
                   replace HB := Aside0.mk (hb)
                   replace HI0 := Aside0.mk (hi)
                   (try clear hb)
                   (try clear hb2)
                   (try clear hk)
                   (try clear hi)
                   refine hK.out _ _ ⟨(blk_cell BKq2.out 0).trans rfl, (blk_cell BKq2.out 1).trans rfl⟩ (fun hHeld => ?_)
                   clear hK K
                   refine ZNO 63 ?_
                   exact norm_ ZP (hJq0_4_9 (.slice (some adz_vq1) y286.length coq8, adz_vq1) _ ⟨hHeld, (ZR HOq1.out), (ZRN HOq2.out), (ZR HOq3.out), ⟨_, rfl⟩, (ZK BKq0.out), (ZK BKq1.out), (ZK BKq2.out), (ZI), (ZJ), (ZBI)⟩)
                ·skip
                 rintro ⟨vq4, adz_vq0⟩ wq14 ⟨hS_, hq0_, hq1_, hq2_, hq3_, hq4_, hq5_, hq6_, hq7_, hq8_, hq9_⟩
                 have nq0_ : Aside0 (Kd.R k35 35 wq14 w.heap.size (fun k_ => (w.heap.size ≤ k_)) (.slice Aoq4 y268.length coq4) y268) := ⟨hq0_⟩
                 have nq1_ : Aside0 (Kd.N k59 59 wq14 w.heap.size (fun k_ => (w.heap.size ≤ k_) ∧ some k_ ≠ (.slice Aoq4 y268.length coq4 : Value).ownBlock ∧ some k_ ≠ (vq4 : Value).ownBlock ∧ k_ ≠ g ∧ k_ ≠ gbq0 ∧ k_ ≠ gbq1 ∧ k_ ≠ gbq2) (.slice Aoq3 t271.length coq3) t271) := ⟨hq1_⟩
                 have nq2_ : Aside0 (Kd.R (Kd.int .i64) 3 wq14 w.heap.size (fun k_ => (w.heap.size ≤ k_)) vq4 y292) := ⟨hq2_⟩
                 have nq3_ : Aside0 (∃ c_, (vq4 : Value) = .slice (some adz_vq0) y292.length c_) := ⟨hq3_⟩
                 have nq4_ : Aside0 (wq14.heap[gbq0]? = some (.cells #[.slice A1_0 l1_0.length c1_0, .slice A1_1 l1_1.length c1_1] 26 (0, 0))) := ⟨hq4_⟩
                 have nq5_ : Aside0 (wq14.heap[gbq1]? = some (.cells #[.slice none 0 0, .slice none 0 0] 26 (0, 0))) := ⟨hq5_⟩
                 have nq6_ : Aside0 (wq14.heap[gbq2]? = some (.cells #[.slice Aoq4 y268.length coq4, .slice Aoq3 t271.length coq3] 26 (0, 0))) := ⟨hq6_⟩
                 have nq7_ : Aside0 (IsS101 w0 wq14 g s0_0 t296) := ⟨hq7_⟩
                 have nq8_ : Aside0 (KeepBut w wq14 g none) := ⟨hq8_⟩
                 have nq9_ : Aside0 (Below w0.heap.size w0 wq14) := ⟨hq9_⟩
                 clear HOq1; clear HOq2; clear BKq0; clear BKq1; clear BKq2; clear HI0; clear HK; clear HB; clear hq0_ hq1_ hq2_ hq3_ hq4_ hq5_ hq6_ hq7_ hq8_ hq9_; have HOq1 := nq0_; have HOq2 := nq1_; have HOq4 := nq2_; have HA_HOq0 := nq3_; have BKq0 := nq4_; have BKq1 := nq5_; have BKq2 := nq6_; have HI0 := nq7_; have HK := nq8_; have HB := nq9_; clear nq0_ nq1_ nq2_ nq3_ nq4_ nq5_ nq6_ nq7_ nq8_ nq9_
                 have hHeld : wq14.cell? ⟨gbq2, 0, none⟩ = some (.slice Aoq4 y268.length coq4) ∧ wq14.cell? ⟨gbq2, 1, none⟩ = some (.slice Aoq3 t271.length coq3) := hS_
                 obtain ⟨coq10, eoq10⟩ := HA_HOq0.out
                 clear HA_HOq0
                 subst eoq10
                 refine norm_ (a' := ?_) ?_ ?_
                 rotate_left
                 ·simp only [putAll, Act.put, List.setIfInBounds_toArray, List.set_cons_zero, List.set_cons_succ]; rfl
                 refine two_ (i := 2) (j := 11) (Ni := some 56) (Nj := some 65) #[T,T,T,T,T,F,F,T,T,T,T,F,F,F,F,F,F,F] #[T,T,F,T,T,F,F,T,T,T,T,T,F,F,F,F,F,F] rfl rfl rfl rfl (two_of HT_.out (by kernel_rfl)) (by decide) (by decide) (fun K hK => ?_) (fun K hK => ?_)
                 ·skip
                  refine Kd.R_lit_step (Kd.int .i64) _ 3 ?hg (N := 56) ?hd (xs := ([1, 1, 2, 3, 0, 5] : List Int)) (inner := [.int .i64 1, .int .i64 1, .int .i64 2, .int .i64 3, .int .i64 0, .int .i64 5]) (ok := fun _ => True) (okp := fun _ => True) ?hr ?hp (fun _ hk => hk) trivial (Below.refl _ _) (Nat.le_refl _) (by simp) ?_; (case hd => rfl); (case hg => rfl); (case hr => first | (go_simp; done) | (go_simp; rfl)); (case hp => exact (Reps.one (show Kd.M (Kd.int .i64) _ _ _ 1 [.int .i64 1] from rfl) (Reps.one (show Kd.M (Kd.int .i64) _ _ _ 1 [.int .i64 1] from rfl) (Reps.one (show Kd.M (Kd.int .i64) _ _ _ 2 [.int .i64 2] from rfl) (Reps.one (show Kd.M (Kd.int .i64) _ _ _ 3 [.int .i64 3] from rfl) (Reps.one (show Kd.M (Kd.int .i64) _ _ _ 0 [.int .i64 0] from rfl) (Reps.one (show Kd.M (Kd.int .i64) _ _ _ 5 [.int .i64 5] from rfl) (Reps.none _ _))))))))
                  intro vq3 wq20 hoq8 hb hg_ hnew_
                  clear hg_ hnew_
                  (first | rw [← Ny286.out] at hoq8 | (simp only [Int.reduceToNat] at hoq8; rw [← Ny286.out] at hoq8))
                  have HOq3 := Aside0.mk (Kd.R_lower (Kd.R_new' (Kd.R_newM (M := fun k_ => (w.heap.size ≤ k_)) hoq8 (keep_size (w := w) (g := g) (row := none) (ZJ)) (fun k_ h_ => h_)) (Kd.R_lt (ZR HOq4.out))) (keep_size (w := w) (g := g) (row := none) (ZJ)))
                  replace HOq1 := Aside0.mk (Kd.R_below (ZR HOq1.out) hb)
                  replace HOq2 := Aside0.mk (Kd.N_elder' (ZRN HOq2.out) (Kd.R_base hoq8) hb)
                  replace HOq4 := Aside0.mk (Kd.R_elder' (ZR HOq4.out) (Kd.R_base hoq8) hb)
                  replace BKq0 := ZW BKq0 hb
                  replace BKq1 := ZW BKq1 hb
                  replace BKq2 := ZW BKq2 hb
                  replace HK := ZKT HK (KeepBut.of_below hb g none)
                  replace HB := ZTI HB hb
                  replace HI0 := Aside0.mk (IsS101.below (ZI) hb)
                  clear hb hoq8
                  obtain ⟨Aoq10, coq11, eoq11⟩ := Kd.R_slice HOq3.out
                  subst eoq11
                  obtain ⟨adoq5, foq5, _⟩ := Kd.at_int (Kd.R_reads' HOq3.out).2.2 0 (by decide) (by rw [Ny286.out]; simp)
                  cases foq5
                  refine hK.out _ _ ⟨(blk_cell BKq2.out 0).trans rfl, (blk_cell BKq2.out 1).trans rfl⟩ (fun hHeld => ?_)
                  clear hK K
                  refine ZNO 56 ?_
                  refine ZU 5 59 #[T,T,T,T,T,T,F,T,T,T,T,F,F,F,F,F,F,F] ?_
                  exact norm_ ZP (hJq0_4_7_9 (.slice (some adoq5) y286.length coq11, adoq5, .slice (some adz_vq0) y292.length coq10, adz_vq0) _ ⟨hHeld, (ZR HOq1.out), (by (with_reducible repeat (first | apply Kd.N_alloc | apply Kd.N_drewN | apply Kd.N_drew)); exact Kd.N_mono HOq2.out (fun _ hk => ⟨hk.1.1, ⟨hk.1.2.1, ⟨hk.2, ⟨hk.1.2.2.1, ⟨hk.1.2.2.2.1, ⟨hk.1.2.2.2.2.1, ⟨hk.1.2.2.2.2.2.1, hk.1.2.2.2.2.2.2⟩⟩⟩⟩⟩⟩⟩)), (by (with_reducible repeat (first | apply Kd.R_alloc | apply Kd.R_drewN | apply Kd.R_drew)); exact Kd.R_mono HOq3.out (fun _ hk => ⟨hk.1.1, hk.2⟩)), (ZR HOq4.out), ⟨_, rfl⟩, ⟨_, rfl⟩, (ZK BKq0.out), (ZK BKq1.out), (ZK BKq2.out), (ZI), (ZJ), (ZBI)⟩)
                 ·skip
                  (have pq1 : 0 ≤ (t295 : Int) := ZD; have qq1 : t295 < (y292.length : Int) := ZD; obtain ⟨adq1, eq1, hxq1_0⟩ := Kd.at_int (Kd.R_reads' HOq4.out).2.2 t295 pq1 qq1; obtain rfl : adz_vq0 = adq1 := (by injection eq1))
                  refine value_ (w1 := ?_) (v := ?_) (by rfl) rfl ?_ ?_
                  rotate_left 2
                  ·go_simp
                   constructor
                   ·rfl
                   ·rfl
                  clear hxq1_0
                  refine hK.out _ _ ⟨(blk_cell BKq2.out 0).trans rfl, (blk_cell BKq2.out 1).trans rfl⟩ (fun hHeld => ?_)
                  clear hK K
                  refine ZNO 65 ?_
                  exact norm_ ZP (hJq1_7_9_11 (.slice (some adz_vq0) y292.length coq10, adz_vq0) _ ⟨hHeld, (ZR HOq1.out), (ZRN HOq2.out), (ZR HOq4.out), ⟨_, rfl⟩, (ZK BKq0.out), (ZK BKq1.out), (ZK BKq2.out), (ZI), (ZJ), (ZBI)⟩)
               ·skip
                rintro ⟨vq3, adz_vq1⟩ wq14 ⟨hS_, hq0_, hq1_, hq2_, hq3_, hq4_, hq5_, hq6_, hq7_, hq8_, hq9_⟩
                have nq0_ : Aside0 (Kd.R k35 35 wq14 w.heap.size (fun k_ => (w.heap.size ≤ k_)) (.slice Aoq4 y268.length coq4) y268) := ⟨hq0_⟩
                have nq1_ : Aside0 (Kd.N k59 59 wq14 w.heap.size (fun k_ => (w.heap.size ≤ k_) ∧ some k_ ≠ (.slice Aoq4 y268.length coq4 : Value).ownBlock ∧ some k_ ≠ (vq3 : Value).ownBlock ∧ k_ ≠ g ∧ k_ ≠ gbq0 ∧ k_ ≠ gbq1 ∧ k_ ≠ gbq2) (.slice Aoq3 t271.length coq3) t271) := ⟨hq1_⟩
                have nq2_ : Aside0 (Kd.R (Kd.int .i64) 3 wq14 w.heap.size (fun k_ => (w.heap.size ≤ k_)) vq3 y286) := ⟨hq2_⟩
                have nq3_ : Aside0 (∃ c_, (vq3 : Value) = .slice (some adz_vq1) y286.length c_) := ⟨hq3_⟩
                have nq4_ : Aside0 (wq14.heap[gbq0]? = some (.cells #[.slice A1_0 l1_0.length c1_0, .slice A1_1 l1_1.length c1_1] 26 (0, 0))) := ⟨hq4_⟩
                have nq5_ : Aside0 (wq14.heap[gbq1]? = some (.cells #[.slice none 0 0, .slice none 0 0] 26 (0, 0))) := ⟨hq5_⟩
                have nq6_ : Aside0 (wq14.heap[gbq2]? = some (.cells #[.slice Aoq4 y268.length coq4, .slice Aoq3 t271.length coq3] 26 (0, 0))) := ⟨hq6_⟩
                have nq7_ : Aside0 (IsS101 w0 wq14 g s0_0 t296) := ⟨hq7_⟩
                have nq8_ : Aside0 (KeepBut w wq14 g none) := ⟨hq8_⟩
                have nq9_ : Aside0 (Below w0.heap.size w0 wq14) := ⟨hq9_⟩
                clear HOq1; clear HOq2; clear BKq0; clear BKq1; clear BKq2; clear HI0; clear HK; clear HB; clear hq0_ hq1_ hq2_ hq3_ hq4_ hq5_ hq6_ hq7_ hq8_ hq9_; have HOq1 := nq0_; have HOq2 := nq1_; have HOq3 := nq2_; have HA_HOq1 := nq3_; have BKq0 := nq4_; have BKq1 := nq5_; have BKq2 := nq6_; have HI0 := nq7_; have HK := nq8_; have HB := nq9_; clear nq0_ nq1_ nq2_ nq3_ nq4_ nq5_ nq6_ nq7_ nq8_ nq9_
                have hHeld : wq14.cell? ⟨gbq2, 0, none⟩ = some (.slice Aoq4 y268.length coq4) ∧ wq14.cell? ⟨gbq2, 1, none⟩ = some (.slice Aoq3 t271.length coq3) := hS_
                obtain ⟨coq10, eoq10⟩ := HA_HOq1.out
                clear HA_HOq1
                subst eoq10
                refine norm_ (a' := ?_) ?_ ?_
                rotate_left
                ·simp only [putAll, Act.put, List.setIfInBounds_toArray, List.set_cons_zero, List.set_cons_succ]; rfl
                refine two_ (i := 6) (j := 7) (Ni := some 60) (Nj := some 61) #[T,T,T,T,T,T,T,F,T,T,F,F,F,F,F,F,F,F] #[T,T,T,T,T,T,F,T,T,T,F,F,F,F,F,F,F,F] rfl rfl rfl rfl (two_of HT_.out (by kernel_rfl)) (by decide) (by decide) (fun K hK => ?_) (fun K hK => ?_)
                ·skip
                 (have pq0 : 0 ≤ (t289 : Int) := ZD; have qq0 : t289 < (y286.length : Int) := ZD; obtain ⟨adq0, eq0, hxq0_0⟩ := Kd.at_int (Kd.R_reads' HOq3.out).2.2 t289 pq0 qq0; obtain rfl : adz_vq1 = adq0 := (by injection eq0))
                 refine value_ (w1 := ?_) (v := ?_) (by rfl) rfl ?_ ?_
                 rotate_left 2
                 ·go_simp
                  constructor
                  ·rfl
                  ·rfl
                 clear hxq0_0
                 refine hK.out _ _ ⟨(blk_cell BKq2.out 0).trans rfl, (blk_cell BKq2.out 1).trans rfl⟩ (fun hHeld => ?_)
                 clear hK K
                 refine ZNO 60 ?_
                 exact norm_ ZP (hJq0_4_6_9 (.slice (some adz_vq1) y286.length coq10, adz_vq1) _ ⟨hHeld, (ZR HOq1.out), (ZRN HOq2.out), (ZR HOq3.out), ⟨_, rfl⟩, (ZK BKq0.out), (ZK BKq1.out), (ZK BKq2.out), (ZI), (ZJ), (ZBI)⟩)
                ·skip
                 refine Kd.R_lit_step (Kd.int .i64) _ 3 ?hg (N := 61) ?hd (xs := ([10, (-1), 4] : List Int)) (inner := [.int .i64 10, .int .i64 (-1), .int .i64 4]) (ok := fun _ => True) (okp := fun _ => True) ?hr ?hp (fun _ hk => hk) trivial (Below.refl _ _) (Nat.le_refl _) (by simp) ?_; (case hd => rfl); (case hg => rfl); (case hr => first | (go_simp; done) | (go_simp; rfl)); (case hp => exact (Reps.one (show Kd.M (Kd.int .i64) _ _ _ 10 [.int .i64 10] from rfl) (Reps.one (show Kd.M (Kd.int .i64) _ _ _ (-1) [.int .i64 (-1)] from rfl) (Reps.one (show Kd.M (Kd.int .i64) _ _ _ 4 [.int .i64 4] from rfl) (Reps.none _ _)))))
                 intro vq4 wq20 hoq8 hb hg_ hnew_
                 clear hg_ hnew_
                 (first | rw [← Ny292.out] at hoq8 | (simp only [Int.reduceToNat] at hoq8; rw [← Ny292.out] at hoq8))
                 have HOq4 := Aside0.mk (Kd.R_lower (Kd.R_new' (Kd.R_newM (M := fun k_ => (w.heap.size ≤ k_)) hoq8 (keep_size (w := w) (g := g) (row := none) (ZJ)) (fun k_ h_ => h_)) (Kd.R_lt (ZR HOq3.out))) (keep_size (w := w) (g := g) (row := none) (ZJ)))
                 replace HOq1 := Aside0.mk (Kd.R_below (ZR HOq1.out) hb)
                 replace HOq2 := Aside0.mk (Kd.N_elder' (ZRN HOq2.out) (Kd.R_base hoq8) hb)
                 replace HOq3 := Aside0.mk (Kd.R_elder' (ZR HOq3.out) (Kd.R_base hoq8) hb)
                 replace BKq0 := ZW BKq0 hb
                 replace BKq1 := ZW BKq1 hb
                 replace BKq2 := ZW BKq2 hb
                 replace HK := ZKT HK (KeepBut.of_below hb g none)
                 replace HB := ZTI HB hb
                 replace HI0 := Aside0.mk (IsS101.below (ZI) hb)
                 clear hb hoq8
                 obtain ⟨Aoq10, coq11, eoq11⟩ := Kd.R_slice HOq4.out
                 subst eoq11
                 obtain ⟨adoq5, foq5, _⟩ := Kd.at_int (Kd.R_reads' HOq4.out).2.2 0 (by decide) (by rw [Ny292.out]; simp)
                 cases foq5
                 refine hK.out _ _ ⟨(blk_cell BKq2.out 0).trans rfl, (blk_cell BKq2.out 1).trans rfl⟩ (fun hHeld => ?_)
                 clear hK K
                 refine ZNO 61 ?_
                 refine ZU 10 64 #[T,T,T,T,T,T,F,T,T,T,T,F,F,F,F,F,F,F] ?_
                 exact norm_ ZP (hJq0_4_7_9 (.slice (some adz_vq1) y286.length coq10, adz_vq1, .slice (some adoq5) y292.length coq11, adoq5) _ ⟨hHeld, (ZR HOq1.out), (by (with_reducible repeat (first | apply Kd.N_alloc | apply Kd.N_drewN | apply Kd.N_drew)); exact Kd.N_mono HOq2.out (fun _ hk => ⟨hk.1.1, ⟨hk.1.2.1, ⟨hk.1.2.2.1, ⟨hk.2, ⟨hk.1.2.2.2.1, ⟨hk.1.2.2.2.2.1, ⟨hk.1.2.2.2.2.2.1, hk.1.2.2.2.2.2.2⟩⟩⟩⟩⟩⟩⟩)), (ZR HOq3.out), (by (with_reducible repeat (first | apply Kd.R_alloc | apply Kd.R_drewN | apply Kd.R_drew)); exact Kd.R_mono HOq4.out (fun _ hk => ⟨hk.1.1, hk.2⟩)), ⟨_, rfl⟩, ⟨_, rfl⟩, (ZK BKq0.out), (ZK BKq1.out), (ZK BKq2.out), (ZI), (ZJ), (ZBI)⟩)
              ·skip
               rintro ⟨vq3, adz_vq1, vq4, adz_vq0⟩ wq20 ⟨hS_, hq0_, hq1_, hq2_, hq3_, hq4_, hq5_, hq6_, hq7_, hq8_, hq9_, hq10_, hq11_⟩
               have nq0_ : Aside0 (Kd.R k35 35 wq20 w.heap.size (fun k_ => (w.heap.size ≤ k_)) (.slice Aoq4 y268.length coq4) y268) := ⟨hq0_⟩
               have nq1_ : Aside0 (Kd.N k59 59 wq20 w.heap.size (fun k_ => (w.heap.size ≤ k_) ∧ some k_ ≠ (.slice Aoq4 y268.length coq4 : Value).ownBlock ∧ some k_ ≠ (vq3 : Value).ownBlock ∧ some k_ ≠ (vq4 : Value).ownBlock ∧ k_ ≠ g ∧ k_ ≠ gbq0 ∧ k_ ≠ gbq1 ∧ k_ ≠ gbq2) (.slice Aoq3 t271.length coq3) t271) := ⟨hq1_⟩
               have nq2_ : Aside0 (Kd.R (Kd.int .i64) 3 wq20 w.heap.size (fun k_ => (w.heap.size ≤ k_) ∧ some k_ ≠ (vq4 : Value).ownBlock) vq3 y286) := ⟨hq2_⟩
               have nq3_ : Aside0 (Kd.R (Kd.int .i64) 3 wq20 w.heap.size (fun k_ => (w.heap.size ≤ k_) ∧ some k_ ≠ (vq3 : Value).ownBlock) vq4 y292) := ⟨hq3_⟩
               have nq4_ : Aside0 (∃ c_, (vq3 : Value) = .slice (some adz_vq1) y286.length c_) := ⟨hq4_⟩
               have nq5_ : Aside0 (∃ c_, (vq4 : Value) = .slice (some adz_vq0) y292.length c_) := ⟨hq5_⟩
               have nq6_ : Aside0 (wq20.heap[gbq0]? = some (.cells #[.slice A1_0 l1_0.length c1_0, .slice A1_1 l1_1.length c1_1] 26 (0, 0))) := ⟨hq6_⟩
               have nq7_ : Aside0 (wq20.heap[gbq1]? = some (.cells #[.slice none 0 0, .slice none 0 0] 26 (0, 0))) := ⟨hq7_⟩
               have nq8_ : Aside0 (wq20.heap[gbq2]? = some (.cells #[.slice Aoq4 y268.length coq4, .slice Aoq3 t271.length coq3] 26 (0, 0))) := ⟨hq8_⟩
               have nq9_ : Aside0 (IsS101 w0 wq20 g s0_0 t290) := ⟨hq9_⟩
               have nq10_ : Aside0 (KeepBut w wq20 g none) := ⟨hq10_⟩
               have nq11_ : Aside0 (Below w0.heap.size w0 wq20) := ⟨hq11_⟩
               clear HOq1; clear HOq2; clear BKq0; clear BKq1; clear BKq2; clear HI0; clear HK; clear HB; clear hq0_ hq1_ hq2_ hq3_ hq4_ hq5_ hq6_ hq7_ hq8_ hq9_ hq10_ hq11_; have HOq1 := nq0_; have HOq2 := nq1_; have HOq3 := nq2_; have HOq4 := nq3_; have HA_HOq1 := nq4_; have HA_HOq0 := nq5_; have BKq0 := nq6_; have BKq1 := nq7_; have BKq2 := nq8_; have HI0 := nq9_; have HK := nq10_; have HB := nq11_; clear nq0_ nq1_ nq2_ nq3_ nq4_ nq5_ nq6_ nq7_ nq8_ nq9_ nq10_ nq11_
               have hHeld : wq20.cell? ⟨gbq2, 0, none⟩ = some (.slice Aoq4 y268.length coq4) ∧ wq20.cell? ⟨gbq2, 1, none⟩ = some (.slice Aoq3 t271.length coq3) := hS_
               obtain ⟨coq9, eoq9⟩ := HA_HOq1.out
               clear HA_HOq1
               subst eoq9
               obtain ⟨coq11, eoq11⟩ := HA_HOq0.out
               clear HA_HOq0
               subst eoq11
               refine norm_ (a' := ?_) ?_ ?_
               rotate_left
               ·simp only [putAll, Act.put, List.setIfInBounds_toArray, List.set_cons_zero, List.set_cons_succ]; rfl
               refine two_ (i := 6) (j := 9) (Ni := some 60) (Nj := some 63) #[T,T,T,T,T,T,T,T,T,F,F,F,F,F,F,F,F,F] #[T,T,T,T,T,T,F,T,T,T,F,F,F,F,F,F,F,F] rfl rfl rfl rfl (two_of HT_.out (by kernel_rfl)) (by decide) (by decide) (fun K hK => ?_) (fun K hK => ?_)
               ·skip
                (have pq0 : 0 ≤ (t289 : Int) := ZD; have qq0 : t289 < (y286.length : Int) := ZD; obtain ⟨adq0, eq0, hxq0_0⟩ := Kd.at_int (Kd.R_reads' HOq3.out).2.2 t289 pq0 qq0; obtain rfl : adz_vq1 = adq0 := (by injection eq0))
                refine value_ (w1 := ?_) (v := ?_) (by rfl) rfl ?_ ?_
                rotate_left 2
                ·go_simp
                 constructor
                 ·rfl
                 ·rfl
                clear hxq0_0
                refine hK.out _ _ ⟨(blk_cell BKq2.out 0).trans rfl, (blk_cell BKq2.out 1).trans rfl⟩ (fun hHeld => ?_)
                clear hK K
                refine ZNO 60 ?_
                exact norm_ ZP (hJq0_4_6_7 (.slice (some adz_vq1) y286.length coq9, adz_vq1, .slice (some adz_vq0) y292.length coq11, adz_vq0) _ ⟨hHeld, (ZR HOq1.out), (ZRN HOq2.out), (ZR HOq3.out), (ZR HOq4.out), ⟨_, rfl⟩, ⟨_, rfl⟩, (ZK BKq0.out), (ZK BKq1.out), (ZK BKq2.out), (ZI), (ZJ), (ZBI)⟩)
               ·skip
                refine goes_ Try.func85 (by kernel_rfl) rfl #[.pointer (some ⟨g, 0, none⟩), .int .i64 3] (by rfl) rfl rfl ZG ?_
                with_reducible refine (spec_l6Rd_pick.calls k g s0_0 t290 3 t295 t296 w0 _ ?side1 ?side2 A98.out).mono ?_
                (case side1 => exact ZI)
                (case side2 => exact ZBI)
                rintro e wq21 ⟨rfl, hi, hb, hk⟩
                refine ⟨_, rfl, ?_⟩
                replace BKq0 := ZL hk BKq0 NBq1_0
                replace BKq1 := ZL hk BKq1 NBq2_0
                replace HOq1 := Aside0.mk (Kd.R_mono (Kd.R_keep (IsS101.apart (show IsS101 w0 _ g s0_0 t290 from ZI) (ZR HOq1.out) (by decide)) hk (fun _ h => h.2)) (fun _ h => h.1))
                replace HOq2 := Aside0.mk (Kd.N_mono (Kd.N_keep (Kd.N_mono (ok := fun k_ => (((w.heap.size ≤ k_)) ∧ (some k_ ≠ (.slice Aoq4 y268.length coq4 : Value).ownBlock ∧ (some k_ ≠ (.slice (some adz_vq1) y286.length coq9 : Value).ownBlock ∧ (some k_ ≠ (.slice (some adz_vq0) y292.length coq11 : Value).ownBlock ∧ (k_ ≠ g ∧ (k_ ≠ gbq0 ∧ (k_ ≠ gbq1 ∧ k_ ≠ gbq2)))))))) (ZRN HOq2.out) (fun k_ hk_ => (⟨hk_, hk_.2.2.2.2.1⟩ : _ ∧ k_ ≠ g))) hk (fun _ h => h.2)) (fun _ h => h.1))
                replace BKq2 := ZL hk BKq2 NBq3_0
                replace HOq3 := Aside0.mk (Kd.R_mono (Kd.R_keep (IsS101.apart (show IsS101 w0 _ g s0_0 t290 from ZI) (ZR HOq3.out) (by decide)) hk (fun _ h => h.2)) (fun _ h => h.1))
                replace HOq4 := Aside0.mk (Kd.R_mono (Kd.R_keep (IsS101.apart (show IsS101 w0 _ g s0_0 t290 from ZI) (ZR HOq4.out) (by decide)) hk (fun _ h => h.2)) (fun _ h => h.1))
                replace HK := ZKT HK hk
                replace HB := Aside0.mk (hb)
                replace HI0 := Aside0.mk (hi)
                (try clear hb)
                (try clear hb2)
                (try clear hk)
                (try clear hi)
                refine hK.out _ _ ⟨(blk_cell BKq2.out 0).trans rfl, (blk_cell BKq2.out 1).trans rfl⟩ (fun hHeld => ?_)
                clear hK K
                refine ZNO 63 ?_
                refine ZU 10 64 #[T,T,T,T,T,T,F,T,T,T,T,F,F,F,F,F,F,F] ?_
                exact norm_ ZP (hJq0_4_7_9 (.slice (some adz_vq1) y286.length coq9, adz_vq1, .slice (some adz_vq0) y292.length coq11, adz_vq0) _ ⟨hHeld, (ZR HOq1.out), (ZRN HOq2.out), (ZR HOq3.out), (ZR HOq4.out), ⟨_, rfl⟩, ⟨_, rfl⟩, (ZK BKq0.out), (ZK BKq1.out), (ZK BKq2.out), (ZI), (ZJ), (ZBI)⟩)
             ·skip
              rintro ⟨vq3, adz_vq1⟩ wq17 ⟨hS_, hq0_, hq1_, hq2_, hq3_, hq4_, hq5_, hq6_, hq7_, hq8_, hq9_⟩
              have nq0_ : Aside0 (Kd.R k35 35 wq17 w.heap.size (fun k_ => (w.heap.size ≤ k_)) (.slice Aoq4 y268.length coq4) y268) := ⟨hq0_⟩
              have nq1_ : Aside0 (Kd.N k59 59 wq17 w.heap.size (fun k_ => (w.heap.size ≤ k_) ∧ some k_ ≠ (.slice Aoq4 y268.length coq4 : Value).ownBlock ∧ some k_ ≠ (vq3 : Value).ownBlock ∧ k_ ≠ g ∧ k_ ≠ gbq0 ∧ k_ ≠ gbq1 ∧ k_ ≠ gbq2) (.slice Aoq3 t271.length coq3) t271) := ⟨hq1_⟩
              have nq2_ : Aside0 (Kd.R (Kd.int .i64) 3 wq17 w.heap.size (fun k_ => (w.heap.size ≤ k_)) vq3 y286) := ⟨hq2_⟩
              have nq3_ : Aside0 (∃ c_, (vq3 : Value) = .slice (some adz_vq1) y286.length c_) := ⟨hq3_⟩
              have nq4_ : Aside0 (wq17.heap[gbq0]? = some (.cells #[.slice A1_0 l1_0.length c1_0, .slice A1_1 l1_1.length c1_1] 26 (0, 0))) := ⟨hq4_⟩
              have nq5_ : Aside0 (wq17.heap[gbq1]? = some (.cells #[.slice none 0 0, .slice none 0 0] 26 (0, 0))) := ⟨hq5_⟩
              have nq6_ : Aside0 (wq17.heap[gbq2]? = some (.cells #[.slice Aoq4 y268.length coq4, .slice Aoq3 t271.length coq3] 26 (0, 0))) := ⟨hq6_⟩
              have nq7_ : Aside0 (IsS101 w0 wq17 g s0_0 t290) := ⟨hq7_⟩
              have nq8_ : Aside0 (KeepBut w wq17 g none) := ⟨hq8_⟩
              have nq9_ : Aside0 (Below w0.heap.size w0 wq17) := ⟨hq9_⟩
              clear HOq1; clear HOq2; clear BKq0; clear BKq1; clear BKq2; clear HI0; clear HK; clear HB; clear hq0_ hq1_ hq2_ hq3_ hq4_ hq5_ hq6_ hq7_ hq8_ hq9_; have HOq1 := nq0_; have HOq2 := nq1_; have HOq3 := nq2_; have HA_HOq1 := nq3_; have BKq0 := nq4_; have BKq1 := nq5_; have BKq2 := nq6_; have HI0 := nq7_; have HK := nq8_; have HB := nq9_; clear nq0_ nq1_ nq2_ nq3_ nq4_ nq5_ nq6_ nq7_ nq8_ nq9_
              have hHeld : wq17.cell? ⟨gbq2, 0, none⟩ = some (.slice Aoq4 y268.length coq4) ∧ wq17.cell? ⟨gbq2, 1, none⟩ = some (.slice Aoq3 t271.length coq3) := hS_
              obtain ⟨coq8, eoq8⟩ := HA_HOq1.out
              clear HA_HOq1
              subst eoq8
              refine norm_ (a' := ?_) ?_ ?_
              rotate_left
              ·simp only [putAll, Act.put, List.setIfInBounds_toArray, List.set_cons_zero, List.set_cons_succ]; rfl
              refine two_ (i := 7) (j := 9) (Ni := some 61) (Nj := some 63) #[T,T,T,T,T,T,T,T,T,F,F,F,F,F,F,F,F,F] #[T,T,T,T,T,T,T,F,T,T,F,F,F,F,F,F,F,F] rfl rfl rfl rfl (two_of HT_.out (by kernel_rfl)) (by decide) (by decide) (fun K hK => ?_) (fun K hK => ?_)
              ·skip
               refine Kd.R_lit_step (Kd.int .i64) _ 3 ?hg (N := 61) ?hd (xs := ([10, (-1), 4] : List Int)) (inner := [.int .i64 10, .int .i64 (-1), .int .i64 4]) (ok := fun _ => True) (okp := fun _ => True) ?hr ?hp (fun _ hk => hk) trivial (Below.refl _ _) (Nat.le_refl _) (by simp) ?_; (case hd => rfl); (case hg => rfl); (case hr => first | (go_simp; done) | (go_simp; rfl)); (case hp => exact (Reps.one (show Kd.M (Kd.int .i64) _ _ _ 10 [.int .i64 10] from rfl) (Reps.one (show Kd.M (Kd.int .i64) _ _ _ (-1) [.int .i64 (-1)] from rfl) (Reps.one (show Kd.M (Kd.int .i64) _ _ _ 4 [.int .i64 4] from rfl) (Reps.none _ _)))))
               intro vq4 wq18 hoq7 hb hg_ hnew_
               clear hg_ hnew_
               (first | rw [← Ny292.out] at hoq7 | (simp only [Int.reduceToNat] at hoq7; rw [← Ny292.out] at hoq7))
               have HOq4 := Aside0.mk (Kd.R_lower (Kd.R_new' (Kd.R_newM (M := fun k_ => (w.heap.size ≤ k_)) hoq7 (keep_size (w := w) (g := g) (row := none) (ZJ)) (fun k_ h_ => h_)) (Kd.R_lt (ZR HOq3.out))) (keep_size (w := w) (g := g) (row := none) (ZJ)))
               replace HOq1 := Aside0.mk (Kd.R_below (ZR HOq1.out) hb)
               replace HOq2 := Aside0.mk (Kd.N_elder' (ZRN HOq2.out) (Kd.R_base hoq7) hb)
               replace HOq3 := Aside0.mk (Kd.R_elder' (ZR HOq3.out) (Kd.R_base hoq7) hb)
               replace BKq0 := ZW BKq0 hb
               replace BKq1 := ZW BKq1 hb
               replace BKq2 := ZW BKq2 hb
               replace HK := ZKT HK (KeepBut.of_below hb g none)
               replace HB := ZTI HB hb
               replace HI0 := Aside0.mk (IsS101.below (ZI) hb)
               clear hb hoq7
               obtain ⟨Aoq9, coq9, eoq9⟩ := Kd.R_slice HOq4.out
               subst eoq9
               obtain ⟨adoq4, foq4, _⟩ := Kd.at_int (Kd.R_reads' HOq4.out).2.2 0 (by decide) (by rw [Ny292.out]; simp)
               cases foq4
               refine hK.out _ _ ⟨(blk_cell BKq2.out 0).trans rfl, (blk_cell BKq2.out 1).trans rfl⟩ (fun hHeld => ?_)
               clear hK K
               refine ZNO 61 ?_
               exact norm_ ZP (hJq0_4_6_7 (.slice (some adz_vq1) y286.length coq8, adz_vq1, .slice (some adoq4) y292.length coq9, adoq4) _ ⟨hHeld, (ZR HOq1.out), (by (with_reducible repeat (first | apply Kd.N_alloc | apply Kd.N_drewN | apply Kd.N_drew)); exact Kd.N_mono HOq2.out (fun _ hk => ⟨hk.1.1, ⟨hk.1.2.1, ⟨hk.1.2.2.1, ⟨hk.2, ⟨hk.1.2.2.2.1, ⟨hk.1.2.2.2.2.1, ⟨hk.1.2.2.2.2.2.1, hk.1.2.2.2.2.2.2⟩⟩⟩⟩⟩⟩⟩)), (ZR HOq3.out), (by (with_reducible repeat (first | apply Kd.R_alloc | apply Kd.R_drewN | apply Kd.R_drew)); exact Kd.R_mono HOq4.out (fun _ hk => ⟨hk.1.1, hk.2⟩)), ⟨_, rfl⟩, ⟨_, rfl⟩, (ZK BKq0.out), (ZK BKq1.out), (ZK BKq2.out), (ZI), (ZJ), (ZBI)⟩)
              ·skip
               refine goes_ Try.func85 (by kernel_rfl) rfl #[.pointer (some ⟨g, 0, none⟩), .int .i64 3] (by rfl) rfl rfl ZG ?_
               with_reducible refine (spec_l6Rd_pick.calls k g s0_0 t290 3 t295 t296 w0 _ ?side1 ?side2 A98.out).mono ?_
               (case side1 => exact ZI)
               (case side2 => exact ZBI)
               rintro e wq18 ⟨rfl, hi, hb, hk⟩
               refine ⟨_, rfl, ?_⟩
               replace BKq0 := ZL hk BKq0 NBq1_0
               replace BKq1 := ZL hk BKq1 NBq2_0
               replace HOq1 := Aside0.mk (Kd.R_mono (Kd.R_keep (IsS101.apart (show IsS101 w0 _ g s0_0 t290 from ZI) (ZR HOq1.out) (by decide)) hk (fun _ h => h.2)) (fun _ h => h.1))
               replace HOq2 := Aside0.mk (Kd.N_mono (Kd.N_keep (Kd.N_mono (ok := fun k_ => (((w.heap.size ≤ k_)) ∧ (some k_ ≠ (.slice Aoq4 y268.length coq4 : Value).ownBlock ∧ (some k_ ≠ (.slice (some adz_vq1) y286.length coq8 : Value).ownBlock ∧ (k_ ≠ g ∧ (k_ ≠ gbq0 ∧ (k_ ≠ gbq1 ∧ k_ ≠ gbq2))))))) (ZRN HOq2.out) (fun k_ hk_ => (⟨hk_, hk_.2.2.2.1⟩ : _ ∧ k_ ≠ g))) hk (fun _ h => h.2)) (fun _ h => h.1))
               replace BKq2 := ZL hk BKq2 NBq3_0
               replace HOq3 := Aside0.mk (Kd.R_mono (Kd.R_keep (IsS101.apart (show IsS101 w0 _ g s0_0 t290 from ZI) (ZR HOq3.out) (by decide)) hk (fun _ h => h.2)) (fun _ h => h.1))
               replace HK := ZKT HK hk
               replace HB := Aside0.mk (hb)
               replace HI0 := Aside0.mk (hi)
               (try clear hb)
               (try clear hb2)
               (try clear hk)
               (try clear hi)
               refine hK.out _ _ ⟨(blk_cell BKq2.out 0).trans rfl, (blk_cell BKq2.out 1).trans rfl⟩ (fun hHeld => ?_)
               clear hK K
               refine ZNO 63 ?_
               exact norm_ ZP (hJq0_4_6_9 (.slice (some adz_vq1) y286.length coq8, adz_vq1) _ ⟨hHeld, (ZR HOq1.out), (ZRN HOq2.out), (ZR HOq3.out), ⟨_, rfl⟩, (ZK BKq0.out), (ZK BKq1.out), (ZK BKq2.out), (ZI), (ZJ), (ZBI)⟩)
            ·skip
             rintro ⟨vq4, adz_vq0⟩ wq14 ⟨hS_, hq0_, hq1_, hq2_, hq3_, hq4_, hq5_, hq6_, hq7_, hq8_, hq9_⟩
             have nq0_ : Aside0 (Kd.R k35 35 wq14 w.heap.size (fun k_ => (w.heap.size ≤ k_)) (.slice Aoq4 y268.length coq4) y268) := ⟨hq0_⟩
             have nq1_ : Aside0 (Kd.N k59 59 wq14 w.heap.size (fun k_ => (w.heap.size ≤ k_) ∧ some k_ ≠ (.slice Aoq4 y268.length coq4 : Value).ownBlock ∧ some k_ ≠ (vq4 : Value).ownBlock ∧ k_ ≠ g ∧ k_ ≠ gbq0 ∧ k_ ≠ gbq1 ∧ k_ ≠ gbq2) (.slice Aoq3 t271.length coq3) t271) := ⟨hq1_⟩
             have nq2_ : Aside0 (Kd.R (Kd.int .i64) 3 wq14 w.heap.size (fun k_ => (w.heap.size ≤ k_)) vq4 y292) := ⟨hq2_⟩
             have nq3_ : Aside0 (∃ c_, (vq4 : Value) = .slice (some adz_vq0) y292.length c_) := ⟨hq3_⟩
             have nq4_ : Aside0 (wq14.heap[gbq0]? = some (.cells #[.slice A1_0 l1_0.length c1_0, .slice A1_1 l1_1.length c1_1] 26 (0, 0))) := ⟨hq4_⟩
             have nq5_ : Aside0 (wq14.heap[gbq1]? = some (.cells #[.slice none 0 0, .slice none 0 0] 26 (0, 0))) := ⟨hq5_⟩
             have nq6_ : Aside0 (wq14.heap[gbq2]? = some (.cells #[.slice Aoq4 y268.length coq4, .slice Aoq3 t271.length coq3] 26 (0, 0))) := ⟨hq6_⟩
             have nq7_ : Aside0 (IsS101 w0 wq14 g s0_0 t296) := ⟨hq7_⟩
             have nq8_ : Aside0 (KeepBut w wq14 g none) := ⟨hq8_⟩
             have nq9_ : Aside0 (Below w0.heap.size w0 wq14) := ⟨hq9_⟩
             clear HOq1; clear HOq2; clear BKq0; clear BKq1; clear BKq2; clear HI0; clear HK; clear HB; clear hq0_ hq1_ hq2_ hq3_ hq4_ hq5_ hq6_ hq7_ hq8_ hq9_; have HOq1 := nq0_; have HOq2 := nq1_; have HOq4 := nq2_; have HA_HOq0 := nq3_; have BKq0 := nq4_; have BKq1 := nq5_; have BKq2 := nq6_; have HI0 := nq7_; have HK := nq8_; have HB := nq9_; clear nq0_ nq1_ nq2_ nq3_ nq4_ nq5_ nq6_ nq7_ nq8_ nq9_
             have hHeld : wq14.cell? ⟨gbq2, 0, none⟩ = some (.slice Aoq4 y268.length coq4) ∧ wq14.cell? ⟨gbq2, 1, none⟩ = some (.slice Aoq3 t271.length coq3) := hS_
             obtain ⟨coq10, eoq10⟩ := HA_HOq0.out
             clear HA_HOq0
             subst eoq10
             refine norm_ (a' := ?_) ?_ ?_
             rotate_left
             ·simp only [putAll, Act.put, List.setIfInBounds_toArray, List.set_cons_zero, List.set_cons_succ]; rfl
             refine one_ (i := 2) (N := some 56) #[T,T,T,T,T,F,F,T,T,T,T,T,F,F,F,F,F,F] rfl rfl (one_of HT_.out (by kernel_rfl)) (by decide) (fun K hK => ?_)
             refine Kd.R_lit_step (Kd.int .i64) _ 3 ?hg (N := 56) ?hd (xs := ([1, 1, 2, 3, 0, 5] : List Int)) (inner := [.int .i64 1, .int .i64 1, .int .i64 2, .int .i64 3, .int .i64 0, .int .i64 5]) (ok := fun _ => True) (okp := fun _ => True) ?hr ?hp (fun _ hk => hk) trivial (Below.refl _ _) (Nat.le_refl _) (by simp) ?_; (case hd => rfl); (case hg => rfl); (case hr => first | (go_simp; done) | (go_simp; rfl)); (case hp => exact (Reps.one (show Kd.M (Kd.int .i64) _ _ _ 1 [.int .i64 1] from rfl) (Reps.one (show Kd.M (Kd.int .i64) _ _ _ 1 [.int .i64 1] from rfl) (Reps.one (show Kd.M (Kd.int .i64) _ _ _ 2 [.int .i64 2] from rfl) (Reps.one (show Kd.M (Kd.int .i64) _ _ _ 3 [.int .i64 3] from rfl) (Reps.one (show Kd.M (Kd.int .i64) _ _ _ 0 [.int .i64 0] from rfl) (Reps.one (show Kd.M (Kd.int .i64) _ _ _ 5 [.int .i64 5] from rfl) (Reps.none _ _))))))))
             intro vq3 wq20 hoq8 hb hg_ hnew_
             clear hg_ hnew_
             (first | rw [← Ny286.out] at hoq8 | (simp only [Int.reduceToNat] at hoq8; rw [← Ny286.out] at hoq8))
             have HOq3 := Aside0.mk (Kd.R_lower (Kd.R_new' (Kd.R_newM (M := fun k_ => (w.heap.size ≤ k_)) hoq8 (keep_size (w := w) (g := g) (row := none) (ZJ)) (fun k_ h_ => h_)) (Kd.R_lt (ZR HOq4.out))) (keep_size (w := w) (g := g) (row := none) (ZJ)))
             replace HOq1 := Aside0.mk (Kd.R_below (ZR HOq1.out) hb)
             replace HOq2 := Aside0.mk (Kd.N_elder' (ZRN HOq2.out) (Kd.R_base hoq8) hb)
             replace HOq4 := Aside0.mk (Kd.R_elder' (ZR HOq4.out) (Kd.R_base hoq8) hb)
             replace BKq0 := ZW BKq0 hb
             replace BKq1 := ZW BKq1 hb
             replace BKq2 := ZW BKq2 hb
             replace HK := ZKT HK (KeepBut.of_below hb g none)
             replace HB := ZTI HB hb
             replace HI0 := Aside0.mk (IsS101.below (ZI) hb)
             clear hb hoq8
             obtain ⟨Aoq10, coq11, eoq11⟩ := Kd.R_slice HOq3.out
             subst eoq11
             obtain ⟨adoq5, foq5, _⟩ := Kd.at_int (Kd.R_reads' HOq3.out).2.2 0 (by decide) (by rw [Ny286.out]; simp)
             cases foq5
             refine hK.out _ _ ⟨(blk_cell BKq2.out 0).trans rfl, (blk_cell BKq2.out 1).trans rfl⟩ (fun hHeld => ?_)
             clear hK K
             refine ZNO 56 ?_
             refine ZU 5 59 #[T,T,T,T,T,T,F,T,T,T,T,T,F,F,F,F,F,F] ?_
             exact norm_ ZP (hJq0_4_7_9_11 (.slice (some adoq5) y286.length coq11, adoq5, .slice (some adz_vq0) y292.length coq10, adz_vq0) _ ⟨hHeld, (ZR HOq1.out), (by (with_reducible repeat (first | apply Kd.N_alloc | apply Kd.N_drewN | apply Kd.N_drew)); exact Kd.N_mono HOq2.out (fun _ hk => ⟨hk.1.1, ⟨hk.1.2.1, ⟨hk.2, ⟨hk.1.2.2.1, ⟨hk.1.2.2.2.1, ⟨hk.1.2.2.2.2.1, ⟨hk.1.2.2.2.2.2.1, hk.1.2.2.2.2.2.2⟩⟩⟩⟩⟩⟩⟩)), (by (with_reducible repeat (first | apply Kd.R_alloc | apply Kd.R_drewN | apply Kd.R_drew)); exact Kd.R_mono HOq3.out (fun _ hk => ⟨hk.1.1, hk.2⟩)), (ZR HOq4.out), ⟨_, rfl⟩, ⟨_, rfl⟩, (ZK BKq0.out), (ZK BKq1.out), (ZK BKq2.out), (ZI), (ZJ), (ZBI)⟩)
           ·skip
            rintro ⟨vq3, adz_vq1, vq4, adz_vq0⟩ wq22 ⟨hS_, hq0_, hq1_, hq2_, hq3_, hq4_, hq5_, hq6_, hq7_, hq8_, hq9_, hq10_, hq11_⟩
            have nq0_ : Aside0 (Kd.R k35 35 wq22 w.heap.size (fun k_ => (w.heap.size ≤ k_)) (.slice Aoq4 y268.length coq4) y268) := ⟨hq0_⟩
            have nq1_ : Aside0 (Kd.N k59 59 wq22 w.heap.size (fun k_ => (w.heap.size ≤ k_) ∧ some k_ ≠ (.slice Aoq4 y268.length coq4 : Value).ownBlock ∧ some k_ ≠ (vq3 : Value).ownBlock ∧ some k_ ≠ (vq4 : Value).ownBlock ∧ k_ ≠ g ∧ k_ ≠ gbq0 ∧ k_ ≠ gbq1 ∧ k_ ≠ gbq2) (.slice Aoq3 t271.length coq3) t271) := ⟨hq1_⟩
            have nq2_ : Aside0 (Kd.R (Kd.int .i64) 3 wq22 w.heap.size (fun k_ => (w.heap.size ≤ k_) ∧ some k_ ≠ (vq4 : Value).ownBlock) vq3 y286) := ⟨hq2_⟩
            have nq3_ : Aside0 (Kd.R (Kd.int .i64) 3 wq22 w.heap.size (fun k_ => (w.heap.size ≤ k_) ∧ some k_ ≠ (vq3 : Value).ownBlock) vq4 y292) := ⟨hq3_⟩
            have nq4_ : Aside0 (∃ c_, (vq3 : Value) = .slice (some adz_vq1) y286.length c_) := ⟨hq4_⟩
            have nq5_ : Aside0 (∃ c_, (vq4 : Value) = .slice (some adz_vq0) y292.length c_) := ⟨hq5_⟩
            have nq6_ : Aside0 (wq22.heap[gbq0]? = some (.cells #[.slice A1_0 l1_0.length c1_0, .slice A1_1 l1_1.length c1_1] 26 (0, 0))) := ⟨hq6_⟩
            have nq7_ : Aside0 (wq22.heap[gbq1]? = some (.cells #[.slice none 0 0, .slice none 0 0] 26 (0, 0))) := ⟨hq7_⟩
            have nq8_ : Aside0 (wq22.heap[gbq2]? = some (.cells #[.slice Aoq4 y268.length coq4, .slice Aoq3 t271.length coq3] 26 (0, 0))) := ⟨hq8_⟩
            have nq9_ : Aside0 (IsS101 w0 wq22 g s0_0 t296) := ⟨hq9_⟩
            have nq10_ : Aside0 (KeepBut w wq22 g none) := ⟨hq10_⟩
            have nq11_ : Aside0 (Below w0.heap.size w0 wq22) := ⟨hq11_⟩
            clear HOq1; clear HOq2; clear BKq0; clear BKq1; clear BKq2; clear HI0; clear HK; clear HB; clear hq0_ hq1_ hq2_ hq3_ hq4_ hq5_ hq6_ hq7_ hq8_ hq9_ hq10_ hq11_; have HOq1 := nq0_; have HOq2 := nq1_; have HOq3 := nq2_; have HOq4 := nq3_; have HA_HOq1 := nq4_; have HA_HOq0 := nq5_; have BKq0 := nq6_; have BKq1 := nq7_; have BKq2 := nq8_; have HI0 := nq9_; have HK := nq10_; have HB := nq11_; clear nq0_ nq1_ nq2_ nq3_ nq4_ nq5_ nq6_ nq7_ nq8_ nq9_ nq10_ nq11_
            have hHeld : wq22.cell? ⟨gbq2, 0, none⟩ = some (.slice Aoq4 y268.length coq4) ∧ wq22.cell? ⟨gbq2, 1, none⟩ = some (.slice Aoq3 t271.length coq3) := hS_
            obtain ⟨coq11, eoq11⟩ := HA_HOq1.out
            clear HA_HOq1
            subst eoq11
            obtain ⟨coq12, eoq12⟩ := HA_HOq0.out
            clear HA_HOq0
            subst eoq12
            refine norm_ (a' := ?_) ?_ ?_
            rotate_left
            ·simp only [putAll, Act.put, List.setIfInBounds_toArray, List.set_cons_zero, List.set_cons_succ]; rfl
            refine two_ (i := 6) (j := 11) (Ni := some 60) (Nj := some 65) #[T,T,T,T,T,T,T,T,T,T,T,F,F,F,F,F,F,F] #[T,T,T,T,T,T,F,T,T,T,T,T,F,F,F,F,F,F] rfl rfl rfl rfl (two_of HT_.out (by kernel_rfl)) (by decide) (by decide) (fun K hK => ?_) (fun K hK => ?_)
            ·skip
             (have pq0 : 0 ≤ (t289 : Int) := ZD; have qq0 : t289 < (y286.length : Int) := ZD; obtain ⟨adq0, eq0, hxq0_0⟩ := Kd.at_int (Kd.R_reads' HOq3.out).2.2 t289 pq0 qq0; obtain rfl : adz_vq1 = adq0 := (by injection eq0))
             refine value_ (w1 := ?_) (v := ?_) (by rfl) rfl ?_ ?_
             rotate_left 2
             ·go_simp
              constructor
              ·rfl
              ·rfl
             clear hxq0_0
             refine hK.out _ _ ⟨(blk_cell BKq2.out 0).trans rfl, (blk_cell BKq2.out 1).trans rfl⟩ (fun hHeld => ?_)
             clear hK K
             refine ZNO 60 ?_
             exact norm_ ZP (hJq0_4_6_7_9 (.slice (some adz_vq1) y286.length coq11, adz_vq1, .slice (some adz_vq0) y292.length coq12, adz_vq0) _ ⟨hHeld, (ZR HOq1.out), (ZRN HOq2.out), (ZR HOq3.out), (ZR HOq4.out), ⟨_, rfl⟩, ⟨_, rfl⟩, (ZK BKq0.out), (ZK BKq1.out), (ZK BKq2.out), (ZI), (ZJ), (ZBI)⟩)
            ·skip
             (have pq1 : 0 ≤ (t295 : Int) := ZD; have qq1 : t295 < (y292.length : Int) := ZD; obtain ⟨adq1, eq1, hxq1_0⟩ := Kd.at_int (Kd.R_reads' HOq4.out).2.2 t295 pq1 qq1; obtain rfl : adz_vq0 = adq1 := (by injection eq1))
             refine value_ (w1 := ?_) (v := ?_) (by rfl) rfl ?_ ?_
             rotate_left 2
             ·go_simp
              constructor
              ·rfl
              ·rfl
             clear hxq1_0
             refine hK.out _ _ ⟨(blk_cell BKq2.out 0).trans rfl, (blk_cell BKq2.out 1).trans rfl⟩ (fun hHeld => ?_)
             clear hK K
             refine ZNO 65 ?_
             exact norm_ ZP (hJq0_4_7_9_11 (.slice (some adz_vq1) y286.length coq11, adz_vq1, .slice (some adz_vq0) y292.length coq12, adz_vq0) _ ⟨hHeld, (ZR HOq1.out), (ZRN HOq2.out), (ZR HOq3.out), (ZR HOq4.out), ⟨_, rfl⟩, ⟨_, rfl⟩, (ZK BKq0.out), (ZK BKq1.out), (ZK BKq2.out), (ZI), (ZJ), (ZBI)⟩)
          ·skip
           rintro ⟨vq3, adz_vq1⟩ wq14 ⟨hS_, hq0_, hq1_, hq2_, hq3_, hq4_, hq5_, hq6_, hq7_, hq8_, hq9_⟩
           have nq0_ : Aside0 (Kd.R k35 35 wq14 w.heap.size (fun k_ => (w.heap.size ≤ k_)) (.slice Aoq4 y268.length coq4) y268) := ⟨hq0_⟩
           have nq1_ : Aside0 (Kd.N k59 59 wq14 w.heap.size (fun k_ => (w.heap.size ≤ k_) ∧ some k_ ≠ (.slice Aoq4 y268.length coq4 : Value).ownBlock ∧ some k_ ≠ (vq3 : Value).ownBlock ∧ k_ ≠ g ∧ k_ ≠ gbq0 ∧ k_ ≠ gbq1 ∧ k_ ≠ gbq2) (.slice Aoq3 t271.length coq3) t271) := ⟨hq1_⟩
           have nq2_ : Aside0 (Kd.R (Kd.int .i64) 3 wq14 w.heap.size (fun k_ => (w.heap.size ≤ k_)) vq3 y286) := ⟨hq2_⟩
           have nq3_ : Aside0 (∃ c_, (vq3 : Value) = .slice (some adz_vq1) y286.length c_) := ⟨hq3_⟩
           have nq4_ : Aside0 (wq14.heap[gbq0]? = some (.cells #[.slice A1_0 l1_0.length c1_0, .slice A1_1 l1_1.length c1_1] 26 (0, 0))) := ⟨hq4_⟩
           have nq5_ : Aside0 (wq14.heap[gbq1]? = some (.cells #[.slice none 0 0, .slice none 0 0] 26 (0, 0))) := ⟨hq5_⟩
           have nq6_ : Aside0 (wq14.heap[gbq2]? = some (.cells #[.slice Aoq4 y268.length coq4, .slice Aoq3 t271.length coq3] 26 (0, 0))) := ⟨hq6_⟩
           have nq7_ : Aside0 (IsS101 w0 wq14 g s0_0 t296) := ⟨hq7_⟩
           have nq8_ : Aside0 (KeepBut w wq14 g none) := ⟨hq8_⟩
           have nq9_ : Aside0 (Below w0.heap.size w0 wq14) := ⟨hq9_⟩
           clear HOq1; clear HOq2; clear BKq0; clear BKq1; clear BKq2; clear HI0; clear HK; clear HB; clear hq0_ hq1_ hq2_ hq3_ hq4_ hq5_ hq6_ hq7_ hq8_ hq9_; have HOq1 := nq0_; have HOq2 := nq1_; have HOq3 := nq2_; have HA_HOq1 := nq3_; have BKq0 := nq4_; have BKq1 := nq5_; have BKq2 := nq6_; have HI0 := nq7_; have HK := nq8_; have HB := nq9_; clear nq0_ nq1_ nq2_ nq3_ nq4_ nq5_ nq6_ nq7_ nq8_ nq9_
           have hHeld : wq14.cell? ⟨gbq2, 0, none⟩ = some (.slice Aoq4 y268.length coq4) ∧ wq14.cell? ⟨gbq2, 1, none⟩ = some (.slice Aoq3 t271.length coq3) := hS_
           obtain ⟨coq10, eoq10⟩ := HA_HOq1.out
           clear HA_HOq1
           subst eoq10
           refine norm_ (a' := ?_) ?_ ?_
           rotate_left
           ·simp only [putAll, Act.put, List.setIfInBounds_toArray, List.set_cons_zero, List.set_cons_succ]; rfl
           refine one_ (i := 7) (N := some 61) #[T,T,T,T,T,T,T,T,T,T,F,F,F,F,F,F,F,F] rfl rfl (one_of HT_.out (by kernel_rfl)) (by decide) (fun K hK => ?_)
           refine Kd.R_lit_step (Kd.int .i64) _ 3 ?hg (N := 61) ?hd (xs := ([10, (-1), 4] : List Int)) (inner := [.int .i64 10, .int .i64 (-1), .int .i64 4]) (ok := fun _ => True) (okp := fun _ => True) ?hr ?hp (fun _ hk => hk) trivial (Below.refl _ _) (Nat.le_refl _) (by simp) ?_; (case hd => rfl); (case hg => rfl); (case hr => first | (go_simp; done) | (go_simp; rfl)); (case hp => exact (Reps.one (show Kd.M (Kd.int .i64) _ _ _ 10 [.int .i64 10] from rfl) (Reps.one (show Kd.M (Kd.int .i64) _ _ _ (-1) [.int .i64 (-1)] from rfl) (Reps.one (show Kd.M (Kd.int .i64) _ _ _ 4 [.int .i64 4] from rfl) (Reps.none _ _)))))
           intro vq4 wq20 hoq8 hb hg_ hnew_
           clear hg_ hnew_
           (first | rw [← Ny292.out] at hoq8 | (simp only [Int.reduceToNat] at hoq8; rw [← Ny292.out] at hoq8))
           have HOq4 := Aside0.mk (Kd.R_lower (Kd.R_new' (Kd.R_newM (M := fun k_ => (w.heap.size ≤ k_)) hoq8 (keep_size (w := w) (g := g) (row := none) (ZJ)) (fun k_ h_ => h_)) (Kd.R_lt (ZR HOq3.out))) (keep_size (w := w) (g := g) (row := none) (ZJ)))
           replace HOq1 := Aside0.mk (Kd.R_below (ZR HOq1.out) hb)
           replace HOq2 := Aside0.mk (Kd.N_elder' (ZRN HOq2.out) (Kd.R_base hoq8) hb)
           replace HOq3 := Aside0.mk (Kd.R_elder' (ZR HOq3.out) (Kd.R_base hoq8) hb)
           replace BKq0 := ZW BKq0 hb
           replace BKq1 := ZW BKq1 hb
           replace BKq2 := ZW BKq2 hb
           replace HK := ZKT HK (KeepBut.of_below hb g none)
           replace HB := ZTI HB hb
           replace HI0 := Aside0.mk (IsS101.below (ZI) hb)
           clear hb hoq8
           obtain ⟨Aoq10, coq11, eoq11⟩ := Kd.R_slice HOq4.out
           subst eoq11
           obtain ⟨adoq5, foq5, _⟩ := Kd.at_int (Kd.R_reads' HOq4.out).2.2 0 (by decide) (by rw [Ny292.out]; simp)
           cases foq5
           refine hK.out _ _ ⟨(blk_cell BKq2.out 0).trans rfl, (blk_cell BKq2.out 1).trans rfl⟩ (fun hHeld => ?_)
           clear hK K
           refine ZNO 61 ?_
           refine ZU 10 64 #[T,T,T,T,T,T,T,T,T,T,T,F,F,F,F,F,F,F] ?_
           exact norm_ ZP (hJq0_4_6_7_9 (.slice (some adz_vq1) y286.length coq10, adz_vq1, .slice (some adoq5) y292.length coq11, adoq5) _ ⟨hHeld, (ZR HOq1.out), (by (with_reducible repeat (first | apply Kd.N_alloc | apply Kd.N_drewN | apply Kd.N_drew)); exact Kd.N_mono HOq2.out (fun _ hk => ⟨hk.1.1, ⟨hk.1.2.1, ⟨hk.1.2.2.1, ⟨hk.2, ⟨hk.1.2.2.2.1, ⟨hk.1.2.2.2.2.1, ⟨hk.1.2.2.2.2.2.1, hk.1.2.2.2.2.2.2⟩⟩⟩⟩⟩⟩⟩)), (ZR HOq3.out), (by (with_reducible repeat (first | apply Kd.R_alloc | apply Kd.R_drewN | apply Kd.R_drew)); exact Kd.R_mono HOq4.out (fun _ hk => ⟨hk.1.1, hk.2⟩)), ⟨_, rfl⟩, ⟨_, rfl⟩, (ZK BKq0.out), (ZK BKq1.out), (ZK BKq2.out), (ZI), (ZJ), (ZBI)⟩)
         ·skip
          rintro ⟨vq3, adz_vq1, vq4, adz_vq0⟩ wq20 ⟨hS_, hq0_, hq1_, hq2_, hq3_, hq4_, hq5_, hq6_, hq7_, hq8_, hq9_, hq10_, hq11_⟩
          have nq0_ : Aside0 (Kd.R k35 35 wq20 w.heap.size (fun k_ => (w.heap.size ≤ k_)) (.slice Aoq4 y268.length coq4) y268) := ⟨hq0_⟩
          have nq1_ : Aside0 (Kd.N k59 59 wq20 w.heap.size (fun k_ => (w.heap.size ≤ k_) ∧ some k_ ≠ (.slice Aoq4 y268.length coq4 : Value).ownBlock ∧ some k_ ≠ (vq3 : Value).ownBlock ∧ some k_ ≠ (vq4 : Value).ownBlock ∧ k_ ≠ g ∧ k_ ≠ gbq0 ∧ k_ ≠ gbq1 ∧ k_ ≠ gbq2) (.slice Aoq3 t271.length coq3) t271) := ⟨hq1_⟩
          have nq2_ : Aside0 (Kd.R (Kd.int .i64) 3 wq20 w.heap.size (fun k_ => (w.heap.size ≤ k_) ∧ some k_ ≠ (vq4 : Value).ownBlock) vq3 y286) := ⟨hq2_⟩
          have nq3_ : Aside0 (Kd.R (Kd.int .i64) 3 wq20 w.heap.size (fun k_ => (w.heap.size ≤ k_) ∧ some k_ ≠ (vq3 : Value).ownBlock) vq4 y292) := ⟨hq3_⟩
          have nq4_ : Aside0 (∃ c_, (vq3 : Value) = .slice (some adz_vq1) y286.length c_) := ⟨hq4_⟩
          have nq5_ : Aside0 (∃ c_, (vq4 : Value) = .slice (some adz_vq0) y292.length c_) := ⟨hq5_⟩
          have nq6_ : Aside0 (wq20.heap[gbq0]? = some (.cells #[.slice A1_0 l1_0.length c1_0, .slice A1_1 l1_1.length c1_1] 26 (0, 0))) := ⟨hq6_⟩
          have nq7_ : Aside0 (wq20.heap[gbq1]? = some (.cells #[.slice none 0 0, .slice none 0 0] 26 (0, 0))) := ⟨hq7_⟩
          have nq8_ : Aside0 (wq20.heap[gbq2]? = some (.cells #[.slice Aoq4 y268.length coq4, .slice Aoq3 t271.length coq3] 26 (0, 0))) := ⟨hq8_⟩
          have nq9_ : Aside0 (IsS101 w0 wq20 g s0_0 t290) := ⟨hq9_⟩
          have nq10_ : Aside0 (KeepBut w wq20 g none) := ⟨hq10_⟩
          have nq11_ : Aside0 (Below w0.heap.size w0 wq20) := ⟨hq11_⟩
          clear HOq1; clear HOq2; clear BKq0; clear BKq1; clear BKq2; clear HI0; clear HK; clear HB; clear hq0_ hq1_ hq2_ hq3_ hq4_ hq5_ hq6_ hq7_ hq8_ hq9_ hq10_ hq11_; have HOq1 := nq0_; have HOq2 := nq1_; have HOq3 := nq2_; have HOq4 := nq3_; have HA_HOq1 := nq4_; have HA_HOq0 := nq5_; have BKq0 := nq6_; have BKq1 := nq7_; have BKq2 := nq8_; have HI0 := nq9_; have HK := nq10_; have HB := nq11_; clear nq0_ nq1_ nq2_ nq3_ nq4_ nq5_ nq6_ nq7_ nq8_ nq9_ nq10_ nq11_
          have hHeld : wq20.cell? ⟨gbq2, 0, none⟩ = some (.slice Aoq4 y268.length coq4) ∧ wq20.cell? ⟨gbq2, 1, none⟩ = some (.slice Aoq3 t271.length coq3) := hS_
          obtain ⟨coq9, eoq9⟩ := HA_HOq1.out
          clear HA_HOq1
          subst eoq9
          obtain ⟨coq11, eoq11⟩ := HA_HOq0.out
          clear HA_HOq0
          subst eoq11
          refine norm_ (a' := ?_) ?_ ?_
          rotate_left
          ·simp only [putAll, Act.put, List.setIfInBounds_toArray, List.set_cons_zero, List.set_cons_succ]; rfl
          refine one_ (i := 9) (N := some 63) #[T,T,T,T,T,T,T,T,T,T,F,F,F,F,F,F,F,F] rfl rfl (one_of HT_.out (by kernel_rfl)) (by decide) (fun K hK => ?_)
          refine goes_ Try.func85 (by kernel_rfl) rfl #[.pointer (some ⟨g, 0, none⟩), .int .i64 3] (by rfl) rfl rfl ZG ?_
          with_reducible refine (spec_l6Rd_pick.calls k g s0_0 t290 3 t295 t296 w0 _ ?side1 ?side2 A98.out).mono ?_
          (case side1 => exact ZI)
          (case side2 => exact ZBI)
          rintro e wq21 ⟨rfl, hi, hb, hk⟩
          refine ⟨_, rfl, ?_⟩
          replace BKq0 := ZL hk BKq0 NBq1_0
          replace BKq1 := ZL hk BKq1 NBq2_0
          replace HOq1 := Aside0.mk (Kd.R_mono (Kd.R_keep (IsS101.apart (show IsS101 w0 _ g s0_0 t290 from ZI) (ZR HOq1.out) (by decide)) hk (fun _ h => h.2)) (fun _ h => h.1))
          replace HOq2 := Aside0.mk (Kd.N_mono (Kd.N_keep (Kd.N_mono (ok := fun k_ => (((w.heap.size ≤ k_)) ∧ (some k_ ≠ (.slice Aoq4 y268.length coq4 : Value).ownBlock ∧ (some k_ ≠ (.slice (some adz_vq1) y286.length coq9 : Value).ownBlock ∧ (some k_ ≠ (.slice (some adz_vq0) y292.length coq11 : Value).ownBlock ∧ (k_ ≠ g ∧ (k_ ≠ gbq0 ∧ (k_ ≠ gbq1 ∧ k_ ≠ gbq2)))))))) (ZRN HOq2.out) (fun k_ hk_ => (⟨hk_, hk_.2.2.2.2.1⟩ : _ ∧ k_ ≠ g))) hk (fun _ h => h.2)) (fun _ h => h.1))
          replace BKq2 := ZL hk BKq2 NBq3_0
          replace HOq3 := Aside0.mk (Kd.R_mono (Kd.R_keep (IsS101.apart (show IsS101 w0 _ g s0_0 t290 from ZI) (ZR HOq3.out) (by decide)) hk (fun _ h => h.2)) (fun _ h => h.1))
          replace HOq4 := Aside0.mk (Kd.R_mono (Kd.R_keep (IsS101.apart (show IsS101 w0 _ g s0_0 t290 from ZI) (ZR HOq4.out) (by decide)) hk (fun _ h => h.2)) (fun _ h => h.1))
          replace HK := ZKT HK hk
          replace HB := Aside0.mk (hb)
          replace HI0 := Aside0.mk (hi)
          (try clear hb)
          (try clear hb2)
          (try clear hk)
          (try clear hi)
          refine hK.out _ _ ⟨(blk_cell BKq2.out 0).trans rfl, (blk_cell BKq2.out 1).trans rfl⟩ (fun hHeld => ?_)
          clear hK K
          refine ZNO 63 ?_
          refine ZU 10 64 #[T,T,T,T,T,T,T,T,T,T,T,F,F,F,F,F,F,F] ?_
          exact norm_ ZP (hJq0_4_6_7_9 (.slice (some adz_vq1) y286.length coq9, adz_vq1, .slice (some adz_vq0) y292.length coq11, adz_vq0) _ ⟨hHeld, (ZR HOq1.out), (ZRN HOq2.out), (ZR HOq3.out), (ZR HOq4.out), ⟨_, rfl⟩, ⟨_, rfl⟩, (ZK BKq0.out), (ZK BKq1.out), (ZK BKq2.out), (ZI), (ZJ), (ZBI)⟩)
        ·skip
         rintro ⟨vq3, adz_vq1, vq4, adz_vq0⟩ wq22 ⟨hS_, hq0_, hq1_, hq2_, hq3_, hq4_, hq5_, hq6_, hq7_, hq8_, hq9_, hq10_, hq11_⟩
         have nq0_ : Aside0 (Kd.R k35 35 wq22 w.heap.size (fun k_ => (w.heap.size ≤ k_)) (.slice Aoq4 y268.length coq4) y268) := ⟨hq0_⟩
         have nq1_ : Aside0 (Kd.N k59 59 wq22 w.heap.size (fun k_ => (w.heap.size ≤ k_) ∧ some k_ ≠ (.slice Aoq4 y268.length coq4 : Value).ownBlock ∧ some k_ ≠ (vq3 : Value).ownBlock ∧ some k_ ≠ (vq4 : Value).ownBlock ∧ k_ ≠ g ∧ k_ ≠ gbq0 ∧ k_ ≠ gbq1 ∧ k_ ≠ gbq2) (.slice Aoq3 t271.length coq3) t271) := ⟨hq1_⟩
         have nq2_ : Aside0 (Kd.R (Kd.int .i64) 3 wq22 w.heap.size (fun k_ => (w.heap.size ≤ k_) ∧ some k_ ≠ (vq4 : Value).ownBlock) vq3 y286) := ⟨hq2_⟩
         have nq3_ : Aside0 (Kd.R (Kd.int .i64) 3 wq22 w.heap.size (fun k_ => (w.heap.size ≤ k_) ∧ some k_ ≠ (vq3 : Value).ownBlock) vq4 y292) := ⟨hq3_⟩
         have nq4_ : Aside0 (∃ c_, (vq3 : Value) = .slice (some adz_vq1) y286.length c_) := ⟨hq4_⟩
         have nq5_ : Aside0 (∃ c_, (vq4 : Value) = .slice (some adz_vq0) y292.length c_) := ⟨hq5_⟩
         have nq6_ : Aside0 (wq22.heap[gbq0]? = some (.cells #[.slice A1_0 l1_0.length c1_0, .slice A1_1 l1_1.length c1_1] 26 (0, 0))) := ⟨hq6_⟩
         have nq7_ : Aside0 (wq22.heap[gbq1]? = some (.cells #[.slice none 0 0, .slice none 0 0] 26 (0, 0))) := ⟨hq7_⟩
         have nq8_ : Aside0 (wq22.heap[gbq2]? = some (.cells #[.slice Aoq4 y268.length coq4, .slice Aoq3 t271.length coq3] 26 (0, 0))) := ⟨hq8_⟩
         have nq9_ : Aside0 (IsS101 w0 wq22 g s0_0 t296) := ⟨hq9_⟩
         have nq10_ : Aside0 (KeepBut w wq22 g none) := ⟨hq10_⟩
         have nq11_ : Aside0 (Below w0.heap.size w0 wq22) := ⟨hq11_⟩
         clear HOq1; clear HOq2; clear BKq0; clear BKq1; clear BKq2; clear HI0; clear HK; clear HB; clear hq0_ hq1_ hq2_ hq3_ hq4_ hq5_ hq6_ hq7_ hq8_ hq9_ hq10_ hq11_; have HOq1 := nq0_; have HOq2 := nq1_; have HOq3 := nq2_; have HOq4 := nq3_; have HA_HOq1 := nq4_; have HA_HOq0 := nq5_; have BKq0 := nq6_; have BKq1 := nq7_; have BKq2 := nq8_; have HI0 := nq9_; have HK := nq10_; have HB := nq11_; clear nq0_ nq1_ nq2_ nq3_ nq4_ nq5_ nq6_ nq7_ nq8_ nq9_ nq10_ nq11_
         have hHeld : wq22.cell? ⟨gbq2, 0, none⟩ = some (.slice Aoq4 y268.length coq4) ∧ wq22.cell? ⟨gbq2, 1, none⟩ = some (.slice Aoq3 t271.length coq3) := hS_
         obtain ⟨coq11, eoq11⟩ := HA_HOq1.out
         clear HA_HOq1
         subst eoq11
         obtain ⟨coq12, eoq12⟩ := HA_HOq0.out
         clear HA_HOq0
         subst eoq12
         refine norm_ (a' := ?_) ?_ ?_
         rotate_left
         ·simp only [putAll, Act.put, List.setIfInBounds_toArray, List.set_cons_zero, List.set_cons_succ]; rfl
         refine one_ (i := 6) (N := some 60) #[T,T,T,T,T,T,T,T,T,T,T,T,F,F,F,F,F,F] rfl rfl (one_of HT_.out (by kernel_rfl)) (by decide) (fun K hK => ?_)
         (have pq0 : 0 ≤ (t289 : Int) := ZD; have qq0 : t289 < (y286.length : Int) := ZD; obtain ⟨adq0, eq0, hxq0_0⟩ := Kd.at_int (Kd.R_reads' HOq3.out).2.2 t289 pq0 qq0; obtain rfl : adz_vq1 = adq0 := (by injection eq0))
         refine value_ (w1 := ?_) (v := ?_) (by rfl) rfl ?_ ?_
         rotate_left 2
         ·go_simp
          constructor
          ·rfl
          ·rfl
         clear hxq0_0
         refine hK.out _ _ ⟨(blk_cell BKq2.out 0).trans rfl, (blk_cell BKq2.out 1).trans rfl⟩ (fun hHeld => ?_)
         clear hK K
         refine ZNO 60 ?_
         exact norm_ ZP (hJq0_4_6_7_9_11 (.slice (some adz_vq1) y286.length coq11, adz_vq1, .slice (some adz_vq0) y292.length coq12, adz_vq0) _ ⟨hHeld, (ZR HOq1.out), (ZRN HOq2.out), (ZR HOq3.out), (ZR HOq4.out), ⟨_, rfl⟩, ⟨_, rfl⟩, (ZK BKq0.out), (ZK BKq1.out), (ZK BKq2.out), (ZI), (ZJ), (ZBI)⟩)
       ·skip
        rintro ⟨vq3, adz_vq1, vq4, adz_vq0⟩ wq22 ⟨hS_, hq0_, hq1_, hq2_, hq3_, hq4_, hq5_, hq6_, hq7_, hq8_, hq9_, hq10_, hq11_⟩
        have nq0_ : Aside0 (Kd.R k35 35 wq22 w.heap.size (fun k_ => (w.heap.size ≤ k_)) (.slice Aoq4 y268.length coq4) y268) := ⟨hq0_⟩
        have nq1_ : Aside0 (Kd.N k59 59 wq22 w.heap.size (fun k_ => (w.heap.size ≤ k_) ∧ some k_ ≠ (.slice Aoq4 y268.length coq4 : Value).ownBlock ∧ some k_ ≠ (vq3 : Value).ownBlock ∧ some k_ ≠ (vq4 : Value).ownBlock ∧ k_ ≠ g ∧ k_ ≠ gbq0 ∧ k_ ≠ gbq1 ∧ k_ ≠ gbq2) (.slice Aoq3 t271.length coq3) t271) := ⟨hq1_⟩
        have nq2_ : Aside0 (Kd.R (Kd.int .i64) 3 wq22 w.heap.size (fun k_ => (w.heap.size ≤ k_) ∧ some k_ ≠ (vq4 : Value).ownBlock) vq3 y286) := ⟨hq2_⟩
        have nq3_ : Aside0 (Kd.R (Kd.int .i64) 3 wq22 w.heap.size (fun k_ => (w.heap.size ≤ k_) ∧ some k_ ≠ (vq3 : Value).ownBlock) vq4 y292) := ⟨hq3_⟩
        have nq4_ : Aside0 (∃ c_, (vq3 : Value) = .slice (some adz_vq1) y286.length c_) := ⟨hq4_⟩
        have nq5_ : Aside0 (∃ c_, (vq4 : Value) = .slice (some adz_vq0) y292.length c_) := ⟨hq5_⟩
        have nq6_ : Aside0 (wq22.heap[gbq0]? = some (.cells #[.slice A1_0 l1_0.length c1_0, .slice A1_1 l1_1.length c1_1] 26 (0, 0))) := ⟨hq6_⟩
        have nq7_ : Aside0 (wq22.heap[gbq1]? = some (.cells #[.slice none 0 0, .slice none 0 0] 26 (0, 0))) := ⟨hq7_⟩
        have nq8_ : Aside0 (wq22.heap[gbq2]? = some (.cells #[.slice Aoq4 y268.length coq4, .slice Aoq3 t271.length coq3] 26 (0, 0))) := ⟨hq8_⟩
        have nq9_ : Aside0 (IsS101 w0 wq22 g s0_0 t296) := ⟨hq9_⟩
        have nq10_ : Aside0 (KeepBut w wq22 g none) := ⟨hq10_⟩
        have nq11_ : Aside0 (Below w0.heap.size w0 wq22) := ⟨hq11_⟩
        clear HOq1; clear HOq2; clear BKq0; clear BKq1; clear BKq2; clear HI0; clear HK; clear HB; clear hq0_ hq1_ hq2_ hq3_ hq4_ hq5_ hq6_ hq7_ hq8_ hq9_ hq10_ hq11_; have HOq1 := nq0_; have HOq2 := nq1_; have HOq3 := nq2_; have HOq4 := nq3_; have HA_HOq1 := nq4_; have HA_HOq0 := nq5_; have BKq0 := nq6_; have BKq1 := nq7_; have BKq2 := nq8_; have HI0 := nq9_; have HK := nq10_; have HB := nq11_; clear nq0_ nq1_ nq2_ nq3_ nq4_ nq5_ nq6_ nq7_ nq8_ nq9_ nq10_ nq11_
        have hHeld : wq22.cell? ⟨gbq2, 0, none⟩ = some (.slice Aoq4 y268.length coq4) ∧ wq22.cell? ⟨gbq2, 1, none⟩ = some (.slice Aoq3 t271.length coq3) := hS_
        obtain ⟨coq11, eoq11⟩ := HA_HOq1.out
        clear HA_HOq1
        subst eoq11
        obtain ⟨coq12, eoq12⟩ := HA_HOq0.out
        clear HA_HOq0
        subst eoq12
        refine norm_ (a' := ?_) ?_ ?_
        rotate_left
        ·simp only [putAll, Act.put, List.setIfInBounds_toArray, List.set_cons_zero, List.set_cons_succ]; rfl
        refine one_ (i := 11) (N := some 65) #[T,T,T,T,T,T,T,T,T,T,T,T,F,F,F,F,F,F] rfl rfl (one_of HT_.out (by kernel_rfl)) (by decide) (fun K hK => ?_)
        (have pq1 : 0 ≤ (t295 : Int) := ZD; have qq1 : t295 < (y292.length : Int) := ZD; obtain ⟨adq1, eq1, hxq1_0⟩ := Kd.at_int (Kd.R_reads' HOq4.out).2.2 t295 pq1 qq1; obtain rfl : adz_vq0 = adq1 := (by injection eq1))
        refine value_ (w1 := ?_) (v := ?_) (by rfl) rfl ?_ ?_
        rotate_left 2
        ·go_simp
         constructor
         ·rfl
         ·rfl
        clear hxq1_0
        refine hK.out _ _ ⟨(blk_cell BKq2.out 0).trans rfl, (blk_cell BKq2.out 1).trans rfl⟩ (fun hHeld => ?_)
        clear hK K
        refine ZNO 65 ?_
        exact norm_ ZP (hJq0_4_6_7_9_11 (.slice (some adz_vq1) y286.length coq11, adz_vq1, .slice (some adz_vq0) y292.length coq12, adz_vq0) _ ⟨hHeld, (ZR HOq1.out), (ZRN HOq2.out), (ZR HOq3.out), (ZR HOq4.out), ⟨_, rfl⟩, ⟨_, rfl⟩, (ZK BKq0.out), (ZK BKq1.out), (ZK BKq2.out), (ZI), (ZJ), (ZBI)⟩)
      rintro ⟨vq3, adz_vq1, vq4, adz_vq0⟩ wq22 ⟨hS_, hq0_, hq1_, hq2_, hq3_, hq4_, hq5_, hq6_, hq7_, hq8_, hq9_, hq10_, hq11_⟩
      have nq0_ : Aside0 (Kd.R k35 35 wq22 w.heap.size (fun k_ => (w.heap.size ≤ k_)) (.slice Aoq4 y268.length coq4) y268) := ⟨hq0_⟩
      have nq1_ : Aside0 (Kd.N k59 59 wq22 w.heap.size (fun k_ => (w.heap.size ≤ k_) ∧ some k_ ≠ (.slice Aoq4 y268.length coq4 : Value).ownBlock ∧ some k_ ≠ (vq3 : Value).ownBlock ∧ some k_ ≠ (vq4 : Value).ownBlock ∧ k_ ≠ g ∧ k_ ≠ gbq0 ∧ k_ ≠ gbq1 ∧ k_ ≠ gbq2) (.slice Aoq3 t271.length coq3) t271) := ⟨hq1_⟩
      have nq2_ : Aside0 (Kd.R (Kd.int .i64) 3 wq22 w.heap.size (fun k_ => (w.heap.size ≤ k_) ∧ some k_ ≠ (vq4 : Value).ownBlock) vq3 y286) := ⟨hq2_⟩
      have nq3_ : Aside0 (Kd.R (Kd.int .i64) 3 wq22 w.heap.size (fun k_ => (w.heap.size ≤ k_) ∧ some k_ ≠ (vq3 : Value).ownBlock) vq4 y292) := ⟨hq3_⟩
      have nq4_ : Aside0 (∃ c_, (vq3 : Value) = .slice (some adz_vq1) y286.length c_) := ⟨hq4_⟩
      have nq5_ : Aside0 (∃ c_, (vq4 : Value) = .slice (some adz_vq0) y292.length c_) := ⟨hq5_⟩
      have nq6_ : Aside0 (wq22.heap[gbq0]? = some (.cells #[.slice A1_0 l1_0.length c1_0, .slice A1_1 l1_1.length c1_1] 26 (0, 0))) := ⟨hq6_⟩
      have nq7_ : Aside0 (wq22.heap[gbq1]? = some (.cells #[.slice none 0 0, .slice none 0 0] 26 (0, 0))) := ⟨hq7_⟩
      have nq8_ : Aside0 (wq22.heap[gbq2]? = some (.cells #[.slice Aoq4 y268.length coq4, .slice Aoq3 t271.length coq3] 26 (0, 0))) := ⟨hq8_⟩
      have nq9_ : Aside0 (IsS101 w0 wq22 g s0_0 t296) := ⟨hq9_⟩
      have nq10_ : Aside0 (KeepBut w wq22 g none) := ⟨hq10_⟩
      have nq11_ : Aside0 (Below w0.heap.size w0 wq22) := ⟨hq11_⟩
      clear HOq1; clear HOq2; clear BKq0; clear BKq1; clear BKq2; clear HI0; clear HK; clear HB; clear hq0_ hq1_ hq2_ hq3_ hq4_ hq5_ hq6_ hq7_ hq8_ hq9_ hq10_ hq11_; have HOq1 := nq0_; have HOq2 := nq1_; have HOq3 := nq2_; have HOq4 := nq3_; have HA_HOq1 := nq4_; have HA_HOq0 := nq5_; have BKq0 := nq6_; have BKq1 := nq7_; have BKq2 := nq8_; have HI0 := nq9_; have HK := nq10_; have HB := nq11_; clear nq0_ nq1_ nq2_ nq3_ nq4_ nq5_ nq6_ nq7_ nq8_ nq9_ nq10_ nq11_
      have hHeld : wq22.cell? ⟨gbq2, 0, none⟩ = some (.slice Aoq4 y268.length coq4) ∧ wq22.cell? ⟨gbq2, 1, none⟩ = some (.slice Aoq3 t271.length coq3) := hS_
      obtain ⟨coq11, eoq11⟩ := HA_HOq1.out
      clear HA_HOq1
      subst eoq11
      obtain ⟨coq12, eoq12⟩ := HA_HOq0.out
      clear HA_HOq0
      subst eoq12
      refine norm_ (a' := ?_) ?_ ?_
      rotate_left
      ·simp only [putAll, Act.put, List.setIfInBounds_toArray, List.set_cons_zero, List.set_cons_succ]; rfl
      refine ZU 12 66 #[T,T,T,T,T,T,T,T,T,T,T,T,T,F,F,F,F,F] ?_
      refine ZU 13 67 #[T,T,T,T,T,T,T,T,T,T,T,T,T,T,F,F,F,F] ?_
      refine one_ (i := 14) (N := some 68) #[T,T,T,T,T,T,T,T,T,T,T,T,T,T,T,F,F,F] rfl rfl (one_of HT_.out (by kernel_rfl)) (by decide) (fun K hK => ?_)
      refine value_ (w1 := ?_) (v := ?_) (by rfl) rfl ?_ ?_
      rotate_left 2
      ·go_simp
       constructor
       ·rfl
       ·rfl
      refine hK.out _ _ ⟨(blk_cell (blk_alloc BKq2.out _) 0).trans rfl, (blk_cell (blk_alloc BKq2.out _) 1).trans rfl⟩ (fun hHeld => ?_)
      clear hK K
      refine ZNO 68 ?_
      refine one_ (i := 15) (N := some 69) #[T,T,T,T,T,T,T,T,T,T,T,T,T,T,T,T,F,F] rfl rfl (one_of HT_.out (by kernel_rfl)) (by decide) (fun K hK => ?_)
      refine Kd.N_append_step k59 w.heap.size (by rfl) (.tmp 55) (.tmp 68) 24 59 (.agg #[(.int .i64 0), (.int .i64 0), (.int .i64 0), (.int .i64 0), (.int .i64 0), (.int .i64 0), (.slice none 0 0), (.slice none 0 0)]) 96 rfl Try.underlying24 info59 rfl (by decide) (by omega) (.slice Aoq3 t271.length coq3) t271 (⟨1, 0, (⟨rd y286 t289, rd y292 t295, 0⟩ : S57), 0, ([] : List (S59)), ([] : List (S59))⟩ : S59) [.int .i64 1, .int .i64 0, .int .i64 (rd y286 t289), .int .i64 (rd y292 t295), .int .i64 0, .int .i64 0, .slice none 0 0, .slice none 0 0] (fun k_ => (w.heap.size ≤ k_) ∧ some k_ ≠ (.slice Aoq4 y268.length coq4 : Value).ownBlock ∧ some k_ ≠ (.slice (some adz_vq1) y286.length coq11 : Value).ownBlock ∧ some k_ ≠ (.slice (some adz_vq0) y292.length coq12 : Value).ownBlock ∧ k_ ≠ gbq0 ∧ k_ ≠ gbq1 ∧ k_ ≠ gbq2 ∧ k_ ≠ g) (fun k_ => ((fun k_ => (w.heap.size ≤ k_) ∧ some k_ ≠ (.slice Aoq4 y268.length coq4 : Value).ownBlock ∧ some k_ ≠ (.slice (some adz_vq1) y286.length coq11 : Value).ownBlock ∧ some k_ ≠ (.slice (some adz_vq0) y292.length coq12 : Value).ownBlock ∧ k_ ≠ gbq0 ∧ k_ ≠ gbq1 ∧ k_ ≠ gbq2 ∧ k_ ≠ g)) k_ ∧ some k_ ≠ (.slice Aoq3 t271.length coq3 : Value).ownBlock) rfl rfl ?aP (fun _ hk => hk) ?aF ?aO (Below.refl _ _) ?aS ?aL ?_
      (case aP => exact (k59_mkF _ _ (⟨1, 0, (⟨rd y286 t289, rd y292 t295, 0⟩ : S57), 0, ([] : List (S59)), ([] : List (S59))⟩ : S59) (Nat.le_refl _) (Kd.F_nil _ _ _) (Nat.le_refl _) (Kd.F_nil _ _ _)))
      (case aF => exact (fun k_ hk => ⟨(Nat.le_trans (keep_size (w := w) (g := g) (row := none) (ZJ)) hk), Kd.fresh' (Kd.R_lt (ZR HOq1.out)) k_ hk, Kd.fresh' (Kd.R_lt (ZR HOq3.out)) k_ hk, Kd.fresh' (Kd.R_lt (ZR HOq4.out)) k_ hk, Kd.freshB (g := gbq0) (o := .cells #[.slice A1_0 l1_0.length c1_0, .slice A1_1 l1_1.length c1_1] 26 (0, 0)) (ZK BKq0.out) k_ hk, Kd.freshB (g := gbq1) (o := .cells #[.slice none 0 0, .slice none 0 0] 26 (0, 0)) (ZK BKq1.out) k_ hk, Kd.freshB (g := gbq2) (o := .cells #[.slice Aoq4 y268.length coq4, .slice Aoq3 t271.length coq3] 26 (0, 0)) (ZK BKq2.out) k_ hk, IsS101.fresh (ZI) k_ hk⟩))
      (case aO => exact (by (with_reducible repeat (first | apply Kd.N_alloc | apply Kd.N_drewN | apply Kd.N_drew)); exact Kd.N_mono HOq2.out (fun _ hk => ⟨hk.1, ⟨hk.2.1, ⟨hk.2.2.1, ⟨hk.2.2.2.1, ⟨hk.2.2.2.2.2.1, ⟨hk.2.2.2.2.2.2.1, ⟨hk.2.2.2.2.2.2.2, hk.2.2.2.2.1⟩⟩⟩⟩⟩⟩⟩)))
      (case aS => exact (keep_size (w := w) (g := g) (row := none) (ZJ)))
      (case aL => have := LMc101.out; omega)
      intro vq5 wq23 ho hb hg hat
      rw [← Ny298.out] at ho
      have nq0_ := Aside0.mk (IsS101.grown (ZI) hg (IsS101.own_neN HI0.out HOq2.out (by decide)))
      have nq1_ := Aside0.mk (blk_grown (g := gbq0) (o := .cells #[.slice A1_0 l1_0.length c1_0, .slice A1_1 l1_1.length c1_1] 26 (0, 0)) (ZK BKq0.out) hg (Kd.N_ne HOq2.out BKq0.out (by decide)))
      have nq2_ := Aside0.mk (blk_grown (g := gbq1) (o := .cells #[.slice none 0 0, .slice none 0 0] 26 (0, 0)) (ZK BKq1.out) hg (Kd.N_ne HOq2.out BKq1.out (by decide)))
      have nq3_ := Aside0.mk (Kd.R_over' (ZR HOq1.out) (Kd.N_typed (ZRN HOq2.out)) (by decide) hg)
      have nq4_ := Aside0.mk (blk_grown (g := gbq2) (o := .cells #[.slice Aoq4 y268.length coq4, .slice Aoq3 t271.length coq3] 26 (0, 0)) (ZK BKq2.out) hg (Kd.N_ne HOq2.out BKq2.out (by decide)))
      have nq5_ := Aside0.mk (Kd.R_over' (ZR HOq3.out) (Kd.N_typed (ZRN HOq2.out)) (by decide) hg)
      have nq6_ := Aside0.mk (Kd.R_over' (ZR HOq4.out) (Kd.N_typed (ZRN HOq2.out)) (by decide) hg)
      have nq7_ := Aside0.mk (below_weaken (ZBI) HL.out hb)
      have nq8_ := Aside0.mk (KeepBut.trans (ZJ) (KeepBut.of_grown hg g) (Kd.N_base2 HOq2.out))
      have nq9_ := Aside0.mk (ho)
      clear HI0; clear BKq0; clear BKq1; clear HOq1; clear BKq2; clear HOq3; clear HOq4; clear HB; clear HK; clear HOq2; have HI0 := nq0_; have BKq0 := nq1_; have BKq1 := nq2_; have HOq1 := nq3_; have BKq2 := nq4_; have HOq3 := nq5_; have HOq4 := nq6_; have HB := nq7_; have HK := nq8_; have HOq5 := nq9_; clear nq0_ nq1_ nq2_ nq3_ nq4_ nq5_ nq6_ nq7_ nq8_ nq9_; clear ho hb hg hat
      obtain ⟨Aoq11, coq13, eoq13⟩ := Kd.N_slice HOq5.out
      (first | subst eoq13 | (injection eoq13 with f1_ f2_ f3_; have fq0_ := f1_.symm; have fq1_ := f3_.symm; clear f1_ f2_ f3_; subst fq0_; subst fq1_))
      refine hK.out _ _ ⟨(blk_cell BKq2.out 0).trans rfl, (blk_cell BKq2.out 1).trans rfl⟩ (fun hHeld => ?_)
      clear hK K
      refine ZNO 69 ?_
      refine ZU 16 70 #[T,T,T,T,T,T,T,T,T,T,T,T,T,T,T,T,T,F] ?_
      refine last_ (i := 17) (N := none) #[T,T,T,T,T,T,T,T,T,T,T,T,T,T,T,T,T,T] rfl rfl (one_of HT_.out (by kernel_rfl)) (by decide) (fun K hK => ?_)
      have hsq2 : wq23.cell? ⟨gbq2, 1, none⟩ = some (.slice Aoq3 t271.length coq3) := (blk_cell BKq2.out 1).trans rfl
      have hfsq2 := blk_frozen BKq2.out 1
      have hnsq2_0 := NBq1_274.out
      have hnsq2_1 := NBq2_274.out
      have hmsq2_0 := NBq3_263.out
      have hmsq2_1 := NBq3_264.out
      refine skip_ (w1 := ?_) (by rfl) rfl ?_ ?_
      rotate_left
      ·go_simp
       rfl
      refine hK.out _ _ ?_
      clear hK K
      refine done_ (done_of HT_.out (by kernel_rfl)) ?_
      have hnbq0 := NBq3_263.out
      have hncq0 := NBq1_274.out
      have hnbq1 := NBq3_264.out
      have hncq1 := NBq2_274.out
      have hnbq2 := NBq3_0.out
      have hncq2 := NBq0_274.out
      obtain ⟨hczq0_0, hczq0_1⟩ := ZC2 wq23 BKq2
      obtain ⟨hfzq0_0, hfzq0_1⟩ := ZF2 BKq2
      have hnbq3 := NBq2_263.out
      have hncq3 := NBq1_264.out
      have hnbq4 := NBq2_0.out
      have hncq4 := NBq0_264.out
      obtain ⟨hczq1_0, hczq1_1⟩ := ZC2 wq23 BKq1
      obtain ⟨hfzq1_0, hfzq1_1⟩ := ZF2 BKq1
      try go_wp2
      refine bodyPost_ret (results_cell_row rfl _ _ gbq1 26 #[.slice Aoq4 y268.length coq4, .slice Aoq11 y298.length coq13] (0, 0) _ rfl (ZZ BKq1.out) Try.underlying26 rfl (by kernel_rfl)) rfl ?_
      exact ⟨_, _, ZE, by (with_reducible repeat (first | apply Kd.R_alloc | apply Kd.R_drewN | apply Kd.R_drew)); exact Kd.R_mono (Kd.R_far (p := ⟨gbq1, 1, none⟩) (Kd.R_far (p := ⟨gbq1, 0, none⟩) (Kd.R_far (p := ⟨gbq2, 1, none⟩) (Kd.R_types (Kd.R_types HOq1.out BKq2.out (by decide)) BKq1.out (by decide)) (fun _ hk => hk.1.2) (.slice Aoq11 y298.length coq13)) (fun _ hk => hk.2) (.slice Aoq4 y268.length coq4)) (fun _ hk => hk.2) (.slice Aoq11 y298.length coq13)) (fun _ hk => hk.1.1), by (with_reducible repeat (first | apply Kd.N_alloc | apply Kd.N_drewN | apply Kd.N_drew)); exact Kd.N_mono (Kd.N_far (p := ⟨gbq1, 1, none⟩) (Kd.N_far (p := ⟨gbq1, 0, none⟩) (Kd.N_far (p := ⟨gbq2, 1, none⟩) (Kd.N_mono (Kd.N_mono HOq5.out (fun k_ hk => (⟨hk, hk.2.2.2.2.2.2.1⟩ : _ ∧ k_ ≠ gbq2))) (fun k_ hk => (⟨hk, hk.1.2.2.2.2.2.1⟩ : _ ∧ k_ ≠ gbq1))) (fun _ hk => hk.1.2) (.slice Aoq11 y298.length coq13)) (fun _ hk => hk.2) (.slice Aoq4 y268.length coq4)) (fun _ hk => hk.2) (.slice Aoq11 y298.length coq13)) (fun _ hk => ⟨hk.1.1.1, hk.1.1.2.1⟩), ZI, ZBI, ZJ⟩)
    | (
      (have z_ := tag4_; clear z_)
      go_loopg [] k (fun kq w' => ∃ (xq0_1 : List (S59)) (uq0 : Value), Aside0 (spec_l71Bent.l0 kq s0_0 t276 y268 xq0_1 = some (r1, r2, r3)) ∧ Aside0 (kq ≤ k) ∧ Aside0 (Kd.R k35 35 w' w.heap.size (fun k_ => (w.heap.size ≤ k_)) (.slice Aoq4 y268.length coq4) y268) ∧ Aside0 (Kd.N k59 59 w' w.heap.size (fun k_ => (w.heap.size ≤ k_) ∧ some k_ ≠ ((.slice Aoq4 y268.length coq4) : Value).ownBlock ∧ k_ ≠ gbq0 ∧ k_ ≠ gbq1 ∧ k_ ≠ gbq2 ∧ k_ ≠ g) uq0 xq0_1) ∧ Aside0 (w'.heap[gbq0]? = some (.cells #[(.slice A1_0 l1_0.length c1_0), (.slice A1_1 l1_1.length c1_1)] 26 (0, 0))) ∧ Aside0 (w'.heap[gbq1]? = some (.cells #[(.slice none 0 0), (.slice none 0 0)] 26 (0, 0))) ∧ Aside0 (w'.heap[gbq2]? = some (.cells #[(.slice Aoq4 y268.length coq4), uq0] 26 (0, 0))) ∧ Aside0 (IsS101 w0 w' g s0_0 t276) ∧ Aside0 (KeepBut w w' g none) ∧ Aside0 (Below w0.heap.size w0 w'))
      case atStart => exact ⟨(t271), (.slice Aoq3 t271.length coq3), H', ⟨Nat.le_refl _⟩, ⟨ZR HOq1.out⟩, ⟨by (with_reducible repeat (first | apply Kd.N_alloc | apply Kd.N_drewN | apply Kd.N_drew)); exact Kd.N_mono HOq2.out (fun _ hk => ⟨hk.1, ⟨hk.2.1, ⟨hk.2.2.2.1, ⟨hk.2.2.2.2.1, ⟨hk.2.2.2.2.2, hk.2.2.1⟩⟩⟩⟩⟩)⟩, ⟨ZK BKq0.out⟩, ⟨ZK BKq1.out⟩, ⟨ZK BKq2.out⟩, ⟨ZI⟩, ⟨ZJ⟩, ⟨ZBI⟩⟩
      case round =>
       clear H'
       try clear c1
       try clear p2
       try clear c3
       try clear c8
       try clear c11
       try clear c85
       try clear c111
       obtain ⟨xq0_1, uq0, HA, HKq0, HO_q0, HO_q1, BKq0, BKq1, BKq2, HI0, HK, HB⟩ := hrel
       cases gk with
       | zero => exact absurd HA.out (by simp [spec_l71Bent.l0])
       | succ k1 =>
        have H := HA.out
        clear HA
        simp only [spec_l71Bent.l0] at H
        by_cases c157 : (xq0_1.length : Int) ≤ 8
        ·rw [if_pos c157] at H
         have cq0b0 : decide ((xq0_1.length : Int) ≤ 8) = true := decide_eq_true c157
         have cq0b1 : decide (xq0_1.length ≤ 8) = true := decide_eq_true (by omega)
         clear c157
         by_cases c158 : xq0_1.length < 1466015503701
         ·rw [if_pos c158] at H
          have LMcq0 := Aside0.mk c158
          clear c158
          obtain ⟨yq0, hyq0⟩ : ∃ y_ : List (S59), y_ = (xq0_1 ++ [(⟨3, 0, (⟨0, 0, 0⟩ : S57), 0, ([] : List (S59)), ([] : List (S59))⟩ : S59)]) := ⟨_, rfl⟩
          replace H : (spec_l71Bent.l0 k1 s0_0 t276 y268 yq0) = some (r1, r2, r3) := by first | (rw [hyq0]; with_reducible exact H) | (have H2_ := (Option.bind_some _ _).symm.trans H; rw [hyq0]; with_reducible exact H2_) | (have H2_ := (Option.bind_some _ _).symm.trans H; with_reducible exact H2_) | with_reducible exact H | (rw [hyq0]; exact H) | exact H
          have Nyq0 := Aside0.mk hyq0
          clear hyq0
          have H' := Aside0.mk H
          clear H
          have hnbq0 := NBq3_263.out
          have hncq0 := NBq1_274.out
          have hnbq1 := NBq3_264.out
          have hncq1 := NBq2_274.out
          have hnbq2 := NBq3_0.out
          have hncq2 := NBq0_274.out
          obtain ⟨hczq0_0, hczq0_1⟩ := ZC2 wr BKq2
          obtain ⟨hfzq0_0, hfzq0_1⟩ := ZF2 BKq2
          obtain ⟨Aoq5, coq5, eoq5⟩ := Kd.N_slice HO_q1.out
          subst eoq5
          go_wp2_with (first | ((with_reducible refine gate_builtin (b := .append) (xs := #[.tmp 78, .tmp 80]) rfl ?_); at_builtin; refine Kd.N_append k59 w.heap.size rfl (.tmp 78) (.tmp 80) 24 59 (.agg #[(.int .i64 0), (.int .i64 0), (.int .i64 0), (.int .i64 0), (.int .i64 0), (.int .i64 0), (.slice none 0 0), (.slice none 0 0)]) 96 rfl Try.underlying24 info59 rfl (by decide) (by omega) (.slice Aoq5 xq0_1.length coq5) xq0_1 (⟨3, 0, (⟨0, 0, 0⟩ : S57), 0, ([] : List (S59)), ([] : List (S59))⟩ : S59) [.int .i64 3, .int .i64 0, .int .i64 0, .int .i64 0, .int .i64 0, .int .i64 0, .slice none 0 0, .slice none 0 0] (fun k_ => (w.heap.size ≤ k_) ∧ some k_ ≠ (.slice Aoq4 y268.length coq4 : Value).ownBlock ∧ k_ ≠ gbq0 ∧ k_ ≠ gbq1 ∧ k_ ≠ gbq2 ∧ k_ ≠ g) (fun k_ => ((fun k_ => (w.heap.size ≤ k_) ∧ some k_ ≠ (.slice Aoq4 y268.length coq4 : Value).ownBlock ∧ k_ ≠ gbq0 ∧ k_ ≠ gbq1 ∧ k_ ≠ gbq2 ∧ k_ ≠ g)) k_ ∧ some k_ ≠ (.slice Aoq5 xq0_1.length coq5 : Value).ownBlock) rfl rfl ?aP (fun _ hk => hk) ?aF ?aO (Below.refl _ _) ?aS ?aL ?_; (case aP => exact (k59_mkF _ _ (⟨3, 0, (⟨0, 0, 0⟩ : S57), 0, ([] : List (S59)), ([] : List (S59))⟩ : S59) (Nat.le_refl _) (Kd.F_nil _ _ _) (Nat.le_refl _) (Kd.F_nil _ _ _))); (case aF => exact (fun k_ hk => ⟨(Nat.le_trans (keep_size (w := w) (g := g) (row := none) (ZJ)) hk), Kd.fresh' (Kd.R_lt (ZR HO_q0.out)) k_ hk, Kd.freshB (g := gbq0) (o := .cells #[.slice A1_0 l1_0.length c1_0, .slice A1_1 l1_1.length c1_1] 26 (0, 0)) (ZK BKq0.out) k_ hk, Kd.freshB (g := gbq1) (o := .cells #[.slice none 0 0, .slice none 0 0] 26 (0, 0)) (ZK BKq1.out) k_ hk, Kd.freshB (g := gbq2) (o := .cells #[.slice Aoq4 y268.length coq4, .slice Aoq5 xq0_1.length coq5] 26 (0, 0)) (ZK BKq2.out) k_ hk, IsS101.fresh (ZI) k_ hk⟩)); (case aO => exact (ZRN HO_q1.out)); (case aS => exact (keep_size (w := w) (g := g) (row := none) (ZJ))); (case aL => have := LMcq0.out; omega); intro vq3 wq11 ho hb hg hat; rw [← Nyq0.out] at ho; have nq0_ := Aside0.mk (Kd.R_over' (ZR HO_q0.out) (Kd.N_typed (ZRN HO_q1.out)) (by decide) hg); have nq1_ := Aside0.mk (blk_grown (g := gbq0) (o := .cells #[.slice A1_0 l1_0.length c1_0, .slice A1_1 l1_1.length c1_1] 26 (0, 0)) (ZK BKq0.out) hg (Kd.N_ne HO_q1.out BKq0.out (by decide))); have nq2_ := Aside0.mk (blk_grown (g := gbq1) (o := .cells #[.slice none 0 0, .slice none 0 0] 26 (0, 0)) (ZK BKq1.out) hg (Kd.N_ne HO_q1.out BKq1.out (by decide))); have nq3_ := Aside0.mk (blk_grown (g := gbq2) (o := .cells #[.slice Aoq4 y268.length coq4, .slice Aoq5 xq0_1.length coq5] 26 (0, 0)) (ZK BKq2.out) hg (Kd.N_ne HO_q1.out BKq2.out (by decide))); have nq4_ := Aside0.mk (IsS101.grown (ZI) hg (IsS101.own_neN HI0.out HO_q1.out (by decide))); have nq5_ := Aside0.mk (below_weaken (ZBI) HL.out hb); have nq6_ := Aside0.mk (KeepBut.trans (ZJ) (KeepBut.of_grown hg g) (Kd.N_base2 HO_q1.out)); have nq7_ := Aside0.mk (ho); clear HO_q0; clear BKq0; clear BKq1; clear BKq2; clear HI0; clear HB; clear HK; clear HO_q1; have HO_q0 := nq0_; have BKq0 := nq1_; have BKq1 := nq2_; have BKq2 := nq3_; have HI0 := nq4_; have HB := nq5_; have HK := nq6_; have HOq3 := nq7_; clear nq0_ nq1_ nq2_ nq3_ nq4_ nq5_ nq6_ nq7_; clear ho hb hg hat; obtain ⟨Aoq6, coq6, eoq6⟩ := Kd.N_slice HOq3.out; subst eoq6; obtain ⟨hczq1_0, hczq1_1⟩ := ZC2 wq11 BKq2; obtain ⟨hfzq1_0, hfzq1_1⟩ := ZF2 BKq2))
          go_roundg k1
          case measure => have := HKq0.out; omega
          case rel => exact ⟨(yq0), (.slice Aoq6 yq0.length coq6), H', ⟨by have := HKq0.out; omega⟩, ⟨ZR (Kd.R_mono (Kd.R_far (p := ⟨gbq2, 1, none⟩) (Kd.R_types HO_q0.out BKq2.out (by decide)) (fun _ hk => hk.2) (.slice Aoq6 yq0.length coq6)) (fun _ hk => hk.1))⟩, ⟨by (with_reducible repeat (first | apply Kd.N_alloc | apply Kd.N_drewN | apply Kd.N_drew)); exact Kd.N_mono (Kd.N_far (p := ⟨gbq2, 1, none⟩) (Kd.N_mono HOq3.out (fun k_ hk => (⟨hk, hk.2.2.2.2.1⟩ : _ ∧ k_ ≠ gbq2))) (fun _ hk => hk.2) (.slice Aoq6 yq0.length coq6)) (fun _ hk => ⟨hk.1.1, ⟨hk.1.2.1, ⟨hk.1.2.2.1, ⟨hk.1.2.2.2.1, ⟨hk.1.2.2.2.2.1, hk.1.2.2.2.2.2⟩⟩⟩⟩⟩)⟩, ⟨ZZ BKq0.out⟩, ⟨ZZ BKq1.out⟩, ⟨ZZ BKq2.out⟩, ⟨ZI⟩, ⟨ZJ⟩, ⟨ZBI⟩⟩
         ·rw [if_neg c158] at H
          exact absurd H (by simp)
        ·rw [if_neg c157] at H
         have cq0b0 : decide ((xq0_1.length : Int) ≤ 8) = false := decide_eq_false c157
         have cq0b1 : decide (xq0_1.length ≤ 8) = false := decide_eq_false (by omega)
         clear c157
         simp only [Option.some.injEq, Prod.mk.injEq] at H
         obtain ⟨rfl, rfl, rfl⟩ := H
         have hnbq3 := NBq3_263.out
         have hncq3 := NBq1_274.out
         have hnbq4 := NBq3_264.out
         have hncq4 := NBq2_274.out
         have hnbq5 := NBq3_0.out
         have hncq5 := NBq0_274.out
         obtain ⟨hczq2_0, hczq2_1⟩ := ZC2 wr BKq2
         obtain ⟨hfzq2_0, hfzq2_1⟩ := ZF2 BKq2
         obtain ⟨Aoq7, coq7, eoq7⟩ := Kd.N_slice HO_q1.out
         subst eoq7
         have hnbq6 := NBq2_263.out
         have hncq6 := NBq1_264.out
         have hnbq7 := NBq2_0.out
         have hncq7 := NBq0_264.out
         obtain ⟨hczq3_0, hczq3_1⟩ := ZC2 wr BKq1
         obtain ⟨hfzq3_0, hfzq3_1⟩ := ZF2 BKq1
         go_wp2
         refine bodyPost_ret (results_cell_row rfl _ _ gbq1 26 #[.slice Aoq4 y268.length coq4, .slice Aoq7 xq0_1.length coq7] (0, 0) _ rfl (ZZ BKq1.out) Try.underlying26 rfl (by kernel_rfl)) rfl ?_
         exact ⟨_, _, ZE, by (with_reducible repeat (first | apply Kd.R_alloc | apply Kd.R_drewN | apply Kd.R_drew)); exact Kd.R_mono (Kd.R_far (p := ⟨gbq1, 1, none⟩) (Kd.R_far (p := ⟨gbq1, 0, none⟩) (Kd.R_types HO_q0.out BKq1.out (by decide)) (fun _ hk => hk.2) (.slice Aoq4 y268.length coq4)) (fun _ hk => hk.2) (.slice Aoq7 xq0_1.length coq7)) (fun _ hk => hk.1), by (with_reducible repeat (first | apply Kd.N_alloc | apply Kd.N_drewN | apply Kd.N_drew)); exact Kd.N_mono (Kd.N_far (p := ⟨gbq1, 1, none⟩) (Kd.N_far (p := ⟨gbq1, 0, none⟩) (Kd.N_mono HO_q1.out (fun k_ hk => (⟨hk, hk.2.2.2.1⟩ : _ ∧ k_ ≠ gbq1))) (fun _ hk => hk.2) (.slice Aoq4 y268.length coq4)) (fun _ hk => hk.2) (.slice Aoq7 xq0_1.length coq7)) (fun _ hk => ⟨hk.1.1, hk.1.2.1⟩), ZI, ZBI, ZJ⟩)
    | (
      (have z_ := tag5_; clear z_)
      go_loopg [6] k (fun kq v6 w' => ∃ (xq0_1 : Int) (xq1_1 : List (S59)) (uq0 : Value), v6 = .int .i64 xq0_1 ∧ Aside0 (spec_l71Bent.l1 kq xq0_1 s0_0 t276 y268 xq1_1 = some (r1, r2, r3)) ∧ Aside0 (kq ≤ k) ∧ Aside0 (Kd.R k35 35 w' w.heap.size (fun k_ => (w.heap.size ≤ k_)) (.slice Aoq4 y268.length coq4) y268) ∧ Aside0 (Kd.N k59 59 w' w.heap.size (fun k_ => (w.heap.size ≤ k_) ∧ some k_ ≠ ((.slice Aoq4 y268.length coq4) : Value).ownBlock ∧ k_ ≠ gbq0 ∧ k_ ≠ gbq1 ∧ k_ ≠ gbq2 ∧ k_ ≠ g) uq0 xq1_1) ∧ Aside0 (w'.heap[gbq0]? = some (.cells #[(.slice A1_0 l1_0.length c1_0), (.slice A1_1 l1_1.length c1_1)] 26 (0, 0))) ∧ Aside0 (w'.heap[gbq1]? = some (.cells #[(.slice none 0 0), (.slice none 0 0)] 26 (0, 0))) ∧ Aside0 (w'.heap[gbq2]? = some (.cells #[(.slice Aoq4 y268.length coq4), uq0] 26 (0, 0))) ∧ Aside0 (IsS101 w0 w' g s0_0 t276) ∧ Aside0 (KeepBut w w' g none) ∧ Aside0 (Below w0.heap.size w0 w'))
      case atStart => exact ⟨(0), (t271), (.slice Aoq3 t271.length coq3), (by first | rfl | (simp; done) | (simp [*]; done)), H', ⟨Nat.le_refl _⟩, ⟨ZR HOq1.out⟩, ⟨by (with_reducible repeat (first | apply Kd.N_alloc | apply Kd.N_drewN | apply Kd.N_drew)); exact Kd.N_mono HOq2.out (fun _ hk => ⟨hk.1, ⟨hk.2.1, ⟨hk.2.2.2.1, ⟨hk.2.2.2.2.1, ⟨hk.2.2.2.2.2, hk.2.2.1⟩⟩⟩⟩⟩)⟩, ⟨ZK BKq0.out⟩, ⟨ZK BKq1.out⟩, ⟨ZK BKq2.out⟩, ⟨ZI⟩, ⟨ZJ⟩, ⟨ZBI⟩⟩
      case round =>
       clear H'
       try clear c1
       try clear p2
       try clear c3
       try clear c8
       try clear c11
       try clear c85
       try clear c111
       obtain ⟨xq0_1, xq1_1, uq0, rfl, HA, HKq0, HO_q0, HO_q1, BKq0, BKq1, BKq2, HI0, HK, HB⟩ := hrel
       cases gk with
       | zero => exact absurd HA.out (by simp [spec_l71Bent.l1])
       | succ k1 =>
        have H := HA.out
        clear HA
        simp only [spec_l71Bent.l1] at H
        by_cases c192 : xq0_1 < 4
        ·rw [if_pos c192] at H
         have cq0b0 : decide (xq0_1 < 4) = true := decide_eq_true c192
         clear c192
         obtain ⟨yq0, hyq0⟩ : ∃ y_ : List (S59), y_ = (([(⟨2, 0, (⟨0, 0, 0⟩ : S57), 0, xq1_1, ([] : List (S59))⟩ : S59)] : List (S59))) := ⟨_, rfl⟩
         replace H : (spec_l71Bent.l1 k1 (wrap64 (xq0_1 + 1)) s0_0 t276 y268 yq0) = some (r1, r2, r3) := by first | (rw [hyq0]; with_reducible exact H) | (have H2_ := (Option.bind_some _ _).symm.trans H; rw [hyq0]; with_reducible exact H2_) | (have H2_ := (Option.bind_some _ _).symm.trans H; with_reducible exact H2_) | with_reducible exact H | (rw [hyq0]; exact H) | exact H
         have Nyq0 := Aside0.mk hyq0
         clear hyq0
         have H' := Aside0.mk H
         clear H
         have hnbq0 := NBq3_263.out
         have hncq0 := NBq1_274.out
         have hnbq1 := NBq3_264.out
         have hncq1 := NBq2_274.out
         have hnbq2 := NBq3_0.out
         have hncq2 := NBq0_274.out
         obtain ⟨hczq0_0, hczq0_1⟩ := ZC2 wr BKq2
         obtain ⟨hfzq0_0, hfzq0_1⟩ := ZF2 BKq2
         obtain ⟨Aoq5, coq5, eoq5⟩ := Kd.N_slice HO_q1.out
         subst eoq5
         go_wp2_with (first | ((with_reducible refine gate_dst (N := 92) rfl ?_); refine Kd.N_lit k59 _ 59 ?hg (N' := 92) ?hd (xs := ([(⟨2, 0, (⟨0, 0, 0⟩ : S57), 0, xq1_1, ([] : List (S59))⟩ : S59)] : List (S59))) (inner := [.int .i64 2, .int .i64 0, .int .i64 0, .int .i64 0, .int .i64 0, .int .i64 0, .slice Aoq5 xq1_1.length coq5, .slice none 0 0]) (ok := (fun k_ => (w.heap.size ≤ k_) ∧ some k_ ≠ (.slice Aoq4 y268.length coq4 : Value).ownBlock ∧ k_ ≠ gbq0 ∧ k_ ≠ gbq1 ∧ k_ ≠ gbq2 ∧ k_ ≠ g)) (okp := (fun k_ => (w.heap.size ≤ k_) ∧ some k_ ≠ (.slice Aoq4 y268.length coq4 : Value).ownBlock ∧ k_ ≠ gbq0 ∧ k_ ≠ gbq1 ∧ k_ ≠ gbq2 ∧ k_ ≠ g)) ?hr ?hp (fun _ hk => hk) ((show ∀ k_, wr.heap.size ≤ k_ → (fun k_ => (w.heap.size ≤ k_) ∧ some k_ ≠ (.slice Aoq4 y268.length coq4 : Value).ownBlock ∧ k_ ≠ gbq0 ∧ k_ ≠ gbq1 ∧ k_ ≠ gbq2 ∧ k_ ≠ g) k_ from fun k_ hk => ⟨(Nat.le_trans (keep_size (w := w) (g := g) (row := none) (ZJ)) hk), Kd.fresh' (Kd.R_lt (ZR HO_q0.out)) k_ hk, Kd.freshB (g := gbq0) (o := .cells #[.slice A1_0 l1_0.length c1_0, .slice A1_1 l1_1.length c1_1] 26 (0, 0)) (ZK BKq0.out) k_ hk, Kd.freshB (g := gbq1) (o := .cells #[.slice none 0 0, .slice none 0 0] 26 (0, 0)) (ZK BKq1.out) k_ hk, Kd.freshB (g := gbq2) (o := .cells #[.slice Aoq4 y268.length coq4, .slice Aoq5 xq1_1.length coq5] 26 (0, 0)) (ZK BKq2.out) k_ hk, IsS101.fresh (ZI) k_ hk⟩) _ (Nat.le_refl _)) (Below.refl _ _) (Nat.le_refl _) (by simp) ?_; (case hd => rfl); (case hg => rfl); (case hr => first | (go_simp; done) | (go_simp; rfl)); (case hp => exact (Reps.c8 (show Kd.FK k59 _ _ (⟨2, 0, (⟨0, 0, 0⟩ : S57), 0, xq1_1, ([] : List (S59))⟩ : S59) [.int .i64 2, .int .i64 0, .int .i64 0, .int .i64 0, .int .i64 0, .int .i64 0, .slice Aoq5 xq1_1.length coq5, .slice none 0 0] from (k59_mkF _ _ (⟨2, 0, (⟨0, 0, 0⟩ : S57), 0, xq1_1, ([] : List (S59))⟩ : S59) (Kd.N_reads' (Kd.N_mono (ok' := (fun k_ => (w.heap.size ≤ k_) ∧ some k_ ≠ (.slice Aoq4 y268.length coq4 : Value).ownBlock ∧ k_ ≠ gbq0 ∧ k_ ≠ gbq1 ∧ k_ ≠ gbq2 ∧ k_ ≠ g)) (HO_q1.out) (fun k_ hk => ⟨hk.1, ⟨hk.2.1, ⟨hk.2.2.1, ⟨hk.2.2.2.1, ⟨hk.2.2.2.2.1, hk.2.2.2.2.2⟩⟩⟩⟩⟩))).2.1 (Kd.N_F (Kd.N_mono (ok' := (fun k_ => (w.heap.size ≤ k_) ∧ some k_ ≠ (.slice Aoq4 y268.length coq4 : Value).ownBlock ∧ k_ ≠ gbq0 ∧ k_ ≠ gbq1 ∧ k_ ≠ gbq2 ∧ k_ ≠ g)) (HO_q1.out) (fun k_ hk => ⟨hk.1, ⟨hk.2.1, ⟨hk.2.2.1, ⟨hk.2.2.2.1, ⟨hk.2.2.2.2.1, hk.2.2.2.2.2⟩⟩⟩⟩⟩))) (Nat.le_refl _) (Kd.F_nil _ _ _))) (Reps.none _ _))); intro vq3 wq11 hoq3 hb hg_ hnew_; clear hg_ hnew_; (first | rw [← Nyq0.out] at hoq3 | (simp only [Int.reduceToNat] at hoq3; rw [← Nyq0.out] at hoq3)); have nq0_ := Aside0.mk (Kd.R_below (ZR HO_q0.out) hb); have nq1_ := Aside0.mk (Kd.N_lower hoq3 (keep_size (w := w) (g := g) (row := none) (ZJ))); have nq2_ := ZW BKq0 hb; have nq3_ := ZW BKq1 hb; have nq4_ := ZW BKq2 hb; have nq5_ := Aside0.mk (IsS101.below (ZI) hb); have nq6_ := ZKT HK (KeepBut.of_below hb g none); have nq7_ := ZTI HB hb; clear HO_q0; clear BKq0; clear BKq1; clear BKq2; clear HI0; clear HK; clear HB; clear HO_q1; have HO_q0 := nq0_; have HOq3 := nq1_; have BKq0 := nq2_; have BKq1 := nq3_; have BKq2 := nq4_; have HI0 := nq5_; have HK := nq6_; have HB := nq7_; clear nq0_ nq1_ nq2_ nq3_ nq4_ nq5_ nq6_ nq7_; clear hb hoq3; obtain ⟨Aoq6, coq6, eoq6⟩ := Kd.N_slice HOq3.out; subst eoq6; obtain ⟨hczq1_0, hczq1_1⟩ := ZC2 wq11 BKq2; obtain ⟨hfzq1_0, hfzq1_1⟩ := ZF2 BKq2))
         go_roundg k1
         case measure => have := HKq0.out; omega
         case rel => exact ⟨(wrap64 (xq0_1 + 1)), (yq0), (.slice Aoq6 yq0.length coq6), (by first | rfl | (simp; done) | (simp [*]; done)), H', ⟨by have := HKq0.out; omega⟩, ⟨ZR (Kd.R_mono (Kd.R_far (p := ⟨gbq2, 1, none⟩) (Kd.R_types HO_q0.out BKq2.out (by decide)) (fun _ hk => hk.2) (.slice Aoq6 yq0.length coq6)) (fun _ hk => hk.1))⟩, ⟨by (with_reducible repeat (first | apply Kd.N_alloc | apply Kd.N_drewN | apply Kd.N_drew)); exact Kd.N_mono (Kd.N_far (p := ⟨gbq2, 1, none⟩) (Kd.N_mono HOq3.out (fun k_ hk => (⟨hk, hk.2.2.2.2.1⟩ : _ ∧ k_ ≠ gbq2))) (fun _ hk => hk.2) (.slice Aoq6 yq0.length coq6)) (fun _ hk => ⟨hk.1.1, ⟨hk.1.2.1, ⟨hk.1.2.2.1, ⟨hk.1.2.2.2.1, ⟨hk.1.2.2.2.2.1, hk.1.2.2.2.2.2⟩⟩⟩⟩⟩)⟩, ⟨ZZ BKq0.out⟩, ⟨ZZ BKq1.out⟩, ⟨ZZ BKq2.out⟩, ⟨ZI⟩, ⟨ZJ⟩, ⟨ZBI⟩⟩
        ·rw [if_neg c192] at H
         have cq0b0 : decide (xq0_1 < 4) = false := decide_eq_false c192
         clear c192
         simp only [Option.some.injEq, Prod.mk.injEq] at H
         obtain ⟨rfl, rfl, rfl⟩ := H
         have hnbq3 := NBq3_263.out
         have hncq3 := NBq1_274.out
         have hnbq4 := NBq3_264.out
         have hncq4 := NBq2_274.out
         have hnbq5 := NBq3_0.out
         have hncq5 := NBq0_274.out
         obtain ⟨hczq2_0, hczq2_1⟩ := ZC2 wr BKq2
         obtain ⟨hfzq2_0, hfzq2_1⟩ := ZF2 BKq2
         have hnbq6 := NBq2_263.out
         have hncq6 := NBq1_264.out
         have hnbq7 := NBq2_0.out
         have hncq7 := NBq0_264.out
         obtain ⟨hczq3_0, hczq3_1⟩ := ZC2 wr BKq1
         obtain ⟨hfzq3_0, hfzq3_1⟩ := ZF2 BKq1
         obtain ⟨Aoq7, coq7, eoq7⟩ := Kd.N_slice HO_q1.out
         subst eoq7
         go_wp2
         refine bodyPost_ret (results_cell_row rfl _ _ gbq1 26 #[.slice Aoq4 y268.length coq4, .slice Aoq7 xq1_1.length coq7] (0, 0) _ rfl (ZZ BKq1.out) Try.underlying26 rfl (by kernel_rfl)) rfl ?_
         exact ⟨_, _, ZE, by (with_reducible repeat (first | apply Kd.R_alloc | apply Kd.R_drewN | apply Kd.R_drew)); exact Kd.R_mono (Kd.R_far (p := ⟨gbq1, 1, none⟩) (Kd.R_far (p := ⟨gbq1, 0, none⟩) (Kd.R_types HO_q0.out BKq1.out (by decide)) (fun _ hk => hk.2) (.slice Aoq4 y268.length coq4)) (fun _ hk => hk.2) (.slice Aoq7 xq1_1.length coq7)) (fun _ hk => hk.1), by (with_reducible repeat (first | apply Kd.N_alloc | apply Kd.N_drewN | apply Kd.N_drew)); exact Kd.N_mono (Kd.N_far (p := ⟨gbq1, 1, none⟩) (Kd.N_far (p := ⟨gbq1, 0, none⟩) (Kd.N_mono HO_q1.out (fun k_ hk => (⟨hk, hk.2.2.2.1⟩ : _ ∧ k_ ≠ gbq1))) (fun _ hk => hk.2) (.slice Aoq4 y268.length coq4)) (fun _ hk => hk.2) (.slice Aoq7 xq1_1.length coq7)) (fun _ hk => ⟨hk.1.1, hk.1.2.1⟩), ZI, ZBI, ZJ⟩))
  | (
    (have z_ := tag2_; clear z_)
    try go_wp2_with (first | ((with_reducible refine gate_callee (f := 85) rfl ?_); refine goesL_ (some 16) rfl rfl Try.func85 (by kernel_rfl) rfl #[.pointer (some ⟨g, 0, none⟩), .int .i64 8] rfl ZG ?_; (with_reducible refine (spec_l6Rd_pick.calls k g s0_0 s0_1 8 t275 t276 w0 _ ?side1 ?side2 A5.out).mono ?_); (case side1 => exact ZI); (case side2 => exact ZBI); rintro e wq10 ⟨rfl, hi, hb, hk⟩; refine ⟨_, rfl, ?_⟩; replace BKq0 := ZLV #[.slice A1_0 l1_0.length c1_0, .slice A1_1 l1_1.length c1_1] hk BKq0 NBq1_0; replace BKq1 := ZLV #[.slice none 0 0, .slice none 0 0] hk BKq1 NBq2_0; replace HOq1 := Aside0.mk (Kd.R_mono (Kd.R_keep (IsS101.apart (show IsS101 w0 _ g s0_0 s0_1 from ZI) (ZR ((Kd.R_mono (Kd.R_far (p := ⟨gbq2, 1, none⟩) (Kd.R_far (p := ⟨gbq2, 0, none⟩) (Kd.R_types HOq1.out BKq2.out (by decide)) (fun _ hk => hk.2) (.slice Aoq4 y268.length coq4)) (fun _ hk => hk.2) (.slice Aoq3 t271.length coq3)) (fun _ h_ => h_.1)))) (by decide)) hk (fun _ h => h.2)) (fun _ h => h.1)); replace HOq2 := Aside0.mk (Kd.N_mono (Kd.N_keep (Kd.N_mono (ok := fun k_ => (((w.heap.size ≤ k_)) ∧ (some k_ ≠ (.slice Aoq4 y268.length coq4 : Value).ownBlock ∧ (k_ ≠ g ∧ (k_ ≠ gbq0 ∧ (k_ ≠ gbq1 ∧ k_ ≠ gbq2)))))) (by (with_reducible repeat (first | apply Kd.N_alloc | apply Kd.N_drewN | apply Kd.N_drew)); exact (Kd.N_mono (Kd.N_far (p := ⟨gbq2, 1, none⟩) (Kd.N_far (p := ⟨gbq2, 0, none⟩) (Kd.N_mono HOq2.out (fun k_ hk => (⟨hk, hk.2.2.2.2.2⟩ : _ ∧ k_ ≠ gbq2))) (fun _ hk => hk.2) (.slice Aoq4 y268.length coq4)) (fun _ hk => hk.2) (.slice Aoq3 t271.length coq3)) (fun _ h_ => h_.1))) (fun k_ hk_ => (⟨hk_, hk_.2.2.1⟩ : _ ∧ k_ ≠ g))) hk (fun _ h => h.2)) (fun _ h => h.1)); replace BKq2 := ZLV #[.slice Aoq4 y268.length coq4, .slice Aoq3 t271.length coq3] hk BKq2 NBq3_0; replace HK := ZKT HK hk; replace HB := Aside0.mk (hb); replace HI0 := Aside0.mk (hi); (try clear hb); (try clear hb2); (try clear hk); (try clear hi); have hnbq0 := NBq3_263.out; have hncq0 := NBq1_274.out; have hnbq1 := NBq3_264.out; have hncq1 := NBq2_274.out; have hnbq2 := NBq3_0.out; have hncq2 := NBq0_274.out; obtain ⟨hczq0_0, hczq0_1⟩ := ZC2 wq10 BKq2; obtain ⟨hfzq0_0, hfzq0_1⟩ := ZF2 BKq2) | ((with_reducible refine gate_builtin (b := .append) (xs := #[.tmp 43, .tmp 49]) rfl ?_); at_builtin; refine Kd.N_append k59 w.heap.size rfl (.tmp 43) (.tmp 49) 24 59 (.agg #[(.int .i64 0), (.int .i64 0), (.int .i64 0), (.int .i64 0), (.int .i64 0), (.int .i64 0), (.slice none 0 0), (.slice none 0 0)]) 96 rfl Try.underlying24 info59 rfl (by decide) (by omega) (.slice Aoq3 t271.length coq3) t271 (⟨1, (y268.length : Int), (⟨1, 0, 0⟩ : S57), 0, ([] : List (S59)), ([] : List (S59))⟩ : S59) [.int .i64 1, .int .i64 (y268.length : Int), .int .i64 1, .int .i64 0, .int .i64 0, .int .i64 0, .slice none 0 0, .slice none 0 0] (fun k_ => (w.heap.size ≤ k_) ∧ some k_ ≠ (.slice Aoq4 y268.length coq4 : Value).ownBlock ∧ k_ ≠ gbq0 ∧ k_ ≠ gbq1 ∧ k_ ≠ gbq2 ∧ k_ ≠ g) (fun k_ => ((fun k_ => (w.heap.size ≤ k_) ∧ some k_ ≠ (.slice Aoq4 y268.length coq4 : Value).ownBlock ∧ k_ ≠ gbq0 ∧ k_ ≠ gbq1 ∧ k_ ≠ gbq2 ∧ k_ ≠ g)) k_ ∧ some k_ ≠ (.slice Aoq3 t271.length coq3 : Value).ownBlock) rfl rfl ?aP (fun _ hk => hk) ?aF ?aO (Below.refl _ _) ?aS ?aL ?_; (case aP => exact (k59_mkF _ _ (⟨1, (y268.length : Int), (⟨1, 0, 0⟩ : S57), 0, ([] : List (S59)), ([] : List (S59))⟩ : S59) (Nat.le_refl _) (Kd.F_nil _ _ _) (Nat.le_refl _) (Kd.F_nil _ _ _))); (case aF => exact (fun k_ hk => ⟨(Nat.le_trans (keep_size (w := w) (g := g) (row := none) (ZJ)) hk), Kd.fresh' (Kd.R_lt (ZR HOq1.out)) k_ hk, Kd.freshB (g := gbq0) (o := .cells #[.slice A1_0 l1_0.length c1_0, .slice A1_1 l1_1.length c1_1] 26 (0, 0)) (ZK BKq0.out) k_ hk, Kd.freshB (g := gbq1) (o := .cells #[.slice none 0 0, .slice none 0 0] 26 (0, 0)) (ZK BKq1.out) k_ hk, Kd.freshB (g := gbq2) (o := .cells #[.slice Aoq4 y268.length coq4, .slice Aoq3 t271.length coq3] 26 (0, 0)) (ZK BKq2.out) k_ hk, IsS101.fresh (ZI) k_ hk⟩)); (case aO => exact (by (with_reducible repeat (first | apply Kd.N_alloc | apply Kd.N_drewN | apply Kd.N_drew)); exact Kd.N_mono HOq2.out (fun _ hk => ⟨hk.1, ⟨hk.2.1, ⟨hk.2.2.2.1, ⟨hk.2.2.2.2.1, ⟨hk.2.2.2.2.2, hk.2.2.1⟩⟩⟩⟩⟩))); (case aS => exact (keep_size (w := w) (g := g) (row := none) (ZJ))); (case aL => have := LMc67.out; omega); intro vq3 wq11 ho hb hg hat; rw [← Ny283.out] at ho; have nq0_ := Aside0.mk (IsS101.grown (ZI) hg (IsS101.own_neN HI0.out HOq2.out (by decide))); have nq1_ := Aside0.mk (blk_grown (g := gbq0) (o := .cells #[.slice A1_0 l1_0.length c1_0, .slice A1_1 l1_1.length c1_1] 26 (0, 0)) (ZK BKq0.out) hg (Kd.N_ne HOq2.out BKq0.out (by decide))); have nq2_ := Aside0.mk (blk_grown (g := gbq1) (o := .cells #[.slice none 0 0, .slice none 0 0] 26 (0, 0)) (ZK BKq1.out) hg (Kd.N_ne HOq2.out BKq1.out (by decide))); have nq3_ := Aside0.mk (Kd.R_over' (ZR HOq1.out) (Kd.N_typed (ZRN HOq2.out)) (by decide) hg); have nq4_ := Aside0.mk (blk_grown (g := gbq2) (o := .cells #[.slice Aoq4 y268.length coq4, .slice Aoq3 t271.length coq3] 26 (0, 0)) (ZK BKq2.out) hg (Kd.N_ne HOq2.out BKq2.out (by decide))); have nq5_ := Aside0.mk (below_weaken (ZBI) HL.out hb); have nq6_ := Aside0.mk (KeepBut.trans (ZJ) (KeepBut.of_grown hg g) (Kd.N_base2 HOq2.out)); have nq7_ := Aside0.mk (ho); clear HI0; clear BKq0; clear BKq1; clear HOq1; clear BKq2; clear HB; clear HK; clear HOq2; have HI0 := nq0_; have BKq0 := nq1_; have BKq1 := nq2_; have HOq1 := nq3_; have BKq2 := nq4_; have HB := nq5_; have HK := nq6_; have HOq3 := nq7_; clear nq0_ nq1_ nq2_ nq3_ nq4_ nq5_ nq6_ nq7_; clear ho hb hg hat; obtain ⟨Aoq5, coq5, eoq5⟩ := Kd.N_slice HOq3.out; subst eoq5; obtain ⟨hczq1_0, hczq1_1⟩ := ZC2 wq11 BKq2; obtain ⟨hfzq1_0, hfzq1_1⟩ := ZF2 BKq2; have hnbq3 := NBq2_263.out; have hncq3 := NBq1_264.out; have hnbq4 := NBq2_0.out; have hncq4 := NBq0_264.out; obtain ⟨hczq2_0, hczq2_1⟩ := ZC2 wq11 BKq1; obtain ⟨hfzq2_0, hfzq2_1⟩ := ZF2 BKq1))
    refine bodyPost_ret (results_cell_row rfl _ _ gbq1 26 #[.slice Aoq4 y268.length coq4, .slice Aoq5 y283.length coq5] (0, 0) _ rfl (ZZ BKq1.out) Try.underlying26 rfl (by kernel_rfl)) rfl ?_
    exact ⟨_, _, ZE, by (with_reducible repeat (first | apply Kd.R_alloc | apply Kd.R_drewN | apply Kd.R_drew)); exact Kd.R_mono (Kd.R_far (p := ⟨gbq1, 1, none⟩) (Kd.R_far (p := ⟨gbq1, 0, none⟩) (Kd.R_far (p := ⟨gbq2, 1, none⟩) (Kd.R_types (Kd.R_types HOq1.out BKq2.out (by decide)) BKq1.out (by decide)) (fun _ hk => hk.1.2) (.slice Aoq5 y283.length coq5)) (fun _ hk => hk.2) (.slice Aoq4 y268.length coq4)) (fun _ hk => hk.2) (.slice Aoq5 y283.length coq5)) (fun _ hk => hk.1.1), by (with_reducible repeat (first | apply Kd.N_alloc | apply Kd.N_drewN | apply Kd.N_drew)); exact Kd.N_mono (Kd.N_far (p := ⟨gbq1, 1, none⟩) (Kd.N_far (p := ⟨gbq1, 0, none⟩) (Kd.N_far (p := ⟨gbq2, 1, none⟩) (Kd.N_mono (Kd.N_mono HOq3.out (fun k_ hk => (⟨hk, hk.2.2.2.2.1⟩ : _ ∧ k_ ≠ gbq2))) (fun k_ hk => (⟨hk, hk.1.2.2.2.1⟩ : _ ∧ k_ ≠ gbq1))) (fun _ hk => hk.1.2) (.slice Aoq5 y283.length coq5)) (fun _ hk => hk.2) (.slice Aoq4 y268.length coq4)) (fun _ hk => hk.2) (.slice Aoq5 y283.length coq5)) (fun _ hk => ⟨hk.1.1.1, hk.1.1.2.1⟩), ZI, ZBI, ZJ⟩)
  | (
    (have z_ := tag6_; clear z_)
    try go_wp2_with (first | ((with_reducible refine gate_callee (f := 85) rfl ?_); refine goesL_ (some 16) rfl rfl Try.func85 (by kernel_rfl) rfl #[.pointer (some ⟨g, 0, none⟩), .int .i64 8] rfl ZG ?_; (with_reducible refine (spec_l6Rd_pick.calls k g s0_0 s0_1 8 t275 t276 w0 _ ?side1 ?side2 A5.out).mono ?_); (case side1 => exact ZI); (case side2 => exact ZBI); rintro e wq10 ⟨rfl, hi, hb, hk⟩; refine ⟨_, rfl, ?_⟩; replace BKq0 := ZLV #[.slice A1_0 l1_0.length c1_0, .slice A1_1 l1_1.length c1_1] hk BKq0 NBq1_0; replace BKq1 := ZLV #[.slice none 0 0, .slice none 0 0] hk BKq1 NBq2_0; replace HOq1 := Aside0.mk (Kd.R_mono (Kd.R_keep (IsS101.apart (show IsS101 w0 _ g s0_0 s0_1 from ZI) (ZR ((Kd.R_mono (Kd.R_far (p := ⟨gbq2, 1, none⟩) (Kd.R_far (p := ⟨gbq2, 0, none⟩) (Kd.R_types HOq1.out BKq2.out (by decide)) (fun _ hk => hk.2) (.slice Aoq4 y268.length coq4)) (fun _ hk => hk.2) (.slice Aoq3 t271.length coq3)) (fun _ h_ => h_.1)))) (by decide)) hk (fun _ h => h.2)) (fun _ h => h.1)); replace HOq2 := Aside0.mk (Kd.N_mono (Kd.N_keep (Kd.N_mono (ok := fun k_ => (((w.heap.size ≤ k_)) ∧ (some k_ ≠ (.slice Aoq4 y268.length coq4 : Value).ownBlock ∧ (k_ ≠ g ∧ (k_ ≠ gbq0 ∧ (k_ ≠ gbq1 ∧ k_ ≠ gbq2)))))) (by (with_reducible repeat (first | apply Kd.N_alloc | apply Kd.N_drewN | apply Kd.N_drew)); exact (Kd.N_mono (Kd.N_far (p := ⟨gbq2, 1, none⟩) (Kd.N_far (p := ⟨gbq2, 0, none⟩) (Kd.N_mono HOq2.out (fun k_ hk => (⟨hk, hk.2.2.2.2.2⟩ : _ ∧ k_ ≠ gbq2))) (fun _ hk => hk.2) (.slice Aoq4 y268.length coq4)) (fun _ hk => hk.2) (.slice Aoq3 t271.length coq3)) (fun _ h_ => h_.1))) (fun k_ hk_ => (⟨hk_, hk_.2.2.1⟩ : _ ∧ k_ ≠ g))) hk (fun _ h => h.2)) (fun _ h => h.1)); replace BKq2 := ZLV #[.slice Aoq4 y268.length coq4, .slice Aoq3 t271.length coq3] hk BKq2 NBq3_0; replace HK := ZKT HK hk; replace HB := Aside0.mk (hb); replace HI0 := Aside0.mk (hi); (try clear hb); (try clear hb2); (try clear hk); (try clear hi); have hnbq0 := NBq3_263.out; have hncq0 := NBq1_274.out; have hnbq1 := NBq3_264.out; have hncq1 := NBq2_274.out; have hnbq2 := NBq3_0.out; have hncq2 := NBq0_274.out; obtain ⟨hczq0_0, hczq0_1⟩ := ZC2 wq10 BKq2; obtain ⟨hfzq0_0, hfzq0_1⟩ := ZF2 BKq2) | ((with_reducible refine gate_dst (N := 102) rfl ?_); refine Kd.R_lit k35 _ 35 ?hg (N := 102) ?hd (xs := ([(⟨0, 0⟩ : S35), (⟨0, 0⟩ : S35), (⟨0, 0⟩ : S35), (⟨0, 0⟩ : S35)] : List (S35))) (inner := [.int .i64 0, .int .i64 0, .int .i64 0, .int .i64 0, .int .i64 0, .int .i64 0, .int .i64 0, .int .i64 0]) (ok := fun _ => True) (okp := fun _ => True) ?hr ?hp (fun _ hk => hk) trivial (Below.refl _ _) (Nat.le_refl _) (by simp) ?_; (case hd => rfl); (case hg => rfl); (case hr => first | (go_simp; done) | (go_simp; rfl)); (case hp => exact (Reps.c2 (show Kd.M k35 _ _ _ (⟨0, 0⟩ : S35) [.int .i64 0, .int .i64 0] from (k35_mkM _ _ _ (⟨0, 0⟩ : S35) )) (Reps.c2 (show Kd.M k35 _ _ _ (⟨0, 0⟩ : S35) [.int .i64 0, .int .i64 0] from (k35_mkM _ _ _ (⟨0, 0⟩ : S35) )) (Reps.c2 (show Kd.M k35 _ _ _ (⟨0, 0⟩ : S35) [.int .i64 0, .int .i64 0] from (k35_mkM _ _ _ (⟨0, 0⟩ : S35) )) (Reps.c2 (show Kd.M k35 _ _ _ (⟨0, 0⟩ : S35) [.int .i64 0, .int .i64 0] from (k35_mkM _ _ _ (⟨0, 0⟩ : S35) )) (Reps.none _ _)))))); intro vq3 wq11 hoq3 hb hg_ hnew_; clear hg_ hnew_; (first | rw [← Ny307.out] at hoq3 | (simp only [Int.reduceToNat] at hoq3; rw [← Ny307.out] at hoq3)); have HOq3 := Aside0.mk (Kd.R_lower (Kd.R_new' (Kd.R_newM (M := fun k_ => (w.heap.size ≤ k_)) hoq3 (keep_size (w := w) (g := g) (row := none) (ZJ)) (fun k_ h_ => h_)) (Kd.R_lt (ZR HOq1.out))) (keep_size (w := w) (g := g) (row := none) (ZJ))); replace HOq1 := Aside0.mk (Kd.R_elder' (ZR HOq1.out) (Kd.R_base hoq3) hb); replace HOq2 := Aside0.mk (Kd.N_elder' (ZRN HOq2.out) (Kd.R_base hoq3) hb); replace BKq0 := ZW BKq0 hb; replace BKq1 := ZW BKq1 hb; replace BKq2 := ZW BKq2 hb; replace HK := ZKT HK (KeepBut.of_below hb g none); replace HB := ZTI HB hb; replace HI0 := Aside0.mk (IsS101.below (ZI) hb); clear hb hoq3; obtain ⟨Aoq5, coq5, eoq5⟩ := Kd.R_slice HOq3.out; subst eoq5) | ((with_reducible refine gate_builtin (b := .append) (xs := #[.tmp 97, .tmp 102]) rfl ?_); at_builtin; refine Kd.R_append_rows k35 w.heap.size rfl (.tmp 97) (.tmp 102) 23 35 (.agg #[(.int .i64 0), (.int .i64 0)]) 16 rfl Try.underlying23 info35 rfl (by decide) (by omega) (.slice Aoq4 y268.length coq4) y268 y307 _ _ _ (fun k_ => (w.heap.size ≤ k_) ∧ some k_ ≠ (.slice Aoq5 y307.length coq5 : Value).ownBlock) (fun _ => False) rfl rfl ?aO ?aR (fun _ _ h => h) (fun _ h => h.elim) ?aF (Below.refl _ _) ?aS ?aL ?_; (case aR => exact ZQ ((Kd.R_reads' HOq3.out).2.2)); (case aF => exact (fun k_ hk => ⟨(Nat.le_trans (keep_size (w := w) (g := g) (row := none) (ZJ)) hk), Kd.fresh' (Kd.R_lt (ZR HOq3.out)) k_ hk⟩)); (case aO => exact (ZR HOq1.out)); (case aS => exact (keep_size (w := w) (g := g) (row := none) (ZJ))); (case aL => have := LMc211.out; omega); intro vq4 wq12 ho hb hg hat; rw [← Ny310.out] at ho; have nq0_ := Aside0.mk (IsS101.grown (ZI) hg (IsS101.own_ne HI0.out HOq1.out (by decide))); have nq1_ := Aside0.mk (blk_grown (g := gbq0) (o := .cells #[.slice A1_0 l1_0.length c1_0, .slice A1_1 l1_1.length c1_1] 26 (0, 0)) (ZK BKq0.out) hg (Kd.R_ne HOq1.out BKq0.out (by decide))); have nq2_ := Aside0.mk (blk_grown (g := gbq1) (o := .cells #[.slice none 0 0, .slice none 0 0] 26 (0, 0)) (ZK BKq1.out) hg (Kd.R_ne HOq1.out BKq1.out (by decide))); have nq3_ := Aside0.mk (Kd.N_afterv (ok := (fun k_ => (w.heap.size ≤ k_) ∧ some k_ ≠ (.slice Aoq5 y307.length coq5 : Value).ownBlock ∧ k_ ≠ g ∧ k_ ≠ gbq0 ∧ k_ ≠ gbq1 ∧ k_ ≠ gbq2)) (by (with_reducible repeat (first | apply Kd.N_alloc | apply Kd.N_drewN | apply Kd.N_drew)); exact Kd.N_mono HOq2.out (fun _ hk => ⟨⟨hk.1.1, ⟨hk.2, ⟨hk.1.2.2.1, ⟨hk.1.2.2.2.1, ⟨hk.1.2.2.2.2.1, hk.1.2.2.2.2.2⟩⟩⟩⟩⟩, hk.1.2.1⟩)) hg hat); have nq4_ := Aside0.mk (blk_grown (g := gbq2) (o := .cells #[.slice Aoq4 y268.length coq4, .slice Aoq3 t271.length coq3] 26 (0, 0)) (ZK BKq2.out) hg (Kd.R_ne HOq1.out BKq2.out (by decide))); have nq5_ := Aside0.mk (Kd.R_after (ok := (fun k_ => (w.heap.size ≤ k_))) (by (with_reducible repeat (first | apply Kd.R_alloc | apply Kd.R_drewN | apply Kd.R_drew)); exact Kd.R_mono HOq3.out (fun _ hk => ⟨hk.1.1, hk.2⟩)) hg hat); have nq6_ := Aside0.mk (below_weaken (ZBI) HL.out hb); have nq7_ := Aside0.mk (KeepBut.trans (ZJ) (KeepBut.of_grown hg g) (Kd.R_base2 HOq1.out)); have nq8_ := Aside0.mk (ho); clear HI0; clear BKq0; clear BKq1; clear HOq2; clear BKq2; clear HOq3; clear HB; clear HK; clear HOq1; have HI0 := nq0_; have BKq0 := nq1_; have BKq1 := nq2_; have HOq2 := nq3_; have BKq2 := nq4_; have HOq3 := nq5_; have HB := nq6_; have HK := nq7_; have HOq4 := nq8_; clear nq0_ nq1_ nq2_ nq3_ nq4_ nq5_ nq6_ nq7_ nq8_; clear ho hb hg hat; obtain ⟨Aoq6, coq6, eoq6⟩ := Kd.R_slice HOq4.out; subst eoq6; obtain ⟨hczq1_0, hczq1_1⟩ := ZC2 wq12 BKq2; obtain ⟨hfzq1_0, hfzq1_1⟩ := ZF2 BKq2; have hnbq3 := NBq2_263.out; have hncq3 := NBq1_264.out; have hnbq4 := NBq2_0.out; have hncq4 := NBq0_264.out; obtain ⟨hczq2_0, hczq2_1⟩ := ZC2 wq12 BKq1; obtain ⟨hfzq2_0, hfzq2_1⟩ := ZF2 BKq1))
    refine bodyPost_ret (results_cell_row rfl _ _ gbq1 26 #[.slice Aoq6 y310.length coq6, .slice Aoq3 t271.length coq3] (0, 0) _ rfl (ZZ BKq1.out) Try.underlying26 rfl (by kernel_rfl)) rfl ?_
    exact ⟨_, _, ZE, by (with_reducible repeat (first | apply Kd.R_alloc | apply Kd.R_drewN | apply Kd.R_drew)); exact Kd.R_mono (Kd.R_far (p := ⟨gbq1, 1, none⟩) (Kd.R_far (p := ⟨gbq1, 0, none⟩) (Kd.R_far (p := ⟨gbq2, 0, none⟩) (Kd.R_types (Kd.R_types HOq4.out BKq2.out (by decide)) BKq1.out (by decide)) (fun _ hk => hk.1.2) (.slice Aoq6 y310.length coq6)) (fun _ hk => hk.2) (.slice Aoq6 y310.length coq6)) (fun _ hk => hk.2) (.slice Aoq3 t271.length coq3)) (fun _ hk => hk.1.1.1), by (with_reducible repeat (first | apply Kd.N_alloc | apply Kd.N_drewN | apply Kd.N_drew)); exact Kd.N_mono (Kd.N_far (p := ⟨gbq1, 1, none⟩) (Kd.N_far (p := ⟨gbq1, 0, none⟩) (Kd.N_far (p := ⟨gbq2, 0, none⟩) (Kd.N_mono (Kd.N_mono HOq2.out (fun k_ hk => (⟨hk, hk.1.2.2.2.2.2⟩ : _ ∧ k_ ≠ gbq2))) (fun k_ hk => (⟨hk, hk.1.1.2.2.2.2.1⟩ : _ ∧ k_ ≠ gbq1))) (fun _ hk => hk.1.2) (.slice Aoq6 y310.length coq6)) (fun _ hk => hk.2) (.slice Aoq6 y310.length coq6)) (fun _ hk => hk.2) (.slice Aoq3 t271.length coq3)) (fun _ hk => ⟨hk.1.1.1.1, hk.1.1.2⟩), ZI, ZBI, ZJ⟩)
  | (
    (have z_ := tag7_; clear z_)
    try go_wp2_with (first | ((with_reducible refine gate_callee (f := 85) rfl ?_); refine goesL_ (some 16) rfl rfl Try.func85 (by kernel_rfl) rfl #[.pointer (some ⟨g, 0, none⟩), .int .i64 8] rfl ZG ?_; (with_reducible refine (spec_l6Rd_pick.calls k g s0_0 s0_1 8 t275 t276 w0 _ ?side1 ?side2 A5.out).mono ?_); (case side1 => exact ZI); (case side2 => exact ZBI); rintro e wq10 ⟨rfl, hi, hb, hk⟩; refine ⟨_, rfl, ?_⟩; replace BKq0 := ZLV #[.slice A1_0 l1_0.length c1_0, .slice A1_1 l1_1.length c1_1] hk BKq0 NBq1_0; replace BKq1 := ZLV #[.slice none 0 0, .slice none 0 0] hk BKq1 NBq2_0; replace HOq1 := Aside0.mk (Kd.R_mono (Kd.R_keep (IsS101.apart (show IsS101 w0 _ g s0_0 s0_1 from ZI) (ZR ((Kd.R_mono (Kd.R_far (p := ⟨gbq2, 1, none⟩) (Kd.R_far (p := ⟨gbq2, 0, none⟩) (Kd.R_types HOq1.out BKq2.out (by decide)) (fun _ hk => hk.2) (.slice Aoq4 y268.length coq4)) (fun _ hk => hk.2) (.slice Aoq3 t271.length coq3)) (fun _ h_ => h_.1)))) (by decide)) hk (fun _ h => h.2)) (fun _ h => h.1)); replace HOq2 := Aside0.mk (Kd.N_mono (Kd.N_keep (Kd.N_mono (ok := fun k_ => (((w.heap.size ≤ k_)) ∧ (some k_ ≠ (.slice Aoq4 y268.length coq4 : Value).ownBlock ∧ (k_ ≠ g ∧ (k_ ≠ gbq0 ∧ (k_ ≠ gbq1 ∧ k_ ≠ gbq2)))))) (by (with_reducible repeat (first | apply Kd.N_alloc | apply Kd.N_drewN | apply Kd.N_drew)); exact (Kd.N_mono (Kd.N_far (p := ⟨gbq2, 1, none⟩) (Kd.N_far (p := ⟨gbq2, 0, none⟩) (Kd.N_mono HOq2.out (fun k_ hk => (⟨hk, hk.2.2.2.2.2⟩ : _ ∧ k_ ≠ gbq2))) (fun _ hk => hk.2) (.slice Aoq4 y268.length coq4)) (fun _ hk => hk.2) (.slice Aoq3 t271.length coq3)) (fun _ h_ => h_.1))) (fun k_ hk_ => (⟨hk_, hk_.2.2.1⟩ : _ ∧ k_ ≠ g))) hk (fun _ h => h.2)) (fun _ h => h.1)); replace BKq2 := ZLV #[.slice Aoq4 y268.length coq4, .slice Aoq3 t271.length coq3] hk BKq2 NBq3_0; replace HK := ZKT HK hk; replace HB := Aside0.mk (hb); replace HI0 := Aside0.mk (hi); (try clear hb); (try clear hb2); (try clear hk); (try clear hi); have hnbq0 := NBq3_263.out; have hncq0 := NBq1_274.out; have hnbq1 := NBq3_264.out; have hncq1 := NBq2_274.out; have hnbq2 := NBq3_0.out; have hncq2 := NBq0_274.out; obtain ⟨hczq0_0, hczq0_1⟩ := ZC2 wq10 BKq2; obtain ⟨hfzq0_0, hfzq0_1⟩ := ZF2 BKq2) | ((with_reducible refine gate_builtin (b := .append) (xs := #[.tmp 18, .tmp 20]) rfl ?_); at_builtin; refine Kd.N_append k59 w.heap.size rfl (.tmp 18) (.tmp 20) 24 59 (.agg #[(.int .i64 0), (.int .i64 0), (.int .i64 0), (.int .i64 0), (.int .i64 0), (.int .i64 0), (.slice none 0 0), (.slice none 0 0)]) 96 rfl Try.underlying24 info59 rfl (by decide) (by omega) (.slice Aoq3 t271.length coq3) t271 (⟨3, 0, (⟨0, 0, 0⟩ : S57), 3, ([] : List (S59)), ([] : List (S59))⟩ : S59) [.int .i64 3, .int .i64 0, .int .i64 0, .int .i64 0, .int .i64 0, .int .i64 3, .slice none 0 0, .slice none 0 0] (fun k_ => (w.heap.size ≤ k_) ∧ some k_ ≠ (.slice Aoq4 y268.length coq4 : Value).ownBlock ∧ k_ ≠ gbq0 ∧ k_ ≠ gbq1 ∧ k_ ≠ gbq2 ∧ k_ ≠ g) (fun k_ => ((fun k_ => (w.heap.size ≤ k_) ∧ some k_ ≠ (.slice Aoq4 y268.length coq4 : Value).ownBlock ∧ k_ ≠ gbq0 ∧ k_ ≠ gbq1 ∧ k_ ≠ gbq2 ∧ k_ ≠ g)) k_ ∧ some k_ ≠ (.slice Aoq3 t271.length coq3 : Value).ownBlock) rfl rfl ?aP (fun _ hk => hk) ?aF ?aO (Below.refl _ _) ?aS ?aL ?_; (case aP => exact (k59_mkF _ _ (⟨3, 0, (⟨0, 0, 0⟩ : S57), 3, ([] : List (S59)), ([] : List (S59))⟩ : S59) (Nat.le_refl _) (Kd.F_nil _ _ _) (Nat.le_refl _) (Kd.F_nil _ _ _))); (case aF => exact (fun k_ hk => ⟨(Nat.le_trans (keep_size (w := w) (g := g) (row := none) (ZJ)) hk), Kd.fresh' (Kd.R_lt (ZR HOq1.out)) k_ hk, Kd.freshB (g := gbq0) (o := .cells #[.slice A1_0 l1_0.length c1_0, .slice A1_1 l1_1.length c1_1] 26 (0, 0)) (ZK BKq0.out) k_ hk, Kd.freshB (g := gbq1) (o := .cells #[.slice none 0 0, .slice none 0 0] 26 (0, 0)) (ZK BKq1.out) k_ hk, Kd.freshB (g := gbq2) (o := .cells #[.slice Aoq4 y268.length coq4, .slice Aoq3 t271.length coq3] 26 (0, 0)) (ZK BKq2.out) k_ hk, IsS101.fresh (ZI) k_ hk⟩)); (case aO => exact (by (with_reducible repeat (first | apply Kd.N_alloc | apply Kd.N_drewN | apply Kd.N_drew)); exact Kd.N_mono HOq2.out (fun _ hk => ⟨hk.1, ⟨hk.2.1, ⟨hk.2.2.2.1, ⟨hk.2.2.2.2.1, ⟨hk.2.2.2.2.2, hk.2.2.1⟩⟩⟩⟩⟩))); (case aS => exact (keep_size (w := w) (g := g) (row := none) (ZJ))); (case aL => have := LMc241.out; omega); intro vq3 wq11 ho hb hg hat; rw [← Ny313.out] at ho; have nq0_ := Aside0.mk (IsS101.grown (ZI) hg (IsS101.own_neN HI0.out HOq2.out (by decide))); have nq1_ := Aside0.mk (blk_grown (g := gbq0) (o := .cells #[.slice A1_0 l1_0.length c1_0, .slice A1_1 l1_1.length c1_1] 26 (0, 0)) (ZK BKq0.out) hg (Kd.N_ne HOq2.out BKq0.out (by decide))); have nq2_ := Aside0.mk (blk_grown (g := gbq1) (o := .cells #[.slice none 0 0, .slice none 0 0] 26 (0, 0)) (ZK BKq1.out) hg (Kd.N_ne HOq2.out BKq1.out (by decide))); have nq3_ := Aside0.mk (Kd.R_over' (ZR HOq1.out) (Kd.N_typed (ZRN HOq2.out)) (by decide) hg); have nq4_ := Aside0.mk (blk_grown (g := gbq2) (o := .cells #[.slice Aoq4 y268.length coq4, .slice Aoq3 t271.length coq3] 26 (0, 0)) (ZK BKq2.out) hg (Kd.N_ne HOq2.out BKq2.out (by decide))); have nq5_ := Aside0.mk (below_weaken (ZBI) HL.out hb); have nq6_ := Aside0.mk (KeepBut.trans (ZJ) (KeepBut.of_grown hg g) (Kd.N_base2 HOq2.out)); have nq7_ := Aside0.mk (ho); clear HI0; clear BKq0; clear BKq1; clear HOq1; clear BKq2; clear HB; clear HK; clear HOq2; have HI0 := nq0_; have BKq0 := nq1_; have BKq1 := nq2_; have HOq1 := nq3_; have BKq2 := nq4_; have HB := nq5_; have HK := nq6_; have HOq3 := nq7_; clear nq0_ nq1_ nq2_ nq3_ nq4_ nq5_ nq6_ nq7_; clear ho hb hg hat; obtain ⟨Aoq5, coq5, eoq5⟩ := Kd.N_slice HOq3.out; subst eoq5; obtain ⟨hczq1_0, hczq1_1⟩ := ZC2 wq11 BKq2; obtain ⟨hfzq1_0, hfzq1_1⟩ := ZF2 BKq2; have hnbq3 := NBq2_263.out; have hncq3 := NBq1_264.out; have hnbq4 := NBq2_0.out; have hncq4 := NBq0_264.out; obtain ⟨hczq2_0, hczq2_1⟩ := ZC2 wq11 BKq1; obtain ⟨hfzq2_0, hfzq2_1⟩ := ZF2 BKq1))
    refine bodyPost_ret (results_cell_row rfl _ _ gbq1 26 #[.slice Aoq4 y268.length coq4, .slice Aoq5 y313.length coq5] (0, 0) _ rfl (ZZ BKq1.out) Try.underlying26 rfl (by kernel_rfl)) rfl ?_
    exact ⟨_, _, ZE, by (with_reducible repeat (first | apply Kd.R_alloc | apply Kd.R_drewN | apply Kd.R_drew)); exact Kd.R_mono (Kd.R_far (p := ⟨gbq1, 1, none⟩) (Kd.R_far (p := ⟨gbq1, 0, none⟩) (Kd.R_far (p := ⟨gbq2, 1, none⟩) (Kd.R_types (Kd.R_types HOq1.out BKq2.out (by decide)) BKq1.out (by decide)) (fun _ hk => hk.1.2) (.slice Aoq5 y313.length coq5)) (fun _ hk => hk.2) (.slice Aoq4 y268.length coq4)) (fun _ hk => hk.2) (.slice Aoq5 y313.length coq5)) (fun _ hk => hk.1.1), by (with_reducible repeat (first | apply Kd.N_alloc | apply Kd.N_drewN | apply Kd.N_drew)); exact Kd.N_mono (Kd.N_far (p := ⟨gbq1, 1, none⟩) (Kd.N_far (p := ⟨gbq1, 0, none⟩) (Kd.N_far (p := ⟨gbq2, 1, none⟩) (Kd.N_mono (Kd.N_mono HOq3.out (fun k_ hk => (⟨hk, hk.2.2.2.2.1⟩ : _ ∧ k_ ≠ gbq2))) (fun k_ hk => (⟨hk, hk.1.2.2.2.1⟩ : _ ∧ k_ ≠ gbq1))) (fun _ hk => hk.1.2) (.slice Aoq5 y313.length coq5)) (fun _ hk => hk.2) (.slice Aoq4 y268.length coq4)) (fun _ hk => hk.2) (.slice Aoq5 y313.length coq5)) (fun _ hk => ⟨hk.1.1.1, hk.1.1.2.1⟩), ZI, ZBI, ZJ⟩)

end Go.Proofs.Ytcffnnedghgmaaa.A
