/- Go functions as Lean functions, and for each its contract; written by wip/tools/pr.py over the kit's print. -/
import Derived.Test.YtfcmckomagaiiaaDoorAx0
import Derived.Test.YtfcmckomagaiiaaDoorAx5
import Derived.Test.YtfcmckomagaiiaaDoorAx13
import Derived.Test.YtfcmckomagaiiaaDoorAx14
import Derived.Test.YtfcmckomagaiiaaDoorAx16
namespace Go.Proofs.YtfcmckomagaiiaaDoor.A
open Go.RowKit Go.Proofs.YtfcmckomagaiiaaDoorW.PrintWords Go.Proofs.YtfcmckomagaiiaaDoorW.PrintLast Go.Proofs.YtfcmckomagaiiaaDoorW.PrintMore
attribute [local go_sem] max2_int min2_int max_two min_two max_three min_three max_four min_four
set_option linter.unusedVariables false
set_option linter.unusedSimpArgs false
set_option maxHeartbeats 8000000
set_option maxRecDepth 100000

/-! ### spec_l71Prog: function 51 -/
mutual
def spec_l71Prog.l0 : Nat → Int → List Int → Int → Option ((List (S43)) × (List (S71)) × Int)
 | 0, _, _, _ => none
 | k + 1, x3, x1000, x1001 => if x3 < 20 then ((spec_l6Rd_pick.f k x1000 x1001 4).bind fun bt331 => (spec_l71Prog.l1 k x3 (wrap64 (1 + bt331.1)) x1000 bt331.2 (([] : List (S43))))) else (some ((([(⟨7, 0⟩ : S43)] : List (S43))), ([] : List (S71)), x1001))
def spec_l71Prog.l1 : Nat → Int → Int → List Int → Int → List (S43) → Option ((List (S43)) × (List (S71)) × Int)
 | 0, _, _, _, _, _ => none
 | k + 1, x3, x5, x1000, x1001, x331000 => if x5 > 0 then ((spec_l71Label.f k x1000 x1001).bind fun bt333 => (if x331000.length < 8796093022208 then (spec_l71Prog.l1 k x3 (wrap64 (x5 - 1)) x1000 bt333.2.2 (x331000 ++ [(⟨bt333.1, bt333.2.1⟩ : S43)])) else (none))) else ((spec_l71Steps.f k x1000 x1001 4 3 (x331000.length : Int)).bind fun bt339 => ((spec_ProgOk.f k x331000 bt339.1).bind fun t343 => (if t343 = true then (some (x331000, bt339.1, bt339.2)) else (spec_l71Prog.l0 k (wrap64 (x3 + 1)) x1000 bt339.2))))
end
def spec_l71Prog.f (k : Nat) (s0_0 : List Int) (s0_1 : Int) : Option ((List (S43)) × (List (S71)) × Int) := spec_l71Prog.l0 k 0 s0_0 s0_1
def spec_l71Prog.T8 : Bool × List (List Nat × List Nat) := (true, [([], []), ([0], [0]), ([], []), ([2], [2]), ([3], [3]), ([1, 4, 3], [1, 4]), ([0, 1, 2, 3, 4, 5], []), ([6, 5, 5, 0, 1, 2, 3, 4, 5], [5, 6])])
def spec_l71Prog.B8 : List Nat := [0, 1, 0, 4, 12, 31, 63, 127]
theorem spec_l71Prog.tab8 : rtab .any (opsOf Tryd.f51 8) = spec_l71Prog.T8 := by kernel_rfl
theorem spec_l71Prog.bits8 : waitsOk spec_l71Prog.T8.2 spec_l71Prog.B8 = true := by kernel_rfl
theorem spec_l71Prog.calls (k : Nat) (g : Nat) (s0_0 : List Int) (s0_1 : Int) (r1 : List (S43)) (r2 : List (S71)) (r3 : Int) (w0 w : World) (hI : IsS84 w0 w g s0_0 s0_1) (hB : Below w0.heap.size w0 w) (h : spec_l71Prog.f k s0_0 s0_1 = some (r1, r2, r3)) :
  Calls Tryd.prog 51 #[.pointer (some ⟨g, 0, none⟩)] w fun e w' => ∃ v0_ v1_ : Value, e = .returned (.agg #[v0_, v1_]) ∧ Kd.R k43 43 w' w.heap.size (fun _ => True) v0_ r1 ∧ Kd.R k71 71 w' w.heap.size (fun _ => True) v1_ r2 ∧ IsS84 w0 w' g s0_0 r3 ∧ Below w0.heap.size w0 w' ∧ KeepBut w w' g none := by
 have hu31 := Tryd.underlying31
 have hu43 := Tryd.underlying43
 have HI0 := AM hI
 have HK := AM (KeepBut.refl w g none)
 have HL := AM hB.size
 clear hI
 have HW0 := AM hB.size
 have HB := AM hB
 clear hB
 have H := h
 unfold spec_l71Prog.f at H
 clear h
 have H' := AM H
 clear H
 go_enter Tryd.func51, Tryd.ntmps51
 go_wp2_with (first | ((with_reducible refine gate_dst (N := 2) rfl ?_); refine ZX (N := 2) (cs := #[.slice none 0 0, .slice none 0 0]) (t := 31) ?_; intro gb323 hg w2 hbox hb; have BK323 := AM (hbox); have GW323 := AM ((by rw [hg]; exact (keep_size (w := w) (g := g) (row := none) (ZJ)) : w.heap.size ≤ gb323)); have GE323 := AM ((Nat.le_trans HW0.out (by rw [hg]; exact (keep_size (w := w) (g := g) (row := none) (ZJ)) : w.heap.size ≤ gb323) : w0.heap.size ≤ gb323)); have NB0_323 := AM ((by rw [hg]; exact Nat.ne_of_lt (IsS84.lt (show IsS84 w0 _ g s0_0 s0_1 from ZI)) : g ≠ gb323)); have NB323_0 := AM ((by rw [hg]; exact Nat.ne_of_gt (IsS84.lt (show IsS84 w0 _ g s0_0 s0_1 from ZI)) : gb323 ≠ g)); replace HK := ZKT HK (KeepBut.of_below hb g none); replace HB := ZTI HB hb; replace HI0 := AM (IsS84.below (ZI) hb); clear hb hbox hg))
 go_loopg [3] k (fun kq v3 w' => ∃ (x3_1 : Int) (x1001_1 : Int), v3 = .int .i64 x3_1 ∧ Za (spec_l71Prog.l0 kq x3_1 s0_0 x1001_1 = some (r1, r2, r3)) ∧ Za (kq ≤ k) ∧ Za (w'.heap[gb323]? = some (.cells #[(.slice none 0 0), (.slice none 0 0)] 31 (0, 0))) ∧ Za (IsS84 w0 w' g s0_0 x1001_1) ∧ Za (KeepBut w w' g none) ∧ Za (Below w0.heap.size w0 w'))
 case atStart => exact ⟨(0), (s0_1), ZSM, H', ⟨Nat.le_refl _⟩, ⟨ZK BK323.out⟩, ⟨ZI⟩, ⟨ZJ⟩, ⟨ZBI⟩⟩
 case round => (
 clear H'
 try clear p2
 obtain ⟨x3_1, x1001_1, rfl, HA, HK1, BK323, HI0, HK, HB⟩ := hrel
 cases gk with
 | zero => exact absurd HA.out (by simp [spec_l71Prog.l0])
 | succ k1 =>
  have H := HA.out
  clear HA
  simp only [spec_l71Prog.l0] at H
  by_cases c3 : x3_1 < 20
  ·(
  rw [if_pos c3] at H
  have c3b0 := decide_eq_true c3
  clear c3
  obtain ⟨y327, hy327⟩ : ∃ y_ : List (S43), y_ = (([] : List (S43))) := ⟨_, rfl⟩
  replace H : ((spec_l6Rd_pick.f k1 s0_0 x1001_1 4).bind fun bt331 => (spec_l71Prog.l1 k1 x3_1 (wrap64 (1 + bt331.1)) s0_0 bt331.2 y327)) = some (r1, r2, r3) := by rw [hy327]; exact H
  have Ny327 := AM hy327
  clear hy327
  obtain ⟨⟨t331, t332⟩, A4, H⟩ := ZOB H; try dsimp only at H
  have H' := AM H
  clear H
  go_wp2_with (first | ((with_reducible refine gate_dst (N := 10) rfl ?_); refine Kd.R_lit k43 _ 43 ?hg (N := 10) ?hd (xs := ([] : List (S43))) (inner := []) (ok := fun _ => True) (okp := fun _ => True) ?hr ?hp (fun _ hk => hk) trivial (Below.refl _ _) (Nat.le_refl _) (by simp) ?_; (case hd => rfl); (case hg => rfl); (case hr => first | (go_simp; done) | (go_simp; rfl)); (case hp => exact (Reps.none _ _)); intro v328 w5 ho6 hb hg_ hnew_; clear hg_ hnew_; (first | rw [← Ny327.out] at ho6 | (simp only [Int.reduceToNat] at ho6; rw [← Ny327.out] at ho6)); have HO329 := AM (Kd.R_lower ho6 (keep_size (w := w) (g := g) (row := none) (ZJ))); replace BK323 := ZW BK323 hb; replace HK := ZKT HK (KeepBut.of_below hb g none); replace HB := ZTI HB hb; replace HI0 := AM (IsS84.below (ZI) hb); clear hb ho6; obtain ⟨Ao7, co7, eo7⟩ := Kd.R_slice HO329.out; subst eo7) | ((with_reducible refine gate_dst (N := 4) rfl ?_); refine ZX (N := 4) (cs := #[.slice none 0 0, .slice none 0 0]) (t := 31) ?_; intro gb330 hg w8 hbox hb; have BK330 := AM (hbox); have GW330 := AM ((by rw [hg]; exact (keep_size (w := w) (g := g) (row := none) (ZJ)) : w.heap.size ≤ gb330)); have GE330 := AM ((Nat.le_trans HW0.out (by rw [hg]; exact (keep_size (w := w) (g := g) (row := none) (ZJ)) : w.heap.size ≤ gb330) : w0.heap.size ≤ gb330)); have NB323_330 : Za (gb323 ≠ gb330) := ZN hg BK323; have NB330_323 : Za (gb330 ≠ gb323) := ZM hg BK323; have NB0_330 := AM ((by rw [hg]; exact Nat.ne_of_lt (IsS84.lt (show IsS84 w0 _ g s0_0 x1001_1 from ZI)) : g ≠ gb330)); have NB330_0 := AM ((by rw [hg]; exact Nat.ne_of_gt (IsS84.lt (show IsS84 w0 _ g s0_0 x1001_1 from ZI)) : gb330 ≠ g)); replace HO329 := AM (Kd.R_below (ZR HO329.out) hb); replace BK323 := ZW BK323 hb; replace HK := ZKT HK (KeepBut.of_below hb g none); replace HB := ZTI HB hb; replace HI0 := AM (IsS84.below (ZI) hb); clear hb hbox hg; have hnb9 := NB330_323.out; have hnc9 := NB323_330.out; have hnb10 := NB330_0.out; have hnc10 := NB0_330.out; have hcz11 := ZC2 w8 BK330) | ((with_reducible refine gate_callee (f := 52) rfl ?_); refine ZGL (some 13) Tryd.func52 #[.pointer (some ⟨g, 0, none⟩), .int .i64 4] ?_; (with_reducible refine (spec_l6Rd_pick.calls k1 g s0_0 x1001_1 4 t331 t332 w0 _ ?side1 ?side2 A4.out).mono ?_); (case side1 => exact ZI); (case side2 => exact ZBI); rintro e w12 ⟨rfl, hi, hb, hk⟩; refine ZV1 ?_; replace BK323 := ZLV #[.slice none 0 0, .slice none 0 0] hk BK323 NB323_0; replace HO329 := AM (Kd.R_mono (Kd.R_keep (IsS84.apart (show IsS84 w0 _ g s0_0 x1001_1 from ZI) (ZR ((Kd.R_mono (Kd.R_far (p := ⟨gb330, 1, none⟩) (Kd.R_far (p := ⟨gb330, 0, none⟩) (Kd.R_types HO329.out BK330.out (by decide)) (fun _ hk => hk.2) (.slice Ao7 y327.length co7)) (fun _ hk => hk.2) (.slice none 0 0)) (fun _ h_ => h_.1)))) (by decide)) hk (fun _ h => h.2)) (fun _ h => h.1)); replace BK330 := ZLV #[.slice Ao7 y327.length co7, .slice none 0 0] hk BK330 NB330_0; replace HK := ZKT HK hk; replace HB := AM (hb); replace HI0 := AM (hi); clear hb hk hi))
  go_loopg [5] k1 (fun kq v5 w' => ∃ (x5_2 : Int) (x1001_2 : Int) (x331000_2 : List (S43)) (u331000 : Value), v5 = .int .i64 x5_2 ∧ Za (spec_l71Prog.l1 kq x3_1 x5_2 s0_0 x1001_2 x331000_2 = some (r1, r2, r3)) ∧ Za (kq ≤ k1) ∧ Za (Kd.R k43 43 w' w.heap.size (fun _ => True) u331000 x331000_2) ∧ Za (w'.heap[gb323]? = some (.cells #[(.slice none 0 0), (.slice none 0 0)] 31 (0, 0))) ∧ Za (w'.heap[gb330]? = some (.cells #[u331000, (.slice none 0 0)] 31 (0, 0))) ∧ Za (IsS84 w0 w' g s0_0 x1001_2) ∧ Za (KeepBut w w' g none) ∧ Za (Below w0.heap.size w0 w'))
  case atStart => exact ⟨(wrap64 (1 + t331)), (t332), (y327), (.slice Ao7 y327.length co7), ZSM, H', ⟨Nat.le_refl _⟩, ⟨ZR HO329.out⟩, ⟨ZK BK323.out⟩, ⟨ZK BK330.out⟩, ⟨ZI⟩, ⟨ZJ⟩, ⟨ZBI⟩⟩
  case round => (
  clear H'
  try clear c1
  try clear p2
  try clear c3
  try clear c3b0
  try clear c5
  try clear p6
  try clear c9
  try clear c10
  try clear hcz11
  try clear p2
  obtain ⟨x5_2, x1001_2, x331000_2, u331000, rfl, HA, HK2, HO_331000, BK323, BK330, HI0, HK, HB⟩ := hrel
  cases gk with
  | zero => exact absurd HA.out (by simp [spec_l71Prog.l1])
  | succ k2 =>
   have H := HA.out
   clear HA
   simp only [spec_l71Prog.l1] at H
   by_cases c13 : x5_2 > 0
   ·(
   rw [if_pos c13] at H
   have c13b0 := decide_eq_true c13
   clear c13
   obtain ⟨⟨t333, t334, t335⟩, A14, H⟩ := ZOB H; try dsimp only at H
   by_cases c15 : x331000_2.length < 8796093022208
   ·(
   rw [if_pos c15] at H
   have LMc15 := AM c15
   clear c15
   obtain ⟨y336, hy336⟩ : ∃ y_ : List (S43), y_ = (x331000_2 ++ [(⟨t333, t334⟩ : S43)]) := ⟨_, rfl⟩
   replace H : (spec_l71Prog.l1 k2 x3_1 (wrap64 (x5_2 - 1)) s0_0 t335 y336) = some (r1, r2, r3) := by rw [hy336]; exact H
   have Ny336 := AM hy336
   clear hy336
   have H' := AM H
   clear H
   try go_wp2
   replace HO_331000 := AM (Kd.R_drew HO_331000.out)
   replace BK323 := AM (blk_drew BK323.out)
   replace BK330 := AM (blk_drew BK330.out)
   replace HI0 := AM (IsS84.drew HI0.out)
   replace HK := AM (keep_drew HK.out)
   replace HB := AM (below_drew1 HB.out)
   refine start_ (n := 8) (S := fun w' => w'.cell? ⟨gb330, 0, none⟩ = some (u331000) ∧ w'.cell? ⟨gb330, 1, none⟩ = some (.slice none 0 0)) (ds := [7]) #[F,F,F,F,F,F,F,F] (by kernel_rfl) rfl rfl ⟨ZA BK330 0, ZA BK330 1⟩ (fun hHeld => ?_); refine with_tabW spec_l71Prog.tab8 spec_l71Prog.bits8 (fun HT_ HW_ => ?_)
   generalize wr.drew = w16 at HO_331000 BK323 BK330 HI0 HK HB hHeld ⊢
   refine ZU 0 19 #[T,F,F,F,F,F,F,F] ?_
   refine ZU 2 21 #[T,F,T,F,F,F,F,F] ?_
   refine ZTK 1 20 #[T,T,T,F,F,F,F,F] hHeld ?_
   refine one_ (i := 3) (N := some 22) #[T,T,T,T,F,F,F,F] rfl rfl (one_of HT_.out (by kernel_rfl)) (by decide) (fun K hK => ?_)
   refine ZGO Tryd.func68 #[.pointer (some ⟨g, 0, none⟩)] ?_
   with_reducible refine (spec_l71Label.calls k2 g s0_0 x1001_2 t333 t334 t335 w0 _ ?side1 ?side2 A14.out).mono ?_
   (case side1 => exact ZI)
   (case side2 => exact ZBI)
   rintro e w17 ⟨rfl, hi, hb, hk⟩
   refine ZV1 ?_
   replace HO_331000 := AM (Kd.R_mono (Kd.R_keep (IsS84.apart (show IsS84 w0 _ g s0_0 x1001_2 from ZI) (ZR HO_331000.out) (by decide)) hk (fun _ h => h.2)) (fun _ h => h.1))
   replace BK323 := ZL hk BK323 NB323_0
   replace BK330 := ZL hk BK330 NB330_0
   replace HK := ZKT HK hk
   replace HB := AM (hb)
   replace HI0 := AM (hi)
   (try clear hb)
   (try clear hb2)
   (try clear hk)
   (try clear hi)
   refine hK.out _ _ ⟨ZA BK330 0, ZA BK330 1⟩ (fun hHeld => ?_)
   clear hK K
   refine ZNO 22 ?_
   refine one_ (i := 4) (N := some 23) #[T,T,T,T,T,F,F,F] rfl rfl (one_of HT_.out (by kernel_rfl)) (by decide) (fun K hK => ?_)
   refine value_ (w1 := ?_) (v := ?_) (by rfl) rfl ?_ ?_
   rotate_left 2
   ·(
   go_simp
   constructor
   ·rfl
   ·rfl)
   refine hK.out _ _ ⟨(blk_cell (blk_alloc BK330.out _) 0).trans rfl, (blk_cell (blk_alloc BK330.out _) 1).trans rfl⟩ (fun hHeld => ?_)
   clear hK K
   refine ZNO 23 ?_
   refine one_ (i := 5) (N := some 24) #[T,T,T,T,T,T,F,F] rfl rfl (one_of HT_.out (by kernel_rfl)) (by decide) (fun K hK => ?_)
   refine Kd.R_append_step k43 w.heap.size (by rfl) (.tmp 20) (.tmp 23) 28 43 (.agg #[(.int .i64 0), (.int .i64 0)]) 16 rfl Tryd.underlying28 info43 rfl (by decide) (by omega) u331000 x331000_2 (⟨t333, t334⟩ : S43) [.int .i64 t333, .int .i64 t334] (fun _ => True) (fun _ => False) rfl rfl ?aP (fun _ hk => hk.elim) ?aF ?aO (Below.refl _ _) ?aS ?aL ?_
   (case aP => exact k43_mkM _ _ _ (⟨t333, t334⟩ : S43))
   (case aF => exact (fun _ _ => trivial))
   (case aO => exact (ZR HO_331000.out))
   (case aS => exact (keep_size (w := w) (g := g) (row := none) (ZJ)))
   (case aL => have := LMc15.out; omega)
   intro v337 w18 ho hb hg hat
   rw [← Ny336.out] at ho
   have n0_ := AM (blk_grown (g := gb323) (o := .cells #[.slice none 0 0, .slice none 0 0] 31 (0, 0)) (ZK BK323.out) hg (Kd.R_ne HO_331000.out BK323.out (by decide)))
   have n1_ := AM (blk_grown (g := gb330) (o := .cells #[u331000, .slice none 0 0] 31 (0, 0)) (ZK BK330.out) hg (Kd.R_ne HO_331000.out BK330.out (by decide)))
   have n2_ := AM (IsS84.grown (ZI) hg (IsS84.own_ne HI0.out HO_331000.out (by decide)))
   have n3_ := AM (below_weaken (ZBI) HL.out hb)
   have n4_ := AM (KeepBut.trans (ZJ) (KeepBut.of_grown hg g) (Kd.R_base2 HO_331000.out))
   have n5_ := AM (ho)
   clear BK323 BK330 HI0 HB HK HO_331000
   have BK323 := n0_
   have BK330 := n1_
   have HI0 := n2_
   have HB := n3_
   have HK := n4_
   have HO338 := n5_
   clear n0_ n1_ n2_ n3_ n4_ n5_ ho hb hg hat
   obtain ⟨Ao19, co19, eo19⟩ := Kd.R_slice HO338.out
   (first | subst eo19 | (injection eo19 with f1_ f2_ f3_; have f4_ := f1_.symm; have f5_ := f3_.symm; clear f1_ f2_ f3_; subst f4_; subst f5_))
   refine hK.out _ _ ⟨ZA BK330 0, ZA BK330 1⟩ (fun hHeld => ?_)
   clear hK K
   refine ZNO 24 ?_
   refine ZU 6 25 #[T,T,T,T,T,T,T,F] ?_
   refine last_ (i := 7) (N := none) #[T,T,T,T,T,T,T,T] rfl rfl (one_of HT_.out (by kernel_rfl)) (by decide) (fun K hK => ?_)
   have hs20 : w18.cell? ⟨gb330, 0, none⟩ = some (u331000) := ZA BK330 0
   have hfs20 := blk_frozen BK330.out 0
   have hns20_0 := NB323_330.out
   have hms20_0 := NB330_323.out
   refine skip_ (w1 := ?_) (by rfl) rfl ?_ ?_
   rotate_left
   ·(
   go_simp
   rfl)
   refine hK.out _ _ ?_
   clear hK K
   refine done_ (done_of HT_.out (by kernel_rfl)) ?_
   try go_wp2
   go_roundg k2
   case measure => have := HK1.out; have := HK2.out; omega
   case rel => exact ⟨(wrap64 (x5_2 - 1)), (t335), (y336), (.slice Ao19 y336.length co19), ZSM, H', ⟨by have := HK1.out; have := HK2.out; omega⟩, ⟨ZR (Kd.R_mono (Kd.R_far (p := ⟨gb330, 0, none⟩) (Kd.R_types HO338.out BK330.out (by decide)) (fun _ hk => hk.2) (.slice Ao19 y336.length co19)) (fun _ hk => trivial))⟩, ⟨ZZ BK323.out⟩, ⟨ZZ BK330.out⟩, ⟨ZI⟩, ⟨ZJ⟩, ⟨ZBI⟩⟩)
   ·(
   rw [if_neg c15] at H
   exact absurd H (by simp)))
   ·(
   rw [if_neg c13] at H
   have c13b0 := decide_eq_false c13
   clear c13
   obtain ⟨⟨t339, t342⟩, A21, H⟩ := ZOB H; try dsimp only at H
   obtain ⟨t343, A22, H⟩ := ZOB H; try dsimp only at H
   by_cases c23 : t343 = true
   ·(
   subst c23
   have H1 := H; rw [if_pos rfl] at H1
   clear H
   have H := H1
   clear H1
   simp only [Option.some.injEq, Prod.mk.injEq] at H
   obtain ⟨rfl, rfl, rfl⟩ := H
   have hnb24 := NB330_323.out
   have hnc24 := NB323_330.out
   have hnb25 := NB330_0.out
   have hnc25 := NB0_330.out
   have hcz26 := ZC2 wr BK330
   obtain ⟨Ao27, co27, eo27⟩ := Kd.R_slice HO_331000.out
   subst eo27
   go_wp2_with (first | ((with_reducible refine gate_callee (f := 69) rfl ?_); refine ZGL (some 30) Tryd.func69 #[.pointer (some ⟨g, 0, none⟩), .int .i64 4, .int .i64 3, .int .i64 (x331000_2.length : Int)] ?_; (with_reducible refine (spec_l71Steps.calls k2 g s0_0 x1001_2 4 3 (x331000_2.length : Int) t339 t342 w0 _ ?side1 ?side2 A21.out).mono ?_); (case side1 => exact ZI); (case side2 => exact ZBI); rintro e w28 ⟨v340, rfl, ho0, hi, hb, hk⟩; refine ZV1 ?_; have HO341 := AM (Kd.R_lower ho0 (keep_size (w := w) (g := g) (row := none) (ZJ))); replace HO_331000 := AM (Kd.R_mono (Kd.R_keep (IsS84.apart (show IsS84 w0 _ g s0_0 x1001_2 from ZI) (ZR HO_331000.out) (by decide)) hk (fun _ h => h.2)) (fun _ h => h.1)); replace BK323 := ZL hk BK323 NB323_0; replace BK330 := ZL hk BK330 NB330_0; replace HK := ZKT HK hk; replace HB := AM (hb); replace HI0 := AM (hi); clear hb hk hi; (try clear ho0); obtain ⟨Ao29, co29, eo29⟩ := Kd.R_slice HO341.out; subst eo29; have hcz30 := ZC2 w28 BK330) | ((with_reducible refine gate_callee (f := 11) rfl ?_); refine ZGL (some 33) Tryd.func11 #[.agg #[.slice Ao27 x331000_2.length co27, .slice Ao29 t339.length co29]] ?_; (with_reducible refine (spec_ProgOk.calls k2 _ _ x331000_2 _ _ t339 true _ ?side1 ?side2 ?side3 ?side4 A22.out).mono ?_); (case side1 => refine (Kd.R_reads' (e := 43) (base := w.heap.size) (ok := fun k_ => True) (n := x331000_2.length) (c := co27) ?_).2.2; exact (ZR ((Kd.R_mono (Kd.R_far (p := ⟨gb330, 1, none⟩) (Kd.R_types HO_331000.out BK330.out (by decide)) (fun _ hk => hk.2) (.slice Ao29 t339.length co29)) (fun _ h_ => h_.1))))); (case side2 => exact (Kd.R_reads' HO_331000.out).2.1); (case side3 => refine (Kd.R_reads' (e := 71) (base := w.heap.size) (ok := fun k_ => True) (n := t339.length) (c := co29) ?_).2.2; exact (ZR ((Kd.R_mono (Kd.R_far (p := ⟨gb330, 1, none⟩) (Kd.R_types HO341.out BK330.out (by decide)) (fun _ hk => hk.2) (.slice Ao29 t339.length co29)) (fun _ h_ => h_.1))))); (case side4 => exact (Kd.R_reads' HO341.out).2.1); rintro e w31 ⟨rfl, hb⟩; refine ZV1 ?_; replace HO_331000 := AM (Kd.R_below (ZR ((Kd.R_mono (Kd.R_far (p := ⟨gb330, 1, none⟩) (Kd.R_types HO_331000.out BK330.out (by decide)) (fun _ hk => hk.2) (.slice Ao29 t339.length co29)) (fun _ h_ => h_.1)))) hb); replace HO341 := AM (Kd.R_below (ZR ((Kd.R_mono (Kd.R_far (p := ⟨gb330, 1, none⟩) (Kd.R_types HO341.out BK330.out (by decide)) (fun _ hk => hk.2) (.slice Ao29 t339.length co29)) (fun _ h_ => h_.1)))) hb); replace BK323 := ZV #[.slice none 0 0, .slice none 0 0] BK323 hb; replace BK330 := ZV #[.slice Ao27 x331000_2.length co27, .slice Ao29 t339.length co29] BK330 hb; replace HK := ZKT HK (KeepBut.of_below hb g none); replace HB := ZTI HB hb; replace HI0 := AM (IsS84.below (show IsS84 w0 (w28.setCell ⟨gb330, 1, none⟩ (.slice Ao29 t339.length co29)) g s0_0 t342 from ZI) hb); clear hb; have hcz32 := ZC2 w31 BK330; have hnb33 := NB323_0.out; have hnc33 := NB0_323.out; have hcz34 := ZC2 w31 BK323))
   refine bodyPost_ret (results_cell_row rfl _ _ gb323 31 #[.slice Ao27 x331000_2.length co27, .slice Ao29 t339.length co29] (0, 0) _ rfl (ZZ BK323.out) Tryd.underlying31 rfl (by kernel_rfl)) rfl ?_
   exact ⟨_, _, ZE, ZRf (Kd.R_types HO_331000.out BK323.out (by decide)) (fun _ hk => ⟨hk.2, trivial⟩), ZRf (Kd.R_types HO341.out BK323.out (by decide)) (fun _ hk => ⟨hk.2, trivial⟩), ZI, ZBI, ZJ⟩)
   ·(
   replace c23 := Bool.eq_false_iff.mpr c23
   subst c23
   have H1 := H; rw [if_neg ZFT] at H1
   clear H
   have H := H1
   clear H1
   have H' := AM H
   clear H
   have hnb35 := NB330_323.out
   have hnc35 := NB323_330.out
   have hnb36 := NB330_0.out
   have hnc36 := NB0_330.out
   have hcz37 := ZC2 wr BK330
   obtain ⟨Ao38, co38, eo38⟩ := Kd.R_slice HO_331000.out
   subst eo38
   go_wp2_with (first | ((with_reducible refine gate_callee (f := 69) rfl ?_); refine ZGL (some 30) Tryd.func69 #[.pointer (some ⟨g, 0, none⟩), .int .i64 4, .int .i64 3, .int .i64 (x331000_2.length : Int)] ?_; (with_reducible refine (spec_l71Steps.calls k2 g s0_0 x1001_2 4 3 (x331000_2.length : Int) t339 t342 w0 _ ?side1 ?side2 A21.out).mono ?_); (case side1 => exact ZI); (case side2 => exact ZBI); rintro e w39 ⟨v340, rfl, ho0, hi, hb, hk⟩; refine ZV1 ?_; have HO341 := AM (Kd.R_lower ho0 (keep_size (w := w) (g := g) (row := none) (ZJ))); replace HO_331000 := AM (Kd.R_mono (Kd.R_keep (IsS84.apart (show IsS84 w0 _ g s0_0 x1001_2 from ZI) (ZR HO_331000.out) (by decide)) hk (fun _ h => h.2)) (fun _ h => h.1)); replace BK323 := ZL hk BK323 NB323_0; replace BK330 := ZL hk BK330 NB330_0; replace HK := ZKT HK hk; replace HB := AM (hb); replace HI0 := AM (hi); clear hb hk hi; (try clear ho0); obtain ⟨Ao40, co40, eo40⟩ := Kd.R_slice HO341.out; subst eo40; have hcz41 := ZC2 w39 BK330) | ((with_reducible refine gate_callee (f := 11) rfl ?_); refine ZGL (some 33) Tryd.func11 #[.agg #[.slice Ao38 x331000_2.length co38, .slice Ao40 t339.length co40]] ?_; (with_reducible refine (spec_ProgOk.calls k2 _ _ x331000_2 _ _ t339 false _ ?side1 ?side2 ?side3 ?side4 A22.out).mono ?_); (case side1 => refine (Kd.R_reads' (e := 43) (base := w.heap.size) (ok := fun k_ => True) (n := x331000_2.length) (c := co38) ?_).2.2; exact (ZR ((Kd.R_mono (Kd.R_far (p := ⟨gb330, 1, none⟩) (Kd.R_types HO_331000.out BK330.out (by decide)) (fun _ hk => hk.2) (.slice Ao40 t339.length co40)) (fun _ h_ => h_.1))))); (case side2 => exact (Kd.R_reads' HO_331000.out).2.1); (case side3 => refine (Kd.R_reads' (e := 71) (base := w.heap.size) (ok := fun k_ => True) (n := t339.length) (c := co40) ?_).2.2; exact (ZR ((Kd.R_mono (Kd.R_far (p := ⟨gb330, 1, none⟩) (Kd.R_types HO341.out BK330.out (by decide)) (fun _ hk => hk.2) (.slice Ao40 t339.length co40)) (fun _ h_ => h_.1))))); (case side4 => exact (Kd.R_reads' HO341.out).2.1); rintro e w42 ⟨rfl, hb⟩; refine ZV1 ?_; replace HO_331000 := AM (Kd.R_below (ZR ((Kd.R_mono (Kd.R_far (p := ⟨gb330, 1, none⟩) (Kd.R_types HO_331000.out BK330.out (by decide)) (fun _ hk => hk.2) (.slice Ao40 t339.length co40)) (fun _ h_ => h_.1)))) hb); replace HO341 := AM (Kd.R_below (ZR ((Kd.R_mono (Kd.R_far (p := ⟨gb330, 1, none⟩) (Kd.R_types HO341.out BK330.out (by decide)) (fun _ hk => hk.2) (.slice Ao40 t339.length co40)) (fun _ h_ => h_.1)))) hb); replace BK323 := ZV #[.slice none 0 0, .slice none 0 0] BK323 hb; replace BK330 := ZV #[.slice Ao38 x331000_2.length co38, .slice Ao40 t339.length co40] BK330 hb; replace HK := ZKT HK (KeepBut.of_below hb g none); replace HB := ZTI HB hb; replace HI0 := AM (IsS84.below (show IsS84 w0 (w39.setCell ⟨gb330, 1, none⟩ (.slice Ao40 t339.length co40)) g s0_0 t342 from ZI) hb); clear hb))
   go_roundg k2
   case measure => have := HK1.out; have := HK2.out; omega
   case rel => exact ⟨(wrap64 (x3_1 + 1)), (t342), ZSM, H', ⟨by have := HK1.out; have := HK2.out; omega⟩, ⟨ZK BK323.out⟩, ⟨ZI⟩, ⟨ZJ⟩, ⟨ZBI⟩⟩))))
  ·(
  rw [if_neg c3] at H
  have c3b0 := decide_eq_false c3
  clear c3
  obtain ⟨y324, hy324⟩ : ∃ y_ : List (S43), y_ = (([(⟨7, 0⟩ : S43)] : List (S43))) := ⟨_, rfl⟩
  replace H : (some (y324, ([] : List (S71)), x1001_1)) = some (r1, r2, r3) := by rw [hy324]; exact H
  have Ny324 := AM hy324
  clear hy324
  simp only [Option.some.injEq, Prod.mk.injEq] at H
  obtain ⟨rfl, rfl, rfl⟩ := H
  go_wp2_with (first | ((with_reducible refine gate_dst (N := 36) rfl ?_); refine Kd.R_lit k43 _ 43 ?hg (N := 36) ?hd (xs := ([(⟨7, 0⟩ : S43)] : List (S43))) (inner := [.int .i64 7, .int .i64 0]) (ok := fun _ => True) (okp := fun _ => True) ?hr ?hp (fun _ hk => hk) trivial (Below.refl _ _) (Nat.le_refl _) (by simp) ?_; (case hd => rfl); (case hg => rfl); (case hr => first | (go_simp; done) | (go_simp; rfl)); (case hp => exact (Reps.c2 (show Kd.M k43 _ _ _ (⟨7, 0⟩ : S43) [.int .i64 7, .int .i64 0] from (k43_mkM _ _ _ (⟨7, 0⟩ : S43) )) (Reps.none _ _))); intro v325 w43 ho44 hb hg_ hnew_; clear hg_ hnew_; (first | rw [← Ny324.out] at ho44 | (simp only [Int.reduceToNat] at ho44; rw [← Ny324.out] at ho44)); have HO326 := AM (Kd.R_lower ho44 (keep_size (w := w) (g := g) (row := none) (ZJ))); replace BK323 := ZW BK323 hb; replace HK := ZKT HK (KeepBut.of_below hb g none); replace HB := ZTI HB hb; replace HI0 := AM (IsS84.below (ZI) hb); clear hb ho44; obtain ⟨Ao45, co45, eo45⟩ := Kd.R_slice HO326.out; subst eo45; have hnb46 := NB323_0.out; have hnc46 := NB0_323.out; have hcz47 := ZC2 w43 BK323))
  refine bodyPost_ret (results_cell_row rfl _ _ gb323 31 #[.slice Ao45 y324.length co45, .slice none 0 0] (0, 0) _ rfl (ZZ BK323.out) Tryd.underlying31 rfl (by kernel_rfl)) rfl ?_
  exact ⟨_, _, ZE, ZRf (Kd.R_types HO326.out BK323.out (by decide)) (fun _ hk => ⟨hk.2, trivial⟩), by first | exact Kd.R_nil _ _ _ _ _ | exact Kd.N_nil _ _ _ _ _ | exact Kd.V_nil _ _ _ _ _ | exact Kd.Q_nil _ _ _ _ _ | exact Kd.S_nil _ _ _ _ _, ZI, ZBI, ZJ⟩))

end Go.Proofs.YtfcmckomagaiiaaDoor.A
