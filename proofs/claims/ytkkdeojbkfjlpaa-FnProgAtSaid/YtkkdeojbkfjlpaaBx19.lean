/- Go functions as Lean functions, and for each its contract; written by wip/tools/pr.py over the kit's print. -/
import Derived.Test.YtkkdeojbkfjlpaaBx0
import Derived.Test.YtkkdeojbkfjlpaaBx2
import Derived.Test.YtkkdeojbkfjlpaaBx4
import Derived.Test.YtkkdeojbkfjlpaaBx9
import Derived.Test.YtkkdeojbkfjlpaaBx16
import Derived.Test.YtkkdeojbkfjlpaaBx18
namespace Go.Proofs.Ytkkdeojbkfjlpaa.B
open Go.RowKit Go.Proofs.YtkkdeojbkfjlpaaW.PrintWords Go.Proofs.YtkkdeojbkfjlpaaW.PrintLast Go.Proofs.YtkkdeojbkfjlpaaW.PrintMore
attribute [local go_sem] max2_int min2_int max_two min_two max_three min_three max_four min_four
set_option linter.unusedVariables false
set_option linter.unusedSimpArgs false
set_option maxHeartbeats 8000000
set_option maxRecDepth 100000

/-! ### spec_DrawProgAt: function 18 -/
def spec_DrawProgAt.f (k : Nat) (l0 : List Int) : Option ((List (S35)) × (List (S40)) × Int) := (spec_l6Open.f l0).bind fun bt509 => ((spec_l71Any.f k bt509.1 bt509.2).bind fun bt512 => ((spec_ProgSize.f k bt512.1 bt512.2.1).bind fun t520 => ((spec_l6Rd_pick.f k bt509.1 bt512.2.2 (wrap64 (t520 + 3))).bind fun bt521 => (some (bt512.1, bt512.2.1, wrap64 (bt521.1 - 1))))))
def spec_DrawProgAt.T3 : Bool × List (List Nat × List Nat) := (true, [([], []), ([], []), ([], []), ([2], [2]), ([3], [3]), ([1, 4, 3], [1, 4]), ([5], [5]), ([0, 5, 0], [0]), ([6, 7, 0, 1, 2, 3, 4, 5, 6, 7], [6])])
def spec_DrawProgAt.B3 : List Nat := [0, 0, 0, 4, 12, 30, 62, 63, 255]
theorem spec_DrawProgAt.tab3 : rtab .any (opsOf Try.f18 3) = spec_DrawProgAt.T3 := by kernel_rfl
theorem spec_DrawProgAt.bits3 : waitsOk spec_DrawProgAt.T3.2 spec_DrawProgAt.B3 = true := by kernel_rfl
theorem spec_DrawProgAt.calls (k : Nat) (A0 : Option Addr) (c0 : Nat) (l0 : List Int) (r1 : List (S35)) (r2 : List (S40)) (r3 : Int) (w : World) (hr0 : Kd.C (Kd.int .u8) w A0 l0.length l0) (hc0 : l0.length ≤ c0) (h : spec_DrawProgAt.f k l0 = some (r1, r2, r3)) :
  Calls Try.prog 18 #[.slice A0 l0.length c0] w fun e w' => ∃ v0_ v1_ : Value, e = .returned (.tuple #[.agg #[v0_, v1_], .int .i64 r3]) ∧ Kd.R k35 35 w' w.heap.size (fun k_ => (w.heap.size ≤ k_)) v0_ r1 ∧ Kd.N k40 40 w' w.heap.size (fun k_ => (w.heap.size ≤ k_) ∧ some k_ ≠ (v0_ : Value).ownBlock) v1_ r2 ∧ Below w.heap.size w w' := by
 have hu26 := Try.underlying26
 have HR0 := AM hr0
 have HC0 := AM hc0
 clear hr0 hc0
 have HB := AM (Below.refl w.heap.size w)
 have H := h
 unfold spec_DrawProgAt.f at H
 clear h
 obtain ⟨⟨t509, t510⟩, A2, H⟩ := ZOB H; try dsimp only at H
 obtain ⟨⟨t512, t515, t518⟩, A3, H⟩ := ZOB H; try dsimp only at H
 obtain ⟨t520, A4, H⟩ := ZOB H; try dsimp only at H
 obtain ⟨⟨t521, t522⟩, A5, H⟩ := ZOB H; try dsimp only at H
 simp only [Option.some.injEq, Prod.mk.injEq] at H
 obtain ⟨rfl, rfl, rfl⟩ := H
 go_enter Try.func18, Try.ntmps18
 try go_wp2_with (first | ((with_reducible refine gate_dst (N := 2) rfl ?_); refine ZXW w (N := 2) (cs := #[.slice none 0 0, .slice none 0 0]) (t := 26) ?_; intro gb508 hg w6 BK508 GW508 hb; replace HB := ZT HB hb; clear hb hg) | ((with_reducible refine gate_callee (f := 24) rfl ?_); refine ZGL (some 7) Try.func24 #[.slice A0 l0.length c0] ?_; (with_reducible refine (spec_l6Open.calls _ _ l0 t509 t510 w _ ?side1 ?side2 HC0.out A2.out).mono ?_); (case side1 => repeat (first | (with_reducible first | exact HB.out | apply below_alloc | apply pw_below_drewN | apply below_drew1 | refine below_set ?_ GW508.out) | exact HB.out)); (case side2 => exact HR0.out); rintro e w7 ⟨g511, rfl, hi, hb, hb2⟩; refine ZV1 ?_; have HI511 := AM (hi); have NB511_508 := AM (IsS64.ne_blk hi (blk_below (g := gb508) (o := .cells #[.slice none 0 0, .slice none 0 0] 26 (0, 0)) (ZK BK508.out) hb2) (by decide)); have NB508_511 := AM (Ne.symm (IsS64.ne_blk hi (blk_below (g := gb508) (o := .cells #[.slice none 0 0, .slice none 0 0] 26 (0, 0)) (ZK BK508.out) hb2) (by decide))); replace BK508 := AM (blk_below (g := gb508) (o := .cells #[.slice none 0 0, .slice none 0 0] 26 (0, 0)) (ZK BK508.out) hb2); replace HB := AM (hb); clear hb hb2 hi) | ((with_reducible refine gate_callee (f := 23) rfl ?_); refine ZGL (some 9) Try.func23 #[.pointer (some ⟨g511, 0, none⟩)] ?_; (with_reducible refine (spec_l71Any.calls k g511 t509 t510 t512 t515 t518 w _ ?side1 ?side2 A3.out).mono ?_); (case side1 => repeat (first | (with_reducible first | exact HI511.out | apply IsS64.alloc | apply IsS64.drewN | apply IsS64.drew | apply IsS64.set_1 | refine IsS64.far ?_ NB511_508.out _) | exact HI511.out)); (case side2 => repeat (first | (with_reducible first | exact HB.out | apply below_alloc | apply pw_below_drewN | apply below_drew1 | refine below_set ?_ (IsS64.ge HI511.out) | refine below_set ?_ GW508.out) | exact HB.out)); rintro e w8 ⟨v513, v516, rfl, ho0, ho1, hi, hb, hk⟩; refine ZV1 ?_; have HO514 := AM (Kd.R_lower (Kd.R_newM (M := fun k_ => (w.heap.size ≤ k_)) (Kd.R_mono (ok' := fun k_ => True) ho0 (fun _ hk_ => trivial)) (below_size (by repeat (first | (with_reducible first | exact HB.out | apply below_alloc | apply pw_below_drewN | apply below_drew1 | refine below_set ?_ (IsS64.ge HI511.out) | refine below_set ?_ GW508.out) | exact HB.out))) (fun k_ h_ => h_)) (below_size (by repeat (first | (with_reducible first | exact HB.out | apply below_alloc | apply pw_below_drewN | apply below_drew1 | refine below_set ?_ (IsS64.ge HI511.out) | refine below_set ?_ GW508.out) | exact HB.out)))); have HO517 := AM (Kd.N_lower (Kd.N_mono (ok' := fun k_ => (w.heap.size ≤ k_) ∧ some k_ ≠ (v513 : Value).ownBlock ∧ k_ ≠ gb508 ∧ k_ ≠ g511) ho1 (fun k_ hk_ => ⟨(Nat.le_trans (below_size (by repeat (first | (with_reducible first | exact HB.out | apply below_alloc | apply pw_below_drewN | apply below_drew1 | refine below_set ?_ (IsS64.ge HI511.out) | refine below_set ?_ GW508.out) | exact HB.out))) hk_.1), hk_.2, (Kd.freshB (g := gb508) (o := .cells #[.slice none 0 0, .slice none 0 0] 26 (0, 0)) (ZK BK508.out) k_ hk_.1), (IsS64.fresh (by repeat (first | (with_reducible first | exact HI511.out | apply IsS64.alloc | apply IsS64.drewN | apply IsS64.drew | apply IsS64.set_1 | refine IsS64.far ?_ NB511_508.out _) | exact HI511.out)) k_ hk_.1)⟩)) (below_size (by repeat (first | (with_reducible first | exact HB.out | apply below_alloc | apply pw_below_drewN | apply below_drew1 | refine below_set ?_ (IsS64.ge HI511.out) | refine below_set ?_ GW508.out) | exact HB.out)))); replace BK508 := ZL hk BK508 NB508_511; replace HB := AM (hb); replace HI511 := AM (hi); clear hb hk hi; (try clear ho0); (try clear ho1)) | ((with_reducible refine gate_dst (N := 5) rfl ?_); refine ZX (N := 5) (cs := #[.slice none 0 0, .slice none 0 0]) (t := 26) ?_; intro gb519 hg w9 hbox hb; have BK519 := AM (hbox); have GW519 := AM ((by rw [hg]; exact (below_size (by repeat (first | (with_reducible first | exact HB.out | apply below_alloc | apply pw_below_drewN | apply below_drew1 | refine below_set ?_ (IsS64.ge HI511.out) | refine below_set ?_ GW508.out) | exact HB.out))) : w.heap.size ≤ gb519)); have GE519 := AM ((by rw [hg]; exact (below_size (by repeat (first | (with_reducible first | exact HB.out | apply below_alloc | apply pw_below_drewN | apply below_drew1 | refine below_set ?_ (IsS64.ge HI511.out) | refine below_set ?_ GW508.out) | exact HB.out))) : w.heap.size ≤ gb519)); have NB508_519 : Za (gb508 ≠ gb519) := ZN hg BK508; have NB519_508 : Za (gb519 ≠ gb508) := ZM hg BK508; have NB511_519 := AM ((by rw [hg]; exact Nat.ne_of_lt (IsS64.lt (show IsS64 w _ g511 t509 t518 from by repeat (first | (with_reducible first | exact HI511.out | apply IsS64.alloc | apply IsS64.drewN | apply IsS64.drew | apply IsS64.set_1 | refine IsS64.far ?_ NB511_508.out _) | exact HI511.out))) : g511 ≠ gb519)); have NB519_511 := AM ((by rw [hg]; exact Nat.ne_of_gt (IsS64.lt (show IsS64 w _ g511 t509 t518 from by repeat (first | (with_reducible first | exact HI511.out | apply IsS64.alloc | apply IsS64.drewN | apply IsS64.drew | apply IsS64.set_1 | refine IsS64.far ?_ NB511_508.out _) | exact HI511.out))) : gb519 ≠ g511)); replace HO514 := AM (Kd.R_below (ZR HO514.out) hb); replace HO517 := AM (Kd.N_below (Kd.N_elderB (ZRN HO517.out) gb519 (Nat.le_of_eq hg.symm)) hb); replace BK508 := ZW BK508 hb; replace HB := AM (below_step (by repeat (first | (with_reducible first | exact HB.out | apply below_alloc | apply pw_below_drewN | apply below_drew1 | refine below_set ?_ (IsS64.ge HI511.out) | refine below_set ?_ GW508.out) | exact HB.out)) hb); replace HI511 := AM (IsS64.below (by repeat (first | (with_reducible first | exact HI511.out | apply IsS64.alloc | apply IsS64.drewN | apply IsS64.drew | apply IsS64.set_1 | refine IsS64.far ?_ NB511_508.out _) | exact HI511.out)) hb); clear hb hbox hg; obtain ⟨Ao10, co10, eo10⟩ := Kd.R_slice HO514.out; subst eo10; have hnb11 := NB519_508.out; have hnc11 := NB508_519.out; have hnb12 := NB519_511.out; have hnc12 := NB511_519.out; have hcz13 := ZC2 w9 BK519; obtain ⟨Ao14, co14, eo14⟩ := Kd.N_slice HO517.out; subst eo14))
 have n0_ : Za (Kd.R k35 35 ((w9.setCell ⟨gb519, 0, none⟩ (.slice Ao10 t512.length co10)).setCell ⟨gb519, 1, none⟩ (.slice Ao14 t515.length co14)) w.heap.size (fun k_ => (w.heap.size ≤ k_)) (.slice Ao10 t512.length co10) t512) := ⟨ZR (Kd.R_mono (Kd.R_far (p := ⟨gb519, 1, none⟩) (Kd.R_far (p := ⟨gb519, 0, none⟩) (Kd.R_types HO514.out BK519.out (by decide)) (fun _ hk => hk.2) (.slice Ao10 t512.length co10)) (fun _ hk => hk.2) (.slice Ao14 t515.length co14)) (fun _ hk => hk.1.1))⟩
 have n1_ : Za (Kd.N k40 40 ((w9.setCell ⟨gb519, 0, none⟩ (.slice Ao10 t512.length co10)).setCell ⟨gb519, 1, none⟩ (.slice Ao14 t515.length co14)) w.heap.size (fun k_ => (w.heap.size ≤ k_) ∧ some k_ ≠ (.slice Ao10 t512.length co10 : Value).ownBlock ∧ k_ ≠ gb508 ∧ k_ ≠ g511 ∧ k_ ≠ gb519) (.slice Ao14 t515.length co14) t515) := ⟨ZNf (Kd.N_mono HO517.out (fun k_ hk => (⟨hk, hk.2⟩ : _ ∧ k_ ≠ gb519))) (fun _ hk => ⟨hk.2, ⟨hk.1.1.1, ⟨hk.1.1.2.1, ⟨hk.1.1.2.2.1, ⟨hk.1.1.2.2.2, hk.1.2⟩⟩⟩⟩⟩)⟩
 have n2_ : Za (((w9.setCell ⟨gb519, 0, none⟩ (.slice Ao10 t512.length co10)).setCell ⟨gb519, 1, none⟩ (.slice Ao14 t515.length co14)).heap[gb508]? = some (.cells #[.slice none 0 0, .slice none 0 0] 26 (0, 0))) := ⟨ZZ BK508.out⟩
 have n3_ : Za (((w9.setCell ⟨gb519, 0, none⟩ (.slice Ao10 t512.length co10)).setCell ⟨gb519, 1, none⟩ (.slice Ao14 t515.length co14)).heap[gb519]? = some (.cells #[.slice Ao10 t512.length co10, .slice Ao14 t515.length co14] 26 (0, 0))) := ⟨ZZ BK519.out⟩
 have n4_ : Za (IsS64 w ((w9.setCell ⟨gb519, 0, none⟩ (.slice Ao10 t512.length co10)).setCell ⟨gb519, 1, none⟩ (.slice Ao14 t515.length co14)) g511 t509 t518) := ⟨by repeat (first | (with_reducible first | exact HI511.out | apply IsS64.alloc | apply IsS64.drewN | apply IsS64.drew | apply IsS64.set_1 | refine IsS64.far ?_ NB511_508.out _ | refine IsS64.far ?_ NB511_519.out _) | exact HI511.out)⟩
 have n5_ : Za (Below w.heap.size w ((w9.setCell ⟨gb519, 0, none⟩ (.slice Ao10 t512.length co10)).setCell ⟨gb519, 1, none⟩ (.slice Ao14 t515.length co14))) := ⟨by repeat (first | (with_reducible first | exact HB.out | apply below_alloc | apply pw_below_drewN | apply below_drew1 | refine below_set ?_ (IsS64.ge HI511.out) | refine below_set ?_ GW508.out | refine below_set ?_ GE519.out) | exact HB.out)⟩
 (try clear HO514)
 (try clear HO517)
 (try clear BK508)
 (try clear BK519)
 (try clear HI511)
 (try clear HB)
 generalize ((w9.setCell ⟨gb519, 0, none⟩ (.slice Ao10 t512.length co10)).setCell ⟨gb519, 1, none⟩ (.slice Ao14 t515.length co14)) = w15 at n0_ n1_ n2_ n3_ n4_ n5_ ⊢
 have HO514 := n0_
 have HO517 := n1_
 have BK508 := n2_
 have BK519 := n3_
 have HI511 := n4_
 have HB := n5_
 clear n0_ n1_ n2_ n3_ n4_ n5_
 replace HO514 := AM (Kd.R_drew HO514.out)
 replace HO517 := AM (Kd.N_drew HO517.out)
 replace BK508 := AM (blk_drew BK508.out)
 replace BK519 := AM (blk_drew BK519.out)
 replace HI511 := AM (IsS64.drew HI511.out)
 replace HB := AM (below_drew1 HB.out)
 refine start_ (n := 9) (S := fun w' => w'.cell? ⟨gb519, 0, none⟩ = some (.slice Ao10 t512.length co10) ∧ w'.cell? ⟨gb519, 1, none⟩ = some (.slice Ao14 t515.length co14)) (ds := []) #[F,F,F,F,F,F,F,F,F] (by kernel_rfl) rfl rfl ⟨ZA BK519 0, ZA BK519 1⟩ (fun hHeld => ?_); refine with_tabW spec_DrawProgAt.tab3 spec_DrawProgAt.bits3 (fun HT_ HW_ => ?_)
 generalize w15.drew = w16 at HO514 HO517 BK508 BK519 HI511 HB hHeld ⊢
 refine ZU 1 11 #[F,T,F,F,F,F,F,F,F] ?_
 refine ZTK 0 10 #[T,T,F,F,F,F,F,F,F] hHeld ?_
 refine ZTK 2 12 #[T,T,T,F,F,F,F,F,F] hHeld ?_
 refine one_ (i := 3) (N := some 13) #[T,T,T,T,F,F,F,F,F] rfl rfl (one_of HT_.out (by kernel_rfl)) (by decide) (fun K hK => ?_)
 refine ZGO Try.func39 #[.agg #[.slice Ao10 t512.length co10, .slice Ao14 t515.length co14]] ?_
 with_reducible refine (spec_ProgSize.calls k _ _ t512 _ _ t515 t520 _ ?side1 ?side2 ?side3 ?side4 A4.out).mono ?_
 (case side1 => exact ZQ ((Kd.R_reads' HO514.out).2.2))
 (case side2 => exact (Kd.R_reads' HO514.out).2.1)
 (case side3 => exact ZQ ((Kd.N_reads' HO517.out).2.2))
 (case side4 => exact (Kd.N_reads' HO517.out).2.1)
 rintro e w17 ⟨rfl, hb⟩
 refine ZV1 ?_
 replace HO514 := AM (Kd.R_below (ZR HO514.out) hb)
 replace HO517 := AM (Kd.N_below (ZRN HO517.out) hb)
 replace BK508 := ZW BK508 hb
 replace BK519 := ZW BK519 hb
 replace HB := AM (below_step (by repeat (first | (with_reducible first | exact HB.out | apply below_alloc | apply pw_below_drewN | apply below_drew1 | refine below_set ?_ (IsS64.ge HI511.out) | refine below_set ?_ GW508.out | refine below_set ?_ GE519.out) | exact HB.out)) hb)
 replace HI511 := AM (IsS64.below (by repeat (first | (with_reducible first | exact HI511.out | apply IsS64.alloc | apply IsS64.drewN | apply IsS64.drew | apply IsS64.set_1 | refine IsS64.far ?_ NB511_508.out _ | refine IsS64.far ?_ NB511_519.out _) | exact HI511.out)) hb)
 (try clear hb)
 (try clear hb2)
 (try clear hk)
 (try clear hi)
 refine hK.out _ _ ⟨ZA BK519 0, ZA BK519 1⟩ (fun hHeld => ?_)
 clear hK K
 refine ZNO 13 ?_
 refine ZU 4 14 #[T,T,T,T,T,F,F,F,F] ?_
 refine one_ (i := 5) (N := some 15) #[T,T,T,T,T,T,F,F,F] rfl rfl (one_of HT_.out (by kernel_rfl)) (by decide) (fun K hK => ?_)
 refine ZGO Try.func38 #[.pointer (some ⟨g511, 0, none⟩), .int .i64 (wrap64 (t520 + 3))] ?_
 with_reducible refine (spec_l6Rd_pick.calls k g511 t509 t518 (wrap64 (t520 + 3)) t521 t522 w _ ?side1 ?side2 A5.out).mono ?_
 (case side1 => repeat (first | (with_reducible first | exact HI511.out | apply IsS64.alloc | apply IsS64.drewN | apply IsS64.drew | apply IsS64.set_1 | refine IsS64.far ?_ NB511_508.out _ | refine IsS64.far ?_ NB511_519.out _) | exact HI511.out))
 (case side2 => repeat (first | (with_reducible first | exact HB.out | apply below_alloc | apply pw_below_drewN | apply below_drew1 | refine below_set ?_ (IsS64.ge HI511.out) | refine below_set ?_ GW508.out | refine below_set ?_ GE519.out) | exact HB.out))
 rintro e w18 ⟨rfl, hi, hb, hk⟩
 refine ZV1 ?_
 replace BK508 := ZL hk BK508 NB508_511
 replace HO514 := AM (Kd.R_mono (Kd.R_keep (IsS64.apart (show IsS64 w _ g511 t509 t518 from by repeat (first | (with_reducible first | exact HI511.out | apply IsS64.alloc | apply IsS64.drewN | apply IsS64.drew | apply IsS64.set_1 | refine IsS64.far ?_ NB511_508.out _ | refine IsS64.far ?_ NB511_519.out _) | exact HI511.out)) (ZR HO514.out) (by decide)) hk (fun _ h => h.2)) (fun _ h => h.1))
 replace HO517 := AM (Kd.N_mono (Kd.N_keep (Kd.N_mono (ok := fun k_ => (((w.heap.size ≤ k_)) ∧ (some k_ ≠ (.slice Ao10 t512.length co10 : Value).ownBlock ∧ (k_ ≠ gb508 ∧ (k_ ≠ g511 ∧ k_ ≠ gb519))))) (ZRN HO517.out) (fun k_ hk_ => (⟨hk_, hk_.2.2.2.1⟩ : _ ∧ k_ ≠ g511))) hk (fun _ h => h.2)) (fun _ h => h.1))
 replace BK519 := ZL hk BK519 NB519_511
 replace HB := AM (hb)
 replace HI511 := AM (hi)
 (try clear hb)
 (try clear hb2)
 (try clear hk)
 (try clear hi)
 refine hK.out _ _ ⟨ZA BK519 0, ZA BK519 1⟩ (fun hHeld => ?_)
 clear hK K
 refine ZNO 15 ?_
 refine ZU 6 16 #[T,T,T,T,T,T,T,F,F] ?_
 refine one_ (i := 7) (N := none) #[T,T,T,T,T,T,T,T,F] rfl rfl (one_of HT_.out (by kernel_rfl)) (by decide) (fun K hK => ?_)
 have hs19 : w18.cell? ⟨gb508, 0, none⟩ = some (.slice none 0 0) := ZA BK508 0
 have hfs19 := blk_frozen BK508.out 0
 have hns19_1 := NB519_508.out
 have hms19_1 := NB508_519.out
 have hs20 : w18.cell? ⟨gb508, 1, none⟩ = some (.slice none 0 0) := ZA BK508 1
 have hfs20 := blk_frozen BK508.out 1
 have hns20_1 := NB519_508.out
 have hms20_1 := NB508_519.out
 refine skip_ (w1 := ?_) (by rfl) rfl ?_ ?_
 rotate_left
 ·(
 go_simp
 rfl)
 refine hK.out _ _ ⟨((cell_far (p := ⟨gb508, _, none⟩) NB519_508.out _).trans (((cell_far (p := ⟨gb508, _, none⟩) NB519_508.out _).trans (hHeld.1)))), ((cell_far (p := ⟨gb508, _, none⟩) NB519_508.out _).trans (((cell_far (p := ⟨gb508, _, none⟩) NB519_508.out _).trans (hHeld.2))))⟩ (fun hHeld => ?_)
 clear hK K
 refine ZU 8 3 #[T,T,T,T,T,T,T,T,T] ?_
 refine done_ (done_of HT_.out (by kernel_rfl)) ?_
 try go_wp2
 refine bodyPost_ret (results_ct rfl _ _ gb508 26 #[.slice Ao10 t512.length co10, .slice Ao14 t515.length co14] (0, 0) _ rfl (ZZ BK508.out) Try.underlying26 rfl (by kernel_rfl)) rfl ?_
 exact ⟨_, _, ZE, ZRf (Kd.R_types HO514.out BK508.out (by decide)) (fun _ hk => ⟨hk.2, hk.1⟩), ZNf (Kd.N_mono HO517.out (fun k_ hk => (⟨hk, hk.2.2.1⟩ : _ ∧ k_ ≠ gb508))) (fun _ hk => ⟨hk.2, ⟨hk.1.1, hk.1.2.1⟩⟩), by repeat (first | (with_reducible first | exact HB.out | apply below_alloc | apply pw_below_drewN | apply below_drew1 | refine below_set ?_ (IsS64.ge HI511.out) | refine below_set ?_ GW508.out | refine below_set ?_ GE519.out) | exact HB.out)⟩

/-! ### spec_ProgAt: function 19 -/
def spec_ProgAt.j0 : Nat → Int → Bool → List (S35) → List (S40) → Option (Int × Int × Int × Int × Int × Int × (List (S40)) × (List (S40)) × Bool)
 | 0, _, _, _, _ => none
 | k + 1, x1, x17, x524000, x524001 => if x17 = true then (some (0, 0, 0, 0, 0, 0, ([] : List (S40)), ([] : List (S40)), false)) else ((spec_l2All.f k x524001).bind fun t528 => ((spec_l2Copy.f k t528).bind fun t531 => (if 0 ≤ x1 then (if x1 < (t531.length : Int) then (some ((D40 t531 x1).f0, (D40 t531 x1).f1, (D40 t531 x1).f2.f0, (D40 t531 x1).f2.f1, (D40 t531 x1).f2.f2, (D40 t531 x1).f3, (D40 t531 x1).f4, (D40 t531 x1).f5, true)) else (none)) else (none))))
def spec_ProgAt.f (k : Nat) (l0_0 : List (S35)) (l0_1 : List (S40)) (a1 : Int) : Option (Int × Int × Int × Int × Int × Int × (List (S40)) × (List (S40)) × Bool) := (spec_ProgOk.f k l0_0 l0_1).bind fun t525 => (if t525 = true then ((spec_l2Count.f k l0_1).bind fun t526 => ((spec_l6In.f a1 0 (wrap64 (t526 - 1))).bind fun t527 => (spec_ProgAt.j0 k a1 (!t527) l0_0 l0_1))) else (spec_ProgAt.j0 k a1 true l0_0 l0_1))
theorem spec_ProgAt.calls (k : Nat) (A0_0 : Option Addr) (c0_0 : Nat) (l0_0 : List (S35)) (P0_1_ : Nat → Prop) (A0_1 : Option Addr) (c0_1 : Nat) (l0_1 : List (S40)) (a1 : Int) (r1 : Int) (r2 : Int) (r3 : Int) (r4 : Int) (r5 : Int) (r6 : Int) (r7 : List (S40)) (r8 : List (S40)) (r9 : Bool) (w : World) (hr0_0 : Kd.C k35 w A0_0 l0_0.length l0_0) (hc0_0 : l0_0.length ≤ c0_0) (hs0_1 : Kd.V k40 40 w w.heap.size (fun k_ => P0_1_ k_) (.slice A0_1 l0_1.length c0_1) l0_1) (h : spec_ProgAt.f k l0_0 l0_1 a1 = some (r1, r2, r3, r4, r5, r6, r7, r8, r9)) :
  Calls Try.prog 19 #[.agg #[.slice A0_0 l0_0.length c0_0, .slice A0_1 l0_1.length c0_1], .int .i64 a1] w fun e w' => ∃ v6_ v7_ : Value, e = .returned (.tuple #[.agg #[.int .i64 r1, .int .i64 r2, .int .i64 r3, .int .i64 r4, .int .i64 r5, .int .i64 r6, v6_, v7_], .bool r9]) ∧ Kd.V k40 40 w' w.heap.size (fun k_ => (P0_1_ k_ ∨ w.heap.size ≤ k_)) v6_ r7 ∧ Kd.V k40 40 w' w.heap.size (fun k_ => (P0_1_ k_ ∨ w.heap.size ≤ k_)) v7_ r8 ∧ Below w.heap.size w w' := by
 have hu26 := Try.underlying26
 have hu40 := Try.underlying40
 have HR0_0 := AM hr0_0
 have HC0_0 := AM hc0_0
 clear hr0_0 hc0_0
 have HO0_1 := AM (show Kd.V k40 40 w w.heap.size (fun k_ => (P0_1_ k_ ∨ w.heap.size ≤ k_)) (.slice A0_1 l0_1.length c0_1) l0_1 from Kd.V_mono hs0_1 (fun k_ hk => .inl hk))
 have HB := AM (Below.refl w.heap.size w)
 have H := h
 unfold spec_ProgAt.f at H
 clear h
 have HC3 := AM H
 clear H
 go_enter Try.func19, Try.ntmps19
 go_upto_region 1 with (first | ((with_reducible refine gate_dst (N := 2) rfl ?_); refine ZXW w (N := 2) (cs := #[.slice A0_0 l0_0.length c0_0, .slice A0_1 l0_1.length c0_1]) (t := 26) ?_; intro gb523 hg w4 BK523 GW523 hb; replace HO0_1 := AM (Kd.V_below (Kd.V_elderB (ZRV HO0_1.out) gb523 (Nat.le_of_eq hg.symm)) hb); replace HB := ZT HB hb; clear hb hg) | ((with_reducible refine gate_dst (N := 4) rfl ?_); refine ZXW w (N := 4) (cs := #[.int .i64 0, .int .i64 0, .int .i64 0, .int .i64 0, .int .i64 0, .int .i64 0, .slice none 0 0, .slice none 0 0]) (t := 40) ?_; intro gb524 hg w5 BK524 GW524 hb; have NB523_524 : Za (gb523 ≠ gb524) := ZN hg BK523; have NB524_523 : Za (gb524 ≠ gb523) := ZM hg BK523; replace HO0_1 := AM (Kd.V_below (Kd.V_elderB (ZRV HO0_1.out) gb524 (Nat.le_of_eq hg.symm)) hb); replace BK523 := ZW BK523 hb; replace HB := ZT HB hb; clear hb hg))
 (try simp only [Act.put, List.setIfInBounds_toArray, List.set_cons_zero, List.set_cons_succ])
 go_cut [17] (fun v17 wc => ∃ (kq : Nat) (x17_2 : Bool), v17 = .bool x17_2 ∧ Za (spec_ProgAt.j0 kq a1 x17_2 l0_0 l0_1 = some (r1, r2, r3, r4, r5, r6, r7, r8, r9)) ∧ Za (kq ≤ k) ∧ Za (Kd.V k40 40 wc w.heap.size (fun k_ => (P0_1_ k_ ∨ w.heap.size ≤ k_) ∧ k_ ≠ gb523 ∧ k_ ≠ gb524) (.slice A0_1 l0_1.length c0_1) l0_1) ∧ Za (wc.heap[gb523]? = some (.cells #[(.slice A0_0 l0_0.length c0_0), (.slice A0_1 l0_1.length c0_1)] 26 (0, 0))) ∧ Za (wc.heap[gb524]? = some (.cells #[.int .i64 0, .int .i64 0, .int .i64 0, .int .i64 0, .int .i64 0, .int .i64 0, (.slice none 0 0), (.slice none 0 0)] 40 (0, 0))) ∧ Za (Below w.heap.size w wc))
 case first => (
 have H := HC3.out
 clear HC3
 obtain ⟨t525, A6, H⟩ := ZOB H; try dsimp only at H
 by_cases c7 : t525 = true
 ·(
 subst c7
 have H1 := H; rw [if_pos rfl] at H1
 clear H
 have H := H1
 clear H1
 obtain ⟨t526, A8, H⟩ := ZOB H; try dsimp only at H
 obtain ⟨t527, A9, H⟩ := ZOB H; try dsimp only at H
 have H' := AM H
 clear H
 have hnb10 := NB523_524.out
 have hnc10 := NB524_523.out
 have hcz11 := ZC2 w5 BK523
 go_wp2_with (first | ((with_reducible refine gate_callee (f := 16) rfl ?_); refine ZGL (some 7) Try.func16 #[.agg #[.slice A0_0 l0_0.length c0_0, .slice A0_1 l0_1.length c0_1]] ?_; (with_reducible refine (spec_ProgOk.calls k _ _ l0_0 _ _ l0_1 true _ (ZQ (Kd.C_below HR0_0.out HB.out)) HC0_0.out ?side3 ?side4 A6.out).mono ?_); (case side3 => exact ZQ ((Kd.V_reads' HO0_1.out).2.2)); (case side4 => exact (Kd.V_reads' HO0_1.out).2.1); rintro e w12 ⟨rfl, hb⟩; refine ZV1 ?_; replace HO0_1 := AM (Kd.V_below (ZRV HO0_1.out) hb); replace BK523 := ZW BK523 hb; replace BK524 := ZW BK524 hb; replace HB := ZT HB hb; clear hb; have hcz13 := ZC2 w12 BK523) | (go_at_call 35; (with_reducible refine (spec_l2Count.calls k _ _ l0_1 t526 _ ?side1 ?side2 A8.out).mono ?_); (case side1 => exact ZQ ((Kd.V_reads' HO0_1.out).2.2)); (case side2 => exact (Kd.V_reads' HO0_1.out).2.1); rintro e w14 ⟨rfl, hb⟩; replace HO0_1 := AM (Kd.V_below (ZRV HO0_1.out) hb); replace BK523 := ZW BK523 hb; replace BK524 := ZW BK524 hb; replace HB := ZT HB hb; clear hb) | (go_at_call 40; (with_reducible refine (spec_l6In.calls a1 0 (wrap64 (t526 - 1)) t527 _ A9.out).mono ?_); rintro e w' ⟨rfl, ⟨nd, rfl⟩⟩))
 go_meet
 case rel => exact ⟨_, (!t527), ZSM, H', ⟨by first | omega | exact Nat.le_refl _⟩, ⟨ZVm HO0_1.out (fun _ hk => ⟨hk.1.1, ⟨hk.1.2, hk.2⟩⟩)⟩, ⟨ZK BK523.out⟩, ⟨ZK BK524.out⟩, ⟨ZB⟩⟩)
 ·(
 replace c7 := Bool.eq_false_iff.mpr c7
 subst c7
 have H1 := H; rw [if_neg ZFT] at H1
 clear H
 have H := H1
 clear H1
 have H' := AM H
 clear H
 have hnb15 := NB523_524.out
 have hnc15 := NB524_523.out
 have hcz16 := ZC2 w5 BK523
 go_wp2_with (first | ((with_reducible refine gate_callee (f := 16) rfl ?_); refine ZGL (some 7) Try.func16 #[.agg #[.slice A0_0 l0_0.length c0_0, .slice A0_1 l0_1.length c0_1]] ?_; (with_reducible refine (spec_ProgOk.calls k _ _ l0_0 _ _ l0_1 false _ (ZQ (Kd.C_below HR0_0.out HB.out)) HC0_0.out ?side3 ?side4 A6.out).mono ?_); (case side3 => exact ZQ ((Kd.V_reads' HO0_1.out).2.2)); (case side4 => exact (Kd.V_reads' HO0_1.out).2.1); rintro e w17 ⟨rfl, hb⟩; refine ZV1 ?_; replace HO0_1 := AM (Kd.V_below (ZRV HO0_1.out) hb); replace BK523 := ZW BK523 hb; replace BK524 := ZW BK524 hb; replace HB := ZT HB hb; clear hb))
 go_meet
 case rel => exact ⟨_, (true), ZSM, H', ⟨by first | omega | exact Nat.le_refl _⟩, ⟨ZVm HO0_1.out (fun _ hk => ⟨hk.1.1, ⟨hk.1.2, hk.2⟩⟩)⟩, ⟨ZK BK523.out⟩, ⟨ZK BK524.out⟩, ⟨ZB⟩⟩))
 case rest => (
 clear HC3
 try clear c1
 try clear p2
 try clear p6
 try clear c7
 try clear c10
 try clear c15
 try clear c16
 try clear hcz11
 try clear hcz13
 try clear hcz16
 obtain ⟨kq, x17_2, rfl, HA, HJ2, HO_524001, BK523, BK524, HB⟩ := hcut
 cases kq with
 | zero => exact absurd HA.out (by simp [spec_ProgAt.j0])
 | succ kj2 =>
  have H := HA.out
  clear HA
  simp only [spec_ProgAt.j0] at H
  by_cases c18 : x17_2 = true
  ·(
  subst c18
  have H1 := H; rw [if_pos rfl] at H1
  clear H
  have H := H1
  clear H1
  simp only [Option.some.injEq, Prod.mk.injEq] at H
  obtain ⟨rfl, rfl, rfl, rfl, rfl, rfl, rfl, rfl, rfl⟩ := H
  have hnb19 := NB524_523.out
  have hnc19 := NB523_524.out
  have hcz20 := ZC8 wc BK524
  go_wp2
  refine bodyPost_ret (results_ct rfl _ _ gb524 40 #[.int .i64 0, .int .i64 0, .int .i64 0, .int .i64 0, .int .i64 0, .int .i64 0, .slice none 0 0, .slice none 0 0] (0, 0) _ rfl (ZZ BK524.out) Try.underlying40 rfl (by kernel_rfl)) rfl ?_
  exact ⟨_, _, ZE, Kd.N_V (base := 0) (by first | exact Kd.R_nil _ _ _ _ _ | exact Kd.N_nil _ _ _ _ _ | exact Kd.V_nil _ _ _ _ _ | exact Kd.Q_nil _ _ _ _ _ | exact Kd.S_nil _ _ _ _ _), Kd.N_V (base := 0) (by first | exact Kd.R_nil _ _ _ _ _ | exact Kd.N_nil _ _ _ _ _ | exact Kd.V_nil _ _ _ _ _ | exact Kd.Q_nil _ _ _ _ _ | exact Kd.S_nil _ _ _ _ _), ZB⟩)
  ·(
  replace c18 := Bool.eq_false_iff.mpr c18
  subst c18
  have H1 := H; rw [if_neg ZFT] at H1
  clear H
  have H := H1
  clear H1
  obtain ⟨t528, A21, H⟩ := ZOB H; try dsimp only at H
  obtain ⟨t531, A22, H⟩ := ZOB H; try dsimp only at H
  by_cases c23 : 0 ≤ a1
  ·(
  rw [if_pos c23] at H
  have c23b0 := decide_eq_true c23
  clear c23
  by_cases c24 : a1 < (t531.length : Int)
  ·(
  rw [if_pos c24] at H
  have c24b0 := decide_eq_true c24
  clear c24
  simp only [Option.some.injEq, Prod.mk.injEq] at H
  obtain ⟨rfl, rfl, rfl, rfl, rfl, rfl, rfl, rfl, rfl⟩ := H
  have hnb25 := NB523_524.out
  have hnc25 := NB524_523.out
  have hcz26 := ZC2 wc BK523
  go_wp2_with (first | ((with_reducible refine gate_callee (f := 28) rfl ?_); refine ZGL (some 21) Try.func28 #[.slice A0_1 l0_1.length c0_1] ?_; (with_reducible refine (spec_l2All.calls kj2 (fun k_ => ((P0_1_ k_ ∨ w.heap.size ≤ k_) ∧ (k_ ≠ gb523 ∧ k_ ≠ gb524))) _ _ l0_1 t528 _ ?side1 A21.out).mono ?_); (case side1 => exact HO_524001.out); rintro e w27 ⟨v529, rfl, ho0, hb⟩; refine ZV1 ?_; have HO530 := AM (Kd.N_lower (Kd.N_mono (ok' := fun k_ => (P0_1_ k_ ∨ w.heap.size ≤ k_) ∧ k_ ≠ gb523 ∧ k_ ≠ gb524) ho0 (fun k_ hk_ => ⟨Or.elim hk_ (fun hs_ => hs_.1) (fun hn_ => (.inr (Nat.le_trans (below_size (ZB)) hn_))), Or.elim hk_ (fun hs_ => hs_.2.1) (fun hn_ => (Kd.freshB (g := gb523) (o := .cells #[.slice A0_0 l0_0.length c0_0, .slice A0_1 l0_1.length c0_1] 26 (0, 0)) (ZK BK523.out) k_ hn_)), Or.elim hk_ (fun hs_ => hs_.2.2) (fun hn_ => (Kd.freshB (g := gb524) (o := .cells #[.int .i64 0, .int .i64 0, .int .i64 0, .int .i64 0, .int .i64 0, .int .i64 0, .slice none 0 0, .slice none 0 0] 40 (0, 0)) (ZK BK524.out) k_ hn_))⟩)) (below_size (ZB))); replace HO_524001 := AM (Kd.V_elder' (ZRV HO_524001.out) (Kd.N_base ho0) hb); replace BK523 := ZW BK523 hb; replace BK524 := ZW BK524 hb; replace HB := ZT HB hb; clear hb; (try clear ho0); obtain ⟨Ao28, co28, eo28⟩ := Kd.N_slice HO530.out; subst eo28) | ((with_reducible refine gate_callee (f := 41) rfl ?_); refine ZGL (some 22) Try.func41 #[.slice Ao28 t528.length co28] ?_; (with_reducible refine (spec_l2Copy.calls kj2 _ _ t528 t531 _ ?side1 ?side2 A22.out).mono ?_); (case side1 => exact ZQ ((Kd.N_reads' HO530.out).2.2)); (case side2 => exact (Kd.N_reads' HO530.out).2.1); rintro e w29 ⟨v532, rfl, ho0, hb⟩; refine ZV1 ?_; have HO533 := AM (Kd.N_lower (Kd.N_mono (ok' := fun k_ => (P0_1_ k_ ∨ w.heap.size ≤ k_) ∧ some k_ ≠ (.slice Ao28 t528.length co28 : Value).ownBlock ∧ k_ ≠ gb523 ∧ k_ ≠ gb524) (Kd.R_N (Kd.R_bound ho0)) (fun k_ hk_ => ⟨(.inr (Nat.le_trans (below_size (ZB)) hk_.2.1)), (Kd.fresh' (Kd.N_lt (ZRN HO530.out)) k_ hk_.2.1), (Kd.freshB (g := gb523) (o := .cells #[.slice A0_0 l0_0.length c0_0, .slice A0_1 l0_1.length c0_1] 26 (0, 0)) (ZK BK523.out) k_ hk_.2.1), (Kd.freshB (g := gb524) (o := .cells #[.int .i64 0, .int .i64 0, .int .i64 0, .int .i64 0, .int .i64 0, .int .i64 0, .slice none 0 0, .slice none 0 0] 40 (0, 0)) (ZK BK524.out) k_ hk_.2.1)⟩)) (below_size (ZB))); replace HO_524001 := AM (Kd.V_elder' (ZRV HO_524001.out) (Kd.R_base ho0) hb); replace HO530 := AM (Kd.N_elder' (ZRN HO530.out) (Kd.R_base ho0) hb); replace BK523 := ZW BK523 hb; replace BK524 := ZW BK524 hb; replace HB := ZT HB hb; clear hb; (try clear ho0); obtain ⟨Ao30, co30, eo30⟩ := Kd.N_slice HO533.out; subst eo30; have p534 : 0 ≤ (a1 : Int) := ZD; have q534 : a1 < (t531.length : Int) := ZD; obtain ⟨ad534, A534_6, c534_6, A534_7, c534_7, e534, hx534_0, hx534_1, hx534_2, hx534_3, hx534_4, hx534_5, hx534_6, hx534_7, hl534_6, hi534_6, hl534_7, hi534_7⟩ := at_T40 (Kd.N_reads' HO533.out).2.2 a1 p534 q534; cases e534; obtain ⟨ce534, hce534, hMe534, hcc534⟩ := Kd.N_get HO533.out z40 a1 p534 (by first | exact q534 | exact ZD | (have e_ := (Kd.N_reads' HO533.out).1; omega)); obtain ⟨ua534_6, uc534_6, ua534_7, uc534_7, rfl, ul534_6, ge534_6, ul534_7, ge534_7⟩ := k40_openF hMe534; have hv534_6 := hcc534 6 _ rfl; rw [add_field _ _ 6 (by omega)] at hv534_6; replace hv534_6 := Option.some.inj (hv534_6.symm.trans hx534_6); injection hv534_6 with hva_ hvn_ hvc_; rw [hva_] at ge534_6; rw [hvc_] at ul534_6; have HL534_6 := AM (show Kd.V k40 40 _ w.heap.size _ _ ((D40 t531 a1).f4) from Kd.V_mk ul534_6 ge534_6); clear hva_ hvn_ hvc_ ge534_6 ul534_6; have hv534_7 := hcc534 7 _ rfl; rw [add_field _ _ 7 (by omega)] at hv534_7; replace hv534_7 := Option.some.inj (hv534_7.symm.trans hx534_7); injection hv534_7 with hva_ hvn_ hvc_; rw [hva_] at ge534_7; rw [hvc_] at ul534_7; have HL534_7 := AM (show Kd.V k40 40 _ w.heap.size _ _ ((D40 t531 a1).f5) from Kd.V_mk ul534_7 ge534_7); clear hva_ hvn_ hvc_ ge534_7 ul534_7 hcc534 hce534; have HR534_6 := AM hi534_6; have HC534_6 := AM hl534_6; clear hi534_6 hl534_6; have HR534_7 := AM hi534_7; have HC534_7 := AM hl534_7; clear hi534_7 hl534_7; replace p534 := eq_true p534; replace q534 := eq_true q534; have hcz31 := ZC8 w29 BK524))
  refine bodyPost_ret (results_ct rfl _ _ gb524 40 #[.int .i64 ((D40 t531 a1).f0), .int .i64 ((D40 t531 a1).f1), .int .i64 ((D40 t531 a1).f2.f0), .int .i64 ((D40 t531 a1).f2.f1), .int .i64 ((D40 t531 a1).f2.f2), .int .i64 ((D40 t531 a1).f3), .slice A534_6 ((D40 t531 a1).f4).length c534_6, .slice A534_7 ((D40 t531 a1).f5).length c534_7] (0, 0) _ rfl (ZZ BK524.out) Try.underlying40 rfl (by kernel_rfl)) rfl ?_
  exact ⟨_, _, ZE, ZVf (Kd.V_mono HL534_6.out (fun k_ hk => (⟨hk, hk.1.2.2.2⟩ : _ ∧ k_ ≠ gb524))) (fun _ hk => ⟨hk.2, hk.1.1.1⟩), ZVf (Kd.V_mono HL534_7.out (fun k_ hk => (⟨hk, hk.1.2.2.2⟩ : _ ∧ k_ ≠ gb524))) (fun _ hk => ⟨hk.2, hk.1.1.1⟩), ZB⟩)
  ·(
  rw [if_neg c24] at H
  exact absurd H (by simp)))
  ·(
  rw [if_neg c23] at H
  exact absurd H (by simp))))

end Go.Proofs.Ytkkdeojbkfjlpaa.B
