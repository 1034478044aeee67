/- Go functions as Lean functions, and for each its contract; written by wip/tools/pr.py over the kit's print. -/
import Derived.Test.YtkkdeojbkfjlpaaAx0
import Derived.Test.YtkkdeojbkfjlpaaAx9
import Derived.Test.YtkkdeojbkfjlpaaAx12
import Derived.Test.YtkkdeojbkfjlpaaAx17
import Derived.Test.YtkkdeojbkfjlpaaAx24
import Derived.Test.YtkkdeojbkfjlpaaAx26
namespace Go.Proofs.Ytkkdeojbkfjlpaa.A
open Go.RowKit Go.Proofs.YtkkdeojbkfjlpaaW.PrintWords Go.Proofs.YtkkdeojbkfjlpaaW.PrintLast Go.Proofs.YtkkdeojbkfjlpaaW.PrintMore
attribute [local go_sem] max2_int min2_int max_two min_two max_three min_three max_four min_four
set_option linter.unusedVariables false
set_option linter.unusedSimpArgs false
set_option maxHeartbeats 8000000
set_option maxRecDepth 100000

/-! ### spec_DrawProgAt: function 18 -/
def spec_DrawProgAt.f (k : Nat) (l0 : List Int) : Option ((List (S35)) × (List (S40)) × Int) := (spec_l6Open.f l0).bind fun bt617 => ((spec_l71Any.f k bt617.1 bt617.2).bind fun bt620 => ((spec_ProgSize.f k bt620.1 bt620.2.1).bind fun t628 => ((spec_l6Rd_pick.f k bt617.1 bt620.2.2 (wrap64 (t628 + 3))).bind fun bt629 => (some (bt620.1, bt620.2.1, wrap64 (bt629.1 - 1))))))
def spec_DrawProgAt.T3 : Bool × List (List Nat × List Nat) := (true, [([], []), ([], []), ([], []), ([2], [2]), ([3], [3]), ([1, 4, 3], [1, 4]), ([5], [5]), ([0, 5, 0], [0]), ([6, 7, 0, 1, 2, 3, 4, 5, 6, 7], [6])])
def spec_DrawProgAt.B3 : List Nat := [0, 0, 0, 4, 12, 30, 62, 63, 255]
theorem spec_DrawProgAt.tab3 : rtab .any (opsOf Try.f18 3) = spec_DrawProgAt.T3 := by kernel_rfl
theorem spec_DrawProgAt.bits3 : waitsOk spec_DrawProgAt.T3.2 spec_DrawProgAt.B3 = true := by kernel_rfl
theorem spec_DrawProgAt.calls (k : Nat) (A0 : Option Addr) (c0 : Nat) (l0 : List Int) (r1 : List (S35)) (r2 : List (S40)) (r3 : Int) (w : World) (hr0 : Kd.C (Kd.int .u8) w A0 l0.length l0) (hc0 : l0.length ≤ c0) (h : spec_DrawProgAt.f k l0 = some (r1, r2, r3)) :
  Calls Try.prog 18 #[.slice A0 l0.length c0] w fun e w' => ∃ v0_ v1_ : Value, e = .returned (.tuple #[.agg #[v0_, v1_], .int .i64 r3]) ∧ Kd.R k35 35 w' w.heap.size (fun k_ => (w.heap.size ≤ k_)) v0_ r1 ∧ Kd.N k40 40 w' w.heap.size (fun k_ => (w.heap.size ≤ k_) ∧ some k_ ≠ (v0_ : Value).ownBlock) v1_ r2 ∧ Below w.heap.size w w' := by
 have hu26 := Try.underlying26
 have HR0 := AM hr0
 have HC0 := AM hc0
 clear hr0 hc0
 have HB := AM (Below.refl w.heap.size w)
 have H := h
 unfold spec_DrawProgAt.f at H
 clear h
 obtain ⟨⟨t617, t618⟩, A2, H⟩ := ZOB H; try dsimp only at H
 obtain ⟨⟨t620, t623, t626⟩, A3, H⟩ := ZOB H; try dsimp only at H
 obtain ⟨t628, A4, H⟩ := ZOB H; try dsimp only at H
 obtain ⟨⟨t629, t630⟩, A5, H⟩ := ZOB H; try dsimp only at H
 simp only [Option.some.injEq, Prod.mk.injEq] at H
 obtain ⟨rfl, rfl, rfl⟩ := H
 go_enter Try.func18, Try.ntmps18
 try go_wp2_with (first | ((with_reducible refine gate_dst (N := 2) rfl ?_); refine ZXW w (N := 2) (cs := #[.slice none 0 0, .slice none 0 0]) (t := 26) ?_; intro gb616 hg w6 BK616 GW616 hb; replace HB := ZT HB hb; clear hb hg) | ((with_reducible refine gate_callee (f := 24) rfl ?_); refine ZGL (some 7) Try.func24 #[.slice A0 l0.length c0] ?_; (with_reducible refine (spec_l6Open.calls _ _ l0 t617 t618 w _ ?side1 ?side2 HC0.out A2.out).mono ?_); (case side1 => repeat (first | (with_reducible first | exact HB.out | apply below_alloc | apply pw_below_drewN | apply below_drew1 | refine below_set ?_ GW616.out) | exact HB.out)); (case side2 => exact HR0.out); rintro e w7 ⟨g619, rfl, hi, hb, hb2⟩; refine ZV1 ?_; have HI619 := AM (hi); have NB619_616 := AM (IsS64.ne_blk hi (blk_below (g := gb616) (o := .cells #[.slice none 0 0, .slice none 0 0] 26 (0, 0)) (ZK BK616.out) hb2) (by decide)); have NB616_619 := AM (Ne.symm (IsS64.ne_blk hi (blk_below (g := gb616) (o := .cells #[.slice none 0 0, .slice none 0 0] 26 (0, 0)) (ZK BK616.out) hb2) (by decide))); replace BK616 := AM (blk_below (g := gb616) (o := .cells #[.slice none 0 0, .slice none 0 0] 26 (0, 0)) (ZK BK616.out) hb2); replace HB := AM (hb); clear hb hb2 hi) | ((with_reducible refine gate_callee (f := 23) rfl ?_); refine ZGL (some 9) Try.func23 #[.pointer (some ⟨g619, 0, none⟩)] ?_; (with_reducible refine (spec_l71Any.calls k g619 t617 t618 t620 t623 t626 w _ ?side1 ?side2 A3.out).mono ?_); (case side1 => repeat (first | (with_reducible first | exact HI619.out | apply IsS64.alloc | apply IsS64.drewN | apply IsS64.drew | apply IsS64.set_1 | refine IsS64.far ?_ NB619_616.out _) | exact HI619.out)); (case side2 => repeat (first | (with_reducible first | exact HB.out | apply below_alloc | apply pw_below_drewN | apply below_drew1 | refine below_set ?_ (IsS64.ge HI619.out) | refine below_set ?_ GW616.out) | exact HB.out)); rintro e w8 ⟨v621, v624, rfl, ho0, ho1, hi, hb, hk⟩; refine ZV1 ?_; have HO622 := AM (Kd.R_lower (Kd.R_newM (M := fun k_ => (w.heap.size ≤ k_)) (Kd.R_mono (ok' := fun k_ => True) ho0 (fun _ hk_ => trivial)) (below_size (by repeat (first | (with_reducible first | exact HB.out | apply below_alloc | apply pw_below_drewN | apply below_drew1 | refine below_set ?_ (IsS64.ge HI619.out) | refine below_set ?_ GW616.out) | exact HB.out))) (fun k_ h_ => h_)) (below_size (by repeat (first | (with_reducible first | exact HB.out | apply below_alloc | apply pw_below_drewN | apply below_drew1 | refine below_set ?_ (IsS64.ge HI619.out) | refine below_set ?_ GW616.out) | exact HB.out)))); have HO625 := AM (Kd.N_lower (Kd.N_mono (ok' := fun k_ => (w.heap.size ≤ k_) ∧ some k_ ≠ (v621 : Value).ownBlock ∧ k_ ≠ gb616 ∧ k_ ≠ g619) ho1 (fun k_ hk_ => ⟨(Nat.le_trans (below_size (by repeat (first | (with_reducible first | exact HB.out | apply below_alloc | apply pw_below_drewN | apply below_drew1 | refine below_set ?_ (IsS64.ge HI619.out) | refine below_set ?_ GW616.out) | exact HB.out))) hk_.1), hk_.2, (Kd.freshB (g := gb616) (o := .cells #[.slice none 0 0, .slice none 0 0] 26 (0, 0)) (ZK BK616.out) k_ hk_.1), (IsS64.fresh (by repeat (first | (with_reducible first | exact HI619.out | apply IsS64.alloc | apply IsS64.drewN | apply IsS64.drew | apply IsS64.set_1 | refine IsS64.far ?_ NB619_616.out _) | exact HI619.out)) k_ hk_.1)⟩)) (below_size (by repeat (first | (with_reducible first | exact HB.out | apply below_alloc | apply pw_below_drewN | apply below_drew1 | refine below_set ?_ (IsS64.ge HI619.out) | refine below_set ?_ GW616.out) | exact HB.out)))); replace BK616 := ZL hk BK616 NB616_619; replace HB := AM (hb); replace HI619 := AM (hi); clear hb hk hi; (try clear ho0); (try clear ho1)) | ((with_reducible refine gate_dst (N := 5) rfl ?_); refine ZX (N := 5) (cs := #[.slice none 0 0, .slice none 0 0]) (t := 26) ?_; intro gb627 hg w9 hbox hb; have BK627 := AM (hbox); have GW627 := AM ((by rw [hg]; exact (below_size (by repeat (first | (with_reducible first | exact HB.out | apply below_alloc | apply pw_below_drewN | apply below_drew1 | refine below_set ?_ (IsS64.ge HI619.out) | refine below_set ?_ GW616.out) | exact HB.out))) : w.heap.size ≤ gb627)); have GE627 := AM ((by rw [hg]; exact (below_size (by repeat (first | (with_reducible first | exact HB.out | apply below_alloc | apply pw_below_drewN | apply below_drew1 | refine below_set ?_ (IsS64.ge HI619.out) | refine below_set ?_ GW616.out) | exact HB.out))) : w.heap.size ≤ gb627)); have NB616_627 : Za (gb616 ≠ gb627) := ZN hg BK616; have NB627_616 : Za (gb627 ≠ gb616) := ZM hg BK616; have NB619_627 := AM ((by rw [hg]; exact Nat.ne_of_lt (IsS64.lt (show IsS64 w _ g619 t617 t626 from by repeat (first | (with_reducible first | exact HI619.out | apply IsS64.alloc | apply IsS64.drewN | apply IsS64.drew | apply IsS64.set_1 | refine IsS64.far ?_ NB619_616.out _) | exact HI619.out))) : g619 ≠ gb627)); have NB627_619 := AM ((by rw [hg]; exact Nat.ne_of_gt (IsS64.lt (show IsS64 w _ g619 t617 t626 from by repeat (first | (with_reducible first | exact HI619.out | apply IsS64.alloc | apply IsS64.drewN | apply IsS64.drew | apply IsS64.set_1 | refine IsS64.far ?_ NB619_616.out _) | exact HI619.out))) : gb627 ≠ g619)); replace HO622 := AM (Kd.R_below (ZR HO622.out) hb); replace HO625 := AM (Kd.N_below (Kd.N_elderB (ZRN HO625.out) gb627 (Nat.le_of_eq hg.symm)) hb); replace BK616 := ZW BK616 hb; replace HB := AM (below_step (by repeat (first | (with_reducible first | exact HB.out | apply below_alloc | apply pw_below_drewN | apply below_drew1 | refine below_set ?_ (IsS64.ge HI619.out) | refine below_set ?_ GW616.out) | exact HB.out)) hb); replace HI619 := AM (IsS64.below (by repeat (first | (with_reducible first | exact HI619.out | apply IsS64.alloc | apply IsS64.drewN | apply IsS64.drew | apply IsS64.set_1 | refine IsS64.far ?_ NB619_616.out _) | exact HI619.out)) hb); clear hb hbox hg; obtain ⟨Ao10, co10, eo10⟩ := Kd.R_slice HO622.out; subst eo10; have hnb11 := NB627_616.out; have hnc11 := NB616_627.out; have hnb12 := NB627_619.out; have hnc12 := NB619_627.out; have hcz13 := ZC2 w9 BK627; obtain ⟨Ao14, co14, eo14⟩ := Kd.N_slice HO625.out; subst eo14))
 have n0_ : Za (Kd.R k35 35 ((w9.setCell ⟨gb627, 0, none⟩ (.slice Ao10 t620.length co10)).setCell ⟨gb627, 1, none⟩ (.slice Ao14 t623.length co14)) w.heap.size (fun k_ => (w.heap.size ≤ k_)) (.slice Ao10 t620.length co10) t620) := ⟨ZR (Kd.R_mono (Kd.R_far (p := ⟨gb627, 1, none⟩) (Kd.R_far (p := ⟨gb627, 0, none⟩) (Kd.R_types HO622.out BK627.out (by decide)) (fun _ hk => hk.2) (.slice Ao10 t620.length co10)) (fun _ hk => hk.2) (.slice Ao14 t623.length co14)) (fun _ hk => hk.1.1))⟩
 have n1_ : Za (Kd.N k40 40 ((w9.setCell ⟨gb627, 0, none⟩ (.slice Ao10 t620.length co10)).setCell ⟨gb627, 1, none⟩ (.slice Ao14 t623.length co14)) w.heap.size (fun k_ => (w.heap.size ≤ k_) ∧ some k_ ≠ (.slice Ao10 t620.length co10 : Value).ownBlock ∧ k_ ≠ gb616 ∧ k_ ≠ g619 ∧ k_ ≠ gb627) (.slice Ao14 t623.length co14) t623) := ⟨ZNf (Kd.N_mono HO625.out (fun k_ hk => (⟨hk, hk.2⟩ : _ ∧ k_ ≠ gb627))) (fun _ hk => ⟨hk.2, ⟨hk.1.1.1, ⟨hk.1.1.2.1, ⟨hk.1.1.2.2.1, ⟨hk.1.1.2.2.2, hk.1.2⟩⟩⟩⟩⟩)⟩
 have n2_ : Za (((w9.setCell ⟨gb627, 0, none⟩ (.slice Ao10 t620.length co10)).setCell ⟨gb627, 1, none⟩ (.slice Ao14 t623.length co14)).heap[gb616]? = some (.cells #[.slice none 0 0, .slice none 0 0] 26 (0, 0))) := ⟨ZZ BK616.out⟩
 have n3_ : Za (((w9.setCell ⟨gb627, 0, none⟩ (.slice Ao10 t620.length co10)).setCell ⟨gb627, 1, none⟩ (.slice Ao14 t623.length co14)).heap[gb627]? = some (.cells #[.slice Ao10 t620.length co10, .slice Ao14 t623.length co14] 26 (0, 0))) := ⟨ZZ BK627.out⟩
 have n4_ : Za (IsS64 w ((w9.setCell ⟨gb627, 0, none⟩ (.slice Ao10 t620.length co10)).setCell ⟨gb627, 1, none⟩ (.slice Ao14 t623.length co14)) g619 t617 t626) := ⟨by repeat (first | (with_reducible first | exact HI619.out | apply IsS64.alloc | apply IsS64.drewN | apply IsS64.drew | apply IsS64.set_1 | refine IsS64.far ?_ NB619_616.out _ | refine IsS64.far ?_ NB619_627.out _) | exact HI619.out)⟩
 have n5_ : Za (Below w.heap.size w ((w9.setCell ⟨gb627, 0, none⟩ (.slice Ao10 t620.length co10)).setCell ⟨gb627, 1, none⟩ (.slice Ao14 t623.length co14))) := ⟨by repeat (first | (with_reducible first | exact HB.out | apply below_alloc | apply pw_below_drewN | apply below_drew1 | refine below_set ?_ (IsS64.ge HI619.out) | refine below_set ?_ GW616.out | refine below_set ?_ GE627.out) | exact HB.out)⟩
 (try clear HO622)
 (try clear HO625)
 (try clear BK616)
 (try clear BK627)
 (try clear HI619)
 (try clear HB)
 generalize ((w9.setCell ⟨gb627, 0, none⟩ (.slice Ao10 t620.length co10)).setCell ⟨gb627, 1, none⟩ (.slice Ao14 t623.length co14)) = w15 at n0_ n1_ n2_ n3_ n4_ n5_ ⊢
 have HO622 := n0_
 have HO625 := n1_
 have BK616 := n2_
 have BK627 := n3_
 have HI619 := n4_
 have HB := n5_
 clear n0_ n1_ n2_ n3_ n4_ n5_
 replace HO622 := AM (Kd.R_drew HO622.out)
 replace HO625 := AM (Kd.N_drew HO625.out)
 replace BK616 := AM (blk_drew BK616.out)
 replace BK627 := AM (blk_drew BK627.out)
 replace HI619 := AM (IsS64.drew HI619.out)
 replace HB := AM (below_drew1 HB.out)
 refine start_ (n := 9) (S := fun w' => w'.cell? ⟨gb627, 0, none⟩ = some (.slice Ao10 t620.length co10) ∧ w'.cell? ⟨gb627, 1, none⟩ = some (.slice Ao14 t623.length co14)) (ds := []) #[F,F,F,F,F,F,F,F,F] (by kernel_rfl) rfl rfl ⟨ZA BK627 0, ZA BK627 1⟩ (fun hHeld => ?_); refine with_tabW spec_DrawProgAt.tab3 spec_DrawProgAt.bits3 (fun HT_ HW_ => ?_)
 generalize w15.drew = w16 at HO622 HO625 BK616 BK627 HI619 HB hHeld ⊢
 refine ZU 1 11 #[F,T,F,F,F,F,F,F,F] ?_
 refine ZTK 0 10 #[T,T,F,F,F,F,F,F,F] hHeld ?_
 refine ZTK 2 12 #[T,T,T,F,F,F,F,F,F] hHeld ?_
 refine one_ (i := 3) (N := some 13) #[T,T,T,T,F,F,F,F,F] rfl rfl (one_of HT_.out (by kernel_rfl)) (by decide) (fun K hK => ?_)
 refine ZGO Try.func39 #[.agg #[.slice Ao10 t620.length co10, .slice Ao14 t623.length co14]] ?_
 with_reducible refine (spec_ProgSize.calls k _ _ t620 _ _ t623 t628 _ ?side1 ?side2 ?side3 ?side4 A4.out).mono ?_
 (case side1 => exact ZQ ((Kd.R_reads' HO622.out).2.2))
 (case side2 => exact (Kd.R_reads' HO622.out).2.1)
 (case side3 => exact ZQ ((Kd.N_reads' HO625.out).2.2))
 (case side4 => exact (Kd.N_reads' HO625.out).2.1)
 rintro e w17 ⟨rfl, hb⟩
 refine ZV1 ?_
 replace HO622 := AM (Kd.R_below (ZR HO622.out) hb)
 replace HO625 := AM (Kd.N_below (ZRN HO625.out) hb)
 replace BK616 := ZW BK616 hb
 replace BK627 := ZW BK627 hb
 replace HB := AM (below_step (by repeat (first | (with_reducible first | exact HB.out | apply below_alloc | apply pw_below_drewN | apply below_drew1 | refine below_set ?_ (IsS64.ge HI619.out) | refine below_set ?_ GW616.out | refine below_set ?_ GE627.out) | exact HB.out)) hb)
 replace HI619 := AM (IsS64.below (by repeat (first | (with_reducible first | exact HI619.out | apply IsS64.alloc | apply IsS64.drewN | apply IsS64.drew | apply IsS64.set_1 | refine IsS64.far ?_ NB619_616.out _ | refine IsS64.far ?_ NB619_627.out _) | exact HI619.out)) hb)
 (try clear hb)
 (try clear hb2)
 (try clear hk)
 (try clear hi)
 refine hK.out _ _ ⟨ZA BK627 0, ZA BK627 1⟩ (fun hHeld => ?_)
 clear hK K
 refine ZNO 13 ?_
 refine ZU 4 14 #[T,T,T,T,T,F,F,F,F] ?_
 refine one_ (i := 5) (N := some 15) #[T,T,T,T,T,T,F,F,F] rfl rfl (one_of HT_.out (by kernel_rfl)) (by decide) (fun K hK => ?_)
 refine ZGO Try.func38 #[.pointer (some ⟨g619, 0, none⟩), .int .i64 (wrap64 (t628 + 3))] ?_
 with_reducible refine (spec_l6Rd_pick.calls k g619 t617 t626 (wrap64 (t628 + 3)) t629 t630 w _ ?side1 ?side2 A5.out).mono ?_
 (case side1 => repeat (first | (with_reducible first | exact HI619.out | apply IsS64.alloc | apply IsS64.drewN | apply IsS64.drew | apply IsS64.set_1 | refine IsS64.far ?_ NB619_616.out _ | refine IsS64.far ?_ NB619_627.out _) | exact HI619.out))
 (case side2 => repeat (first | (with_reducible first | exact HB.out | apply below_alloc | apply pw_below_drewN | apply below_drew1 | refine below_set ?_ (IsS64.ge HI619.out) | refine below_set ?_ GW616.out | refine below_set ?_ GE627.out) | exact HB.out))
 rintro e w18 ⟨rfl, hi, hb, hk⟩
 refine ZV1 ?_
 replace BK616 := ZL hk BK616 NB616_619
 replace HO622 := AM (Kd.R_mono (Kd.R_keep (IsS64.apart (show IsS64 w _ g619 t617 t626 from by repeat (first | (with_reducible first | exact HI619.out | apply IsS64.alloc | apply IsS64.drewN | apply IsS64.drew | apply IsS64.set_1 | refine IsS64.far ?_ NB619_616.out _ | refine IsS64.far ?_ NB619_627.out _) | exact HI619.out)) (ZR HO622.out) (by decide)) hk (fun _ h => h.2)) (fun _ h => h.1))
 replace HO625 := AM (Kd.N_mono (Kd.N_keep (Kd.N_mono (ok := fun k_ => (((w.heap.size ≤ k_)) ∧ (some k_ ≠ (.slice Ao10 t620.length co10 : Value).ownBlock ∧ (k_ ≠ gb616 ∧ (k_ ≠ g619 ∧ k_ ≠ gb627))))) (ZRN HO625.out) (fun k_ hk_ => (⟨hk_, hk_.2.2.2.1⟩ : _ ∧ k_ ≠ g619))) hk (fun _ h => h.2)) (fun _ h => h.1))
 replace BK627 := ZL hk BK627 NB627_619
 replace HB := AM (hb)
 replace HI619 := AM (hi)
 (try clear hb)
 (try clear hb2)
 (try clear hk)
 (try clear hi)
 refine hK.out _ _ ⟨ZA BK627 0, ZA BK627 1⟩ (fun hHeld => ?_)
 clear hK K
 refine ZNO 15 ?_
 refine ZU 6 16 #[T,T,T,T,T,T,T,F,F] ?_
 refine one_ (i := 7) (N := none) #[T,T,T,T,T,T,T,T,F] rfl rfl (one_of HT_.out (by kernel_rfl)) (by decide) (fun K hK => ?_)
 have hs19 : w18.cell? ⟨gb616, 0, none⟩ = some (.slice none 0 0) := ZA BK616 0
 have hfs19 := blk_frozen BK616.out 0
 have hns19_1 := NB627_616.out
 have hms19_1 := NB616_627.out
 have hs20 : w18.cell? ⟨gb616, 1, none⟩ = some (.slice none 0 0) := ZA BK616 1
 have hfs20 := blk_frozen BK616.out 1
 have hns20_1 := NB627_616.out
 have hms20_1 := NB616_627.out
 refine skip_ (w1 := ?_) (by rfl) rfl ?_ ?_
 rotate_left
 ·(
 go_simp
 rfl)
 refine hK.out _ _ ⟨((cell_far (p := ⟨gb616, _, none⟩) NB627_616.out _).trans (((cell_far (p := ⟨gb616, _, none⟩) NB627_616.out _).trans (hHeld.1)))), ((cell_far (p := ⟨gb616, _, none⟩) NB627_616.out _).trans (((cell_far (p := ⟨gb616, _, none⟩) NB627_616.out _).trans (hHeld.2))))⟩ (fun hHeld => ?_)
 clear hK K
 refine ZU 8 3 #[T,T,T,T,T,T,T,T,T] ?_
 refine done_ (done_of HT_.out (by kernel_rfl)) ?_
 try go_wp2
 refine bodyPost_ret (results_ct rfl _ _ gb616 26 #[.slice Ao10 t620.length co10, .slice Ao14 t623.length co14] (0, 0) _ rfl (ZZ BK616.out) Try.underlying26 rfl (by kernel_rfl)) rfl ?_
 exact ⟨_, _, ZE, ZRf (Kd.R_types HO622.out BK616.out (by decide)) (fun _ hk => ⟨hk.2, hk.1⟩), ZNf (Kd.N_mono HO625.out (fun k_ hk => (⟨hk, hk.2.2.1⟩ : _ ∧ k_ ≠ gb616))) (fun _ hk => ⟨hk.2, ⟨hk.1.1, hk.1.2.1⟩⟩), by repeat (first | (with_reducible first | exact HB.out | apply below_alloc | apply pw_below_drewN | apply below_drew1 | refine below_set ?_ (IsS64.ge HI619.out) | refine below_set ?_ GW616.out | refine below_set ?_ GE627.out) | exact HB.out)⟩

/-! ### spec_ProgAt: function 19 -/
def spec_ProgAt.j0 : Nat → Int → Bool → List (S35) → List (S40) → Option (Int × Int × Int × Int × Int × Int × (List (S40)) × (List (S40)) × Bool)
 | 0, _, _, _, _ => none
 | k + 1, x1, x17, x632000, x632001 => if x17 = true then (some (0, 0, 0, 0, 0, 0, ([] : List (S40)), ([] : List (S40)), false)) else ((spec_l2All.f k x632001).bind fun t636 => ((spec_l2Copy.f k t636).bind fun t639 => (if 0 ≤ x1 then (if x1 < (t639.length : Int) then (some ((D40 t639 x1).f0, (D40 t639 x1).f1, (D40 t639 x1).f2.f0, (D40 t639 x1).f2.f1, (D40 t639 x1).f2.f2, (D40 t639 x1).f3, (D40 t639 x1).f4, (D40 t639 x1).f5, true)) else (none)) else (none))))
def spec_ProgAt.f (k : Nat) (l0_0 : List (S35)) (l0_1 : List (S40)) (a1 : Int) : Option (Int × Int × Int × Int × Int × Int × (List (S40)) × (List (S40)) × Bool) := (spec_ProgOk.f k l0_0 l0_1).bind fun t633 => (if t633 = true then ((spec_l2Count.f k l0_1).bind fun t634 => ((spec_l6In.f a1 0 (wrap64 (t634 - 1))).bind fun t635 => (spec_ProgAt.j0 k a1 (!t635) l0_0 l0_1))) else (spec_ProgAt.j0 k a1 true l0_0 l0_1))
theorem spec_ProgAt.calls (k : Nat) (A0_0 : Option Addr) (c0_0 : Nat) (l0_0 : List (S35)) (P0_1_ : Nat → Prop) (A0_1 : Option Addr) (c0_1 : Nat) (l0_1 : List (S40)) (a1 : Int) (r1 : Int) (r2 : Int) (r3 : Int) (r4 : Int) (r5 : Int) (r6 : Int) (r7 : List (S40)) (r8 : List (S40)) (r9 : Bool) (w : World) (hr0_0 : Kd.C k35 w A0_0 l0_0.length l0_0) (hc0_0 : l0_0.length ≤ c0_0) (hs0_1 : Kd.V k40 40 w w.heap.size (fun k_ => P0_1_ k_) (.slice A0_1 l0_1.length c0_1) l0_1) (h : spec_ProgAt.f k l0_0 l0_1 a1 = some (r1, r2, r3, r4, r5, r6, r7, r8, r9)) :
  Calls Try.prog 19 #[.agg #[.slice A0_0 l0_0.length c0_0, .slice A0_1 l0_1.length c0_1], .int .i64 a1] w fun e w' => ∃ v6_ v7_ : Value, e = .returned (.tuple #[.agg #[.int .i64 r1, .int .i64 r2, .int .i64 r3, .int .i64 r4, .int .i64 r5, .int .i64 r6, v6_, v7_], .bool r9]) ∧ Kd.V k40 40 w' w.heap.size (fun k_ => (P0_1_ k_ ∨ w.heap.size ≤ k_)) v6_ r7 ∧ Kd.V k40 40 w' w.heap.size (fun k_ => (P0_1_ k_ ∨ w.heap.size ≤ k_)) v7_ r8 ∧ Below w.heap.size w w' := by
 have hu26 := Try.underlying26
 have hu40 := Try.underlying40
 have HR0_0 := AM hr0_0
 have HC0_0 := AM hc0_0
 clear hr0_0 hc0_0
 have HO0_1 := AM (show Kd.V k40 40 w w.heap.size (fun k_ => (P0_1_ k_ ∨ w.heap.size ≤ k_)) (.slice A0_1 l0_1.length c0_1) l0_1 from Kd.V_mono hs0_1 (fun k_ hk => .inl hk))
 have HB := AM (Below.refl w.heap.size w)
 have H := h
 unfold spec_ProgAt.f at H
 clear h
 have HC3 := AM H
 clear H
 go_enter Try.func19, Try.ntmps19
 go_upto_region 1 with (first | ((with_reducible refine gate_dst (N := 2) rfl ?_); refine ZXW w (N := 2) (cs := #[.slice A0_0 l0_0.length c0_0, .slice A0_1 l0_1.length c0_1]) (t := 26) ?_; intro gb631 hg w4 BK631 GW631 hb; replace HO0_1 := AM (Kd.V_below (Kd.V_elderB (ZRV HO0_1.out) gb631 (Nat.le_of_eq hg.symm)) hb); replace HB := ZT HB hb; clear hb hg) | ((with_reducible refine gate_dst (N := 4) rfl ?_); refine ZXW w (N := 4) (cs := #[.int .i64 0, .int .i64 0, .int .i64 0, .int .i64 0, .int .i64 0, .int .i64 0, .slice none 0 0, .slice none 0 0]) (t := 40) ?_; intro gb632 hg w5 BK632 GW632 hb; have NB631_632 : Za (gb631 ≠ gb632) := ZN hg BK631; have NB632_631 : Za (gb632 ≠ gb631) := ZM hg BK631; replace HO0_1 := AM (Kd.V_below (Kd.V_elderB (ZRV HO0_1.out) gb632 (Nat.le_of_eq hg.symm)) hb); replace BK631 := ZW BK631 hb; replace HB := ZT HB hb; clear hb hg))
 (try simp only [Act.put, List.setIfInBounds_toArray, List.set_cons_zero, List.set_cons_succ])
 go_cut [17] (fun v17 wc => ∃ (kq : Nat) (x17_2 : Bool), v17 = .bool x17_2 ∧ Za (spec_ProgAt.j0 kq a1 x17_2 l0_0 l0_1 = some (r1, r2, r3, r4, r5, r6, r7, r8, r9)) ∧ Za (kq ≤ k) ∧ Za (Kd.V k40 40 wc w.heap.size (fun k_ => (P0_1_ k_ ∨ w.heap.size ≤ k_) ∧ k_ ≠ gb631 ∧ k_ ≠ gb632) (.slice A0_1 l0_1.length c0_1) l0_1) ∧ Za (wc.heap[gb631]? = some (.cells #[(.slice A0_0 l0_0.length c0_0), (.slice A0_1 l0_1.length c0_1)] 26 (0, 0))) ∧ Za (wc.heap[gb632]? = some (.cells #[.int .i64 0, .int .i64 0, .int .i64 0, .int .i64 0, .int .i64 0, .int .i64 0, (.slice none 0 0), (.slice none 0 0)] 40 (0, 0))) ∧ Za (Below w.heap.size w wc))
 case first => (
 have H := HC3.out
 clear HC3
 obtain ⟨t633, A6, H⟩ := ZOB H; try dsimp only at H
 by_cases c7 : t633 = true
 ·(
 subst c7
 have H1 := H; rw [if_pos rfl] at H1
 clear H
 have H := H1
 clear H1
 obtain ⟨t634, A8, H⟩ := ZOB H; try dsimp only at H
 obtain ⟨t635, A9, H⟩ := ZOB H; try dsimp only at H
 have H' := AM H
 clear H
 have hnb10 := NB631_632.out
 have hnc10 := NB632_631.out
 have hcz11 := ZC2 w5 BK631
 go_wp2_with (first | ((with_reducible refine gate_callee (f := 16) rfl ?_); refine ZGL (some 7) Try.func16 #[.agg #[.slice A0_0 l0_0.length c0_0, .slice A0_1 l0_1.length c0_1]] ?_; (with_reducible refine (spec_ProgOk.calls k _ _ l0_0 _ _ l0_1 true _ (ZQ (Kd.C_below HR0_0.out HB.out)) HC0_0.out ?side3 ?side4 A6.out).mono ?_); (case side3 => exact ZQ ((Kd.V_reads' HO0_1.out).2.2)); (case side4 => exact (Kd.V_reads' HO0_1.out).2.1); rintro e w12 ⟨rfl, hb⟩; refine ZV1 ?_; replace HO0_1 := AM (Kd.V_below (ZRV HO0_1.out) hb); replace BK631 := ZW BK631 hb; replace BK632 := ZW BK632 hb; replace HB := ZT HB hb; clear hb; have hcz13 := ZC2 w12 BK631) | (go_at_call 35; (with_reducible refine (spec_l2Count.calls k _ _ l0_1 t634 _ ?side1 ?side2 A8.out).mono ?_); (case side1 => exact ZQ ((Kd.V_reads' HO0_1.out).2.2)); (case side2 => exact (Kd.V_reads' HO0_1.out).2.1); rintro e w14 ⟨rfl, hb⟩; replace HO0_1 := AM (Kd.V_below (ZRV HO0_1.out) hb); replace BK631 := ZW BK631 hb; replace BK632 := ZW BK632 hb; replace HB := ZT HB hb; clear hb) | (go_at_call 40; (with_reducible refine (spec_l6In.calls a1 0 (wrap64 (t634 - 1)) t635 _ A9.out).mono ?_); rintro e w' ⟨rfl, ⟨nd, rfl⟩⟩))
 go_meet
 case rel => exact ⟨_, (!t635), ZSM, H', ⟨by first | omega | exact Nat.le_refl _⟩, ⟨ZVm HO0_1.out (fun _ hk => ⟨hk.1.1, ⟨hk.1.2, hk.2⟩⟩)⟩, ⟨ZK BK631.out⟩, ⟨ZK BK632.out⟩, ⟨ZB⟩⟩)
 ·(
 replace c7 := Bool.eq_false_iff.mpr c7
 subst c7
 have H1 := H; rw [if_neg ZFT] at H1
 clear H
 have H := H1
 clear H1
 have H' := AM H
 clear H
 have hnb15 := NB631_632.out
 have hnc15 := NB632_631.out
 have hcz16 := ZC2 w5 BK631
 go_wp2_with (first | ((with_reducible refine gate_callee (f := 16) rfl ?_); refine ZGL (some 7) Try.func16 #[.agg #[.slice A0_0 l0_0.length c0_0, .slice A0_1 l0_1.length c0_1]] ?_; (with_reducible refine (spec_ProgOk.calls k _ _ l0_0 _ _ l0_1 false _ (ZQ (Kd.C_below HR0_0.out HB.out)) HC0_0.out ?side3 ?side4 A6.out).mono ?_); (case side3 => exact ZQ ((Kd.V_reads' HO0_1.out).2.2)); (case side4 => exact (Kd.V_reads' HO0_1.out).2.1); rintro e w17 ⟨rfl, hb⟩; refine ZV1 ?_; replace HO0_1 := AM (Kd.V_below (ZRV HO0_1.out) hb); replace BK631 := ZW BK631 hb; replace BK632 := ZW BK632 hb; replace HB := ZT HB hb; clear hb))
 go_meet
 case rel => exact ⟨_, (true), ZSM, H', ⟨by first | omega | exact Nat.le_refl _⟩, ⟨ZVm HO0_1.out (fun _ hk => ⟨hk.1.1, ⟨hk.1.2, hk.2⟩⟩)⟩, ⟨ZK BK631.out⟩, ⟨ZK BK632.out⟩, ⟨ZB⟩⟩))
 case rest => (
 clear HC3
 try clear c1
 try clear p2
 try clear p6
 try clear c7
 try clear c10
 try clear c15
 try clear c16
 try clear hcz11
 try clear hcz13
 try clear hcz16
 obtain ⟨kq, x17_2, rfl, HA, HJ2, HO_632001, BK631, BK632, HB⟩ := hcut
 cases kq with
 | zero => exact absurd HA.out (by simp [spec_ProgAt.j0])
 | succ kj2 =>
  have H := HA.out
  clear HA
  simp only [spec_ProgAt.j0] at H
  by_cases c18 : x17_2 = true
  ·(
  subst c18
  have H1 := H; rw [if_pos rfl] at H1
  clear H
  have H := H1
  clear H1
  simp only [Option.some.injEq, Prod.mk.injEq] at H
  obtain ⟨rfl, rfl, rfl, rfl, rfl, rfl, rfl, rfl, rfl⟩ := H
  have hnb19 := NB632_631.out
  have hnc19 := NB631_632.out
  have hcz20 := ZC8 wc BK632
  go_wp2
  refine bodyPost_ret (results_ct rfl _ _ gb632 40 #[.int .i64 0, .int .i64 0, .int .i64 0, .int .i64 0, .int .i64 0, .int .i64 0, .slice none 0 0, .slice none 0 0] (0, 0) _ rfl (ZZ BK632.out) Try.underlying40 rfl (by kernel_rfl)) rfl ?_
  exact ⟨_, _, ZE, Kd.N_V (base := 0) (by first | exact Kd.R_nil _ _ _ _ _ | exact Kd.N_nil _ _ _ _ _ | exact Kd.V_nil _ _ _ _ _ | exact Kd.Q_nil _ _ _ _ _ | exact Kd.S_nil _ _ _ _ _), Kd.N_V (base := 0) (by first | exact Kd.R_nil _ _ _ _ _ | exact Kd.N_nil _ _ _ _ _ | exact Kd.V_nil _ _ _ _ _ | exact Kd.Q_nil _ _ _ _ _ | exact Kd.S_nil _ _ _ _ _), ZB⟩)
  ·(
  replace c18 := Bool.eq_false_iff.mpr c18
  subst c18
  have H1 := H; rw [if_neg ZFT] at H1
  clear H
  have H := H1
  clear H1
  obtain ⟨t636, A21, H⟩ := ZOB H; try dsimp only at H
  obtain ⟨t639, A22, H⟩ := ZOB H; try dsimp only at H
  by_cases c23 : 0 ≤ a1
  ·(
  rw [if_pos c23] at H
  have c23b0 := decide_eq_true c23
  clear c23
  by_cases c24 : a1 < (t639.length : Int)
  ·(
  rw [if_pos c24] at H
  have c24b0 := decide_eq_true c24
  clear c24
  simp only [Option.some.injEq, Prod.mk.injEq] at H
  obtain ⟨rfl, rfl, rfl, rfl, rfl, rfl, rfl, rfl, rfl⟩ := H
  have hnb25 := NB631_632.out
  have hnc25 := NB632_631.out
  have hcz26 := ZC2 wc BK631
  go_wp2_with (first | ((with_reducible refine gate_callee (f := 28) rfl ?_); refine ZGL (some 21) Try.func28 #[.slice A0_1 l0_1.length c0_1] ?_; (with_reducible refine (spec_l2All.calls kj2 (fun k_ => ((P0_1_ k_ ∨ w.heap.size ≤ k_) ∧ (k_ ≠ gb631 ∧ k_ ≠ gb632))) _ _ l0_1 t636 _ ?side1 A21.out).mono ?_); (case side1 => exact HO_632001.out); rintro e w27 ⟨v637, rfl, ho0, hb⟩; refine ZV1 ?_; have HO638 := AM (Kd.N_lower (Kd.N_mono (ok' := fun k_ => (P0_1_ k_ ∨ w.heap.size ≤ k_) ∧ k_ ≠ gb631 ∧ k_ ≠ gb632) ho0 (fun k_ hk_ => ⟨Or.elim hk_ (fun hs_ => hs_.1) (fun hn_ => (.inr (Nat.le_trans (below_size (ZB)) hn_))), Or.elim hk_ (fun hs_ => hs_.2.1) (fun hn_ => (Kd.freshB (g := gb631) (o := .cells #[.slice A0_0 l0_0.length c0_0, .slice A0_1 l0_1.length c0_1] 26 (0, 0)) (ZK BK631.out) k_ hn_)), Or.elim hk_ (fun hs_ => hs_.2.2) (fun hn_ => (Kd.freshB (g := gb632) (o := .cells #[.int .i64 0, .int .i64 0, .int .i64 0, .int .i64 0, .int .i64 0, .int .i64 0, .slice none 0 0, .slice none 0 0] 40 (0, 0)) (ZK BK632.out) k_ hn_))⟩)) (below_size (ZB))); replace HO_632001 := AM (Kd.V_elder' (ZRV HO_632001.out) (Kd.N_base ho0) hb); replace BK631 := ZW BK631 hb; replace BK632 := ZW BK632 hb; replace HB := ZT HB hb; clear hb; (try clear ho0); obtain ⟨Ao28, co28, eo28⟩ := Kd.N_slice HO638.out; subst eo28) | ((with_reducible refine gate_callee (f := 41) rfl ?_); refine ZGL (some 22) Try.func41 #[.slice Ao28 t636.length co28] ?_; (with_reducible refine (spec_l2Copy.calls kj2 _ _ t636 t639 _ ?side1 ?side2 A22.out).mono ?_); (case side1 => exact ZQ ((Kd.N_reads' HO638.out).2.2)); (case side2 => exact (Kd.N_reads' HO638.out).2.1); rintro e w29 ⟨v640, rfl, ho0, hb⟩; refine ZV1 ?_; have HO641 := AM (Kd.N_lower (Kd.N_mono (ok' := fun k_ => (P0_1_ k_ ∨ w.heap.size ≤ k_) ∧ some k_ ≠ (.slice Ao28 t636.length co28 : Value).ownBlock ∧ k_ ≠ gb631 ∧ k_ ≠ gb632) (Kd.R_N (Kd.R_bound ho0)) (fun k_ hk_ => ⟨(.inr (Nat.le_trans (below_size (ZB)) hk_.2.1)), (Kd.fresh' (Kd.N_lt (ZRN HO638.out)) k_ hk_.2.1), (Kd.freshB (g := gb631) (o := .cells #[.slice A0_0 l0_0.length c0_0, .slice A0_1 l0_1.length c0_1] 26 (0, 0)) (ZK BK631.out) k_ hk_.2.1), (Kd.freshB (g := gb632) (o := .cells #[.int .i64 0, .int .i64 0, .int .i64 0, .int .i64 0, .int .i64 0, .int .i64 0, .slice none 0 0, .slice none 0 0] 40 (0, 0)) (ZK BK632.out) k_ hk_.2.1)⟩)) (below_size (ZB))); replace HO_632001 := AM (Kd.V_elder' (ZRV HO_632001.out) (Kd.R_base ho0) hb); replace HO638 := AM (Kd.N_elder' (ZRN HO638.out) (Kd.R_base ho0) hb); replace BK631 := ZW BK631 hb; replace BK632 := ZW BK632 hb; replace HB := ZT HB hb; clear hb; (try clear ho0); obtain ⟨Ao30, co30, eo30⟩ := Kd.N_slice HO641.out; subst eo30; have p642 : 0 ≤ (a1 : Int) := ZD; have q642 : a1 < (t639.length : Int) := ZD; obtain ⟨ad642, A642_6, c642_6, A642_7, c642_7, e642, hx642_0, hx642_1, hx642_2, hx642_3, hx642_4, hx642_5, hx642_6, hx642_7, hl642_6, hi642_6, hl642_7, hi642_7⟩ := at_T40 (Kd.N_reads' HO641.out).2.2 a1 p642 q642; cases e642; obtain ⟨ce642, hce642, hMe642, hcc642⟩ := Kd.N_get HO641.out z40 a1 p642 (by first | exact q642 | exact ZD | (have e_ := (Kd.N_reads' HO641.out).1; omega)); obtain ⟨ua642_6, uc642_6, ua642_7, uc642_7, rfl, ul642_6, ge642_6, ul642_7, ge642_7⟩ := k40_openF hMe642; have hv642_6 := hcc642 6 _ rfl; rw [add_field _ _ 6 (by omega)] at hv642_6; replace hv642_6 := Option.some.inj (hv642_6.symm.trans hx642_6); injection hv642_6 with hva_ hvn_ hvc_; rw [hva_] at ge642_6; rw [hvc_] at ul642_6; have HL642_6 := AM (show Kd.V k40 40 _ w.heap.size _ _ ((D40 t639 a1).f4) from Kd.V_mk ul642_6 ge642_6); clear hva_ hvn_ hvc_ ge642_6 ul642_6; have hv642_7 := hcc642 7 _ rfl; rw [add_field _ _ 7 (by omega)] at hv642_7; replace hv642_7 := Option.some.inj (hv642_7.symm.trans hx642_7); injection hv642_7 with hva_ hvn_ hvc_; rw [hva_] at ge642_7; rw [hvc_] at ul642_7; have HL642_7 := AM (show Kd.V k40 40 _ w.heap.size _ _ ((D40 t639 a1).f5) from Kd.V_mk ul642_7 ge642_7); clear hva_ hvn_ hvc_ ge642_7 ul642_7 hcc642 hce642; have HR642_6 := AM hi642_6; have HC642_6 := AM hl642_6; clear hi642_6 hl642_6; have HR642_7 := AM hi642_7; have HC642_7 := AM hl642_7; clear hi642_7 hl642_7; replace p642 := eq_true p642; replace q642 := eq_true q642; have hcz31 := ZC8 w29 BK632))
  refine bodyPost_ret (results_ct rfl _ _ gb632 40 #[.int .i64 ((D40 t639 a1).f0), .int .i64 ((D40 t639 a1).f1), .int .i64 ((D40 t639 a1).f2.f0), .int .i64 ((D40 t639 a1).f2.f1), .int .i64 ((D40 t639 a1).f2.f2), .int .i64 ((D40 t639 a1).f3), .slice A642_6 ((D40 t639 a1).f4).length c642_6, .slice A642_7 ((D40 t639 a1).f5).length c642_7] (0, 0) _ rfl (ZZ BK632.out) Try.underlying40 rfl (by kernel_rfl)) rfl ?_
  exact ⟨_, _, ZE, ZVf (Kd.V_mono HL642_6.out (fun k_ hk => (⟨hk, hk.1.2.2.2⟩ : _ ∧ k_ ≠ gb632))) (fun _ hk => ⟨hk.2, hk.1.1.1⟩), ZVf (Kd.V_mono HL642_7.out (fun k_ hk => (⟨hk, hk.1.2.2.2⟩ : _ ∧ k_ ≠ gb632))) (fun _ hk => ⟨hk.2, hk.1.1.1⟩), ZB⟩)
  ·(
  rw [if_neg c24] at H
  exact absurd H (by simp)))
  ·(
  rw [if_neg c23] at H
  exact absurd H (by simp))))

end Go.Proofs.Ytkkdeojbkfjlpaa.A
