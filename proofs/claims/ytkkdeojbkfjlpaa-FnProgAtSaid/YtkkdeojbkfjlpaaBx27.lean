/- Go functions as Lean functions, and for each its contract; written by wip/tools/pr.py over the kit's print. -/
import Derived.Test.YtkkdeojbkfjlpaaBx0
import Derived.Test.YtkkdeojbkfjlpaaBx19
import Derived.Test.YtkkdeojbkfjlpaaBx25
import Derived.Test.YtkkdeojbkfjlpaaBx26
namespace Go.Proofs.Ytkkdeojbkfjlpaa.B
open Go.RowKit Go.Proofs.YtkkdeojbkfjlpaaW.PrintWords Go.Proofs.YtkkdeojbkfjlpaaW.PrintLast Go.Proofs.YtkkdeojbkfjlpaaW.PrintMore
attribute [local go_sem] max2_int min2_int max_two min_two max_three min_three max_four min_four
set_option linter.unusedVariables false
set_option linter.unusedSimpArgs false
set_option maxHeartbeats 8000000
set_option maxRecDepth 100000

/-! ### laws_FnProgAt: function 6 -/
mutual
def laws_FnProgAt.j0 : Nat → Int → Bool → Bool → Bool → List (S35) → List (S40) → Int → Int → Int → Int → Int → Int → List (S40) → List (S40) → Int → Int → Int → Int → Int → Int → List (S40) → List (S40) → Option (Bool)
 | 0, _, _, _, _, _, _, _, _, _, _, _, _, _, _, _, _, _, _, _, _, _, _ => none
 | k + 1, x4, x6, x8, x48, x627000, x627001, x641000, x641001, x641002, x641003, x641004, x641005, x641006, x641007, x655000, x655001, x655002, x655003, x655004, x655005, x655006, x655007 => if x48 = true then (if (x8 == x6) = true then ((laws_lcSteps.f k (([(⟨x655000, x655001, (⟨x655002, x655003, x655004⟩ : S38), x655005, x655006, x655007⟩ : S40)] : List (S40))) (([(⟨x641000, x641001, (⟨x641002, x641003, x641004⟩ : S38), x641005, x641006, x641007⟩ : S40)] : List (S40)))).bind fun t668 => (some t668)) else (none)) else (if x4 = 0 then (if 1 ≤ (x627001.length : Int) then ((laws_lcSteps.f k (([(⟨x655000, x655001, (⟨x655002, x655003, x655004⟩ : S38), x655005, x655006, x655007⟩ : S40)] : List (S40))) (x627001.take 1)).bind fun t677 => (some t677)) else (none)) else (laws_FnProgAt.l0 k x4 x627001 x627000 x627001 x655000 x655001 x655002 x655003 x655004 x655005 x655006 x655007))
def laws_FnProgAt.j2 : Nat → Int → List (S40) → List (S35) → List (S40) → Int → Int → Int → Int → Int → Int → List (S40) → List (S40) → Option (Bool)
 | 0, _, _, _, _, _, _, _, _, _, _, _, _ => none
 | k + 1, x4, x9, x627000, x627001, x655000, x655001, x655002, x655003, x655004, x655005, x655006, x655007 => if x4 = 0 then (if 1 ≤ (x9.length : Int) then ((laws_lcSteps.f k (([(⟨x655000, x655001, (⟨x655002, x655003, x655004⟩ : S38), x655005, x655006, x655007⟩ : S40)] : List (S40))) (x9.take 1)).bind fun t697 => (some t697)) else (none)) else ((some (([] : List (S40)) : List (S40))).bind fun y698 => (if 0 < (x9.length : Int) then (if y698.length + ((D40 x9 0).f4).length < 1466015503701 then ((some (y698 ++ ((D40 x9 0).f4) : List (S40))).bind fun y702 => (if y702.length + ((D40 x9 0).f5).length < 1466015503701 then ((impl_ProgAt.f k x627000 (y702 ++ ((D40 x9 0).f5)) (wrap64 (x4 - 1))).bind fun bt709 => (if bt709.2.2.2.2.2.2.2.2 = true then ((laws_lcSteps.f k (([(⟨bt709.1, bt709.2.1, (⟨bt709.2.2.1, bt709.2.2.2.1, bt709.2.2.2.2.1⟩ : S38), bt709.2.2.2.2.2.1, bt709.2.2.2.2.2.2.1, bt709.2.2.2.2.2.2.2.1⟩ : S40)] : List (S40))) (([(⟨x655000, x655001, (⟨x655002, x655003, x655004⟩ : S38), x655005, x655006, x655007⟩ : S40)] : List (S40)))).bind fun t729 => (some t729)) else (none))) else (none))) else (none)) else (none)))
def laws_FnProgAt.l0 : Nat → Int → List (S40) → List (S35) → List (S40) → Int → Int → Int → Int → Int → Int → List (S40) → List (S40) → Option (Bool)
 | 0, _, _, _, _, _, _, _, _, _, _, _, _ => none
 | k + 1, x4, x9, x627000, x627001, x655000, x655001, x655002, x655003, x655004, x655005, x655006, x655007 => if (x9.length : Int) > 0 then (if 1 ≤ (x9.length : Int) then ((impl_ProgSize.f k x627000 (x9.take 1)).bind fun t683 => (if x4 < t683 then (laws_FnProgAt.j2 k x4 x9 x627000 x627001 x655000 x655001 x655002 x655003 x655004 x655005 x655006 x655007) else (laws_FnProgAt.l0 k (wrap64 (x4 - t683)) (x9.drop 1) x627000 x627001 x655000 x655001 x655002 x655003 x655004 x655005 x655006 x655007))) else (none)) else (laws_FnProgAt.j2 k x4 x9 x627000 x627001 x655000 x655001 x655002 x655003 x655004 x655005 x655006 x655007)
end
def laws_FnProgAt.f (k : Nat) (l0 : List Int) : Option (Bool) := if (l0.length : Int) > 1048576 then (some true) else ((spec_DrawProgAt.f k l0).bind fun bt619 => ((spec_ProgAt.f k bt619.1 bt619.2.1 bt619.2.2).bind fun bt627 => ((impl_ProgAt.f k bt619.1 bt619.2.1 bt619.2.2).bind fun bt641 => (if (bt641.2.2.2.2.2.2.2.2 != bt627.2.2.2.2.2.2.2.2) = true then (laws_FnProgAt.j0 k bt619.2.2 bt627.2.2.2.2.2.2.2.2 bt641.2.2.2.2.2.2.2.2 true bt619.1 bt619.2.1 bt627.1 bt627.2.1 bt627.2.2.1 bt627.2.2.2.1 bt627.2.2.2.2.1 bt627.2.2.2.2.2.1 bt627.2.2.2.2.2.2.1 bt627.2.2.2.2.2.2.2.1 bt641.1 bt641.2.1 bt641.2.2.1 bt641.2.2.2.1 bt641.2.2.2.2.1 bt641.2.2.2.2.2.1 bt641.2.2.2.2.2.2.1 bt641.2.2.2.2.2.2.2.1) else ((laws_lcSteps.f k (([(⟨bt641.1, bt641.2.1, (⟨bt641.2.2.1, bt641.2.2.2.1, bt641.2.2.2.2.1⟩ : S38), bt641.2.2.2.2.2.1, bt641.2.2.2.2.2.2.1, bt641.2.2.2.2.2.2.2.1⟩ : S40)] : List (S40))) (([(⟨bt627.1, bt627.2.1, (⟨bt627.2.2.1, bt627.2.2.2.1, bt627.2.2.2.2.1⟩ : S38), bt627.2.2.2.2.2.1, bt627.2.2.2.2.2.2.1, bt627.2.2.2.2.2.2.2.1⟩ : S40)] : List (S40)))).bind fun t661 => (if t661 = true then (laws_FnProgAt.j0 k bt619.2.2 bt627.2.2.2.2.2.2.2.2 bt641.2.2.2.2.2.2.2.2 (!bt641.2.2.2.2.2.2.2.2) bt619.1 bt619.2.1 bt627.1 bt627.2.1 bt627.2.2.1 bt627.2.2.2.1 bt627.2.2.2.2.1 bt627.2.2.2.2.2.1 bt627.2.2.2.2.2.2.1 bt627.2.2.2.2.2.2.2.1 bt641.1 bt641.2.1 bt641.2.2.1 bt641.2.2.2.1 bt641.2.2.2.2.1 bt641.2.2.2.2.2.1 bt641.2.2.2.2.2.2.1 bt641.2.2.2.2.2.2.2.1) else (laws_FnProgAt.j0 k bt619.2.2 bt627.2.2.2.2.2.2.2.2 bt641.2.2.2.2.2.2.2.2 true bt619.1 bt619.2.1 bt627.1 bt627.2.1 bt627.2.2.1 bt627.2.2.2.1 bt627.2.2.2.2.1 bt627.2.2.2.2.2.1 bt627.2.2.2.2.2.2.1 bt627.2.2.2.2.2.2.2.1 bt641.1 bt641.2.1 bt641.2.2.1 bt641.2.2.2.1 bt641.2.2.2.2.1 bt641.2.2.2.2.2.1 bt641.2.2.2.2.2.2.1 bt641.2.2.2.2.2.2.2.1)))))))
def laws_FnProgAt.T18 : Bool × List (List Nat × List Nat) := (true, [([], []), ([], []), ([1], [1]), ([2], [2]), ([3], [3]), ([0, 4], [0, 4]), ([], []), ([6], [6]), ([7], [7]), ([8], [8]), ([5, 9, 5], [5, 9]), ([10, 10, 0, 1, 2, 3, 4, 5, 6, 7, 8, 9, 10], [10])])
def laws_FnProgAt.B18 : List Nat := [0, 0, 2, 6, 14, 31, 0, 64, 192, 448, 1023, 2047]
theorem laws_FnProgAt.tab18 : rtab .any (opsOf Try.f6 18) = laws_FnProgAt.T18 := by kernel_rfl
theorem laws_FnProgAt.bits18 : waitsOk laws_FnProgAt.T18.2 laws_FnProgAt.B18 = true := by kernel_rfl
theorem laws_FnProgAt.calls (k : Nat) (A0 : Option Addr) (c0 : Nat) (l0 : List Int) (r : Bool) (w : World) (hr0 : Kd.C (Kd.int .u8) w A0 l0.length l0) (hc0 : l0.length ≤ c0) (h : laws_FnProgAt.f k l0 = some r) :
  Calls Try.prog 6 #[.slice A0 l0.length c0] w fun e w' => e = .returned (.bool r) ∧ Below w.heap.size w w' := by
 have hu26 := Try.underlying26
 have hu40 := Try.underlying40
 have HR0 := AM hr0
 have HC0 := AM hc0
 clear hr0 hc0
 have HB := AM (Below.refl w.heap.size w)
 have H := h
 unfold laws_FnProgAt.f at H
 clear h
 by_cases c2 : (l0.length : Int) > 1048576
 ·(
 rw [if_pos c2] at H
 have c2b0 := decide_eq_true c2
 have c2b1 : decide (1048576 < l0.length) = true := decide_eq_true (by omega)
 clear c2
 obtain rfl := Option.some.inj H
 go_enter Try.func6, Try.ntmps6
 go_wp2
 go_ret
 exact ⟨ZE, ZB⟩)
 ·(
 rw [if_neg c2] at H
 have c2b0 := decide_eq_false c2
 have c2b1 : decide (1048576 < l0.length) = false := decide_eq_false (by omega)
 clear c2
 obtain ⟨⟨t619, t622, t625⟩, A3, H⟩ := ZOB H; try dsimp only at H
 obtain ⟨⟨t627, t628, t629, t630, t631, t632, t633, t636, t639⟩, A4, H⟩ := ZOB H; try dsimp only at H
 obtain ⟨⟨t641, t642, t643, t644, t645, t646, t647, t650, t653⟩, A5, H⟩ := ZOB H; try dsimp only at H
 have HC6 := AM H
 clear H
 go_enter Try.func6, Try.ntmps6
 go_upto_region 6 with (first | ((with_reducible refine gate_callee (f := 18) rfl ?_); refine ZGL (some 19) Try.func18 #[.slice A0 l0.length c0] ?_; (with_reducible refine (spec_DrawProgAt.calls k _ _ l0 t619 t622 t625 _ ?side1 HC0.out A3.out).mono ?_); (case side1 => exact ZQ HR0.out); rintro e w7 ⟨v620, v623, rfl, ho0, ho1, hb⟩; refine ZV1 ?_; have HO621 := AM (Kd.R_lower (Kd.R_mono (ok' := fun k_ => True) ho0 (fun _ hk_ => trivial)) (below_size (ZB))); have HO624 := AM (Kd.N_lower (Kd.N_mono (ok' := fun k_ => some k_ ≠ (v620 : Value).ownBlock) ho1 (fun k_ hk_ => hk_.2)) (below_size (ZB))); replace HB := ZT HB hb; clear hb; (try clear ho0); (try clear ho1)) | ((with_reducible refine gate_dst (N := 3) rfl ?_); refine ZXW w (N := 3) (cs := #[.slice none 0 0, .slice none 0 0]) (t := 26) ?_; intro gb626 hg w8 BK626 GW626 hb; replace HO621 := AM (Kd.R_below (ZR HO621.out) hb); replace HO624 := AM (Kd.N_below (Kd.N_elderB (ZRN HO624.out) gb626 (Nat.le_of_eq hg.symm)) hb); replace HB := ZT HB hb; clear hb hg; obtain ⟨Ao9, co9, eo9⟩ := Kd.R_slice HO621.out; subst eo9; have hcz10 := ZC2 w8 BK626; obtain ⟨Ao11, co11, eo11⟩ := Kd.N_slice HO624.out; subst eo11) | ((with_reducible refine gate_store (t := 26) (p := 3) rfl ?_); refine store_event (t := 26) (p := 3) (v := ?vo_w12) (w1 := ((w8.setCell ⟨gb626, 0, none⟩ (.slice Ao9 t619.length co9)).setCell ⟨gb626, 1, none⟩ (.slice Ao11 t622.length co11))) ?hg ?ho ?hn ?hr ?_; (case ho => rfl); (case hg => rfl); (case hn => rfl); (case hr => first | (go_simp; done) | (go_simp; rfl)); intro w12 hw; have n0_ : Za (Kd.R k35 35 w12 w.heap.size (fun _ => True) (.slice Ao9 t619.length co9) t619) := ⟨(by rw [hw]; exact (ZRf (Kd.R_types HO621.out BK626.out (by decide)) (fun _ hk => ⟨hk.2, trivial⟩)))⟩; have n1_ : Za (Kd.N k40 40 w12 w.heap.size (fun k_ => some k_ ≠ (.slice Ao9 t619.length co9 : Value).ownBlock ∧ k_ ≠ gb626) (.slice Ao11 t622.length co11) t622) := ⟨(by rw [hw]; exact (ZNf (Kd.N_mono HO624.out (fun k_ hk => (⟨hk, hk.2⟩ : _ ∧ k_ ≠ gb626))) (fun _ hk => ⟨hk.2, ⟨hk.1.1, hk.1.2⟩⟩)))⟩; have n2_ : Za (w12.heap[gb626]? = some (.cells #[.slice Ao9 t619.length co9, .slice Ao11 t622.length co11] 26 (0, 0))) := ⟨(by rw [hw]; exact (ZZ BK626.out))⟩; have n3_ : Za (Below w.heap.size w w12) := ⟨(by rw [hw]; exact (ZB))⟩; clear hw HO621 HO624 BK626 HB; have HO621 := n0_; have HO624 := n1_; have BK626 := n2_; have HB := n3_; clear n0_ n1_ n2_ n3_; have hcz13 := ZC2 w12 BK626) | ((with_reducible refine gate_callee (f := 19) rfl ?_); refine ZGL (some 25) Try.func19 #[.agg #[.slice Ao9 t619.length co9, .slice Ao11 t622.length co11], .int .i64 t625] ?_; (with_reducible refine (spec_ProgAt.calls k _ _ t619 (fun k_ => (some k_ ≠ (.slice Ao9 t619.length co9 : Value).ownBlock ∧ k_ ≠ gb626)) _ _ t622 t625 t627 t628 t629 t630 t631 t632 t633 t636 t639 _ ?side1 ?side2 ?side3 A4.out).mono ?_); (case side1 => exact ZQ ((Kd.R_reads' HO621.out).2.2)); (case side2 => exact (Kd.R_reads' HO621.out).2.1); (case side3 => exact Kd.N_V (HO624.out)); rintro e w14 ⟨v634, v637, rfl, ho0, ho1, hb⟩; refine ZV1 ?_; have HO635 := AM (Kd.V_lower (Kd.V_mono (ok' := fun k_ => some k_ ≠ (.slice Ao9 t619.length co9 : Value).ownBlock ∧ k_ ≠ gb626) ho0 (fun k_ hk_ => ⟨Or.elim hk_ (fun hs_ => hs_.1) (fun hn_ => (Kd.fresh' (Kd.R_lt (ZR HO621.out)) k_ hn_)), Or.elim hk_ (fun hs_ => hs_.2) (fun hn_ => (Kd.freshB (g := gb626) (o := .cells #[.slice Ao9 t619.length co9, .slice Ao11 t622.length co11] 26 (0, 0)) (ZK BK626.out) k_ hn_))⟩)) (below_size (ZB))); have HO638 := AM (Kd.V_lower (Kd.V_mono (ok' := fun k_ => some k_ ≠ (.slice Ao9 t619.length co9 : Value).ownBlock ∧ k_ ≠ gb626) ho1 (fun k_ hk_ => ⟨Or.elim hk_ (fun hs_ => hs_.1) (fun hn_ => (Kd.fresh' (Kd.R_lt (ZR HO621.out)) k_ hn_)), Or.elim hk_ (fun hs_ => hs_.2) (fun hn_ => (Kd.freshB (g := gb626) (o := .cells #[.slice Ao9 t619.length co9, .slice Ao11 t622.length co11] 26 (0, 0)) (ZK BK626.out) k_ hn_))⟩)) (below_size (ZB))); replace HO621 := AM (Kd.R_below (ZR HO621.out) hb); replace HO624 := AM (Kd.N_below (ZRN HO624.out) hb); replace BK626 := ZW BK626 hb; replace HB := ZT HB hb; clear hb; (try clear ho0); (try clear ho1)) | ((with_reducible refine gate_dst (N := 5) rfl ?_); refine ZXW w (N := 5) (cs := #[.int .i64 0, .int .i64 0, .int .i64 0, .int .i64 0, .int .i64 0, .int .i64 0, .slice none 0 0, .slice none 0 0]) (t := 40) ?_; intro gb640 hg w15 BK640 GW640 hb; have NB626_640 : Za (gb626 ≠ gb640) := ZN hg BK626; have NB640_626 : Za (gb640 ≠ gb626) := ZM hg BK626; replace HO621 := AM (Kd.R_below (ZR HO621.out) hb); replace HO624 := AM (Kd.N_below (Kd.N_elderB (ZRN HO624.out) gb640 (Nat.le_of_eq hg.symm)) hb); replace HO635 := AM (Kd.V_below (Kd.V_elderB (ZRV HO635.out) gb640 (Nat.le_of_eq hg.symm)) hb); replace HO638 := AM (Kd.V_below (Kd.V_elderB (ZRV HO638.out) gb640 (Nat.le_of_eq hg.symm)) hb); replace BK626 := ZW BK626 hb; replace HB := ZT HB hb; clear hb hg; have hnb16 := NB640_626.out; have hnc16 := NB626_640.out; have hcz17 := ZC8 w15 BK640; obtain ⟨Ao18, co18, eo18⟩ := Kd.V_slice HO635.out; subst eo18; obtain ⟨Ao19, co19, eo19⟩ := Kd.V_slice HO638.out; subst eo19) | ((with_reducible refine gate_store (t := 40) (p := 5) rfl ?_); refine store_event (t := 40) (p := 5) (v := ?vo_w20) (w1 := ((((((((w15.setCell ⟨gb640, 0, none⟩ (.int .i64 t627)).setCell ⟨gb640, 1, none⟩ (.int .i64 t628)).setCell ⟨gb640, 2, none⟩ (.int .i64 t629)).setCell ⟨gb640, 3, none⟩ (.int .i64 t630)).setCell ⟨gb640, 4, none⟩ (.int .i64 t631)).setCell ⟨gb640, 5, none⟩ (.int .i64 t632)).setCell ⟨gb640, 6, none⟩ (.slice Ao18 t633.length co18)).setCell ⟨gb640, 7, none⟩ (.slice Ao19 t636.length co19))) ?hg ?ho ?hn ?hr ?_; (case ho => rfl); (case hg => rfl); (case hn => rfl); (case hr => first | (go_simp; done) | (go_simp; rfl)); intro w20 hw; have n0_ : Za (Kd.R k35 35 w20 w.heap.size (fun _ => True) (.slice Ao9 t619.length co9) t619) := ⟨(by rw [hw]; exact (ZRf (Kd.R_types HO621.out BK640.out (by decide)) (fun _ hk => ⟨hk.2, trivial⟩)))⟩; have n1_ : Za (Kd.N k40 40 w20 w.heap.size (fun k_ => some k_ ≠ (.slice Ao9 t619.length co9 : Value).ownBlock ∧ k_ ≠ gb626 ∧ k_ ≠ gb640) (.slice Ao11 t622.length co11) t622) := ⟨(by rw [hw]; exact (ZNf (Kd.N_mono HO624.out (fun k_ hk => (⟨hk, hk.2⟩ : _ ∧ k_ ≠ gb640))) (fun _ hk => ⟨hk.2, ⟨hk.1.1.1, ⟨hk.1.1.2, hk.1.2⟩⟩⟩)))⟩; have n2_ : Za (Kd.V k40 40 w20 w.heap.size (fun k_ => some k_ ≠ (.slice Ao9 t619.length co9 : Value).ownBlock ∧ k_ ≠ gb626 ∧ k_ ≠ gb640) (.slice Ao18 t633.length co18) t633) := ⟨(by rw [hw]; exact (ZVf (Kd.V_mono HO635.out (fun k_ hk => (⟨hk, hk.2⟩ : _ ∧ k_ ≠ gb640))) (fun _ hk => ⟨hk.2, ⟨hk.1.1.1, ⟨hk.1.1.2, hk.1.2⟩⟩⟩)))⟩; have n3_ : Za (Kd.V k40 40 w20 w.heap.size (fun k_ => some k_ ≠ (.slice Ao9 t619.length co9 : Value).ownBlock ∧ k_ ≠ gb626 ∧ k_ ≠ gb640) (.slice Ao19 t636.length co19) t636) := ⟨(by rw [hw]; exact (ZVf (Kd.V_mono HO638.out (fun k_ hk => (⟨hk, hk.2⟩ : _ ∧ k_ ≠ gb640))) (fun _ hk => ⟨hk.2, ⟨hk.1.1.1, ⟨hk.1.1.2, hk.1.2⟩⟩⟩)))⟩; have n4_ : Za (w20.heap[gb626]? = some (.cells #[.slice Ao9 t619.length co9, .slice Ao11 t622.length co11] 26 (0, 0))) := ⟨(by rw [hw]; exact (ZZ BK626.out))⟩; have n5_ : Za (w20.heap[gb640]? = some (.cells #[.int .i64 t627, .int .i64 t628, .int .i64 t629, .int .i64 t630, .int .i64 t631, .int .i64 t632, .slice Ao18 t633.length co18, .slice Ao19 t636.length co19] 40 (0, 0))) := ⟨(by rw [hw]; exact (ZZ BK640.out))⟩; have n6_ : Za (Below w.heap.size w w20) := ⟨(by rw [hw]; exact (ZB))⟩; clear hw HO621 HO624 HO635 HO638 BK626 BK640 HB; have HO621 := n0_; have HO624 := n1_; have HO635 := n2_; have HO638 := n3_; have BK626 := n4_; have BK640 := n5_; have HB := n6_; clear n0_ n1_ n2_ n3_ n4_ n5_ n6_; have hcz21 := ZC2 w20 BK626) | ((with_reducible refine gate_callee (f := 20) rfl ?_); refine ZGL (some 31) Try.func20 #[.agg #[.slice Ao9 t619.length co9, .slice Ao11 t622.length co11], .int .i64 t625] ?_; (with_reducible refine (impl_ProgAt.calls k _ _ t619 (fun k_ => (some k_ ≠ (.slice Ao9 t619.length co9 : Value).ownBlock ∧ (k_ ≠ gb626 ∧ k_ ≠ gb640))) _ _ t622 t625 t641 t642 t643 t644 t645 t646 t647 t650 t653 _ ?side1 ?side2 ?side3 A5.out).mono ?_); (case side1 => exact ZQ ((Kd.R_reads' HO621.out).2.2)); (case side2 => exact (Kd.R_reads' HO621.out).2.1); (case side3 => exact Kd.N_V (HO624.out)); rintro e w22 ⟨v648, v651, rfl, ho0, ho1, hb⟩; refine ZV1 ?_; have HO649 := AM (Kd.V_lower (Kd.V_mono (ok' := fun k_ => some k_ ≠ (.slice Ao9 t619.length co9 : Value).ownBlock ∧ k_ ≠ gb626 ∧ k_ ≠ gb640) ho0 (fun k_ hk_ => ⟨Or.elim hk_ (fun hs_ => hs_.1) (fun hn_ => (Kd.fresh' (Kd.R_lt (ZR HO621.out)) k_ hn_)), Or.elim hk_ (fun hs_ => hs_.2.1) (fun hn_ => (Kd.freshB (g := gb626) (o := .cells #[.slice Ao9 t619.length co9, .slice Ao11 t622.length co11] 26 (0, 0)) (ZK BK626.out) k_ hn_)), Or.elim hk_ (fun hs_ => hs_.2.2) (fun hn_ => (Kd.freshB (g := gb640) (o := .cells #[.int .i64 t627, .int .i64 t628, .int .i64 t629, .int .i64 t630, .int .i64 t631, .int .i64 t632, .slice Ao18 t633.length co18, .slice Ao19 t636.length co19] 40 (0, 0)) (ZK BK640.out) k_ hn_))⟩)) (below_size (ZB))); have HO652 := AM (Kd.V_lower (Kd.V_mono (ok' := fun k_ => some k_ ≠ (.slice Ao9 t619.length co9 : Value).ownBlock ∧ k_ ≠ gb626 ∧ k_ ≠ gb640) ho1 (fun k_ hk_ => ⟨Or.elim hk_ (fun hs_ => hs_.1) (fun hn_ => (Kd.fresh' (Kd.R_lt (ZR HO621.out)) k_ hn_)), Or.elim hk_ (fun hs_ => hs_.2.1) (fun hn_ => (Kd.freshB (g := gb626) (o := .cells #[.slice Ao9 t619.length co9, .slice Ao11 t622.length co11] 26 (0, 0)) (ZK BK626.out) k_ hn_)), Or.elim hk_ (fun hs_ => hs_.2.2) (fun hn_ => (Kd.freshB (g := gb640) (o := .cells #[.int .i64 t627, .int .i64 t628, .int .i64 t629, .int .i64 t630, .int .i64 t631, .int .i64 t632, .slice Ao18 t633.length co18, .slice Ao19 t636.length co19] 40 (0, 0)) (ZK BK640.out) k_ hn_))⟩)) (below_size (ZB))); replace HO621 := AM (Kd.R_below (ZR HO621.out) hb); replace HO624 := AM (Kd.N_below (ZRN HO624.out) hb); replace HO635 := AM (Kd.V_below (ZRV HO635.out) hb); replace HO638 := AM (Kd.V_below (ZRV HO638.out) hb); replace BK626 := ZW BK626 hb; replace BK640 := ZW BK640 hb; replace HB := ZT HB hb; clear hb; (try clear ho0); (try clear ho1)) | ((with_reducible refine gate_dst (N := 7) rfl ?_); refine ZXW w (N := 7) (cs := #[.int .i64 0, .int .i64 0, .int .i64 0, .int .i64 0, .int .i64 0, .int .i64 0, .slice none 0 0, .slice none 0 0]) (t := 40) ?_; intro gb654 hg w23 BK654 GW654 hb; have NB626_654 : Za (gb626 ≠ gb654) := ZN hg BK626; have NB654_626 : Za (gb654 ≠ gb626) := ZM hg BK626; have NB640_654 : Za (gb640 ≠ gb654) := ZN hg BK640; have NB654_640 : Za (gb654 ≠ gb640) := ZM hg BK640; replace HO621 := AM (Kd.R_below (ZR HO621.out) hb); replace HO624 := AM (Kd.N_below (Kd.N_elderB (ZRN HO624.out) gb654 (Nat.le_of_eq hg.symm)) hb); replace HO635 := AM (Kd.V_below (Kd.V_elderB (ZRV HO635.out) gb654 (Nat.le_of_eq hg.symm)) hb); replace HO638 := AM (Kd.V_below (Kd.V_elderB (ZRV HO638.out) gb654 (Nat.le_of_eq hg.symm)) hb); replace HO649 := AM (Kd.V_below (Kd.V_elderB (ZRV HO649.out) gb654 (Nat.le_of_eq hg.symm)) hb); replace HO652 := AM (Kd.V_below (Kd.V_elderB (ZRV HO652.out) gb654 (Nat.le_of_eq hg.symm)) hb); replace BK626 := ZW BK626 hb; replace BK640 := ZW BK640 hb; replace HB := ZT HB hb; clear hb hg; have hnb24 := NB654_626.out; have hnc24 := NB626_654.out; have hnb25 := NB654_640.out; have hnc25 := NB640_654.out; have hcz26 := ZC8 w23 BK654; obtain ⟨Ao27, co27, eo27⟩ := Kd.V_slice HO649.out; subst eo27; obtain ⟨Ao28, co28, eo28⟩ := Kd.V_slice HO652.out; subst eo28) | ((with_reducible refine gate_store (t := 40) (p := 7) rfl ?_); refine store_event (t := 40) (p := 7) (v := ?vo_w29) (w1 := ((((((((w23.setCell ⟨gb654, 0, none⟩ (.int .i64 t641)).setCell ⟨gb654, 1, none⟩ (.int .i64 t642)).setCell ⟨gb654, 2, none⟩ (.int .i64 t643)).setCell ⟨gb654, 3, none⟩ (.int .i64 t644)).setCell ⟨gb654, 4, none⟩ (.int .i64 t645)).setCell ⟨gb654, 5, none⟩ (.int .i64 t646)).setCell ⟨gb654, 6, none⟩ (.slice Ao27 t647.length co27)).setCell ⟨gb654, 7, none⟩ (.slice Ao28 t650.length co28))) ?hg ?ho ?hn ?hr ?_; (case ho => rfl); (case hg => rfl); (case hn => rfl); (case hr => first | (go_simp; done) | (go_simp; rfl)); intro w29 hw; have n0_ : Za (Kd.R k35 35 w29 w.heap.size (fun _ => True) (.slice Ao9 t619.length co9) t619) := ⟨(by rw [hw]; exact (ZRf (Kd.R_types HO621.out BK654.out (by decide)) (fun _ hk => ⟨hk.2, trivial⟩)))⟩; have n1_ : Za (Kd.N k40 40 w29 w.heap.size (fun k_ => some k_ ≠ (.slice Ao9 t619.length co9 : Value).ownBlock ∧ k_ ≠ gb626 ∧ k_ ≠ gb640 ∧ k_ ≠ gb654) (.slice Ao11 t622.length co11) t622) := ⟨(by rw [hw]; exact (ZNf (Kd.N_mono HO624.out (fun k_ hk => (⟨hk, hk.2⟩ : _ ∧ k_ ≠ gb654))) (fun _ hk => ⟨hk.2, ⟨hk.1.1.1, ⟨hk.1.1.2.1, ⟨hk.1.1.2.2, hk.1.2⟩⟩⟩⟩)))⟩; have n2_ : Za (Kd.V k40 40 w29 w.heap.size (fun k_ => some k_ ≠ (.slice Ao9 t619.length co9 : Value).ownBlock ∧ k_ ≠ gb626 ∧ k_ ≠ gb640 ∧ k_ ≠ gb654) (.slice Ao18 t633.length co18) t633) := ⟨(by rw [hw]; exact (ZVf (Kd.V_mono HO635.out (fun k_ hk => (⟨hk, hk.2⟩ : _ ∧ k_ ≠ gb654))) (fun _ hk => ⟨hk.2, ⟨hk.1.1.1, ⟨hk.1.1.2.1, ⟨hk.1.1.2.2, hk.1.2⟩⟩⟩⟩)))⟩; have n3_ : Za (Kd.V k40 40 w29 w.heap.size (fun k_ => some k_ ≠ (.slice Ao9 t619.length co9 : Value).ownBlock ∧ k_ ≠ gb626 ∧ k_ ≠ gb640 ∧ k_ ≠ gb654) (.slice Ao19 t636.length co19) t636) := ⟨(by rw [hw]; exact (ZVf (Kd.V_mono HO638.out (fun k_ hk => (⟨hk, hk.2⟩ : _ ∧ k_ ≠ gb654))) (fun _ hk => ⟨hk.2, ⟨hk.1.1.1, ⟨hk.1.1.2.1, ⟨hk.1.1.2.2, hk.1.2⟩⟩⟩⟩)))⟩; have n4_ : Za (Kd.V k40 40 w29 w.heap.size (fun k_ => some k_ ≠ (.slice Ao9 t619.length co9 : Value).ownBlock ∧ k_ ≠ gb626 ∧ k_ ≠ gb640 ∧ k_ ≠ gb654) (.slice Ao27 t647.length co27) t647) := ⟨(by rw [hw]; exact (ZVf (Kd.V_mono HO649.out (fun k_ hk => (⟨hk, hk.2⟩ : _ ∧ k_ ≠ gb654))) (fun _ hk => ⟨hk.2, ⟨hk.1.1.1, ⟨hk.1.1.2.1, ⟨hk.1.1.2.2, hk.1.2⟩⟩⟩⟩)))⟩; have n5_ : Za (Kd.V k40 40 w29 w.heap.size (fun k_ => some k_ ≠ (.slice Ao9 t619.length co9 : Value).ownBlock ∧ k_ ≠ gb626 ∧ k_ ≠ gb640 ∧ k_ ≠ gb654) (.slice Ao28 t650.length co28) t650) := ⟨(by rw [hw]; exact (ZVf (Kd.V_mono HO652.out (fun k_ hk => (⟨hk, hk.2⟩ : _ ∧ k_ ≠ gb654))) (fun _ hk => ⟨hk.2, ⟨hk.1.1.1, ⟨hk.1.1.2.1, ⟨hk.1.1.2.2, hk.1.2⟩⟩⟩⟩)))⟩; have n6_ : Za (w29.heap[gb626]? = some (.cells #[.slice Ao9 t619.length co9, .slice Ao11 t622.length co11] 26 (0, 0))) := ⟨(by rw [hw]; exact (ZZ BK626.out))⟩; have n7_ : Za (w29.heap[gb640]? = some (.cells #[.int .i64 t627, .int .i64 t628, .int .i64 t629, .int .i64 t630, .int .i64 t631, .int .i64 t632, .slice Ao18 t633.length co18, .slice Ao19 t636.length co19] 40 (0, 0))) := ⟨(by rw [hw]; exact (ZZ BK640.out))⟩; have n8_ : Za (w29.heap[gb654]? = some (.cells #[.int .i64 t641, .int .i64 t642, .int .i64 t643, .int .i64 t644, .int .i64 t645, .int .i64 t646, .slice Ao27 t647.length co27, .slice Ao28 t650.length co28] 40 (0, 0))) := ⟨(by rw [hw]; exact (ZZ BK654.out))⟩; have n9_ : Za (Below w.heap.size w w29) := ⟨(by rw [hw]; exact (ZB))⟩; clear hw HO621 HO624 HO635 HO638 HO649 HO652 BK626 BK640 BK654 HB; have HO621 := n0_; have HO624 := n1_; have HO635 := n2_; have HO638 := n3_; have HO649 := n4_; have HO652 := n5_; have BK626 := n6_; have BK640 := n7_; have BK654 := n8_; have HB := n9_; clear n0_ n1_ n2_ n3_ n4_ n5_ n6_ n7_ n8_ n9_))
 (try simp only [Act.put, List.setIfInBounds_toArray, List.set_cons_zero, List.set_cons_succ])
 go_cut [48] (fun v48 wc => ∃ (kq : Nat) (x48_5 : Bool), v48 = .bool x48_5 ∧ Za (laws_FnProgAt.j0 kq t625 t639 t653 x48_5 t619 t622 t627 t628 t629 t630 t631 t632 t633 t636 t641 t642 t643 t644 t645 t646 t647 t650 = some r) ∧ Za (kq ≤ k) ∧ Za (Kd.R k35 35 wc w.heap.size (fun _ => True) (.slice Ao9 t619.length co9) t619) ∧ Za (Kd.N k40 40 wc w.heap.size (fun k_ => some k_ ≠ ((.slice Ao9 t619.length co9) : Value).ownBlock ∧ k_ ≠ gb626 ∧ k_ ≠ gb640 ∧ k_ ≠ gb654) (.slice Ao11 t622.length co11) t622) ∧ Za (Kd.V k40 40 wc w.heap.size (fun k_ => some k_ ≠ ((.slice Ao9 t619.length co9) : Value).ownBlock ∧ k_ ≠ gb626 ∧ k_ ≠ gb640 ∧ k_ ≠ gb654) (.slice Ao18 t633.length co18) t633) ∧ Za (Kd.V k40 40 wc w.heap.size (fun k_ => some k_ ≠ ((.slice Ao9 t619.length co9) : Value).ownBlock ∧ k_ ≠ gb626 ∧ k_ ≠ gb640 ∧ k_ ≠ gb654) (.slice Ao19 t636.length co19) t636) ∧ Za (Kd.V k40 40 wc w.heap.size (fun k_ => some k_ ≠ ((.slice Ao9 t619.length co9) : Value).ownBlock ∧ k_ ≠ gb626 ∧ k_ ≠ gb640 ∧ k_ ≠ gb654) (.slice Ao27 t647.length co27) t647) ∧ Za (Kd.V k40 40 wc w.heap.size (fun k_ => some k_ ≠ ((.slice Ao9 t619.length co9) : Value).ownBlock ∧ k_ ≠ gb626 ∧ k_ ≠ gb640 ∧ k_ ≠ gb654) (.slice Ao28 t650.length co28) t650) ∧ Za (wc.heap[gb626]? = some (.cells #[(.slice Ao9 t619.length co9), (.slice Ao11 t622.length co11)] 26 (0, 0))) ∧ Za (wc.heap[gb640]? = some (.cells #[.int .i64 t627, .int .i64 t628, .int .i64 t629, .int .i64 t630, .int .i64 t631, .int .i64 t632, (.slice Ao18 t633.length co18), (.slice Ao19 t636.length co19)] 40 (0, 0))) ∧ Za (wc.heap[gb654]? = some (.cells #[.int .i64 t641, .int .i64 t642, .int .i64 t643, .int .i64 t644, .int .i64 t645, .int .i64 t646, (.slice Ao27 t647.length co27), (.slice Ao28 t650.length co28)] 40 (0, 0))) ∧ Za (Below w.heap.size w wc))
 case first => (
 have H := HC6.out
 clear HC6
 by_cases c30 : (t653 != t639) = true
 ·(
 rw [if_pos c30] at H
 have c30b0 : (t653 != t639) = true := c30
 (try (have c30b1 : decide (t653 = t639) = false := by simpa using c30))
 (try (have c30b2 : (t653 == t639) = false := by simpa using c30))
 (try (have c30b3 : ¬ (t653 = t639) := by simpa using c30))
 clear c30
 (first | rw [c30b0] | (simp only [i64_w, i32_w]; rw [c30b0]) | skip)
 have H' := AM H
 clear H
 go_wp2
 go_meet
 case rel => exact ⟨_, (true), ZSM, H', ⟨by first | omega | exact Nat.le_refl _⟩, ⟨ZR HO621.out⟩, ⟨ZRN HO624.out⟩, ⟨ZRV HO635.out⟩, ⟨ZRV HO638.out⟩, ⟨ZRV HO649.out⟩, ⟨ZRV HO652.out⟩, ⟨ZK BK626.out⟩, ⟨ZK BK640.out⟩, ⟨ZK BK654.out⟩, ⟨ZB⟩⟩)
 ·(
 rw [if_neg c30] at H
 have c30b0 : (t653 != t639) = false := by simpa using c30
 (try (have c30b1 : decide (t653 = t639) = true := by simpa using c30))
 (try (have c30b2 : (t653 == t639) = true := by simpa using c30))
 clear c30
 (first | rw [c30b0] | (simp only [i64_w, i32_w]; rw [c30b0]) | skip)
 obtain ⟨y655, hy655⟩ : ∃ y_ : List (S40), y_ = (([(⟨t641, t642, (⟨t643, t644, t645⟩ : S38), t646, t647, t650⟩ : S40)] : List (S40))) := ⟨_, rfl⟩
 replace H : ((laws_lcSteps.f k y655 (([(⟨t627, t628, (⟨t629, t630, t631⟩ : S38), t632, t633, t636⟩ : S40)] : List (S40)))).bind fun t661 => (if t661 = true then (laws_FnProgAt.j0 k t625 t639 t653 (!t653) t619 t622 t627 t628 t629 t630 t631 t632 t633 t636 t641 t642 t643 t644 t645 t646 t647 t650) else (laws_FnProgAt.j0 k t625 t639 t653 true t619 t622 t627 t628 t629 t630 t631 t632 t633 t636 t641 t642 t643 t644 t645 t646 t647 t650))) = some r := by rw [hy655]; exact H
 have Ny655 := AM hy655
 clear hy655
 obtain ⟨y658, hy658⟩ : ∃ y_ : List (S40), y_ = (([(⟨t627, t628, (⟨t629, t630, t631⟩ : S38), t632, t633, t636⟩ : S40)] : List (S40))) := ⟨_, rfl⟩
 replace H : ((laws_lcSteps.f k y655 y658).bind fun t661 => (if t661 = true then (laws_FnProgAt.j0 k t625 t639 t653 (!t653) t619 t622 t627 t628 t629 t630 t631 t632 t633 t636 t641 t642 t643 t644 t645 t646 t647 t650) else (laws_FnProgAt.j0 k t625 t639 t653 true t619 t622 t627 t628 t629 t630 t631 t632 t633 t636 t641 t642 t643 t644 t645 t646 t647 t650))) = some r := by rw [hy658]; exact H
 have Ny658 := AM hy658
 clear hy658
 obtain ⟨t661, A31, H⟩ := ZOB H; try dsimp only at H
 by_cases c32 : t661 = true
 ·(
 subst c32
 have H1 := H; rw [if_pos rfl] at H1
 clear H
 have H := H1
 clear H1
 have H' := AM H
 clear H
 have hnb33 := NB654_626.out
 have hnc33 := NB626_654.out
 have hnb34 := NB654_640.out
 have hnc34 := NB640_654.out
 have hcz35 := ZC8 w29 BK654
 go_wp2_with (first | ((with_reducible refine gate_dst (N := 39) rfl ?_); refine Kd.N_litG k40 _ 40 ?hg (N' := 39) ?hd (xs := ([(⟨t641, t642, (⟨t643, t644, t645⟩ : S38), t646, t647, t650⟩ : S40)] : List (S40))) (inner := [.int .i64 t641, .int .i64 t642, .int .i64 t643, .int .i64 t644, .int .i64 t645, .int .i64 t646, .slice Ao27 t647.length co27, .slice Ao28 t650.length co28]) (ok := (fun k_ => some k_ ≠ (.slice Ao9 t619.length co9 : Value).ownBlock ∧ k_ ≠ gb626 ∧ k_ ≠ gb640 ∧ k_ ≠ gb654)) (okp := (fun k_ => some k_ ≠ (.slice Ao9 t619.length co9 : Value).ownBlock ∧ k_ ≠ gb626 ∧ k_ ≠ gb640 ∧ k_ ≠ gb654)) ?hr ?hp (fun _ hk => hk) ((show ∀ k_, w29.heap.size ≤ k_ → (fun k_ => some k_ ≠ (.slice Ao9 t619.length co9 : Value).ownBlock ∧ k_ ≠ gb626 ∧ k_ ≠ gb640 ∧ k_ ≠ gb654) k_ from fun k_ hk => ⟨Kd.fresh' (Kd.R_lt (ZR HO621.out)) k_ hk, Kd.freshB (g := gb626) (o := .cells #[.slice Ao9 t619.length co9, .slice Ao11 t622.length co11] 26 (0, 0)) (ZK BK626.out) k_ hk, Kd.freshB (g := gb640) (o := .cells #[.int .i64 t627, .int .i64 t628, .int .i64 t629, .int .i64 t630, .int .i64 t631, .int .i64 t632, .slice Ao18 t633.length co18, .slice Ao19 t636.length co19] 40 (0, 0)) (ZK BK640.out) k_ hk, Kd.freshB (g := gb654) (o := .cells #[.int .i64 t641, .int .i64 t642, .int .i64 t643, .int .i64 t644, .int .i64 t645, .int .i64 t646, .slice Ao27 t647.length co27, .slice Ao28 t650.length co28] 40 (0, 0)) (ZK BK654.out) k_ hk⟩) _ (Nat.le_refl _)) (Below.refl _ _) (Nat.le_refl _) (by simp) ?_; (case hd => rfl); (case hg => rfl); (case hr => first | (go_simp; done) | (go_simp; rfl)); (case hp => exact (Reps.c8 (show Kd.FK k40 _ _ (⟨t641, t642, (⟨t643, t644, t645⟩ : S38), t646, t647, t650⟩ : S40) [.int .i64 t641, .int .i64 t642, .int .i64 t643, .int .i64 t644, .int .i64 t645, .int .i64 t646, .slice Ao27 t647.length co27, .slice Ao28 t650.length co28] from (k40_mkF _ _ (⟨t641, t642, (⟨t643, t644, t645⟩ : S38), t646, t647, t650⟩ : S40) (Kd.V_reads' (Kd.V_mono (ok' := (fun k_ => some k_ ≠ (.slice Ao9 t619.length co9 : Value).ownBlock ∧ k_ ≠ gb626 ∧ k_ ≠ gb640 ∧ k_ ≠ gb654)) (HO649.out) (fun k_ hk => ⟨hk.1, ⟨hk.2.1, ⟨hk.2.2.1, hk.2.2.2⟩⟩⟩))).2.1 (Kd.V_F (Kd.V_mono (ok' := (fun k_ => some k_ ≠ (.slice Ao9 t619.length co9 : Value).ownBlock ∧ k_ ≠ gb626 ∧ k_ ≠ gb640 ∧ k_ ≠ gb654)) (HO649.out) (fun k_ hk => ⟨hk.1, ⟨hk.2.1, ⟨hk.2.2.1, hk.2.2.2⟩⟩⟩))) (Kd.V_reads' (Kd.V_mono (ok' := (fun k_ => some k_ ≠ (.slice Ao9 t619.length co9 : Value).ownBlock ∧ k_ ≠ gb626 ∧ k_ ≠ gb640 ∧ k_ ≠ gb654)) (HO652.out) (fun k_ hk => ⟨hk.1, ⟨hk.2.1, ⟨hk.2.2.1, hk.2.2.2⟩⟩⟩))).2.1 (Kd.V_F (Kd.V_mono (ok' := (fun k_ => some k_ ≠ (.slice Ao9 t619.length co9 : Value).ownBlock ∧ k_ ≠ gb626 ∧ k_ ≠ gb640 ∧ k_ ≠ gb654)) (HO652.out) (fun k_ hk => ⟨hk.1, ⟨hk.2.1, ⟨hk.2.2.1, hk.2.2.2⟩⟩⟩))))) (Reps.none _ _))); intro v656 w36 ho37 hb hg_ hnew_; clear hg_ hnew_; (first | rw [← Ny655.out] at ho37 | (simp only [Int.reduceToNat] at ho37; rw [← Ny655.out] at ho37)); have HO657 := AM (Kd.N_lower ho37 (below_size (ZB))); replace HO621 := AM (Kd.R_below (ZR HO621.out) hb); replace HO624 := AM (Kd.N_elder' (ZRN HO624.out) (Kd.N_base ho37) hb); replace HO635 := AM (Kd.V_elder' (ZRV HO635.out) (Kd.N_base ho37) hb); replace HO638 := AM (Kd.V_elder' (ZRV HO638.out) (Kd.N_base ho37) hb); replace HO649 := AM (Kd.V_elder' (ZRV HO649.out) (Kd.N_base ho37) hb); replace HO652 := AM (Kd.V_elder' (ZRV HO652.out) (Kd.N_base ho37) hb); replace BK626 := ZW BK626 hb; replace BK640 := ZW BK640 hb; replace BK654 := ZW BK654 hb; replace HB := ZT HB hb; clear hb ho37; have hnb38 := NB640_626.out; have hnc38 := NB626_640.out; have hcz39 := ZC8 w36 BK640) | ((with_reducible refine gate_dst (N := 41) rfl ?_); refine Kd.N_litG k40 _ 40 ?hg (N' := 41) ?hd (xs := ([(⟨t627, t628, (⟨t629, t630, t631⟩ : S38), t632, t633, t636⟩ : S40)] : List (S40))) (inner := [.int .i64 t627, .int .i64 t628, .int .i64 t629, .int .i64 t630, .int .i64 t631, .int .i64 t632, .slice Ao18 t633.length co18, .slice Ao19 t636.length co19]) (ok := (fun k_ => some k_ ≠ (.slice Ao9 t619.length co9 : Value).ownBlock ∧ some k_ ≠ (v656 : Value).ownBlock ∧ k_ ≠ gb626 ∧ k_ ≠ gb640 ∧ k_ ≠ gb654)) (okp := (fun k_ => some k_ ≠ (.slice Ao9 t619.length co9 : Value).ownBlock ∧ some k_ ≠ (v656 : Value).ownBlock ∧ k_ ≠ gb626 ∧ k_ ≠ gb640 ∧ k_ ≠ gb654)) ?hr ?hp (fun _ hk => hk) ((show ∀ k_, w36.heap.size ≤ k_ → (fun k_ => some k_ ≠ (.slice Ao9 t619.length co9 : Value).ownBlock ∧ some k_ ≠ (v656 : Value).ownBlock ∧ k_ ≠ gb626 ∧ k_ ≠ gb640 ∧ k_ ≠ gb654) k_ from fun k_ hk => ⟨Kd.fresh' (Kd.R_lt (ZR HO621.out)) k_ hk, Kd.fresh' (Kd.N_lt (ZRN HO657.out)) k_ hk, Kd.freshB (g := gb626) (o := .cells #[.slice Ao9 t619.length co9, .slice Ao11 t622.length co11] 26 (0, 0)) (ZK BK626.out) k_ hk, Kd.freshB (g := gb640) (o := .cells #[.int .i64 t627, .int .i64 t628, .int .i64 t629, .int .i64 t630, .int .i64 t631, .int .i64 t632, .slice Ao18 t633.length co18, .slice Ao19 t636.length co19] 40 (0, 0)) (ZK BK640.out) k_ hk, Kd.freshB (g := gb654) (o := .cells #[.int .i64 t641, .int .i64 t642, .int .i64 t643, .int .i64 t644, .int .i64 t645, .int .i64 t646, .slice Ao27 t647.length co27, .slice Ao28 t650.length co28] 40 (0, 0)) (ZK BK654.out) k_ hk⟩) _ (Nat.le_refl _)) (Below.refl _ _) (Nat.le_refl _) (by simp) ?_; (case hd => rfl); (case hg => rfl); (case hr => first | (go_simp; done) | (go_simp; rfl)); (case hp => exact (Reps.c8 (show Kd.FK k40 _ _ (⟨t627, t628, (⟨t629, t630, t631⟩ : S38), t632, t633, t636⟩ : S40) [.int .i64 t627, .int .i64 t628, .int .i64 t629, .int .i64 t630, .int .i64 t631, .int .i64 t632, .slice Ao18 t633.length co18, .slice Ao19 t636.length co19] from (k40_mkF _ _ (⟨t627, t628, (⟨t629, t630, t631⟩ : S38), t632, t633, t636⟩ : S40) (Kd.V_reads' (Kd.V_mono (ok' := (fun k_ => some k_ ≠ (.slice Ao9 t619.length co9 : Value).ownBlock ∧ some k_ ≠ (v656 : Value).ownBlock ∧ k_ ≠ gb626 ∧ k_ ≠ gb640 ∧ k_ ≠ gb654)) (HO635.out) (fun k_ hk => ⟨hk.1.1, ⟨hk.2, ⟨hk.1.2.1, ⟨hk.1.2.2.1, hk.1.2.2.2⟩⟩⟩⟩))).2.1 (Kd.V_F (Kd.V_mono (ok' := (fun k_ => some k_ ≠ (.slice Ao9 t619.length co9 : Value).ownBlock ∧ some k_ ≠ (v656 : Value).ownBlock ∧ k_ ≠ gb626 ∧ k_ ≠ gb640 ∧ k_ ≠ gb654)) (HO635.out) (fun k_ hk => ⟨hk.1.1, ⟨hk.2, ⟨hk.1.2.1, ⟨hk.1.2.2.1, hk.1.2.2.2⟩⟩⟩⟩))) (Kd.V_reads' (Kd.V_mono (ok' := (fun k_ => some k_ ≠ (.slice Ao9 t619.length co9 : Value).ownBlock ∧ some k_ ≠ (v656 : Value).ownBlock ∧ k_ ≠ gb626 ∧ k_ ≠ gb640 ∧ k_ ≠ gb654)) (HO638.out) (fun k_ hk => ⟨hk.1.1, ⟨hk.2, ⟨hk.1.2.1, ⟨hk.1.2.2.1, hk.1.2.2.2⟩⟩⟩⟩))).2.1 (Kd.V_F (Kd.V_mono (ok' := (fun k_ => some k_ ≠ (.slice Ao9 t619.length co9 : Value).ownBlock ∧ some k_ ≠ (v656 : Value).ownBlock ∧ k_ ≠ gb626 ∧ k_ ≠ gb640 ∧ k_ ≠ gb654)) (HO638.out) (fun k_ hk => ⟨hk.1.1, ⟨hk.2, ⟨hk.1.2.1, ⟨hk.1.2.2.1, hk.1.2.2.2⟩⟩⟩⟩))))) (Reps.none _ _))); intro v659 w40 ho41 hb hg_ hnew_; clear hg_ hnew_; (first | rw [← Ny658.out] at ho41 | (simp only [Int.reduceToNat] at ho41; rw [← Ny658.out] at ho41)); have HO660 := AM (Kd.N_lower ho41 (below_size (ZB))); replace HO621 := AM (Kd.R_below (ZR HO621.out) hb); replace HO624 := AM (Kd.N_elder' (ZRN HO624.out) (Kd.N_base ho41) hb); replace HO635 := AM (Kd.V_elder' (ZRV HO635.out) (Kd.N_base ho41) hb); replace HO638 := AM (Kd.V_elder' (ZRV HO638.out) (Kd.N_base ho41) hb); replace HO649 := AM (Kd.V_elder' (ZRV HO649.out) (Kd.N_base ho41) hb); replace HO652 := AM (Kd.V_elder' (ZRV HO652.out) (Kd.N_base ho41) hb); replace HO657 := AM (Kd.N_elder' (ZRN HO657.out) (Kd.N_base ho41) hb); replace BK626 := ZW BK626 hb; replace BK640 := ZW BK640 hb; replace BK654 := ZW BK654 hb; replace HB := ZT HB hb; clear hb ho41; obtain ⟨Ao42, co42, eo42⟩ := Kd.N_slice HO657.out; subst eo42; obtain ⟨Ao43, co43, eo43⟩ := Kd.N_slice HO660.out; subst eo43) | (go_at_call 22; (with_reducible refine (laws_lcSteps.calls k _ _ y655 _ _ y658 true _ ?side1 ?side2 ?side3 ?side4 A31.out).mono ?_); (case side1 => exact ZQ ((Kd.N_reads' HO657.out).2.2)); (case side2 => exact (Kd.N_reads' HO657.out).2.1); (case side3 => exact ZQ ((Kd.N_reads' HO660.out).2.2)); (case side4 => exact (Kd.N_reads' HO660.out).2.1); rintro e w44 ⟨rfl, hb⟩; replace HO621 := AM (Kd.R_below (ZR HO621.out) hb); replace HO624 := AM (Kd.N_below (ZRN HO624.out) hb); replace HO635 := AM (Kd.V_below (ZRV HO635.out) hb); replace HO638 := AM (Kd.V_below (ZRV HO638.out) hb); replace HO649 := AM (Kd.V_below (ZRV HO649.out) hb); replace HO652 := AM (Kd.V_below (ZRV HO652.out) hb); replace HO657 := AM (Kd.N_below (ZRN HO657.out) hb); replace HO660 := AM (Kd.N_below (ZRN HO660.out) hb); replace BK626 := ZW BK626 hb; replace BK640 := ZW BK640 hb; replace BK654 := ZW BK654 hb; replace HB := ZT HB hb; clear hb))
 go_meet
 case rel => exact ⟨_, (!t653), ZSM, H', ⟨by first | omega | exact Nat.le_refl _⟩, ⟨ZR HO621.out⟩, ⟨ZNm HO624.out (fun _ hk => ⟨hk.1.1.1, ⟨hk.1.1.2.1, ⟨hk.1.1.2.2.1, hk.1.1.2.2.2⟩⟩⟩)⟩, ⟨ZVm HO635.out (fun _ hk => ⟨hk.1.1.1, ⟨hk.1.1.2.1, ⟨hk.1.1.2.2.1, hk.1.1.2.2.2⟩⟩⟩)⟩, ⟨ZVm HO638.out (fun _ hk => ⟨hk.1.1.1, ⟨hk.1.1.2.1, ⟨hk.1.1.2.2.1, hk.1.1.2.2.2⟩⟩⟩)⟩, ⟨ZVm HO649.out (fun _ hk => ⟨hk.1.1.1, ⟨hk.1.1.2.1, ⟨hk.1.1.2.2.1, hk.1.1.2.2.2⟩⟩⟩)⟩, ⟨ZVm HO652.out (fun _ hk => ⟨hk.1.1.1, ⟨hk.1.1.2.1, ⟨hk.1.1.2.2.1, hk.1.1.2.2.2⟩⟩⟩)⟩, ⟨ZK BK626.out⟩, ⟨ZK BK640.out⟩, ⟨ZK BK654.out⟩, ⟨ZB⟩⟩)
 ·(
 replace c32 := Bool.eq_false_iff.mpr c32
 subst c32
 have H1 := H; rw [if_neg ZFT] at H1
 clear H
 have H := H1
 clear H1
 have H' := AM H
 clear H
 have hnb45 := NB654_626.out
 have hnc45 := NB626_654.out
 have hnb46 := NB654_640.out
 have hnc46 := NB640_654.out
 have hcz47 := ZC8 w29 BK654
 go_wp2_with (first | ((with_reducible refine gate_dst (N := 39) rfl ?_); refine Kd.N_litG k40 _ 40 ?hg (N' := 39) ?hd (xs := ([(⟨t641, t642, (⟨t643, t644, t645⟩ : S38), t646, t647, t650⟩ : S40)] : List (S40))) (inner := [.int .i64 t641, .int .i64 t642, .int .i64 t643, .int .i64 t644, .int .i64 t645, .int .i64 t646, .slice Ao27 t647.length co27, .slice Ao28 t650.length co28]) (ok := (fun k_ => some k_ ≠ (.slice Ao9 t619.length co9 : Value).ownBlock ∧ k_ ≠ gb626 ∧ k_ ≠ gb640 ∧ k_ ≠ gb654)) (okp := (fun k_ => some k_ ≠ (.slice Ao9 t619.length co9 : Value).ownBlock ∧ k_ ≠ gb626 ∧ k_ ≠ gb640 ∧ k_ ≠ gb654)) ?hr ?hp (fun _ hk => hk) ((show ∀ k_, w29.heap.size ≤ k_ → (fun k_ => some k_ ≠ (.slice Ao9 t619.length co9 : Value).ownBlock ∧ k_ ≠ gb626 ∧ k_ ≠ gb640 ∧ k_ ≠ gb654) k_ from fun k_ hk => ⟨Kd.fresh' (Kd.R_lt (ZR HO621.out)) k_ hk, Kd.freshB (g := gb626) (o := .cells #[.slice Ao9 t619.length co9, .slice Ao11 t622.length co11] 26 (0, 0)) (ZK BK626.out) k_ hk, Kd.freshB (g := gb640) (o := .cells #[.int .i64 t627, .int .i64 t628, .int .i64 t629, .int .i64 t630, .int .i64 t631, .int .i64 t632, .slice Ao18 t633.length co18, .slice Ao19 t636.length co19] 40 (0, 0)) (ZK BK640.out) k_ hk, Kd.freshB (g := gb654) (o := .cells #[.int .i64 t641, .int .i64 t642, .int .i64 t643, .int .i64 t644, .int .i64 t645, .int .i64 t646, .slice Ao27 t647.length co27, .slice Ao28 t650.length co28] 40 (0, 0)) (ZK BK654.out) k_ hk⟩) _ (Nat.le_refl _)) (Below.refl _ _) (Nat.le_refl _) (by simp) ?_; (case hd => rfl); (case hg => rfl); (case hr => first | (go_simp; done) | (go_simp; rfl)); (case hp => exact (Reps.c8 (show Kd.FK k40 _ _ (⟨t641, t642, (⟨t643, t644, t645⟩ : S38), t646, t647, t650⟩ : S40) [.int .i64 t641, .int .i64 t642, .int .i64 t643, .int .i64 t644, .int .i64 t645, .int .i64 t646, .slice Ao27 t647.length co27, .slice Ao28 t650.length co28] from (k40_mkF _ _ (⟨t641, t642, (⟨t643, t644, t645⟩ : S38), t646, t647, t650⟩ : S40) (Kd.V_reads' (Kd.V_mono (ok' := (fun k_ => some k_ ≠ (.slice Ao9 t619.length co9 : Value).ownBlock ∧ k_ ≠ gb626 ∧ k_ ≠ gb640 ∧ k_ ≠ gb654)) (HO649.out) (fun k_ hk => ⟨hk.1, ⟨hk.2.1, ⟨hk.2.2.1, hk.2.2.2⟩⟩⟩))).2.1 (Kd.V_F (Kd.V_mono (ok' := (fun k_ => some k_ ≠ (.slice Ao9 t619.length co9 : Value).ownBlock ∧ k_ ≠ gb626 ∧ k_ ≠ gb640 ∧ k_ ≠ gb654)) (HO649.out) (fun k_ hk => ⟨hk.1, ⟨hk.2.1, ⟨hk.2.2.1, hk.2.2.2⟩⟩⟩))) (Kd.V_reads' (Kd.V_mono (ok' := (fun k_ => some k_ ≠ (.slice Ao9 t619.length co9 : Value).ownBlock ∧ k_ ≠ gb626 ∧ k_ ≠ gb640 ∧ k_ ≠ gb654)) (HO652.out) (fun k_ hk => ⟨hk.1, ⟨hk.2.1, ⟨hk.2.2.1, hk.2.2.2⟩⟩⟩))).2.1 (Kd.V_F (Kd.V_mono (ok' := (fun k_ => some k_ ≠ (.slice Ao9 t619.length co9 : Value).ownBlock ∧ k_ ≠ gb626 ∧ k_ ≠ gb640 ∧ k_ ≠ gb654)) (HO652.out) (fun k_ hk => ⟨hk.1, ⟨hk.2.1, ⟨hk.2.2.1, hk.2.2.2⟩⟩⟩))))) (Reps.none _ _))); intro v656 w48 ho49 hb hg_ hnew_; clear hg_ hnew_; (first | rw [← Ny655.out] at ho49 | (simp only [Int.reduceToNat] at ho49; rw [← Ny655.out] at ho49)); have HO657 := AM (Kd.N_lower ho49 (below_size (ZB))); replace HO621 := AM (Kd.R_below (ZR HO621.out) hb); replace HO624 := AM (Kd.N_elder' (ZRN HO624.out) (Kd.N_base ho49) hb); replace HO635 := AM (Kd.V_elder' (ZRV HO635.out) (Kd.N_base ho49) hb); replace HO638 := AM (Kd.V_elder' (ZRV HO638.out) (Kd.N_base ho49) hb); replace HO649 := AM (Kd.V_elder' (ZRV HO649.out) (Kd.N_base ho49) hb); replace HO652 := AM (Kd.V_elder' (ZRV HO652.out) (Kd.N_base ho49) hb); replace BK626 := ZW BK626 hb; replace BK640 := ZW BK640 hb; replace BK654 := ZW BK654 hb; replace HB := ZT HB hb; clear hb ho49; have hnb50 := NB640_626.out; have hnc50 := NB626_640.out; have hcz51 := ZC8 w48 BK640) | ((with_reducible refine gate_dst (N := 41) rfl ?_); refine Kd.N_litG k40 _ 40 ?hg (N' := 41) ?hd (xs := ([(⟨t627, t628, (⟨t629, t630, t631⟩ : S38), t632, t633, t636⟩ : S40)] : List (S40))) (inner := [.int .i64 t627, .int .i64 t628, .int .i64 t629, .int .i64 t630, .int .i64 t631, .int .i64 t632, .slice Ao18 t633.length co18, .slice Ao19 t636.length co19]) (ok := (fun k_ => some k_ ≠ (.slice Ao9 t619.length co9 : Value).ownBlock ∧ some k_ ≠ (v656 : Value).ownBlock ∧ k_ ≠ gb626 ∧ k_ ≠ gb640 ∧ k_ ≠ gb654)) (okp := (fun k_ => some k_ ≠ (.slice Ao9 t619.length co9 : Value).ownBlock ∧ some k_ ≠ (v656 : Value).ownBlock ∧ k_ ≠ gb626 ∧ k_ ≠ gb640 ∧ k_ ≠ gb654)) ?hr ?hp (fun _ hk => hk) ((show ∀ k_, w48.heap.size ≤ k_ → (fun k_ => some k_ ≠ (.slice Ao9 t619.length co9 : Value).ownBlock ∧ some k_ ≠ (v656 : Value).ownBlock ∧ k_ ≠ gb626 ∧ k_ ≠ gb640 ∧ k_ ≠ gb654) k_ from fun k_ hk => ⟨Kd.fresh' (Kd.R_lt (ZR HO621.out)) k_ hk, Kd.fresh' (Kd.N_lt (ZRN HO657.out)) k_ hk, Kd.freshB (g := gb626) (o := .cells #[.slice Ao9 t619.length co9, .slice Ao11 t622.length co11] 26 (0, 0)) (ZK BK626.out) k_ hk, Kd.freshB (g := gb640) (o := .cells #[.int .i64 t627, .int .i64 t628, .int .i64 t629, .int .i64 t630, .int .i64 t631, .int .i64 t632, .slice Ao18 t633.length co18, .slice Ao19 t636.length co19] 40 (0, 0)) (ZK BK640.out) k_ hk, Kd.freshB (g := gb654) (o := .cells #[.int .i64 t641, .int .i64 t642, .int .i64 t643, .int .i64 t644, .int .i64 t645, .int .i64 t646, .slice Ao27 t647.length co27, .slice Ao28 t650.length co28] 40 (0, 0)) (ZK BK654.out) k_ hk⟩) _ (Nat.le_refl _)) (Below.refl _ _) (Nat.le_refl _) (by simp) ?_; (case hd => rfl); (case hg => rfl); (case hr => first | (go_simp; done) | (go_simp; rfl)); (case hp => exact (Reps.c8 (show Kd.FK k40 _ _ (⟨t627, t628, (⟨t629, t630, t631⟩ : S38), t632, t633, t636⟩ : S40) [.int .i64 t627, .int .i64 t628, .int .i64 t629, .int .i64 t630, .int .i64 t631, .int .i64 t632, .slice Ao18 t633.length co18, .slice Ao19 t636.length co19] from (k40_mkF _ _ (⟨t627, t628, (⟨t629, t630, t631⟩ : S38), t632, t633, t636⟩ : S40) (Kd.V_reads' (Kd.V_mono (ok' := (fun k_ => some k_ ≠ (.slice Ao9 t619.length co9 : Value).ownBlock ∧ some k_ ≠ (v656 : Value).ownBlock ∧ k_ ≠ gb626 ∧ k_ ≠ gb640 ∧ k_ ≠ gb654)) (HO635.out) (fun k_ hk => ⟨hk.1.1, ⟨hk.2, ⟨hk.1.2.1, ⟨hk.1.2.2.1, hk.1.2.2.2⟩⟩⟩⟩))).2.1 (Kd.V_F (Kd.V_mono (ok' := (fun k_ => some k_ ≠ (.slice Ao9 t619.length co9 : Value).ownBlock ∧ some k_ ≠ (v656 : Value).ownBlock ∧ k_ ≠ gb626 ∧ k_ ≠ gb640 ∧ k_ ≠ gb654)) (HO635.out) (fun k_ hk => ⟨hk.1.1, ⟨hk.2, ⟨hk.1.2.1, ⟨hk.1.2.2.1, hk.1.2.2.2⟩⟩⟩⟩))) (Kd.V_reads' (Kd.V_mono (ok' := (fun k_ => some k_ ≠ (.slice Ao9 t619.length co9 : Value).ownBlock ∧ some k_ ≠ (v656 : Value).ownBlock ∧ k_ ≠ gb626 ∧ k_ ≠ gb640 ∧ k_ ≠ gb654)) (HO638.out) (fun k_ hk => ⟨hk.1.1, ⟨hk.2, ⟨hk.1.2.1, ⟨hk.1.2.2.1, hk.1.2.2.2⟩⟩⟩⟩))).2.1 (Kd.V_F (Kd.V_mono (ok' := (fun k_ => some k_ ≠ (.slice Ao9 t619.length co9 : Value).ownBlock ∧ some k_ ≠ (v656 : Value).ownBlock ∧ k_ ≠ gb626 ∧ k_ ≠ gb640 ∧ k_ ≠ gb654)) (HO638.out) (fun k_ hk => ⟨hk.1.1, ⟨hk.2, ⟨hk.1.2.1, ⟨hk.1.2.2.1, hk.1.2.2.2⟩⟩⟩⟩))))) (Reps.none _ _))); intro v659 w52 ho53 hb hg_ hnew_; clear hg_ hnew_; (first | rw [← Ny658.out] at ho53 | (simp only [Int.reduceToNat] at ho53; rw [← Ny658.out] at ho53)); have HO660 := AM (Kd.N_lower ho53 (below_size (ZB))); replace HO621 := AM (Kd.R_below (ZR HO621.out) hb); replace HO624 := AM (Kd.N_elder' (ZRN HO624.out) (Kd.N_base ho53) hb); replace HO635 := AM (Kd.V_elder' (ZRV HO635.out) (Kd.N_base ho53) hb); replace HO638 := AM (Kd.V_elder' (ZRV HO638.out) (Kd.N_base ho53) hb); replace HO649 := AM (Kd.V_elder' (ZRV HO649.out) (Kd.N_base ho53) hb); replace HO652 := AM (Kd.V_elder' (ZRV HO652.out) (Kd.N_base ho53) hb); replace HO657 := AM (Kd.N_elder' (ZRN HO657.out) (Kd.N_base ho53) hb); replace BK626 := ZW BK626 hb; replace BK640 := ZW BK640 hb; replace BK654 := ZW BK654 hb; replace HB := ZT HB hb; clear hb ho53; obtain ⟨Ao54, co54, eo54⟩ := Kd.N_slice HO657.out; subst eo54; obtain ⟨Ao55, co55, eo55⟩ := Kd.N_slice HO660.out; subst eo55) | (go_at_call 22; (with_reducible refine (laws_lcSteps.calls k _ _ y655 _ _ y658 false _ ?side1 ?side2 ?side3 ?side4 A31.out).mono ?_); (case side1 => exact ZQ ((Kd.N_reads' HO657.out).2.2)); (case side2 => exact (Kd.N_reads' HO657.out).2.1); (case side3 => exact ZQ ((Kd.N_reads' HO660.out).2.2)); (case side4 => exact (Kd.N_reads' HO660.out).2.1); rintro e w56 ⟨rfl, hb⟩; replace HO621 := AM (Kd.R_below (ZR HO621.out) hb); replace HO624 := AM (Kd.N_below (ZRN HO624.out) hb); replace HO635 := AM (Kd.V_below (ZRV HO635.out) hb); replace HO638 := AM (Kd.V_below (ZRV HO638.out) hb); replace HO649 := AM (Kd.V_below (ZRV HO649.out) hb); replace HO652 := AM (Kd.V_below (ZRV HO652.out) hb); replace HO657 := AM (Kd.N_below (ZRN HO657.out) hb); replace HO660 := AM (Kd.N_below (ZRN HO660.out) hb); replace BK626 := ZW BK626 hb; replace BK640 := ZW BK640 hb; replace BK654 := ZW BK654 hb; replace HB := ZT HB hb; clear hb))
 go_meet
 case rel => exact ⟨_, (true), ZSM, H', ⟨by first | omega | exact Nat.le_refl _⟩, ⟨ZR HO621.out⟩, ⟨ZNm HO624.out (fun _ hk => ⟨hk.1.1.1, ⟨hk.1.1.2.1, ⟨hk.1.1.2.2.1, hk.1.1.2.2.2⟩⟩⟩)⟩, ⟨ZVm HO635.out (fun _ hk => ⟨hk.1.1.1, ⟨hk.1.1.2.1, ⟨hk.1.1.2.2.1, hk.1.1.2.2.2⟩⟩⟩)⟩, ⟨ZVm HO638.out (fun _ hk => ⟨hk.1.1.1, ⟨hk.1.1.2.1, ⟨hk.1.1.2.2.1, hk.1.1.2.2.2⟩⟩⟩)⟩, ⟨ZVm HO649.out (fun _ hk => ⟨hk.1.1.1, ⟨hk.1.1.2.1, ⟨hk.1.1.2.2.1, hk.1.1.2.2.2⟩⟩⟩)⟩, ⟨ZVm HO652.out (fun _ hk => ⟨hk.1.1.1, ⟨hk.1.1.2.1, ⟨hk.1.1.2.2.1, hk.1.1.2.2.2⟩⟩⟩)⟩, ⟨ZK BK626.out⟩, ⟨ZK BK640.out⟩, ⟨ZK BK654.out⟩, ⟨ZB⟩⟩)))
 case rest => (
 clear HC6
 try clear c1
 try clear c2
 try clear c2b0
 try clear c2b1
 try clear p2
 try clear c3
 try clear c4
 try clear c5
 try clear c6
 try clear c8
 try clear c16
 try clear c18
 try clear c19
 try clear c20
 try clear c24
 try clear c25
 try clear c30
 try clear c30b0
 try clear c30b1
 try clear c30b2
 try clear c32
 try clear c33
 try clear c34
 try clear c38
 try clear c45
 try clear c46
 try clear c50
 try clear hcz10
 try clear hcz13
 try clear hcz17
 try clear hcz21
 try clear hcz26
 try clear hcz35
 try clear hcz39
 try clear hcz47
 try clear hcz51
 obtain ⟨kq, x48_5, rfl, HA, HJ5, HO_627000, HO_627001, HO_641006, HO_641007, HO_655006, HO_655007, BK626, BK640, BK654, HB⟩ := hcut
 cases kq with
 | zero => exact absurd HA.out (by simp [laws_FnProgAt.j0])
 | succ kj5 =>
  have H := HA.out
  clear HA
  simp only [laws_FnProgAt.j0] at H
  by_cases c57 : x48_5 = true
  ·(
  subst c57
  have H1 := H; rw [if_pos rfl] at H1
  clear H
  have H := H1
  clear H1
  by_cases c58 : (t653 == t639) = true
  ·(
  rw [if_pos c58] at H
  have c58b0 : (t653 == t639) = true := c58
  (try (have c58b1 : decide (t653 = t639) = true := by simpa using c58))
  (try (have c58b2 : (t653 == t639) = true := by simpa using c58))
  clear c58
  obtain ⟨y662, hy662⟩ : ∃ y_ : List (S40), y_ = (([(⟨t641, t642, (⟨t643, t644, t645⟩ : S38), t646, t647, t650⟩ : S40)] : List (S40))) := ⟨_, rfl⟩
  replace H : ((laws_lcSteps.f kj5 y662 (([(⟨t627, t628, (⟨t629, t630, t631⟩ : S38), t632, t633, t636⟩ : S40)] : List (S40)))).bind fun t668 => (some t668)) = some r := by rw [hy662]; exact H
  have Ny662 := AM hy662
  clear hy662
  obtain ⟨y665, hy665⟩ : ∃ y_ : List (S40), y_ = (([(⟨t627, t628, (⟨t629, t630, t631⟩ : S38), t632, t633, t636⟩ : S40)] : List (S40))) := ⟨_, rfl⟩
  replace H : ((laws_lcSteps.f kj5 y662 y665).bind fun t668 => (some t668)) = some r := by rw [hy665]; exact H
  have Ny665 := AM hy665
  clear hy665
  obtain ⟨t668, A59, H⟩ := ZOB H; try dsimp only at H
  obtain rfl := Option.some.inj H
  have hnb60 := NB654_626.out
  have hnc60 := NB626_654.out
  have hnb61 := NB654_640.out
  have hnc61 := NB640_654.out
  have hcz62 := ZC8 wc BK654
  go_wp2_with (first | ((with_reducible refine gate_dst (N := 54) rfl ?_); refine Kd.N_litG k40 _ 40 ?hg (N' := 54) ?hd (xs := ([(⟨t641, t642, (⟨t643, t644, t645⟩ : S38), t646, t647, t650⟩ : S40)] : List (S40))) (inner := [.int .i64 t641, .int .i64 t642, .int .i64 t643, .int .i64 t644, .int .i64 t645, .int .i64 t646, .slice Ao27 t647.length co27, .slice Ao28 t650.length co28]) (ok := (fun k_ => some k_ ≠ (.slice Ao9 t619.length co9 : Value).ownBlock ∧ k_ ≠ gb626 ∧ k_ ≠ gb640 ∧ k_ ≠ gb654)) (okp := (fun k_ => some k_ ≠ (.slice Ao9 t619.length co9 : Value).ownBlock ∧ k_ ≠ gb626 ∧ k_ ≠ gb640 ∧ k_ ≠ gb654)) ?hr ?hp (fun _ hk => hk) ((show ∀ k_, wc.heap.size ≤ k_ → (fun k_ => some k_ ≠ (.slice Ao9 t619.length co9 : Value).ownBlock ∧ k_ ≠ gb626 ∧ k_ ≠ gb640 ∧ k_ ≠ gb654) k_ from fun k_ hk => ⟨Kd.fresh' (Kd.R_lt (ZR HO_627000.out)) k_ hk, Kd.freshB (g := gb626) (o := .cells #[.slice Ao9 t619.length co9, .slice Ao11 t622.length co11] 26 (0, 0)) (ZK BK626.out) k_ hk, Kd.freshB (g := gb640) (o := .cells #[.int .i64 t627, .int .i64 t628, .int .i64 t629, .int .i64 t630, .int .i64 t631, .int .i64 t632, .slice Ao18 t633.length co18, .slice Ao19 t636.length co19] 40 (0, 0)) (ZK BK640.out) k_ hk, Kd.freshB (g := gb654) (o := .cells #[.int .i64 t641, .int .i64 t642, .int .i64 t643, .int .i64 t644, .int .i64 t645, .int .i64 t646, .slice Ao27 t647.length co27, .slice Ao28 t650.length co28] 40 (0, 0)) (ZK BK654.out) k_ hk⟩) _ (Nat.le_refl _)) (Below.refl _ _) (Nat.le_refl _) (by simp) ?_; (case hd => rfl); (case hg => rfl); (case hr => first | (go_simp; done) | (go_simp; rfl)); (case hp => exact (Reps.c8 (show Kd.FK k40 _ _ (⟨t641, t642, (⟨t643, t644, t645⟩ : S38), t646, t647, t650⟩ : S40) [.int .i64 t641, .int .i64 t642, .int .i64 t643, .int .i64 t644, .int .i64 t645, .int .i64 t646, .slice Ao27 t647.length co27, .slice Ao28 t650.length co28] from (k40_mkF _ _ (⟨t641, t642, (⟨t643, t644, t645⟩ : S38), t646, t647, t650⟩ : S40) (Kd.V_reads' (Kd.V_mono (ok' := (fun k_ => some k_ ≠ (.slice Ao9 t619.length co9 : Value).ownBlock ∧ k_ ≠ gb626 ∧ k_ ≠ gb640 ∧ k_ ≠ gb654)) (HO_655006.out) (fun k_ hk => ⟨hk.1, ⟨hk.2.1, ⟨hk.2.2.1, hk.2.2.2⟩⟩⟩))).2.1 (Kd.V_F (Kd.V_mono (ok' := (fun k_ => some k_ ≠ (.slice Ao9 t619.length co9 : Value).ownBlock ∧ k_ ≠ gb626 ∧ k_ ≠ gb640 ∧ k_ ≠ gb654)) (HO_655006.out) (fun k_ hk => ⟨hk.1, ⟨hk.2.1, ⟨hk.2.2.1, hk.2.2.2⟩⟩⟩))) (Kd.V_reads' (Kd.V_mono (ok' := (fun k_ => some k_ ≠ (.slice Ao9 t619.length co9 : Value).ownBlock ∧ k_ ≠ gb626 ∧ k_ ≠ gb640 ∧ k_ ≠ gb654)) (HO_655007.out) (fun k_ hk => ⟨hk.1, ⟨hk.2.1, ⟨hk.2.2.1, hk.2.2.2⟩⟩⟩))).2.1 (Kd.V_F (Kd.V_mono (ok' := (fun k_ => some k_ ≠ (.slice Ao9 t619.length co9 : Value).ownBlock ∧ k_ ≠ gb626 ∧ k_ ≠ gb640 ∧ k_ ≠ gb654)) (HO_655007.out) (fun k_ hk => ⟨hk.1, ⟨hk.2.1, ⟨hk.2.2.1, hk.2.2.2⟩⟩⟩))))) (Reps.none _ _))); intro v663 w63 ho64 hb hg_ hnew_; clear hg_ hnew_; (first | rw [← Ny662.out] at ho64 | (simp only [Int.reduceToNat] at ho64; rw [← Ny662.out] at ho64)); have HO664 := AM (Kd.N_lower ho64 (below_size (ZB))); replace HO_627000 := AM (Kd.R_below (ZR HO_627000.out) hb); replace HO_627001 := AM (Kd.N_elder' (ZRN HO_627001.out) (Kd.N_base ho64) hb); replace HO_641006 := AM (Kd.V_elder' (ZRV HO_641006.out) (Kd.N_base ho64) hb); replace HO_641007 := AM (Kd.V_elder' (ZRV HO_641007.out) (Kd.N_base ho64) hb); replace HO_655006 := AM (Kd.V_elder' (ZRV HO_655006.out) (Kd.N_base ho64) hb); replace HO_655007 := AM (Kd.V_elder' (ZRV HO_655007.out) (Kd.N_base ho64) hb); replace BK626 := ZW BK626 hb; replace BK640 := ZW BK640 hb; replace BK654 := ZW BK654 hb; replace HB := ZT HB hb; clear hb ho64; have hnb65 := NB640_626.out; have hnc65 := NB626_640.out; have hcz66 := ZC8 w63 BK640) | ((with_reducible refine gate_dst (N := 56) rfl ?_); refine Kd.N_litG k40 _ 40 ?hg (N' := 56) ?hd (xs := ([(⟨t627, t628, (⟨t629, t630, t631⟩ : S38), t632, t633, t636⟩ : S40)] : List (S40))) (inner := [.int .i64 t627, .int .i64 t628, .int .i64 t629, .int .i64 t630, .int .i64 t631, .int .i64 t632, .slice Ao18 t633.length co18, .slice Ao19 t636.length co19]) (ok := (fun k_ => some k_ ≠ (.slice Ao9 t619.length co9 : Value).ownBlock ∧ some k_ ≠ (v663 : Value).ownBlock ∧ k_ ≠ gb626 ∧ k_ ≠ gb640 ∧ k_ ≠ gb654)) (okp := (fun k_ => some k_ ≠ (.slice Ao9 t619.length co9 : Value).ownBlock ∧ some k_ ≠ (v663 : Value).ownBlock ∧ k_ ≠ gb626 ∧ k_ ≠ gb640 ∧ k_ ≠ gb654)) ?hr ?hp (fun _ hk => hk) ((show ∀ k_, w63.heap.size ≤ k_ → (fun k_ => some k_ ≠ (.slice Ao9 t619.length co9 : Value).ownBlock ∧ some k_ ≠ (v663 : Value).ownBlock ∧ k_ ≠ gb626 ∧ k_ ≠ gb640 ∧ k_ ≠ gb654) k_ from fun k_ hk => ⟨Kd.fresh' (Kd.R_lt (ZR HO_627000.out)) k_ hk, Kd.fresh' (Kd.N_lt (ZRN HO664.out)) k_ hk, Kd.freshB (g := gb626) (o := .cells #[.slice Ao9 t619.length co9, .slice Ao11 t622.length co11] 26 (0, 0)) (ZK BK626.out) k_ hk, Kd.freshB (g := gb640) (o := .cells #[.int .i64 t627, .int .i64 t628, .int .i64 t629, .int .i64 t630, .int .i64 t631, .int .i64 t632, .slice Ao18 t633.length co18, .slice Ao19 t636.length co19] 40 (0, 0)) (ZK BK640.out) k_ hk, Kd.freshB (g := gb654) (o := .cells #[.int .i64 t641, .int .i64 t642, .int .i64 t643, .int .i64 t644, .int .i64 t645, .int .i64 t646, .slice Ao27 t647.length co27, .slice Ao28 t650.length co28] 40 (0, 0)) (ZK BK654.out) k_ hk⟩) _ (Nat.le_refl _)) (Below.refl _ _) (Nat.le_refl _) (by simp) ?_; (case hd => rfl); (case hg => rfl); (case hr => first | (go_simp; done) | (go_simp; rfl)); (case hp => exact (Reps.c8 (show Kd.FK k40 _ _ (⟨t627, t628, (⟨t629, t630, t631⟩ : S38), t632, t633, t636⟩ : S40) [.int .i64 t627, .int .i64 t628, .int .i64 t629, .int .i64 t630, .int .i64 t631, .int .i64 t632, .slice Ao18 t633.length co18, .slice Ao19 t636.length co19] from (k40_mkF _ _ (⟨t627, t628, (⟨t629, t630, t631⟩ : S38), t632, t633, t636⟩ : S40) (Kd.V_reads' (Kd.V_mono (ok' := (fun k_ => some k_ ≠ (.slice Ao9 t619.length co9 : Value).ownBlock ∧ some k_ ≠ (v663 : Value).ownBlock ∧ k_ ≠ gb626 ∧ k_ ≠ gb640 ∧ k_ ≠ gb654)) (HO_641006.out) (fun k_ hk => ⟨hk.1.1, ⟨hk.2, ⟨hk.1.2.1, ⟨hk.1.2.2.1, hk.1.2.2.2⟩⟩⟩⟩))).2.1 (Kd.V_F (Kd.V_mono (ok' := (fun k_ => some k_ ≠ (.slice Ao9 t619.length co9 : Value).ownBlock ∧ some k_ ≠ (v663 : Value).ownBlock ∧ k_ ≠ gb626 ∧ k_ ≠ gb640 ∧ k_ ≠ gb654)) (HO_641006.out) (fun k_ hk => ⟨hk.1.1, ⟨hk.2, ⟨hk.1.2.1, ⟨hk.1.2.2.1, hk.1.2.2.2⟩⟩⟩⟩))) (Kd.V_reads' (Kd.V_mono (ok' := (fun k_ => some k_ ≠ (.slice Ao9 t619.length co9 : Value).ownBlock ∧ some k_ ≠ (v663 : Value).ownBlock ∧ k_ ≠ gb626 ∧ k_ ≠ gb640 ∧ k_ ≠ gb654)) (HO_641007.out) (fun k_ hk => ⟨hk.1.1, ⟨hk.2, ⟨hk.1.2.1, ⟨hk.1.2.2.1, hk.1.2.2.2⟩⟩⟩⟩))).2.1 (Kd.V_F (Kd.V_mono (ok' := (fun k_ => some k_ ≠ (.slice Ao9 t619.length co9 : Value).ownBlock ∧ some k_ ≠ (v663 : Value).ownBlock ∧ k_ ≠ gb626 ∧ k_ ≠ gb640 ∧ k_ ≠ gb654)) (HO_641007.out) (fun k_ hk => ⟨hk.1.1, ⟨hk.2, ⟨hk.1.2.1, ⟨hk.1.2.2.1, hk.1.2.2.2⟩⟩⟩⟩))))) (Reps.none _ _))); intro v666 w67 ho68 hb hg_ hnew_; clear hg_ hnew_; (first | rw [← Ny665.out] at ho68 | (simp only [Int.reduceToNat] at ho68; rw [← Ny665.out] at ho68)); have HO667 := AM (Kd.N_lower ho68 (below_size (ZB))); replace HO_627000 := AM (Kd.R_below (ZR HO_627000.out) hb); replace HO_627001 := AM (Kd.N_elder' (ZRN HO_627001.out) (Kd.N_base ho68) hb); replace HO_641006 := AM (Kd.V_elder' (ZRV HO_641006.out) (Kd.N_base ho68) hb); replace HO_641007 := AM (Kd.V_elder' (ZRV HO_641007.out) (Kd.N_base ho68) hb); replace HO_655006 := AM (Kd.V_elder' (ZRV HO_655006.out) (Kd.N_base ho68) hb); replace HO_655007 := AM (Kd.V_elder' (ZRV HO_655007.out) (Kd.N_base ho68) hb); replace HO664 := AM (Kd.N_elder' (ZRN HO664.out) (Kd.N_base ho68) hb); replace BK626 := ZW BK626 hb; replace BK640 := ZW BK640 hb; replace BK654 := ZW BK654 hb; replace HB := ZT HB hb; clear hb ho68; obtain ⟨Ao69, co69, eo69⟩ := Kd.N_slice HO664.out; subst eo69; obtain ⟨Ao70, co70, eo70⟩ := Kd.N_slice HO667.out; subst eo70) | (go_at_call 22; (with_reducible refine (laws_lcSteps.calls kj5 _ _ y662 _ _ y665 t668 _ ?side1 ?side2 ?side3 ?side4 A59.out).mono ?_); (case side1 => exact ZQ ((Kd.N_reads' HO664.out).2.2)); (case side2 => exact (Kd.N_reads' HO664.out).2.1); (case side3 => exact ZQ ((Kd.N_reads' HO667.out).2.2)); (case side4 => exact (Kd.N_reads' HO667.out).2.1); rintro e w71 ⟨rfl, hb⟩; replace HO_627000 := AM (Kd.R_below (ZR HO_627000.out) hb); replace HO_627001 := AM (Kd.N_below (ZRN HO_627001.out) hb); replace HO_641006 := AM (Kd.V_below (ZRV HO_641006.out) hb); replace HO_641007 := AM (Kd.V_below (ZRV HO_641007.out) hb); replace HO_655006 := AM (Kd.V_below (ZRV HO_655006.out) hb); replace HO_655007 := AM (Kd.V_below (ZRV HO_655007.out) hb); replace HO664 := AM (Kd.N_below (ZRN HO664.out) hb); replace HO667 := AM (Kd.N_below (ZRN HO667.out) hb); replace BK626 := ZW BK626 hb; replace BK640 := ZW BK640 hb; replace BK654 := ZW BK654 hb; replace HB := ZT HB hb; clear hb))
  go_ret
  exact ⟨ZE, ZB⟩)
  ·(
  rw [if_neg c58] at H
  exact absurd H (by simp)))
  ·(
  replace c57 := Bool.eq_false_iff.mpr c57
  subst c57
  have H1 := H; rw [if_neg ZFT] at H1
  clear H
  have H := H1
  clear H1
  by_cases c72 : t625 = 0
  ·(
  rw [if_pos c72] at H
  have c72b0 := beq_iff_eq.mpr c72
  have c72b1 := bne_eq_false_iff_eq.mpr c72
  clear c72
  obtain ⟨y669, hy669⟩ : ∃ y_ : List (S40), y_ = (([(⟨t641, t642, (⟨t643, t644, t645⟩ : S38), t646, t647, t650⟩ : S40)] : List (S40))) := ⟨_, rfl⟩
  replace H : (if 1 ≤ (t622.length : Int) then ((laws_lcSteps.f kj5 y669 (t622.take 1)).bind fun t677 => (some t677)) else (none)) = some r := by rw [hy669]; exact H
  have Ny669 := AM hy669
  clear hy669
  by_cases c73 : 1 ≤ (t622.length : Int)
  ·(
  rw [if_pos c73] at H
  have c73b0 := eq_true c73
  have c73b1 := decide_eq_true c73
  clear c73
  obtain ⟨y672, hy672⟩ : ∃ y_ : List (S40), y_ = (t622.take 1) := ⟨_, rfl⟩
  replace H : ((laws_lcSteps.f kj5 y669 y672).bind fun t677 => (some t677)) = some r := by rw [hy672]; exact H
  have Ny672 := AM hy672
  clear hy672
  obtain ⟨t677, A74, H⟩ := ZOB H; try dsimp only at H
  obtain rfl := Option.some.inj H
  try go_wp2
  replace HO_627000 := AM (Kd.R_drew HO_627000.out)
  replace HO_627001 := AM (Kd.N_drew HO_627001.out)
  replace HO_641006 := AM (Kd.V_drew HO_641006.out)
  replace HO_641007 := AM (Kd.V_drew HO_641007.out)
  replace HO_655006 := AM (Kd.V_drew HO_655006.out)
  replace HO_655007 := AM (Kd.V_drew HO_655007.out)
  replace BK626 := AM (blk_drew BK626.out)
  replace BK640 := AM (blk_drew BK640.out)
  replace BK654 := AM (blk_drew BK654.out)
  replace HB := AM (below_drew1 HB.out)
  have q76 : (1 : Int) ≤ ((t622.length : Int) : Int) := ZD
  obtain ⟨i076, hi076, _, hsz76, _⟩ := info_parts info40
  have hroom76 : t622.length ≤ co11 := (Kd.N_reads' HO_627001.out).2.1
  have hC76 : Kd.F k40 _ _ Ao11 t622.length t622 := (Kd.V_at (base := w.heap.size) (Kd.N_V HO_627001.out)).2.2
  have hcut76 := cut_to (P := Try.prog) 24 40 .i64 Try.underlying24 hi076 Ao11 t622.length co11 1 (by omega) q76 hroom76
  have hr76 := Kd.F_take (m := 1) hC76 (by omega)
  have hy76 : y672.length = (1 : Int).toNat := (by rw [Ny672.out, List.length_take]; omega)
  rw [← Ny672.out] at hr76
  rw [← hy76] at hcut76
  have HO676 := AM (show Kd.V k40 40 _ w.heap.size _ (.slice Ao11 y672.length co11) y672 from Kd.V_mk (by omega) hr76)
  have HC676 := AM (show y672.length ≤ co11 from by omega)
  clear hr76 hC76 hroom76 hi076 hsz76
  have KY76 := AM hy76
  clear hy76
  replace q76 := eq_true q76
  refine start_ (n := 7) (S := fun w' => w'.cell? ⟨gb654, 0, none⟩ = some (.int .i64 t641) ∧ w'.cell? ⟨gb654, 1, none⟩ = some (.int .i64 t642) ∧ w'.cell? ⟨gb654, 2, none⟩ = some (.int .i64 t643) ∧ w'.cell? ⟨gb654, 3, none⟩ = some (.int .i64 t644) ∧ w'.cell? ⟨gb654, 4, none⟩ = some (.int .i64 t645) ∧ w'.cell? ⟨gb654, 5, none⟩ = some (.int .i64 t646) ∧ w'.cell? ⟨gb654, 6, none⟩ = some (.slice Ao27 t647.length co27) ∧ w'.cell? ⟨gb654, 7, none⟩ = some (.slice Ao28 t650.length co28) ∧ w'.cell? ⟨gb626, 0, none⟩ = some (.slice Ao9 t619.length co9) ∧ w'.cell? ⟨gb626, 1, none⟩ = some (.slice Ao11 t622.length co11)) (ds := []) #[F,F,F,F,F,F,F] (by kernel_rfl) rfl rfl ⟨ZA BK654 0, ZA BK654 1, ZA BK654 2, ZA BK654 3, ZA BK654 4, ZA BK654 5, ZA BK654 6, ZA BK654 7, ZA BK626 0, ZA BK626 1⟩ (fun hHeld => ?_)
  generalize wc.drew = w75 at HO_627000 HO_627001 HO_641006 HO_641007 HO_655006 HO_655007 BK626 BK640 BK654 HB HO676 hHeld ⊢
  refine pure_ (i := 2) (N := some 63) (v := ?_) (a' := ?_) #[F,F,T,F,F,F,F] rfl rfl (by kernel_rfl) (fun _ _ _ h => h) (Or.inl ⟨by rfl, ?_⟩) ?_ ?_
  rotate_left
  ·(
  intro w'
  go_simp
  with_reducible rfl)
  rotate_left
  ·(
  simp only [Act.put, List.setIfInBounds_toArray, List.set_cons_zero, List.set_cons_succ, i64_w, i32_w]
  rfl)
  refine take_ (i := 0) (N := some 61) (v := ?_) (a' := ?_) #[T,F,T,F,F,F,F] rfl rfl (by kernel_rfl) (fun _ _ _ h => h) (Or.inl ⟨by rfl, ?_⟩) hHeld ?_ ?_
  rotate_left
  ·(
  rintro w' ⟨s0, s1, s2, s3, s4, s5, s6, s7, s8, s9⟩
  go_simp
  with_reducible rfl)
  rotate_left
  ·(
  simp only [Act.put, List.setIfInBounds_toArray, List.set_cons_zero, List.set_cons_succ, i64_w, i32_w]
  rfl)
  refine take_ (i := 3) (N := some 64) (v := ?_) (a' := ?_) #[T,F,T,T,F,F,F] rfl rfl (by kernel_rfl) (fun _ _ _ h => h) (Or.inl ⟨by rfl, ?_⟩) hHeld ?_ ?_
  rotate_left
  ·(
  rintro w' ⟨s0, s1, s2, s3, s4, s5, s6, s7, s8, s9⟩
  go_simp
  with_reducible rfl)
  rotate_left
  ·(
  simp only [Act.put, List.setIfInBounds_toArray, List.set_cons_zero, List.set_cons_succ, i64_w, i32_w]
  rfl)
  refine pure_ (i := 4) (N := some 65) (v := ?_) (a' := ?_) #[T,F,T,T,T,F,F] rfl rfl (by kernel_rfl) (fun _ _ _ h => h) (Or.inl ⟨by rfl, ?_⟩) ?_ ?_
  rotate_left
  ·(
  intro w'
  go_simp
  with_reducible rfl)
  rotate_left
  ·(
  simp only [Act.put, List.setIfInBounds_toArray, List.set_cons_zero, List.set_cons_succ, i64_w, i32_w]
  rfl)
  refine one_ (i := 1) (N := some 62) #[T,T,T,T,T,F,F] rfl rfl (by kernel_rfl) (by decide) (fun K hK => ?_)
  refine Kd.N_lit_step k40 _ 40 ?hg (N' := 62) ?hd (xs := ([(⟨t641, t642, (⟨t643, t644, t645⟩ : S38), t646, t647, t650⟩ : S40)] : List (S40))) (inner := [.int .i64 t641, .int .i64 t642, .int .i64 t643, .int .i64 t644, .int .i64 t645, .int .i64 t646, .slice Ao27 t647.length co27, .slice Ao28 t650.length co28]) (ok := (fun k_ => some k_ ≠ (.slice Ao9 t619.length co9 : Value).ownBlock ∧ k_ ≠ gb626 ∧ k_ ≠ gb640 ∧ k_ ≠ gb654)) (okp := (fun k_ => some k_ ≠ (.slice Ao9 t619.length co9 : Value).ownBlock ∧ k_ ≠ gb626 ∧ k_ ≠ gb640 ∧ k_ ≠ gb654)) ?hr ?hp (fun _ hk => hk) ((show ∀ k_, w75.heap.size ≤ k_ → (fun k_ => some k_ ≠ (.slice Ao9 t619.length co9 : Value).ownBlock ∧ k_ ≠ gb626 ∧ k_ ≠ gb640 ∧ k_ ≠ gb654) k_ from fun k_ hk => ⟨Kd.fresh' (Kd.R_lt (ZR HO_627000.out)) k_ hk, Kd.freshB (g := gb626) (o := .cells #[.slice Ao9 t619.length co9, .slice Ao11 t622.length co11] 26 (0, 0)) (ZK BK626.out) k_ hk, Kd.freshB (g := gb640) (o := .cells #[.int .i64 t627, .int .i64 t628, .int .i64 t629, .int .i64 t630, .int .i64 t631, .int .i64 t632, .slice Ao18 t633.length co18, .slice Ao19 t636.length co19] 40 (0, 0)) (ZK BK640.out) k_ hk, Kd.freshB (g := gb654) (o := .cells #[.int .i64 t641, .int .i64 t642, .int .i64 t643, .int .i64 t644, .int .i64 t645, .int .i64 t646, .slice Ao27 t647.length co27, .slice Ao28 t650.length co28] 40 (0, 0)) (ZK BK654.out) k_ hk⟩) _ (Nat.le_refl _)) (Below.refl _ _) (Nat.le_refl _) (by simp) ?_; (case hd => rfl); (case hg => rfl); (case hr => first | (go_simp; done) | (go_simp; rfl)); (case hp => exact (Reps.c8 (show Kd.FK k40 _ _ (⟨t641, t642, (⟨t643, t644, t645⟩ : S38), t646, t647, t650⟩ : S40) [.int .i64 t641, .int .i64 t642, .int .i64 t643, .int .i64 t644, .int .i64 t645, .int .i64 t646, .slice Ao27 t647.length co27, .slice Ao28 t650.length co28] from (k40_mkF _ _ (⟨t641, t642, (⟨t643, t644, t645⟩ : S38), t646, t647, t650⟩ : S40) (Kd.V_reads' (Kd.V_mono (ok' := (fun k_ => some k_ ≠ (.slice Ao9 t619.length co9 : Value).ownBlock ∧ k_ ≠ gb626 ∧ k_ ≠ gb640 ∧ k_ ≠ gb654)) (HO_655006.out) (fun k_ hk => ⟨hk.1, ⟨hk.2.1, ⟨hk.2.2.1, hk.2.2.2⟩⟩⟩))).2.1 (Kd.V_F (Kd.V_mono (ok' := (fun k_ => some k_ ≠ (.slice Ao9 t619.length co9 : Value).ownBlock ∧ k_ ≠ gb626 ∧ k_ ≠ gb640 ∧ k_ ≠ gb654)) (HO_655006.out) (fun k_ hk => ⟨hk.1, ⟨hk.2.1, ⟨hk.2.2.1, hk.2.2.2⟩⟩⟩))) (Kd.V_reads' (Kd.V_mono (ok' := (fun k_ => some k_ ≠ (.slice Ao9 t619.length co9 : Value).ownBlock ∧ k_ ≠ gb626 ∧ k_ ≠ gb640 ∧ k_ ≠ gb654)) (HO_655007.out) (fun k_ hk => ⟨hk.1, ⟨hk.2.1, ⟨hk.2.2.1, hk.2.2.2⟩⟩⟩))).2.1 (Kd.V_F (Kd.V_mono (ok' := (fun k_ => some k_ ≠ (.slice Ao9 t619.length co9 : Value).ownBlock ∧ k_ ≠ gb626 ∧ k_ ≠ gb640 ∧ k_ ≠ gb654)) (HO_655007.out) (fun k_ hk => ⟨hk.1, ⟨hk.2.1, ⟨hk.2.2.1, hk.2.2.2⟩⟩⟩))))) (Reps.none _ _)))
  intro v670 w77 ho78 hb hg_ hnew_
  clear hg_ hnew_
  (first | rw [← Ny669.out] at ho78 | (simp only [Int.reduceToNat] at ho78; rw [← Ny669.out] at ho78))
  have HO671 := AM (Kd.N_lower ho78 (below_size (ZB)))
  replace HO_627000 := AM (Kd.R_below (ZR HO_627000.out) hb)
  replace HO_627001 := AM (Kd.N_elder' (ZRN HO_627001.out) (Kd.N_base ho78) hb)
  replace HO_641006 := AM (Kd.V_elder' (ZRV HO_641006.out) (Kd.N_base ho78) hb)
  replace HO_641007 := AM (Kd.V_elder' (ZRV HO_641007.out) (Kd.N_base ho78) hb)
  replace HO_655006 := AM (Kd.V_elder' (ZRV HO_655006.out) (Kd.N_base ho78) hb)
  replace HO_655007 := AM (Kd.V_elder' (ZRV HO_655007.out) (Kd.N_base ho78) hb)
  replace HO676 := AM (Kd.V_elder' (ZRV HO676.out) (Kd.N_base ho78) hb)
  replace BK626 := ZW BK626 hb
  replace BK640 := ZW BK640 hb
  replace BK654 := ZW BK654 hb
  replace HB := ZT HB hb
  clear hb ho78
  obtain ⟨Ao79, co79, eo79⟩ := Kd.N_slice HO671.out
  (first | subst eo79 | (injection eo79 with f1_ f2_ f3_; have f4_ := f1_.symm; have f5_ := f3_.symm; clear f1_ f2_ f3_; subst f4_; subst f5_))
  refine hK.out _ _ ⟨ZA BK654 0, ZA BK654 1, ZA BK654 2, ZA BK654 3, ZA BK654 4, ZA BK654 5, ZA BK654 6, ZA BK654 7, ZA BK626 0, ZA BK626 1⟩ (fun hHeld => ?_)
  clear hK K
  refine ZNO 62 ?_
  refine one_ (i := 5) (N := some 66) #[T,T,T,T,T,T,F] rfl rfl (by kernel_rfl) (by decide) (fun K hK => ?_)
  refine ZGO Try.func22 #[.slice Ao79 y669.length co79, .slice Ao11 y672.length co11] ?_
  with_reducible refine (laws_lcSteps.calls kj5 _ _ y669 _ _ y672 t677 _ ?side1 ?side2 ?side3 ?side4 A74.out).mono ?_
  (case side1 => exact ZQ ((Kd.N_reads' HO671.out).2.2))
  (case side2 => exact (Kd.N_reads' HO671.out).2.1)
  (case side3 => exact ZQ ((Kd.V_reads' HO676.out).2.2))
  (case side4 => exact (Kd.V_reads' HO676.out).2.1)
  rintro e w80 ⟨rfl, hb⟩
  refine ZV1 ?_
  replace HO_627000 := AM (Kd.R_below (ZR HO_627000.out) hb)
  replace HO_627001 := AM (Kd.N_below (ZRN HO_627001.out) hb)
  replace HO_641006 := AM (Kd.V_below (ZRV HO_641006.out) hb)
  replace HO_641007 := AM (Kd.V_below (ZRV HO_641007.out) hb)
  replace HO_655006 := AM (Kd.V_below (ZRV HO_655006.out) hb)
  replace HO_655007 := AM (Kd.V_below (ZRV HO_655007.out) hb)
  replace HO676 := AM (Kd.V_below (ZRV HO676.out) hb)
  replace HO671 := AM (Kd.N_below (ZRN HO671.out) hb)
  replace BK626 := ZW BK626 hb
  replace BK640 := ZW BK640 hb
  replace BK654 := ZW BK654 hb
  replace HB := ZT HB hb
  (try clear hb)
  (try clear hb2)
  (try clear hk)
  (try clear hi)
  refine hK.out _ _ ⟨ZA BK654 0, ZA BK654 1, ZA BK654 2, ZA BK654 3, ZA BK654 4, ZA BK654 5, ZA BK654 6, ZA BK654 7, ZA BK626 0, ZA BK626 1⟩ (fun hHeld => ?_)
  clear hK K
  refine ZNO 66 ?_
  refine pure_ (i := 6) (N := some 2) (v := ?_) (a' := ?_) #[T,T,T,T,T,T,T] rfl rfl (by kernel_rfl) (fun _ _ _ h => h) (Or.inl ⟨by rfl, ?_⟩) ?_ ?_
  rotate_left
  ·(
  intro w'
  go_simp
  with_reducible rfl)
  rotate_left
  ·(
  simp only [Act.put, List.setIfInBounds_toArray, List.set_cons_zero, List.set_cons_succ, i64_w, i32_w]
  rfl)
  refine done_ (by kernel_rfl) ?_
  try go_wp2
  go_ret
  exact ⟨ZE, ZB⟩)
  ·(
  rw [if_neg c73] at H
  exact absurd H (by simp)))
  ·(
  rw [if_neg c72] at H
  have c72b0 := beq_eq_false_iff_ne.mpr c72
  have c72b1 := bne_iff_ne.mpr c72
  have HC81 := AM H
  clear H
  have hnb82 := NB626_640.out
  have hnc82 := NB640_626.out
  have hnb83 := NB626_654.out
  have hnc83 := NB654_626.out
  have hcz84 := ZC2 wc BK626
  go_upto_block 0 with (fail)
  go_cut [4, 9] (fun v4 v9 wc => ∃ (kq : Nat) (x4_80 : Int) (x9_80 : List (S40)), v4 = .int .i64 x4_80 ∧ Za (laws_FnProgAt.j2 kq x4_80 x9_80 t619 t622 t641 t642 t643 t644 t645 t646 t647 t650 = some r) ∧ Za (kq ≤ kj5) ∧ Za (Kd.V k40 40 wc w.heap.size (fun k_ => some k_ ≠ ((.slice Ao9 t619.length co9) : Value).ownBlock ∧ k_ ≠ gb626 ∧ k_ ≠ gb640 ∧ k_ ≠ gb654) v9 x9_80) ∧ Za (Kd.R k35 35 wc w.heap.size (fun _ => True) (.slice Ao9 t619.length co9) t619) ∧ Za (Kd.N k40 40 wc w.heap.size (fun k_ => some k_ ≠ ((.slice Ao9 t619.length co9) : Value).ownBlock ∧ k_ ≠ gb626 ∧ k_ ≠ gb640 ∧ k_ ≠ gb654) (.slice Ao11 t622.length co11) t622) ∧ Za (Kd.V k40 40 wc w.heap.size (fun k_ => some k_ ≠ ((.slice Ao9 t619.length co9) : Value).ownBlock ∧ k_ ≠ gb626 ∧ k_ ≠ gb640 ∧ k_ ≠ gb654) (.slice Ao18 t633.length co18) t633) ∧ Za (Kd.V k40 40 wc w.heap.size (fun k_ => some k_ ≠ ((.slice Ao9 t619.length co9) : Value).ownBlock ∧ k_ ≠ gb626 ∧ k_ ≠ gb640 ∧ k_ ≠ gb654) (.slice Ao19 t636.length co19) t636) ∧ Za (Kd.V k40 40 wc w.heap.size (fun k_ => some k_ ≠ ((.slice Ao9 t619.length co9) : Value).ownBlock ∧ k_ ≠ gb626 ∧ k_ ≠ gb640 ∧ k_ ≠ gb654) (.slice Ao27 t647.length co27) t647) ∧ Za (Kd.V k40 40 wc w.heap.size (fun k_ => some k_ ≠ ((.slice Ao9 t619.length co9) : Value).ownBlock ∧ k_ ≠ gb626 ∧ k_ ≠ gb640 ∧ k_ ≠ gb654) (.slice Ao28 t650.length co28) t650) ∧ Za (wc.heap[gb626]? = some (.cells #[(.slice Ao9 t619.length co9), (.slice Ao11 t622.length co11)] 26 (0, 0))) ∧ Za (wc.heap[gb640]? = some (.cells #[.int .i64 t627, .int .i64 t628, .int .i64 t629, .int .i64 t630, .int .i64 t631, .int .i64 t632, (.slice Ao18 t633.length co18), (.slice Ao19 t636.length co19)] 40 (0, 0))) ∧ Za (wc.heap[gb654]? = some (.cells #[.int .i64 t641, .int .i64 t642, .int .i64 t643, .int .i64 t644, .int .i64 t645, .int .i64 t646, (.slice Ao27 t647.length co27), (.slice Ao28 t650.length co28)] 40 (0, 0))) ∧ Za (Below w.heap.size w wc))
  case first => (
  have H := HC81.out
  clear HC81
  have H' := AM H
  clear H
  go_wp2
  go_loopg [4, 9] kj5 (fun kq v4 v9 w' => ∃ (x4_2 : Int) (x9_2 : List (S40)), v4 = .int .i64 x4_2 ∧ Za (laws_FnProgAt.l0 kq x4_2 x9_2 t619 t622 t641 t642 t643 t644 t645 t646 t647 t650 = some r) ∧ Za (kq ≤ kj5) ∧ Za (Kd.V k40 40 w' w.heap.size (fun k_ => some k_ ≠ ((.slice Ao9 t619.length co9) : Value).ownBlock ∧ k_ ≠ gb626 ∧ k_ ≠ gb640 ∧ k_ ≠ gb654) v9 x9_2) ∧ Za (Kd.R k35 35 w' w.heap.size (fun _ => True) (.slice Ao9 t619.length co9) t619) ∧ Za (Kd.N k40 40 w' w.heap.size (fun k_ => some k_ ≠ ((.slice Ao9 t619.length co9) : Value).ownBlock ∧ k_ ≠ gb626 ∧ k_ ≠ gb640 ∧ k_ ≠ gb654) (.slice Ao11 t622.length co11) t622) ∧ Za (Kd.V k40 40 w' w.heap.size (fun k_ => some k_ ≠ ((.slice Ao9 t619.length co9) : Value).ownBlock ∧ k_ ≠ gb626 ∧ k_ ≠ gb640 ∧ k_ ≠ gb654) (.slice Ao18 t633.length co18) t633) ∧ Za (Kd.V k40 40 w' w.heap.size (fun k_ => some k_ ≠ ((.slice Ao9 t619.length co9) : Value).ownBlock ∧ k_ ≠ gb626 ∧ k_ ≠ gb640 ∧ k_ ≠ gb654) (.slice Ao19 t636.length co19) t636) ∧ Za (Kd.V k40 40 w' w.heap.size (fun k_ => some k_ ≠ ((.slice Ao9 t619.length co9) : Value).ownBlock ∧ k_ ≠ gb626 ∧ k_ ≠ gb640 ∧ k_ ≠ gb654) (.slice Ao27 t647.length co27) t647) ∧ Za (Kd.V k40 40 w' w.heap.size (fun k_ => some k_ ≠ ((.slice Ao9 t619.length co9) : Value).ownBlock ∧ k_ ≠ gb626 ∧ k_ ≠ gb640 ∧ k_ ≠ gb654) (.slice Ao28 t650.length co28) t650) ∧ Za (w'.heap[gb626]? = some (.cells #[(.slice Ao9 t619.length co9), (.slice Ao11 t622.length co11)] 26 (0, 0))) ∧ Za (w'.heap[gb640]? = some (.cells #[.int .i64 t627, .int .i64 t628, .int .i64 t629, .int .i64 t630, .int .i64 t631, .int .i64 t632, (.slice Ao18 t633.length co18), (.slice Ao19 t636.length co19)] 40 (0, 0))) ∧ Za (w'.heap[gb654]? = some (.cells #[.int .i64 t641, .int .i64 t642, .int .i64 t643, .int .i64 t644, .int .i64 t645, .int .i64 t646, (.slice Ao27 t647.length co27), (.slice Ao28 t650.length co28)] 40 (0, 0))) ∧ Za (Below w.heap.size w w'))
  case atStart => exact ⟨(t625), (t622), ZSM, H', ⟨Nat.le_refl _⟩, ⟨Kd.N_V (ZRN HO_627001.out)⟩, ⟨ZR HO_627000.out⟩, ⟨ZRN HO_627001.out⟩, ⟨ZRV HO_641006.out⟩, ⟨ZRV HO_641007.out⟩, ⟨ZRV HO_655006.out⟩, ⟨ZRV HO_655007.out⟩, ⟨ZK BK626.out⟩, ⟨ZK BK640.out⟩, ⟨ZK BK654.out⟩, ⟨ZB⟩⟩
  case round => (
  clear H'
  try clear c1
  try clear c2
  try clear c2b0
  try clear c2b1
  try clear p2
  try clear c3
  try clear c4
  try clear c5
  try clear c6
  try clear c7
  try clear q7
  try clear c8
  try clear c16
  try clear c18
  try clear c19
  try clear c20
  try clear c22
  try clear c24
  try clear c25
  try clear c30
  try clear c30b0
  try clear c30b1
  try clear c30b2
  try clear c32
  try clear c33
  try clear c34
  try clear c38
  try clear c45
  try clear c46
  try clear c50
  try clear c57
  try clear c58
  try clear c58b0
  try clear c58b1
  try clear c58b2
  try clear c60
  try clear c61
  try clear c65
  try clear c72
  try clear c72b0
  try clear c72b1
  try clear c73
  try clear c73b0
  try clear c73b1
  try clear q76
  try clear c82
  try clear c83
  try clear hcz10
  try clear hcz13
  try clear hcz17
  try clear hcz21
  try clear hcz26
  try clear hcz35
  try clear hcz39
  try clear hcz47
  try clear hcz51
  try clear hcz62
  try clear hcz66
  try clear hcz84
  try clear p2
  try clear q76
  obtain ⟨x4_2, x9_2, rfl, HA, HK2, HO_9, HO_627000, HO_627001, HO_641006, HO_641007, HO_655006, HO_655007, BK626, BK640, BK654, HB⟩ := hrel
  cases gk with
  | zero => exact absurd HA.out (by simp [laws_FnProgAt.l0])
  | succ k2 =>
   have H := HA.out
   clear HA
   simp only [laws_FnProgAt.l0] at H
   by_cases c85 : (x9_2.length : Int) > 0
   ·(
   rw [if_pos c85] at H
   have c85b0 := decide_eq_true c85
   have c85b1 : decide (0 < x9_2.length) = true := decide_eq_true (by omega)
   clear c85
   (first | rw [c85b0] | (simp only [i64_w, i32_w]; rw [c85b0]) | skip)
   by_cases c86 : 1 ≤ (x9_2.length : Int)
   ·(
   rw [if_pos c86] at H
   have c86b0 := eq_true c86
   have c86b1 := decide_eq_true c86
   clear c86
   obtain ⟨y678, hy678⟩ : ∃ y_ : List (S40), y_ = (x9_2.take 1) := ⟨_, rfl⟩
   replace H : ((impl_ProgSize.f k2 t619 y678).bind fun t683 => (if x4_2 < t683 then (laws_FnProgAt.j2 k2 x4_2 x9_2 t619 t622 t641 t642 t643 t644 t645 t646 t647 t650) else (laws_FnProgAt.l0 k2 (wrap64 (x4_2 - t683)) (x9_2.drop 1) t619 t622 t641 t642 t643 t644 t645 t646 t647 t650))) = some r := by rw [hy678]; exact H
   have Ny678 := AM hy678
   clear hy678
   obtain ⟨t683, A87, H⟩ := ZOB H; try dsimp only at H
   by_cases c88 : x4_2 < t683
   ·(
   rw [if_pos c88] at H
   have c88b0 := decide_eq_true c88
   clear c88
   have H' := AM H
   clear H
   obtain ⟨Ao89, co89, eo89⟩ := Kd.V_slice HO_9.out
   subst eo89
   try go_wp2
   replace HO_9 := AM (Kd.V_drew HO_9.out)
   replace HO_627000 := AM (Kd.R_drew HO_627000.out)
   replace HO_627001 := AM (Kd.N_drew HO_627001.out)
   replace HO_641006 := AM (Kd.V_drew HO_641006.out)
   replace HO_641007 := AM (Kd.V_drew HO_641007.out)
   replace HO_655006 := AM (Kd.V_drew HO_655006.out)
   replace HO_655007 := AM (Kd.V_drew HO_655007.out)
   replace BK626 := AM (blk_drew BK626.out)
   replace BK640 := AM (blk_drew BK640.out)
   replace BK654 := AM (blk_drew BK654.out)
   replace HB := AM (below_drew1 HB.out)
   have q91 : (1 : Int) ≤ ((x9_2.length : Int) : Int) := ZD
   obtain ⟨i091, hi091, _, hsz91, _⟩ := info_parts info40
   have hroom91 : x9_2.length ≤ co89 := (Kd.V_reads' HO_9.out).2.1
   have hC91 : Kd.F k40 _ _ Ao89 x9_2.length x9_2 := (Kd.V_at (base := w.heap.size) HO_9.out).2.2
   have hcut91 := cut_to (P := Try.prog) 24 40 .i64 Try.underlying24 hi091 Ao89 x9_2.length co89 1 (by omega) q91 hroom91
   have hr91 := Kd.F_take (m := 1) hC91 (by omega)
   have hy91 : y678.length = (1 : Int).toNat := (by rw [Ny678.out, List.length_take]; omega)
   rw [← Ny678.out] at hr91
   rw [← hy91] at hcut91
   have HO682 := AM (show Kd.V k40 40 _ w.heap.size _ (.slice Ao89 y678.length co89) y678 from Kd.V_mk (by omega) hr91)
   have HC682 := AM (show y678.length ≤ co89 from by omega)
   clear hr91 hC91 hroom91 hi091 hsz91
   have KY91 := AM hy91
   clear hy91
   replace q91 := eq_true q91
   refine start_ (n := 7) (S := fun w' => w'.cell? ⟨gb626, 0, none⟩ = some (.slice Ao9 t619.length co9) ∧ w'.cell? ⟨gb626, 1, none⟩ = some (.slice Ao11 t622.length co11)) (ds := []) #[F,F,F,F,F,F,F] (by kernel_rfl) rfl rfl ⟨ZA BK626 0, ZA BK626 1⟩ (fun hHeld => ?_)
   generalize wr.drew = w90 at HO_9 HO_627000 HO_627001 HO_641006 HO_641007 HO_655006 HO_655007 BK626 BK640 BK654 HB HO682 hHeld ⊢
   refine pure_ (i := 0) (N := some 72) (v := ?_) (a' := ?_) #[T,F,F,F,F,F,F] rfl rfl (by kernel_rfl) (fun _ _ _ h => h) (Or.inl ⟨by rfl, ?_⟩) ?_ ?_
   rotate_left
   ·(
   intro w'
   go_simp
   with_reducible rfl)
   rotate_left
   ·(
   simp only [Act.put, List.setIfInBounds_toArray, List.set_cons_zero, List.set_cons_succ, i64_w, i32_w]
   rfl)
   refine pure_ (i := 2) (N := some 74) (v := ?_) (a' := ?_) #[T,F,T,F,F,F,F] rfl rfl (by kernel_rfl) (fun _ _ _ h => h) (Or.inl ⟨by rfl, ?_⟩) ?_ ?_
   rotate_left
   ·(
   intro w'
   go_simp
   with_reducible rfl)
   rotate_left
   ·(
   simp only [Act.put, List.setIfInBounds_toArray, List.set_cons_zero, List.set_cons_succ, i64_w, i32_w]
   rfl)
   refine pure_ (i := 3) (N := some 75) (v := ?_) (a' := ?_) #[T,F,T,T,F,F,F] rfl rfl (by kernel_rfl) (fun _ _ _ h => h) (Or.inl ⟨by rfl, ?_⟩) ?_ ?_
   rotate_left
   ·(
   intro w'
   go_simp
   with_reducible rfl)
   rotate_left
   ·(
   simp only [Act.put, List.setIfInBounds_toArray, List.set_cons_zero, List.set_cons_succ, i64_w, i32_w]
   rfl)
   refine take_ (i := 1) (N := some 73) (v := ?_) (a' := ?_) #[T,T,T,T,F,F,F] rfl rfl (by kernel_rfl) (fun _ _ _ h => h) (Or.inl ⟨by rfl, ?_⟩) hHeld ?_ ?_
   rotate_left
   ·(
   rintro w' ⟨s0, s1⟩
   go_simp
   with_reducible rfl)
   rotate_left
   ·(
   simp only [Act.put, List.setIfInBounds_toArray, List.set_cons_zero, List.set_cons_succ, i64_w, i32_w]
   rfl)
   refine pure_ (i := 4) (N := some 76) (v := ?_) (a' := ?_) #[T,T,T,T,T,F,F] rfl rfl (by kernel_rfl) (fun _ _ _ h => h) (Or.inl ⟨by rfl, ?_⟩) ?_ ?_
   rotate_left
   ·(
   intro w'
   go_simp
   with_reducible rfl)
   rotate_left
   ·(
   simp only [Act.put, List.setIfInBounds_toArray, List.set_cons_zero, List.set_cons_succ, i64_w, i32_w]
   rfl)
   refine one_ (i := 5) (N := some 77) #[T,T,T,T,T,T,F] rfl rfl (by kernel_rfl) (by decide) (fun K hK => ?_)
   refine ZGO Try.func21 #[.agg #[.slice Ao9 t619.length co9, .slice Ao89 y678.length co89]] ?_
   with_reducible refine (impl_ProgSize.calls k2 _ _ t619 _ _ y678 t683 _ ?side1 ?side2 ?side3 ?side4 A87.out).mono ?_
   (case side1 => exact ZQ ((Kd.R_reads' HO_627000.out).2.2))
   (case side2 => exact (Kd.R_reads' HO_627000.out).2.1)
   (case side3 => exact ZQ ((Kd.V_reads' HO682.out).2.2))
   (case side4 => exact (Kd.V_reads' HO682.out).2.1)
   rintro e w92 ⟨rfl, hb⟩
   refine ZV1 ?_
   replace HO_9 := AM (Kd.V_below (ZRV HO_9.out) hb)
   replace HO_627000 := AM (Kd.R_below (ZR HO_627000.out) hb)
   replace HO_627001 := AM (Kd.N_below (ZRN HO_627001.out) hb)
   replace HO_641006 := AM (Kd.V_below (ZRV HO_641006.out) hb)
   replace HO_641007 := AM (Kd.V_below (ZRV HO_641007.out) hb)
   replace HO_655006 := AM (Kd.V_below (ZRV HO_655006.out) hb)
   replace HO_655007 := AM (Kd.V_below (ZRV HO_655007.out) hb)
   replace HO682 := AM (Kd.V_below (ZRV HO682.out) hb)
   replace BK626 := ZW BK626 hb
   replace BK640 := ZW BK640 hb
   replace BK654 := ZW BK654 hb
   replace HB := ZT HB hb
   (try clear hb)
   (try clear hb2)
   (try clear hk)
   (try clear hi)
   refine hK.out _ _ ⟨ZA BK626 0, ZA BK626 1⟩ (fun hHeld => ?_)
   clear hK K
   refine ZNO 77 ?_
   refine pure_ (i := 6) (N := some 10) (v := ?_) (a' := ?_) #[T,T,T,T,T,T,T] rfl rfl (by kernel_rfl) (fun _ _ _ h => h) (Or.inl ⟨by rfl, ?_⟩) ?_ ?_
   rotate_left
   ·(
   intro w'
   go_simp
   with_reducible rfl)
   rotate_left
   ·(
   simp only [Act.put, List.setIfInBounds_toArray, List.set_cons_zero, List.set_cons_succ, i64_w, i32_w]
   rfl)
   refine done_ (by kernel_rfl) ?_
   try go_wp2
   go_meet
   case rel => exact ⟨_, (x4_2), (x9_2), ZSM, H', ⟨by have := HJ5.out; have := HK2.out; first | omega | exact Nat.le_refl _⟩, ⟨ZRV HO_9.out⟩, ⟨ZR HO_627000.out⟩, ⟨ZRN HO_627001.out⟩, ⟨ZRV HO_641006.out⟩, ⟨ZRV HO_641007.out⟩, ⟨ZRV HO_655006.out⟩, ⟨ZRV HO_655007.out⟩, ⟨ZK BK626.out⟩, ⟨ZK BK640.out⟩, ⟨ZK BK654.out⟩, ⟨ZB⟩⟩)
   ·(
   rw [if_neg c88] at H
   have c88b0 := decide_eq_false c88
   clear c88
   have c93b0 := eq_true (ZD : 1 ≤ (x9_2.length : Int))
   obtain ⟨y684, hy684⟩ : ∃ y_ : List (S40), y_ = (x9_2.drop 1) := ⟨_, rfl⟩
   replace H : (laws_FnProgAt.l0 k2 (wrap64 (x4_2 - t683)) y684 t619 t622 t641 t642 t643 t644 t645 t646 t647 t650) = some r := by rw [hy684]; exact H
   have Ny684 := AM hy684
   clear hy684
   have H' := AM H
   clear H
   obtain ⟨Ao94, co94, eo94⟩ := Kd.V_slice HO_9.out
   subst eo94
   try go_wp2
   replace HO_9 := AM (Kd.V_drew HO_9.out)
   replace HO_627000 := AM (Kd.R_drew HO_627000.out)
   replace HO_627001 := AM (Kd.N_drew HO_627001.out)
   replace HO_641006 := AM (Kd.V_drew HO_641006.out)
   replace HO_641007 := AM (Kd.V_drew HO_641007.out)
   replace HO_655006 := AM (Kd.V_drew HO_655006.out)
   replace HO_655007 := AM (Kd.V_drew HO_655007.out)
   replace BK626 := AM (blk_drew BK626.out)
   replace BK640 := AM (blk_drew BK640.out)
   replace BK654 := AM (blk_drew BK654.out)
   replace HB := AM (below_drew1 HB.out)
   have q96 : (1 : Int) ≤ ((x9_2.length : Int) : Int) := ZD
   obtain ⟨i096, hi096, _, hsz96, _⟩ := info_parts info40
   have hroom96 : x9_2.length ≤ co94 := (Kd.V_reads' HO_9.out).2.1
   have hC96 : Kd.F k40 _ _ Ao94 x9_2.length x9_2 := (Kd.V_at (base := w.heap.size) HO_9.out).2.2
   have hcut96 := cut_to (P := Try.prog) 24 40 .i64 Try.underlying24 hi096 Ao94 x9_2.length co94 1 (by omega) q96 hroom96
   have hr96 := Kd.F_take (m := 1) hC96 (by omega)
   have hy96 : y678.length = (1 : Int).toNat := (by rw [Ny678.out, List.length_take]; omega)
   rw [← Ny678.out] at hr96
   rw [← hy96] at hcut96
   have HO682 := AM (show Kd.V k40 40 _ w.heap.size _ (.slice Ao94 y678.length co94) y678 from Kd.V_mk (by omega) hr96)
   have HC682 := AM (show y678.length ≤ co94 from by omega)
   clear hr96 hC96 hroom96 hi096 hsz96
   have KY96 := AM hy96
   clear hy96
   replace q96 := eq_true q96
   refine start_ (n := 7) (S := fun w' => w'.cell? ⟨gb626, 0, none⟩ = some (.slice Ao9 t619.length co9) ∧ w'.cell? ⟨gb626, 1, none⟩ = some (.slice Ao11 t622.length co11)) (ds := []) #[F,F,F,F,F,F,F] (by kernel_rfl) rfl rfl ⟨ZA BK626 0, ZA BK626 1⟩ (fun hHeld => ?_)
   generalize wr.drew = w95 at HO_9 HO_627000 HO_627001 HO_641006 HO_641007 HO_655006 HO_655007 BK626 BK640 BK654 HB HO682 hHeld ⊢
   refine pure_ (i := 0) (N := some 72) (v := ?_) (a' := ?_) #[T,F,F,F,F,F,F] rfl rfl (by kernel_rfl) (fun _ _ _ h => h) (Or.inl ⟨by rfl, ?_⟩) ?_ ?_
   rotate_left
   ·(
   intro w'
   go_simp
   with_reducible rfl)
   rotate_left
   ·(
   simp only [Act.put, List.setIfInBounds_toArray, List.set_cons_zero, List.set_cons_succ, i64_w, i32_w]
   rfl)
   refine pure_ (i := 2) (N := some 74) (v := ?_) (a' := ?_) #[T,F,T,F,F,F,F] rfl rfl (by kernel_rfl) (fun _ _ _ h => h) (Or.inl ⟨by rfl, ?_⟩) ?_ ?_
   rotate_left
   ·(
   intro w'
   go_simp
   with_reducible rfl)
   rotate_left
   ·(
   simp only [Act.put, List.setIfInBounds_toArray, List.set_cons_zero, List.set_cons_succ, i64_w, i32_w]
   rfl)
   refine pure_ (i := 3) (N := some 75) (v := ?_) (a' := ?_) #[T,F,T,T,F,F,F] rfl rfl (by kernel_rfl) (fun _ _ _ h => h) (Or.inl ⟨by rfl, ?_⟩) ?_ ?_
   rotate_left
   ·(
   intro w'
   go_simp
   with_reducible rfl)
   rotate_left
   ·(
   simp only [Act.put, List.setIfInBounds_toArray, List.set_cons_zero, List.set_cons_succ, i64_w, i32_w]
   rfl)
   refine take_ (i := 1) (N := some 73) (v := ?_) (a' := ?_) #[T,T,T,T,F,F,F] rfl rfl (by kernel_rfl) (fun _ _ _ h => h) (Or.inl ⟨by rfl, ?_⟩) hHeld ?_ ?_
   rotate_left
   ·(
   rintro w' ⟨s0, s1⟩
   go_simp
   with_reducible rfl)
   rotate_left
   ·(
   simp only [Act.put, List.setIfInBounds_toArray, List.set_cons_zero, List.set_cons_succ, i64_w, i32_w]
   rfl)
   refine pure_ (i := 4) (N := some 76) (v := ?_) (a' := ?_) #[T,T,T,T,T,F,F] rfl rfl (by kernel_rfl) (fun _ _ _ h => h) (Or.inl ⟨by rfl, ?_⟩) ?_ ?_
   rotate_left
   ·(
   intro w'
   go_simp
   with_reducible rfl)
   rotate_left
   ·(
   simp only [Act.put, List.setIfInBounds_toArray, List.set_cons_zero, List.set_cons_succ, i64_w, i32_w]
   rfl)
   refine one_ (i := 5) (N := some 77) #[T,T,T,T,T,T,F] rfl rfl (by kernel_rfl) (by decide) (fun K hK => ?_)
   refine ZGO Try.func21 #[.agg #[.slice Ao9 t619.length co9, .slice Ao94 y678.length co94]] ?_
   with_reducible refine (impl_ProgSize.calls k2 _ _ t619 _ _ y678 t683 _ ?side1 ?side2 ?side3 ?side4 A87.out).mono ?_
   (case side1 => exact ZQ ((Kd.R_reads' HO_627000.out).2.2))
   (case side2 => exact (Kd.R_reads' HO_627000.out).2.1)
   (case side3 => exact ZQ ((Kd.V_reads' HO682.out).2.2))
   (case side4 => exact (Kd.V_reads' HO682.out).2.1)
   rintro e w97 ⟨rfl, hb⟩
   refine ZV1 ?_
   replace HO_9 := AM (Kd.V_below (ZRV HO_9.out) hb)
   replace HO_627000 := AM (Kd.R_below (ZR HO_627000.out) hb)
   replace HO_627001 := AM (Kd.N_below (ZRN HO_627001.out) hb)
   replace HO_641006 := AM (Kd.V_below (ZRV HO_641006.out) hb)
   replace HO_641007 := AM (Kd.V_below (ZRV HO_641007.out) hb)
   replace HO_655006 := AM (Kd.V_below (ZRV HO_655006.out) hb)
   replace HO_655007 := AM (Kd.V_below (ZRV HO_655007.out) hb)
   replace HO682 := AM (Kd.V_below (ZRV HO682.out) hb)
   replace BK626 := ZW BK626 hb
   replace BK640 := ZW BK640 hb
   replace BK654 := ZW BK654 hb
   replace HB := ZT HB hb
   (try clear hb)
   (try clear hb2)
   (try clear hk)
   (try clear hi)
   refine hK.out _ _ ⟨ZA BK626 0, ZA BK626 1⟩ (fun hHeld => ?_)
   clear hK K
   refine ZNO 77 ?_
   refine pure_ (i := 6) (N := some 10) (v := ?_) (a' := ?_) #[T,T,T,T,T,T,T] rfl rfl (by kernel_rfl) (fun _ _ _ h => h) (Or.inl ⟨by rfl, ?_⟩) ?_ ?_
   rotate_left
   ·(
   intro w'
   go_simp
   with_reducible rfl)
   rotate_left
   ·(
   simp only [Act.put, List.setIfInBounds_toArray, List.set_cons_zero, List.set_cons_succ, i64_w, i32_w]
   rfl)
   refine done_ (by kernel_rfl) ?_
   have q98 : (1 : Int) ≤ ((x9_2.length : Int) : Int) := ZD
   obtain ⟨i098, hi098, _, hsz98, _⟩ := info_parts info40
   have hroom98 : x9_2.length ≤ co94 := (Kd.V_reads' HO_9.out).2.1
   have hC98 : Kd.F k40 _ _ Ao94 x9_2.length x9_2 := (Kd.V_at (base := w.heap.size) HO_9.out).2.2
   have hcut98 := cut_from (P := Try.prog) 24 40 .i64 Try.underlying24 hi098 8 hsz98 Ao94 x9_2.length co94 1 (by omega) q98
   have hr98 := Kd.F_cut (m := (1 : Int).toNat) (c := co94) hC98 (by omega) hroom98
   obtain ⟨A98, hA98⟩ : ∃ A1, A1 = (if co94 = (1 : Int).toNat then Ao94 else (Ao94 : Option Addr).map (·.add ((1 : Int).toNat * 8))) := ⟨_, rfl⟩
   obtain ⟨c98, hc98⟩ : ∃ c1, c1 = co94 - (1 : Int).toNat := ⟨_, rfl⟩
   have hy98 : y684.length = x9_2.length - (1 : Int).toNat := (by rw [Ny684.out, List.length_drop] <;> omega)
   rw [show (x9_2).drop (1 : Int).toNat = y684 from Ny684.out.symm] at hr98
   replace hr98 : Kd.F k40 _ _ A98 y684.length y684 := (by rw [hA98]; exact hr98)
   rw [← hy98, ← hA98, ← hc98] at hcut98
   have HO688 := AM (show Kd.V k40 40 _ w.heap.size _ (.slice A98 y684.length c98) y684 from Kd.V_mk (by rw [hy98, hc98]; exact Nat.sub_le_sub_right hroom98 _) hr98)
   have HC688 := AM (show y684.length ≤ c98 from by rw [hy98, hc98]; exact Nat.sub_le_sub_right hroom98 _)
   clear hr98 hC98 hroom98 hi098 hsz98 hc98
   have KY98 := AM hy98
   have KA98 := AM hA98
   clear hy98 hA98
   replace q98 := eq_true q98
   try go_wp2
   go_roundg k2
   case measure => have := HJ5.out; have := HK2.out; omega
   case rel => exact ⟨(wrap64 (x4_2 - t683)), (y684), ZSM, H', ⟨by have := HJ5.out; have := HK2.out; omega⟩, ⟨ZRV HO688.out⟩, ⟨ZR HO_627000.out⟩, ⟨ZRN HO_627001.out⟩, ⟨ZRV HO_641006.out⟩, ⟨ZRV HO_641007.out⟩, ⟨ZRV HO_655006.out⟩, ⟨ZRV HO_655007.out⟩, ⟨ZK BK626.out⟩, ⟨ZK BK640.out⟩, ⟨ZK BK654.out⟩, ⟨ZB⟩⟩))
   ·(
   rw [if_neg c86] at H
   exact absurd H (by simp)))
   ·(
   rw [if_neg c85] at H
   have c85b0 := decide_eq_false c85
   have c85b1 : decide (0 < x9_2.length) = false := decide_eq_false (by omega)
   clear c85
   (first | rw [c85b0] | (simp only [i64_w, i32_w]; rw [c85b0]) | skip)
   have H' := AM H
   clear H
   obtain ⟨Ao99, co99, eo99⟩ := Kd.V_slice HO_9.out
   subst eo99
   go_wp2
   go_meet
   case rel => exact ⟨_, (x4_2), (x9_2), ZSM, H', ⟨by have := HJ5.out; have := HK2.out; first | omega | exact Nat.le_refl _⟩, ⟨ZRV HO_9.out⟩, ⟨ZR HO_627000.out⟩, ⟨ZRN HO_627001.out⟩, ⟨ZRV HO_641006.out⟩, ⟨ZRV HO_641007.out⟩, ⟨ZRV HO_655006.out⟩, ⟨ZRV HO_655007.out⟩, ⟨ZK BK626.out⟩, ⟨ZK BK640.out⟩, ⟨ZK BK654.out⟩, ⟨ZB⟩⟩)))
  case rest => (
  clear HC81
  try clear c1
  try clear c2
  try clear c2b0
  try clear c2b1
  try clear p2
  try clear c3
  try clear c4
  try clear c5
  try clear c6
  try clear p6
  try clear c7
  try clear q7
  try clear c8
  try clear c9
  try clear q9
  try clear c16
  try clear c18
  try clear c19
  try clear c20
  try clear c21
  try clear c22
  try clear c24
  try clear c25
  try clear c30
  try clear c30b0
  try clear c30b1
  try clear c30b2
  try clear c32
  try clear c33
  try clear c34
  try clear c38
  try clear c45
  try clear c46
  try clear c50
  try clear c57
  try clear c58
  try clear c58b0
  try clear c58b1
  try clear c58b2
  try clear c60
  try clear c61
  try clear p64
  try clear c65
  try clear c72
  try clear c72b0
  try clear c72b1
  try clear c73
  try clear c73b0
  try clear c73b1
  try clear q76
  try clear c82
  try clear c83
  try clear c85
  try clear c85b0
  try clear c85b1
  try clear c86
  try clear c86b0
  try clear c86b1
  try clear c88
  try clear c88b0
  try clear q91
  try clear c93
  try clear c93b0
  try clear q96
  try clear c98
  try clear q98
  try clear hcz10
  try clear hcz13
  try clear hcz17
  try clear hcz21
  try clear hcz26
  try clear hcz35
  try clear hcz39
  try clear hcz47
  try clear hcz51
  try clear hcz62
  try clear hcz66
  try clear hcz84
  try clear p2
  try clear q7
  try clear q76
  try clear q91
  try clear q96
  try clear q98
  obtain ⟨kq, x4_80, x9_80, rfl, HA, HJ80, HO_9, HO_627000, HO_627001, HO_641006, HO_641007, HO_655006, HO_655007, BK626, BK640, BK654, HB⟩ := hcut
  cases kq with
  | zero => exact absurd HA.out (by simp [laws_FnProgAt.j2])
  | succ kj80 =>
   have H := HA.out
   clear HA
   simp only [laws_FnProgAt.j2] at H
   by_cases c100 : x4_80 = 0
   ·(
   rw [if_pos c100] at H
   have c100b0 := beq_iff_eq.mpr c100
   have c100b1 := bne_eq_false_iff_eq.mpr c100
   clear c100
   obtain ⟨y689, hy689⟩ : ∃ y_ : List (S40), y_ = (([(⟨t641, t642, (⟨t643, t644, t645⟩ : S38), t646, t647, t650⟩ : S40)] : List (S40))) := ⟨_, rfl⟩
   replace H : (if 1 ≤ (x9_80.length : Int) then ((laws_lcSteps.f kj80 y689 (x9_80.take 1)).bind fun t697 => (some t697)) else (none)) = some r := by rw [hy689]; exact H
   have Ny689 := AM hy689
   clear hy689
   by_cases c101 : 1 ≤ (x9_80.length : Int)
   ·(
   rw [if_pos c101] at H
   have c101b0 := eq_true c101
   have c101b1 := decide_eq_true c101
   clear c101
   obtain ⟨y692, hy692⟩ : ∃ y_ : List (S40), y_ = (x9_80.take 1) := ⟨_, rfl⟩
   replace H : ((laws_lcSteps.f kj80 y689 y692).bind fun t697 => (some t697)) = some r := by rw [hy692]; exact H
   have Ny692 := AM hy692
   clear hy692
   obtain ⟨t697, A102, H⟩ := ZOB H; try dsimp only at H
   obtain rfl := Option.some.inj H
   try go_wp2
   replace HO_9 := AM (Kd.V_drew HO_9.out)
   replace HO_627000 := AM (Kd.R_drew HO_627000.out)
   replace HO_627001 := AM (Kd.N_drew HO_627001.out)
   replace HO_641006 := AM (Kd.V_drew HO_641006.out)
   replace HO_641007 := AM (Kd.V_drew HO_641007.out)
   replace HO_655006 := AM (Kd.V_drew HO_655006.out)
   replace HO_655007 := AM (Kd.V_drew HO_655007.out)
   replace BK626 := AM (blk_drew BK626.out)
   replace BK640 := AM (blk_drew BK640.out)
   replace BK654 := AM (blk_drew BK654.out)
   replace HB := AM (below_drew1 HB.out)
   obtain ⟨Ao105, co105, eo105⟩ := Kd.V_slice HO_9.out
   (first | subst eo105 | (injection eo105 with f1_ f2_ f3_; have f4_ := f1_.symm; have f5_ := f3_.symm; clear f1_ f2_ f3_; subst f4_; subst f5_))
   have q104 : (1 : Int) ≤ ((x9_80.length : Int) : Int) := ZD
   obtain ⟨i0104, hi0104, _, hsz104, _⟩ := info_parts info40
   have hroom104 : x9_80.length ≤ co105 := (Kd.V_reads' HO_9.out).2.1
   have hC104 : Kd.F k40 _ _ Ao105 x9_80.length x9_80 := (Kd.V_at (base := w.heap.size) HO_9.out).2.2
   have hcut104 := cut_to (P := Try.prog) 24 40 .i64 Try.underlying24 hi0104 Ao105 x9_80.length co105 1 (by omega) q104 hroom104
   have hr104 := Kd.F_take (m := 1) hC104 (by omega)
   have hy104 : y692.length = (1 : Int).toNat := (by rw [Ny692.out, List.length_take]; omega)
   rw [← Ny692.out] at hr104
   rw [← hy104] at hcut104
   have HO696 := AM (show Kd.V k40 40 _ w.heap.size _ (.slice Ao105 y692.length co105) y692 from Kd.V_mk (by omega) hr104)
   have HC696 := AM (show y692.length ≤ co105 from by omega)
   clear hr104 hC104 hroom104 hi0104 hsz104
   have KY104 := AM hy104
   clear hy104
   replace q104 := eq_true q104
   refine start_ (n := 6) (S := fun w' => w'.cell? ⟨gb654, 0, none⟩ = some (.int .i64 t641) ∧ w'.cell? ⟨gb654, 1, none⟩ = some (.int .i64 t642) ∧ w'.cell? ⟨gb654, 2, none⟩ = some (.int .i64 t643) ∧ w'.cell? ⟨gb654, 3, none⟩ = some (.int .i64 t644) ∧ w'.cell? ⟨gb654, 4, none⟩ = some (.int .i64 t645) ∧ w'.cell? ⟨gb654, 5, none⟩ = some (.int .i64 t646) ∧ w'.cell? ⟨gb654, 6, none⟩ = some (.slice Ao27 t647.length co27) ∧ w'.cell? ⟨gb654, 7, none⟩ = some (.slice Ao28 t650.length co28)) (ds := []) #[F,F,F,F,F,F] (by kernel_rfl) rfl rfl ⟨ZA BK654 0, ZA BK654 1, ZA BK654 2, ZA BK654 3, ZA BK654 4, ZA BK654 5, ZA BK654 6, ZA BK654 7⟩ (fun hHeld => ?_)
   generalize wc.drew = w103 at HO_9 HO_627000 HO_627001 HO_641006 HO_641007 HO_655006 HO_655007 BK626 BK640 BK654 HB HO696 hHeld ⊢
   refine pure_ (i := 2) (N := some 90) (v := ?_) (a' := ?_) #[F,F,T,F,F,F] rfl rfl (by kernel_rfl) (fun _ _ _ h => h) (Or.inl ⟨by rfl, ?_⟩) ?_ ?_
   rotate_left
   ·(
   intro w'
   go_simp
   with_reducible rfl)
   rotate_left
   ·(
   simp only [Act.put, List.setIfInBounds_toArray, List.set_cons_zero, List.set_cons_succ, i64_w, i32_w]
   rfl)
   refine pure_ (i := 3) (N := some 91) (v := ?_) (a' := ?_) #[F,F,T,T,F,F] rfl rfl (by kernel_rfl) (fun _ _ _ h => h) (Or.inl ⟨by rfl, ?_⟩) ?_ ?_
   rotate_left
   ·(
   intro w'
   go_simp
   with_reducible rfl)
   rotate_left
   ·(
   simp only [Act.put, List.setIfInBounds_toArray, List.set_cons_zero, List.set_cons_succ, i64_w, i32_w]
   rfl)
   refine take_ (i := 0) (N := some 88) (v := ?_) (a' := ?_) #[T,F,T,T,F,F] rfl rfl (by kernel_rfl) (fun _ _ _ h => h) (Or.inl ⟨by rfl, ?_⟩) hHeld ?_ ?_
   rotate_left
   ·(
   rintro w' ⟨s0, s1, s2, s3, s4, s5, s6, s7⟩
   go_simp
   with_reducible rfl)
   rotate_left
   ·(
   simp only [Act.put, List.setIfInBounds_toArray, List.set_cons_zero, List.set_cons_succ, i64_w, i32_w]
   rfl)
   refine one_ (i := 1) (N := some 89) #[T,T,T,T,F,F] rfl rfl (by kernel_rfl) (by decide) (fun K hK => ?_)
   refine Kd.N_lit_step k40 _ 40 ?hg (N' := 89) ?hd (xs := ([(⟨t641, t642, (⟨t643, t644, t645⟩ : S38), t646, t647, t650⟩ : S40)] : List (S40))) (inner := [.int .i64 t641, .int .i64 t642, .int .i64 t643, .int .i64 t644, .int .i64 t645, .int .i64 t646, .slice Ao27 t647.length co27, .slice Ao28 t650.length co28]) (ok := (fun k_ => some k_ ≠ (.slice Ao9 t619.length co9 : Value).ownBlock ∧ k_ ≠ gb626 ∧ k_ ≠ gb640 ∧ k_ ≠ gb654)) (okp := (fun k_ => some k_ ≠ (.slice Ao9 t619.length co9 : Value).ownBlock ∧ k_ ≠ gb626 ∧ k_ ≠ gb640 ∧ k_ ≠ gb654)) ?hr ?hp (fun _ hk => hk) ((show ∀ k_, w103.heap.size ≤ k_ → (fun k_ => some k_ ≠ (.slice Ao9 t619.length co9 : Value).ownBlock ∧ k_ ≠ gb626 ∧ k_ ≠ gb640 ∧ k_ ≠ gb654) k_ from fun k_ hk => ⟨Kd.fresh' (Kd.R_lt (ZR HO_627000.out)) k_ hk, Kd.freshB (g := gb626) (o := .cells #[.slice Ao9 t619.length co9, .slice Ao11 t622.length co11] 26 (0, 0)) (ZK BK626.out) k_ hk, Kd.freshB (g := gb640) (o := .cells #[.int .i64 t627, .int .i64 t628, .int .i64 t629, .int .i64 t630, .int .i64 t631, .int .i64 t632, .slice Ao18 t633.length co18, .slice Ao19 t636.length co19] 40 (0, 0)) (ZK BK640.out) k_ hk, Kd.freshB (g := gb654) (o := .cells #[.int .i64 t641, .int .i64 t642, .int .i64 t643, .int .i64 t644, .int .i64 t645, .int .i64 t646, .slice Ao27 t647.length co27, .slice Ao28 t650.length co28] 40 (0, 0)) (ZK BK654.out) k_ hk⟩) _ (Nat.le_refl _)) (Below.refl _ _) (Nat.le_refl _) (by simp) ?_; (case hd => rfl); (case hg => rfl); (case hr => first | (go_simp; done) | (go_simp; rfl)); (case hp => exact (Reps.c8 (show Kd.FK k40 _ _ (⟨t641, t642, (⟨t643, t644, t645⟩ : S38), t646, t647, t650⟩ : S40) [.int .i64 t641, .int .i64 t642, .int .i64 t643, .int .i64 t644, .int .i64 t645, .int .i64 t646, .slice Ao27 t647.length co27, .slice Ao28 t650.length co28] from (k40_mkF _ _ (⟨t641, t642, (⟨t643, t644, t645⟩ : S38), t646, t647, t650⟩ : S40) (Kd.V_reads' (Kd.V_mono (ok' := (fun k_ => some k_ ≠ (.slice Ao9 t619.length co9 : Value).ownBlock ∧ k_ ≠ gb626 ∧ k_ ≠ gb640 ∧ k_ ≠ gb654)) (HO_655006.out) (fun k_ hk => ⟨hk.1, ⟨hk.2.1, ⟨hk.2.2.1, hk.2.2.2⟩⟩⟩))).2.1 (Kd.V_F (Kd.V_mono (ok' := (fun k_ => some k_ ≠ (.slice Ao9 t619.length co9 : Value).ownBlock ∧ k_ ≠ gb626 ∧ k_ ≠ gb640 ∧ k_ ≠ gb654)) (HO_655006.out) (fun k_ hk => ⟨hk.1, ⟨hk.2.1, ⟨hk.2.2.1, hk.2.2.2⟩⟩⟩))) (Kd.V_reads' (Kd.V_mono (ok' := (fun k_ => some k_ ≠ (.slice Ao9 t619.length co9 : Value).ownBlock ∧ k_ ≠ gb626 ∧ k_ ≠ gb640 ∧ k_ ≠ gb654)) (HO_655007.out) (fun k_ hk => ⟨hk.1, ⟨hk.2.1, ⟨hk.2.2.1, hk.2.2.2⟩⟩⟩))).2.1 (Kd.V_F (Kd.V_mono (ok' := (fun k_ => some k_ ≠ (.slice Ao9 t619.length co9 : Value).ownBlock ∧ k_ ≠ gb626 ∧ k_ ≠ gb640 ∧ k_ ≠ gb654)) (HO_655007.out) (fun k_ hk => ⟨hk.1, ⟨hk.2.1, ⟨hk.2.2.1, hk.2.2.2⟩⟩⟩))))) (Reps.none _ _)))
   intro v690 w106 ho107 hb hg_ hnew_
   clear hg_ hnew_
   (first | rw [← Ny689.out] at ho107 | (simp only [Int.reduceToNat] at ho107; rw [← Ny689.out] at ho107))
   have HO691 := AM (Kd.N_lower ho107 (below_size (ZB)))
   replace HO_9 := AM (Kd.V_elder' (ZRV HO_9.out) (Kd.N_base ho107) hb)
   replace HO_627000 := AM (Kd.R_below (ZR HO_627000.out) hb)
   replace HO_627001 := AM (Kd.N_elder' (ZRN HO_627001.out) (Kd.N_base ho107) hb)
   replace HO_641006 := AM (Kd.V_elder' (ZRV HO_641006.out) (Kd.N_base ho107) hb)
   replace HO_641007 := AM (Kd.V_elder' (ZRV HO_641007.out) (Kd.N_base ho107) hb)
   replace HO_655006 := AM (Kd.V_elder' (ZRV HO_655006.out) (Kd.N_base ho107) hb)
   replace HO_655007 := AM (Kd.V_elder' (ZRV HO_655007.out) (Kd.N_base ho107) hb)
   replace HO696 := AM (Kd.V_elder' (ZRV HO696.out) (Kd.N_base ho107) hb)
   replace BK626 := ZW BK626 hb
   replace BK640 := ZW BK640 hb
   replace BK654 := ZW BK654 hb
   replace HB := ZT HB hb
   clear hb ho107
   obtain ⟨Ao108, co108, eo108⟩ := Kd.N_slice HO691.out
   (first | subst eo108 | (injection eo108 with f1_ f2_ f3_; have f4_ := f1_.symm; have f5_ := f3_.symm; clear f1_ f2_ f3_; subst f4_; subst f5_))
   refine hK.out _ _ ⟨ZA BK654 0, ZA BK654 1, ZA BK654 2, ZA BK654 3, ZA BK654 4, ZA BK654 5, ZA BK654 6, ZA BK654 7⟩ (fun hHeld => ?_)
   clear hK K
   refine ZNO 89 ?_
   refine one_ (i := 4) (N := some 92) #[T,T,T,T,T,F] rfl rfl (by kernel_rfl) (by decide) (fun K hK => ?_)
   refine ZGO Try.func22 #[.slice Ao108 y689.length co108, .slice Ao105 y692.length co105] ?_
   with_reducible refine (laws_lcSteps.calls kj80 _ _ y689 _ _ y692 t697 _ ?side1 ?side2 ?side3 ?side4 A102.out).mono ?_
   (case side1 => exact ZQ ((Kd.N_reads' HO691.out).2.2))
   (case side2 => exact (Kd.N_reads' HO691.out).2.1)
   (case side3 => exact ZQ ((Kd.V_reads' HO696.out).2.2))
   (case side4 => exact (Kd.V_reads' HO696.out).2.1)
   rintro e w109 ⟨rfl, hb⟩
   refine ZV1 ?_
   replace HO_9 := AM (Kd.V_below (ZRV HO_9.out) hb)
   replace HO_627000 := AM (Kd.R_below (ZR HO_627000.out) hb)
   replace HO_627001 := AM (Kd.N_below (ZRN HO_627001.out) hb)
   replace HO_641006 := AM (Kd.V_below (ZRV HO_641006.out) hb)
   replace HO_641007 := AM (Kd.V_below (ZRV HO_641007.out) hb)
   replace HO_655006 := AM (Kd.V_below (ZRV HO_655006.out) hb)
   replace HO_655007 := AM (Kd.V_below (ZRV HO_655007.out) hb)
   replace HO696 := AM (Kd.V_below (ZRV HO696.out) hb)
   replace HO691 := AM (Kd.N_below (ZRN HO691.out) hb)
   replace BK626 := ZW BK626 hb
   replace BK640 := ZW BK640 hb
   replace BK654 := ZW BK654 hb
   replace HB := ZT HB hb
   (try clear hb)
   (try clear hb2)
   (try clear hk)
   (try clear hi)
   refine hK.out _ _ ⟨ZA BK654 0, ZA BK654 1, ZA BK654 2, ZA BK654 3, ZA BK654 4, ZA BK654 5, ZA BK654 6, ZA BK654 7⟩ (fun hHeld => ?_)
   clear hK K
   refine ZNO 92 ?_
   refine pure_ (i := 5) (N := some 2) (v := ?_) (a' := ?_) #[T,T,T,T,T,T] rfl rfl (by kernel_rfl) (fun _ _ _ h => h) (Or.inl ⟨by rfl, ?_⟩) ?_ ?_
   rotate_left
   ·(
   intro w'
   go_simp
   with_reducible rfl)
   rotate_left
   ·(
   simp only [Act.put, List.setIfInBounds_toArray, List.set_cons_zero, List.set_cons_succ, i64_w, i32_w]
   rfl)
   refine done_ (by kernel_rfl) ?_
   try go_wp2
   go_ret
   exact ⟨ZE, ZB⟩)
   ·(
   rw [if_neg c101] at H
   exact absurd H (by simp)))
   ·(
   rw [if_neg c100] at H
   have c100b0 := beq_eq_false_iff_ne.mpr c100
   have c100b1 := bne_iff_ne.mpr c100
   obtain ⟨y698, Ny698, H⟩ := ZLET H; try dsimp only at H
   by_cases c110 : 0 < (x9_80.length : Int)
   ·(
   rw [if_pos c110] at H
   have c110b0 := decide_eq_true c110
   have c110b1 : decide (0 < x9_80.length) = true := decide_eq_true (by omega)
   clear c110
   by_cases c111 : y698.length + ((D40 x9_80 0).f4).length < 1466015503701
   ·(
   rw [if_pos c111] at H
   have LMc111 := AM c111
   clear c111
   obtain ⟨y702, Ny702, H⟩ := ZLET H; try dsimp only at H
   by_cases c112 : y702.length + ((D40 x9_80 0).f5).length < 1466015503701
   ·(
   rw [if_pos c112] at H
   have LMc112 := AM c112
   clear c112
   obtain ⟨y706, hy706⟩ : ∃ y_ : List (S40), y_ = (y702 ++ ((D40 x9_80 0).f5)) := ⟨_, rfl⟩
   replace H : ((impl_ProgAt.f kj80 t619 y706 (wrap64 (x4_80 - 1))).bind fun bt709 => (if bt709.2.2.2.2.2.2.2.2 = true then ((laws_lcSteps.f kj80 (([(⟨bt709.1, bt709.2.1, (⟨bt709.2.2.1, bt709.2.2.2.1, bt709.2.2.2.2.1⟩ : S38), bt709.2.2.2.2.2.1, bt709.2.2.2.2.2.2.1, bt709.2.2.2.2.2.2.2.1⟩ : S40)] : List (S40))) (([(⟨t641, t642, (⟨t643, t644, t645⟩ : S38), t646, t647, t650⟩ : S40)] : List (S40)))).bind fun t729 => (some t729)) else (none))) = some r := by rw [hy706]; exact H
   have Ny706 := AM hy706
   clear hy706
   obtain ⟨⟨t709, t710, t711, t712, t713, t714, t715, t718, t721⟩, A113, H⟩ := ZOB H; try dsimp only at H
   by_cases c114 : t721 = true
   ·(
   subst c114
   have H1 := H; rw [if_pos rfl] at H1
   clear H
   have H := H1
   clear H1
   obtain ⟨y723, hy723⟩ : ∃ y_ : List (S40), y_ = (([(⟨t709, t710, (⟨t711, t712, t713⟩ : S38), t714, t715, t718⟩ : S40)] : List (S40))) := ⟨_, rfl⟩
   replace H : ((laws_lcSteps.f kj80 y723 (([(⟨t641, t642, (⟨t643, t644, t645⟩ : S38), t646, t647, t650⟩ : S40)] : List (S40)))).bind fun t729 => (some t729)) = some r := by rw [hy723]; exact H
   have Ny723 := AM hy723
   clear hy723
   obtain ⟨y726, hy726⟩ : ∃ y_ : List (S40), y_ = (([(⟨t641, t642, (⟨t643, t644, t645⟩ : S38), t646, t647, t650⟩ : S40)] : List (S40))) := ⟨_, rfl⟩
   replace H : ((laws_lcSteps.f kj80 y723 y726).bind fun t729 => (some t729)) = some r := by rw [hy726]; exact H
   have Ny726 := AM hy726
   clear hy726
   obtain ⟨t729, A115, H⟩ := ZOB H; try dsimp only at H
   obtain rfl := Option.some.inj H
   try go_wp2
   replace HO_9 := AM (Kd.V_drew HO_9.out)
   replace HO_627000 := AM (Kd.R_drew HO_627000.out)
   replace HO_627001 := AM (Kd.N_drew HO_627001.out)
   replace HO_641006 := AM (Kd.V_drew HO_641006.out)
   replace HO_641007 := AM (Kd.V_drew HO_641007.out)
   replace HO_655006 := AM (Kd.V_drew HO_655006.out)
   replace HO_655007 := AM (Kd.V_drew HO_655007.out)
   replace BK626 := AM (blk_drew BK626.out)
   replace BK640 := AM (blk_drew BK640.out)
   replace BK654 := AM (blk_drew BK654.out)
   replace HB := AM (below_drew1 HB.out)
   obtain ⟨Ao117, co117, eo117⟩ := Kd.V_slice HO_9.out
   (first | subst eo117 | (injection eo117 with f1_ f2_ f3_; have f4_ := f1_.symm; have f5_ := f3_.symm; clear f1_ f2_ f3_; subst f4_; subst f5_))
   have p701 : 0 ≤ (0 : Int) := (by omega)
   have q701 : 0 < (x9_80.length : Int) := ZD
   obtain ⟨ad701, A701_6, c701_6, A701_7, c701_7, e701, hx701_0, hx701_1, hx701_2, hx701_3, hx701_4, hx701_5, hx701_6, hx701_7, hl701_6, hi701_6, hl701_7, hi701_7⟩ := at_T40 (Kd.V_reads' HO_9.out).2.2 0 p701 q701
   cases e701
   obtain ⟨ce701, hce701, hMe701, hcc701⟩ := Kd.V_get HO_9.out z40 0 p701 (by first | exact q701 | exact ZD | (have e_ := (Kd.V_reads' HO_9.out).1; omega))
   obtain ⟨ua701_6, uc701_6, ua701_7, uc701_7, rfl, ul701_6, ge701_6, ul701_7, ge701_7⟩ := k40_openF hMe701
   have hv701_6 := hcc701 6 _ rfl
   rw [add_field _ _ 6 (by omega)] at hv701_6
   replace hv701_6 := Option.some.inj (hv701_6.symm.trans hx701_6)
   injection hv701_6 with hva_ hvn_ hvc_
   rw [hva_] at ge701_6
   rw [hvc_] at ul701_6
   have HL701_6 := AM (show Kd.V k40 40 _ w.heap.size _ _ ((D40 x9_80 0).f4) from Kd.V_mk ul701_6 ge701_6)
   clear hva_ hvn_ hvc_ ge701_6 ul701_6
   have hv701_7 := hcc701 7 _ rfl
   rw [add_field _ _ 7 (by omega)] at hv701_7
   replace hv701_7 := Option.some.inj (hv701_7.symm.trans hx701_7)
   injection hv701_7 with hva_ hvn_ hvc_
   rw [hva_] at ge701_7
   rw [hvc_] at ul701_7
   have HL701_7 := AM (show Kd.V k40 40 _ w.heap.size _ _ ((D40 x9_80 0).f5) from Kd.V_mk ul701_7 ge701_7)
   clear hva_ hvn_ hvc_ ge701_7 ul701_7 hcc701 hce701
   have qi701 : (0 < x9_80.length) = True := eq_true (by omega)
   (try rw [show ((0 : Int)).toNat = 0 from rfl] at hx701_0)
   (try rw [show 0 * 8 = 0 from rfl] at hx701_0)
   (try rw [Addr.add_zero'] at hx701_0)
   (try rw [show ((0 : Int)).toNat = 0 from rfl] at hx701_1)
   (try rw [show 0 * 8 = 0 from rfl] at hx701_1)
   (try rw [Addr.add_zero'] at hx701_1)
   (try rw [show ((0 : Int)).toNat = 0 from rfl] at hx701_2)
   (try rw [show 0 * 8 = 0 from rfl] at hx701_2)
   (try rw [Addr.add_zero'] at hx701_2)
   (try rw [show ((0 : Int)).toNat = 0 from rfl] at hx701_3)
   (try rw [show 0 * 8 = 0 from rfl] at hx701_3)
   (try rw [Addr.add_zero'] at hx701_3)
   (try rw [show ((0 : Int)).toNat = 0 from rfl] at hx701_4)
   (try rw [show 0 * 8 = 0 from rfl] at hx701_4)
   (try rw [Addr.add_zero'] at hx701_4)
   (try rw [show ((0 : Int)).toNat = 0 from rfl] at hx701_5)
   (try rw [show 0 * 8 = 0 from rfl] at hx701_5)
   (try rw [Addr.add_zero'] at hx701_5)
   (try rw [show ((0 : Int)).toNat = 0 from rfl] at hx701_6)
   (try rw [show 0 * 8 = 0 from rfl] at hx701_6)
   (try rw [Addr.add_zero'] at hx701_6)
   (try rw [show ((0 : Int)).toNat = 0 from rfl] at hx701_7)
   (try rw [show 0 * 8 = 0 from rfl] at hx701_7)
   (try rw [Addr.add_zero'] at hx701_7)
   have HR701_6 := AM hi701_6
   have HC701_6 := AM hl701_6
   clear hi701_6 hl701_6
   have HR701_7 := AM hi701_7
   have HC701_7 := AM hl701_7
   clear hi701_7 hl701_7
   replace p701 := eq_true p701
   replace q701 := eq_true q701
   have p705 : 0 ≤ (0 : Int) := (by omega)
   have q705 : 0 < (x9_80.length : Int) := ZD
   obtain ⟨ad705, A705_6, c705_6, A705_7, c705_7, e705, hx705_0, hx705_1, hx705_2, hx705_3, hx705_4, hx705_5, hx705_6, hx705_7, hl705_6, hi705_6, hl705_7, hi705_7⟩ := at_T40 (Kd.V_reads' HO_9.out).2.2 0 p705 q705
   obtain rfl : ad701 = ad705 := (by injection e705)
   obtain ⟨ce705, hce705, hMe705, hcc705⟩ := Kd.V_get HO_9.out z40 0 p705 (by first | exact q705 | exact ZD | (have e_ := (Kd.V_reads' HO_9.out).1; omega))
   obtain ⟨ua705_6, uc705_6, ua705_7, uc705_7, rfl, ul705_6, ge705_6, ul705_7, ge705_7⟩ := k40_openF hMe705
   have hv705_6 := hcc705 6 _ rfl
   rw [add_field _ _ 6 (by omega)] at hv705_6
   replace hv705_6 := Option.some.inj (hv705_6.symm.trans hx705_6)
   injection hv705_6 with hva_ hvn_ hvc_
   rw [hva_] at ge705_6
   rw [hvc_] at ul705_6
   have HL705_6 := AM (show Kd.V k40 40 _ w.heap.size _ _ ((D40 x9_80 0).f4) from Kd.V_mk ul705_6 ge705_6)
   clear hva_ hvn_ hvc_ ge705_6 ul705_6
   have hv705_7 := hcc705 7 _ rfl
   rw [add_field _ _ 7 (by omega)] at hv705_7
   replace hv705_7 := Option.some.inj (hv705_7.symm.trans hx705_7)
   injection hv705_7 with hva_ hvn_ hvc_
   rw [hva_] at ge705_7
   rw [hvc_] at ul705_7
   have HL705_7 := AM (show Kd.V k40 40 _ w.heap.size _ _ ((D40 x9_80 0).f5) from Kd.V_mk ul705_7 ge705_7)
   clear hva_ hvn_ hvc_ ge705_7 ul705_7 hcc705 hce705
   have qi705 : (0 < x9_80.length) = True := eq_true (by omega)
   (try rw [show ((0 : Int)).toNat = 0 from rfl] at hx705_0)
   (try rw [show 0 * 8 = 0 from rfl] at hx705_0)
   (try rw [Addr.add_zero'] at hx705_0)
   (try rw [show ((0 : Int)).toNat = 0 from rfl] at hx705_1)
   (try rw [show 0 * 8 = 0 from rfl] at hx705_1)
   (try rw [Addr.add_zero'] at hx705_1)
   (try rw [show ((0 : Int)).toNat = 0 from rfl] at hx705_2)
   (try rw [show 0 * 8 = 0 from rfl] at hx705_2)
   (try rw [Addr.add_zero'] at hx705_2)
   (try rw [show ((0 : Int)).toNat = 0 from rfl] at hx705_3)
   (try rw [show 0 * 8 = 0 from rfl] at hx705_3)
   (try rw [Addr.add_zero'] at hx705_3)
   (try rw [show ((0 : Int)).toNat = 0 from rfl] at hx705_4)
   (try rw [show 0 * 8 = 0 from rfl] at hx705_4)
   (try rw [Addr.add_zero'] at hx705_4)
   (try rw [show ((0 : Int)).toNat = 0 from rfl] at hx705_5)
   (try rw [show 0 * 8 = 0 from rfl] at hx705_5)
   (try rw [Addr.add_zero'] at hx705_5)
   (try rw [show ((0 : Int)).toNat = 0 from rfl] at hx705_6)
   (try rw [show 0 * 8 = 0 from rfl] at hx705_6)
   (try rw [Addr.add_zero'] at hx705_6)
   (try rw [show ((0 : Int)).toNat = 0 from rfl] at hx705_7)
   (try rw [show 0 * 8 = 0 from rfl] at hx705_7)
   (try rw [Addr.add_zero'] at hx705_7)
   have HR705_6 := AM hi705_6
   have HC705_6 := AM hl705_6
   clear hi705_6 hl705_6
   have HR705_7 := AM hi705_7
   have HC705_7 := AM hl705_7
   clear hi705_7 hl705_7
   replace p705 := eq_true p705
   replace q705 := eq_true q705
   have ea_ := Option.some.inj (hx701_6.symm.trans hx705_6)
   injection ea_ with ea_ en_ ec_
   subst ea_
   subst ec_
   clear en_
   have ea_ := Option.some.inj (hx701_7.symm.trans hx705_7)
   injection ea_ with ea_ en_ ec_
   subst ea_
   subst ec_
   clear en_
   refine start_ (n := 12) (S := fun w' => w'.cell? ad701 = some (.int .i64 ((D40 x9_80 0).f0)) ∧ w'.cell? ⟨ad701.block, ad701.off + 1, none⟩ = some (.int .i64 ((D40 x9_80 0).f1)) ∧ w'.cell? ⟨ad701.block, ad701.off + 2, none⟩ = some (.int .i64 ((D40 x9_80 0).f2.f0)) ∧ w'.cell? ⟨ad701.block, ad701.off + 3, none⟩ = some (.int .i64 ((D40 x9_80 0).f2.f1)) ∧ w'.cell? ⟨ad701.block, ad701.off + 4, none⟩ = some (.int .i64 ((D40 x9_80 0).f2.f2)) ∧ w'.cell? ⟨ad701.block, ad701.off + 5, none⟩ = some (.int .i64 ((D40 x9_80 0).f3)) ∧ w'.cell? ⟨ad701.block, ad701.off + 6, none⟩ = some (.slice A701_6 ((D40 x9_80 0).f4).length c701_6) ∧ w'.cell? ⟨ad701.block, ad701.off + 7, none⟩ = some (.slice A701_7 ((D40 x9_80 0).f5).length c701_7) ∧ w'.cell? ad701 = some (.int .i64 ((D40 x9_80 0).f0)) ∧ w'.cell? ⟨ad701.block, ad701.off + 1, none⟩ = some (.int .i64 ((D40 x9_80 0).f1)) ∧ w'.cell? ⟨ad701.block, ad701.off + 2, none⟩ = some (.int .i64 ((D40 x9_80 0).f2.f0)) ∧ w'.cell? ⟨ad701.block, ad701.off + 3, none⟩ = some (.int .i64 ((D40 x9_80 0).f2.f1)) ∧ w'.cell? ⟨ad701.block, ad701.off + 4, none⟩ = some (.int .i64 ((D40 x9_80 0).f2.f2)) ∧ w'.cell? ⟨ad701.block, ad701.off + 5, none⟩ = some (.int .i64 ((D40 x9_80 0).f3)) ∧ w'.cell? ⟨ad701.block, ad701.off + 6, none⟩ = some (.slice A701_6 ((D40 x9_80 0).f4).length c701_6) ∧ w'.cell? ⟨ad701.block, ad701.off + 7, none⟩ = some (.slice A701_7 ((D40 x9_80 0).f5).length c701_7)) (ds := [10]) #[F,F,F,F,F,F,F,F,F,F,F,F] (by kernel_rfl) rfl rfl ⟨hx701_0, hx701_1, hx701_2, hx701_3, hx701_4, hx701_5, hx701_6, hx701_7, hx705_0, hx705_1, hx705_2, hx705_3, hx705_4, hx705_5, hx705_6, hx705_7⟩ (fun hHeld => ?_); refine with_tabW laws_FnProgAt.tab18 laws_FnProgAt.bits18 (fun HT_ HW_ => ?_)
   generalize wc.drew = w116 at HO_9 HO_627000 HO_627001 HO_641006 HO_641007 HO_655006 HO_655007 BK626 BK640 BK654 HB HL701_6 HL701_7 HL705_6 HL705_7 HR701_6 HR701_7 HR705_6 HR705_7 hx701_0 hx701_1 hx701_2 hx701_3 hx701_4 hx701_5 hx701_6 hx701_7 hx705_0 hx705_1 hx705_2 hx705_3 hx705_4 hx705_5 hx705_6 hx705_7 hHeld ⊢
   refine ZU 1 94 #[F,T,F,F,F,F,F,F,F,F,F,F] ?_
   refine ZU 2 95 #[F,T,T,F,F,F,F,F,F,F,F,F] ?_
   refine ZU 3 96 #[F,T,T,T,F,F,F,F,F,F,F,F] ?_
   refine ZU 6 99 #[F,T,T,T,F,F,T,F,F,F,F,F] ?_
   refine ZU 7 100 #[F,T,T,T,F,F,T,T,F,F,F,F] ?_
   refine ZU 8 101 #[F,T,T,T,F,F,T,T,T,F,F,F] ?_
   refine ZTK 4 97 #[F,T,T,T,T,F,T,T,T,F,F,F] hHeld ?_
   refine ZTK 9 102 #[F,T,T,T,T,F,T,T,T,T,F,F] hHeld ?_
   refine one_ (i := 0) (N := some 93) #[T,T,T,T,T,F,T,T,T,T,F,F] rfl rfl (one_of HT_.out (by kernel_rfl)) (by decide) (fun K hK => ?_)
   refine Kd.N_lit_step k40 _ 40 ?hg (N' := 93) ?hd (xs := ([] : List (S40))) (inner := []) (ok := (fun k_ => some k_ ≠ (.slice Ao9 t619.length co9 : Value).ownBlock ∧ some k_ ≠ (.slice Ao11 t622.length co11 : Value).ownBlock ∧ k_ ≠ gb626 ∧ k_ ≠ gb640 ∧ k_ ≠ gb654)) (okp := (fun k_ => some k_ ≠ (.slice Ao9 t619.length co9 : Value).ownBlock ∧ some k_ ≠ (.slice Ao11 t622.length co11 : Value).ownBlock ∧ k_ ≠ gb626 ∧ k_ ≠ gb640 ∧ k_ ≠ gb654)) ?hr ?hp (fun _ hk => hk) ((show ∀ k_, w116.heap.size ≤ k_ → (fun k_ => some k_ ≠ (.slice Ao9 t619.length co9 : Value).ownBlock ∧ some k_ ≠ (.slice Ao11 t622.length co11 : Value).ownBlock ∧ k_ ≠ gb626 ∧ k_ ≠ gb640 ∧ k_ ≠ gb654) k_ from fun k_ hk => ⟨Kd.fresh' (Kd.R_lt (ZR HO_627000.out)) k_ hk, Kd.fresh' (Kd.N_lt (ZRN HO_627001.out)) k_ hk, Kd.freshB (g := gb626) (o := .cells #[.slice Ao9 t619.length co9, .slice Ao11 t622.length co11] 26 (0, 0)) (ZK BK626.out) k_ hk, Kd.freshB (g := gb640) (o := .cells #[.int .i64 t627, .int .i64 t628, .int .i64 t629, .int .i64 t630, .int .i64 t631, .int .i64 t632, .slice Ao18 t633.length co18, .slice Ao19 t636.length co19] 40 (0, 0)) (ZK BK640.out) k_ hk, Kd.freshB (g := gb654) (o := .cells #[.int .i64 t641, .int .i64 t642, .int .i64 t643, .int .i64 t644, .int .i64 t645, .int .i64 t646, .slice Ao27 t647.length co27, .slice Ao28 t650.length co28] 40 (0, 0)) (ZK BK654.out) k_ hk⟩) _ (Nat.le_refl _)) (Below.refl _ _) (Nat.le_refl _) (by simp) ?_; (case hd => rfl); (case hg => rfl); (case hr => first | (go_simp; done) | (go_simp; rfl)); (case hp => exact (Reps.none _ _))
   intro v699 w118 ho119 hb hg_ hnew_
   have HS0_ := (hb.cell (World.block_lt_of_cell? _ _ (hHeld.1))).trans (hHeld.1)
   have HS1_ := (hb.cell (World.block_lt_of_cell? _ _ (hHeld.2.1))).trans (hHeld.2.1)
   have HS2_ := (hb.cell (World.block_lt_of_cell? _ _ (hHeld.2.2.1))).trans (hHeld.2.2.1)
   have HS3_ := (hb.cell (World.block_lt_of_cell? _ _ (hHeld.2.2.2.1))).trans (hHeld.2.2.2.1)
   have HS4_ := (hb.cell (World.block_lt_of_cell? _ _ (hHeld.2.2.2.2.1))).trans (hHeld.2.2.2.2.1)
   have HS5_ := (hb.cell (World.block_lt_of_cell? _ _ (hHeld.2.2.2.2.2.1))).trans (hHeld.2.2.2.2.2.1)
   have HS6_ := (hb.cell (World.block_lt_of_cell? _ _ (hHeld.2.2.2.2.2.2.1))).trans (hHeld.2.2.2.2.2.2.1)
   have HS7_ := (hb.cell (World.block_lt_of_cell? _ _ (hHeld.2.2.2.2.2.2.2.1))).trans (hHeld.2.2.2.2.2.2.2.1)
   have HS8_ := (hb.cell (World.block_lt_of_cell? _ _ (hHeld.2.2.2.2.2.2.2.2.1))).trans (hHeld.2.2.2.2.2.2.2.2.1)
   have HS9_ := (hb.cell (World.block_lt_of_cell? _ _ (hHeld.2.2.2.2.2.2.2.2.2.1))).trans (hHeld.2.2.2.2.2.2.2.2.2.1)
   have HS10_ := (hb.cell (World.block_lt_of_cell? _ _ (hHeld.2.2.2.2.2.2.2.2.2.2.1))).trans (hHeld.2.2.2.2.2.2.2.2.2.2.1)
   have HS11_ := (hb.cell (World.block_lt_of_cell? _ _ (hHeld.2.2.2.2.2.2.2.2.2.2.2.1))).trans (hHeld.2.2.2.2.2.2.2.2.2.2.2.1)
   have HS12_ := (hb.cell (World.block_lt_of_cell? _ _ (hHeld.2.2.2.2.2.2.2.2.2.2.2.2.1))).trans (hHeld.2.2.2.2.2.2.2.2.2.2.2.2.1)
   have HS13_ := (hb.cell (World.block_lt_of_cell? _ _ (hHeld.2.2.2.2.2.2.2.2.2.2.2.2.2.1))).trans (hHeld.2.2.2.2.2.2.2.2.2.2.2.2.2.1)
   have HS14_ := (hb.cell (World.block_lt_of_cell? _ _ (hHeld.2.2.2.2.2.2.2.2.2.2.2.2.2.2.1))).trans (hHeld.2.2.2.2.2.2.2.2.2.2.2.2.2.2.1)
   have HS15_ := (hb.cell (World.block_lt_of_cell? _ _ (hHeld.2.2.2.2.2.2.2.2.2.2.2.2.2.2.2))).trans (hHeld.2.2.2.2.2.2.2.2.2.2.2.2.2.2.2)
   clear hg_ hnew_
   (first | rw [← Ny698.out] at ho119 | (simp only [Int.reduceToNat] at ho119; rw [← Ny698.out] at ho119))
   have HO700 := AM (Kd.N_lower ho119 (below_size (ZB)))
   replace HO_9 := AM (Kd.V_elder' (ZRV HO_9.out) (Kd.N_base ho119) hb)
   replace HO_627000 := AM (Kd.R_below (ZR HO_627000.out) hb)
   replace HO_627001 := AM (Kd.N_elder' (ZRN HO_627001.out) (Kd.N_base ho119) hb)
   replace HO_641006 := AM (Kd.V_elder' (ZRV HO_641006.out) (Kd.N_base ho119) hb)
   replace HO_641007 := AM (Kd.V_elder' (ZRV HO_641007.out) (Kd.N_base ho119) hb)
   replace HO_655006 := AM (Kd.V_elder' (ZRV HO_655006.out) (Kd.N_base ho119) hb)
   replace HO_655007 := AM (Kd.V_elder' (ZRV HO_655007.out) (Kd.N_base ho119) hb)
   replace HL701_6 := AM (Kd.V_elder' (ZRV HL701_6.out) (Kd.N_base ho119) hb)
   replace HL701_7 := AM (Kd.V_elder' (ZRV HL701_7.out) (Kd.N_base ho119) hb)
   replace HL705_6 := AM (Kd.V_elder' (ZRV HL705_6.out) (Kd.N_base ho119) hb)
   replace HL705_7 := AM (Kd.V_elder' (ZRV HL705_7.out) (Kd.N_base ho119) hb)
   replace BK626 := ZW BK626 hb
   replace BK640 := ZW BK640 hb
   replace BK654 := ZW BK654 hb
   replace HR701_6 := AM (Kd.C_below (ZQ HR701_6.out) hb)
   replace HR701_7 := AM (Kd.C_below (ZQ HR701_7.out) hb)
   replace HR705_6 := AM (Kd.C_below (ZQ HR705_6.out) hb)
   replace HR705_7 := AM (Kd.C_below (ZQ HR705_7.out) hb)
   replace HB := ZT HB hb
   clear hb ho119
   refine hK.out _ _ ⟨HS0_, HS1_, HS2_, HS3_, HS4_, HS5_, HS6_, HS7_, HS8_, HS9_, HS10_, HS11_, HS12_, HS13_, HS14_, HS15_⟩ (fun hHeld => ?_)
   clear hK K
   refine ZNO 93 ?_
   refine one_ (i := 5) (N := some 98) #[T,T,T,T,T,T,T,T,T,T,F,F] rfl rfl (one_of HT_.out (by kernel_rfl)) (by decide) (fun K hK => ?_)
   refine Kd.N_append_rows_step k40 (w0 := w) w.heap.size (by rfl) (.tmp 93) (.tmp 97) 24 40 (.agg #[(.int .i64 0), (.int .i64 0), (.int .i64 0), (.int .i64 0), (.int .i64 0), (.int .i64 0), (.slice none 0 0), (.slice none 0 0)]) 96 rfl Try.underlying24 info40 rfl (by decide) (by omega) v699 y698 ((D40 x9_80 0).f4) _ _ _ (fun k_ => some k_ ≠ (.slice Ao9 t619.length co9 : Value).ownBlock ∧ k_ ≠ gb626 ∧ k_ ≠ gb640 ∧ k_ ≠ gb654) (fun k_ => ((fun k_ => some k_ ≠ (.slice Ao9 t619.length co9 : Value).ownBlock ∧ k_ ≠ gb626 ∧ k_ ≠ gb640 ∧ k_ ≠ gb654)) k_ ∧ some k_ ≠ (v699 : Value).ownBlock) rfl rfl ?aO ?aR (fun _ hk => hk) ?aF ?aB ?aS ?aL ?_
   (case aR => exact (by skip; exact Kd.V_F (Kd.V_mono (ok' := (fun k_ => ((fun k_ => some k_ ≠ (.slice Ao9 t619.length co9 : Value).ownBlock ∧ k_ ≠ gb626 ∧ k_ ≠ gb640 ∧ k_ ≠ gb654)) k_ ∧ some k_ ≠ (v699 : Value).ownBlock)) (HL701_6.out) (fun k_ hk => ⟨⟨hk.1.1, ⟨hk.1.2.1, ⟨hk.1.2.2.1, hk.1.2.2.2⟩⟩⟩, hk.2⟩))))
   (case aB => exact (ZB))
   (case aF => exact (fun k_ hk => ⟨Kd.fresh' (Kd.R_lt (ZR HO_627000.out)) k_ hk, Kd.freshB (g := gb626) (o := .cells #[.slice Ao9 t619.length co9, .slice Ao11 t622.length co11] 26 (0, 0)) (ZK BK626.out) k_ hk, Kd.freshB (g := gb640) (o := .cells #[.int .i64 t627, .int .i64 t628, .int .i64 t629, .int .i64 t630, .int .i64 t631, .int .i64 t632, .slice Ao18 t633.length co18, .slice Ao19 t636.length co19] 40 (0, 0)) (ZK BK640.out) k_ hk, Kd.freshB (g := gb654) (o := .cells #[.int .i64 t641, .int .i64 t642, .int .i64 t643, .int .i64 t644, .int .i64 t645, .int .i64 t646, .slice Ao27 t647.length co27, .slice Ao28 t650.length co28] 40 (0, 0)) (ZK BK654.out) k_ hk⟩))
   (case aO => exact (ZNm HO700.out (fun _ hk => ⟨hk.1, ⟨hk.2.2.1, ⟨hk.2.2.2.1, hk.2.2.2.2⟩⟩⟩)))
   (case aS => exact (below_size (ZB)))
   (case aL => have := LMc111.out; omega)
   intro v703 w120 ho hb hg hat
   have HS0_ := cell_grown hg (hHeld.1) ((Kd.F_in (Kd.V_F HO_9.out) rfl (by have := of_eq_true q701; omega) (by decide)).2)
   have HS1_ := cell_grown hg (hHeld.2.1) ((Kd.F_in (Kd.V_F HO_9.out) rfl (by have := of_eq_true q701; omega) (by decide)).2)
   have HS2_ := cell_grown hg (hHeld.2.2.1) ((Kd.F_in (Kd.V_F HO_9.out) rfl (by have := of_eq_true q701; omega) (by decide)).2)
   have HS3_ := cell_grown hg (hHeld.2.2.2.1) ((Kd.F_in (Kd.V_F HO_9.out) rfl (by have := of_eq_true q701; omega) (by decide)).2)
   have HS4_ := cell_grown hg (hHeld.2.2.2.2.1) ((Kd.F_in (Kd.V_F HO_9.out) rfl (by have := of_eq_true q701; omega) (by decide)).2)
   have HS5_ := cell_grown hg (hHeld.2.2.2.2.2.1) ((Kd.F_in (Kd.V_F HO_9.out) rfl (by have := of_eq_true q701; omega) (by decide)).2)
   have HS6_ := cell_grown hg (hHeld.2.2.2.2.2.2.1) ((Kd.F_in (Kd.V_F HO_9.out) rfl (by have := of_eq_true q701; omega) (by decide)).2)
   have HS7_ := cell_grown hg (hHeld.2.2.2.2.2.2.2.1) ((Kd.F_in (Kd.V_F HO_9.out) rfl (by have := of_eq_true q701; omega) (by decide)).2)
   have HS8_ := cell_grown hg (hHeld.2.2.2.2.2.2.2.2.1) ((Kd.F_in (Kd.V_F HO_9.out) rfl (by have := of_eq_true q705; omega) (by decide)).2)
   have HS9_ := cell_grown hg (hHeld.2.2.2.2.2.2.2.2.2.1) ((Kd.F_in (Kd.V_F HO_9.out) rfl (by have := of_eq_true q705; omega) (by decide)).2)
   have HS10_ := cell_grown hg (hHeld.2.2.2.2.2.2.2.2.2.2.1) ((Kd.F_in (Kd.V_F HO_9.out) rfl (by have := of_eq_true q705; omega) (by decide)).2)
   have HS11_ := cell_grown hg (hHeld.2.2.2.2.2.2.2.2.2.2.2.1) ((Kd.F_in (Kd.V_F HO_9.out) rfl (by have := of_eq_true q705; omega) (by decide)).2)
   have HS12_ := cell_grown hg (hHeld.2.2.2.2.2.2.2.2.2.2.2.2.1) ((Kd.F_in (Kd.V_F HO_9.out) rfl (by have := of_eq_true q705; omega) (by decide)).2)
   have HS13_ := cell_grown hg (hHeld.2.2.2.2.2.2.2.2.2.2.2.2.2.1) ((Kd.F_in (Kd.V_F HO_9.out) rfl (by have := of_eq_true q705; omega) (by decide)).2)
   have HS14_ := cell_grown hg (hHeld.2.2.2.2.2.2.2.2.2.2.2.2.2.2.1) ((Kd.F_in (Kd.V_F HO_9.out) rfl (by have := of_eq_true q705; omega) (by decide)).2)
   have HS15_ := cell_grown hg (hHeld.2.2.2.2.2.2.2.2.2.2.2.2.2.2.2) ((Kd.F_in (Kd.V_F HO_9.out) rfl (by have := of_eq_true q705; omega) (by decide)).2)
   rw [← Ny702.out] at ho
   have n0_ := AM (Kd.V_afterv (ok := (fun k_ => some k_ ≠ (.slice Ao9 t619.length co9 : Value).ownBlock ∧ k_ ≠ gb626 ∧ k_ ≠ gb640 ∧ k_ ≠ gb654)) (ZRV HO_9.out) hg hat)
   have n1_ := AM (Kd.R_over' (ZR HO_627000.out) (Kd.N_typed (ZRN HO700.out)) (by decide) hg)
   have n2_ := AM (Kd.N_afterv (ok := (fun k_ => some k_ ≠ (.slice Ao9 t619.length co9 : Value).ownBlock ∧ k_ ≠ gb626 ∧ k_ ≠ gb640 ∧ k_ ≠ gb654)) (ZRN HO_627001.out) hg hat)
   have n3_ := AM (Kd.V_afterv (ok := (fun k_ => some k_ ≠ (.slice Ao9 t619.length co9 : Value).ownBlock ∧ k_ ≠ gb626 ∧ k_ ≠ gb640 ∧ k_ ≠ gb654)) (ZRV HO_641006.out) hg hat)
   have n4_ := AM (Kd.V_afterv (ok := (fun k_ => some k_ ≠ (.slice Ao9 t619.length co9 : Value).ownBlock ∧ k_ ≠ gb626 ∧ k_ ≠ gb640 ∧ k_ ≠ gb654)) (ZRV HO_641007.out) hg hat)
   have n5_ := AM (Kd.V_afterv (ok := (fun k_ => some k_ ≠ (.slice Ao9 t619.length co9 : Value).ownBlock ∧ k_ ≠ gb626 ∧ k_ ≠ gb640 ∧ k_ ≠ gb654)) (ZRV HO_655006.out) hg hat)
   have n6_ := AM (Kd.V_afterv (ok := (fun k_ => some k_ ≠ (.slice Ao9 t619.length co9 : Value).ownBlock ∧ k_ ≠ gb626 ∧ k_ ≠ gb640 ∧ k_ ≠ gb654)) (ZRV HO_655007.out) hg hat)
   have n7_ := AM (blk_grown (g := gb626) (o := .cells #[.slice Ao9 t619.length co9, .slice Ao11 t622.length co11] 26 (0, 0)) (ZK BK626.out) hg (Kd.N_ne HO700.out BK626.out (by decide)))
   have n8_ := AM (blk_grown (g := gb640) (o := .cells #[.int .i64 t627, .int .i64 t628, .int .i64 t629, .int .i64 t630, .int .i64 t631, .int .i64 t632, .slice Ao18 t633.length co18, .slice Ao19 t636.length co19] 40 (0, 0)) (ZK BK640.out) hg (Kd.N_away HO700.out (fun _ hk => hk.2.2.2.1)))
   have n9_ := AM (blk_grown (g := gb654) (o := .cells #[.int .i64 t641, .int .i64 t642, .int .i64 t643, .int .i64 t644, .int .i64 t645, .int .i64 t646, .slice Ao27 t647.length co27, .slice Ao28 t650.length co28] 40 (0, 0)) (ZK BK654.out) hg (Kd.N_away HO700.out (fun _ hk => hk.2.2.2.2)))
   have n10_ := AM (Kd.V_afterv (ok := (fun k_ => some k_ ≠ (.slice Ao9 t619.length co9 : Value).ownBlock ∧ k_ ≠ gb626 ∧ k_ ≠ gb640 ∧ k_ ≠ gb654)) (ZRV HL701_6.out) hg hat)
   have n11_ := AM (Kd.V_afterv (ok := (fun k_ => some k_ ≠ (.slice Ao9 t619.length co9 : Value).ownBlock ∧ k_ ≠ gb626 ∧ k_ ≠ gb640 ∧ k_ ≠ gb654)) (ZRV HL701_7.out) hg hat)
   have n12_ := AM (Kd.V_afterv (ok := (fun k_ => some k_ ≠ (.slice Ao9 t619.length co9 : Value).ownBlock ∧ k_ ≠ gb626 ∧ k_ ≠ gb640 ∧ k_ ≠ gb654)) (ZRV HL705_6.out) hg hat)
   have n13_ := AM (Kd.V_afterv (ok := (fun k_ => some k_ ≠ (.slice Ao9 t619.length co9 : Value).ownBlock ∧ k_ ≠ gb626 ∧ k_ ≠ gb640 ∧ k_ ≠ gb654)) (ZRV HL705_7.out) hg hat)
   have n14_ := AM (hb)
   have n15_ := AM (ho)
   clear HO_9 HO_627000 HO_627001 HO_641006 HO_641007 HO_655006 HO_655007 BK626 BK640 BK654 HL701_6 HL701_7 HL705_6 HL705_7 HB HO700
   have HO_9 := n0_
   have HO_627000 := n1_
   have HO_627001 := n2_
   have HO_641006 := n3_
   have HO_641007 := n4_
   have HO_655006 := n5_
   have HO_655007 := n6_
   have BK626 := n7_
   have BK640 := n8_
   have BK654 := n9_
   have HL701_6 := n10_
   have HL701_7 := n11_
   have HL705_6 := n12_
   have HL705_7 := n13_
   have HB := n14_
   have HO704 := n15_
   clear n0_ n1_ n2_ n3_ n4_ n5_ n6_ n7_ n8_ n9_ n10_ n11_ n12_ n13_ n14_ n15_ ho hb hg hat
   refine hK.out _ _ ⟨HS0_, HS1_, HS2_, HS3_, HS4_, HS5_, HS6_, HS7_, HS8_, HS9_, HS10_, HS11_, HS12_, HS13_, HS14_, HS15_⟩ (fun hHeld => ?_)
   clear hK K
   refine ZNO 98 ?_
   refine last_ (i := 10) (N := some 103) #[T,T,T,T,T,T,T,T,T,T,T,F] rfl rfl (one_of HT_.out (by kernel_rfl)) (by decide) (fun K hK => ?_)
   refine Kd.N_append_rows_step k40 (w0 := w) w.heap.size (by rfl) (.tmp 98) (.tmp 102) 24 40 (.agg #[(.int .i64 0), (.int .i64 0), (.int .i64 0), (.int .i64 0), (.int .i64 0), (.int .i64 0), (.slice none 0 0), (.slice none 0 0)]) 96 rfl Try.underlying24 info40 rfl (by decide) (by omega) v703 y702 ((D40 x9_80 0).f5) _ _ _ (fun k_ => some k_ ≠ (.slice Ao9 t619.length co9 : Value).ownBlock ∧ k_ ≠ gb626 ∧ k_ ≠ gb640 ∧ k_ ≠ gb654) (fun k_ => ((fun k_ => some k_ ≠ (.slice Ao9 t619.length co9 : Value).ownBlock ∧ k_ ≠ gb626 ∧ k_ ≠ gb640 ∧ k_ ≠ gb654)) k_ ∧ some k_ ≠ (v703 : Value).ownBlock) rfl rfl ?aO ?aR (fun _ hk => hk) ?aF ?aB ?aS ?aL ?_
   (case aR => exact (by skip; exact Kd.V_F (Kd.V_mono (ok' := (fun k_ => ((fun k_ => some k_ ≠ (.slice Ao9 t619.length co9 : Value).ownBlock ∧ k_ ≠ gb626 ∧ k_ ≠ gb640 ∧ k_ ≠ gb654)) k_ ∧ some k_ ≠ (v703 : Value).ownBlock)) (HL705_7.out) (fun k_ hk => ⟨⟨hk.1.1, ⟨hk.1.2.1, ⟨hk.1.2.2.1, hk.1.2.2.2⟩⟩⟩, hk.2⟩))))
   (case aB => exact (ZB))
   (case aF => exact (fun k_ hk => ⟨Kd.fresh' (Kd.R_lt (ZR HO_627000.out)) k_ hk, Kd.freshB (g := gb626) (o := .cells #[.slice Ao9 t619.length co9, .slice Ao11 t622.length co11] 26 (0, 0)) (ZK BK626.out) k_ hk, Kd.freshB (g := gb640) (o := .cells #[.int .i64 t627, .int .i64 t628, .int .i64 t629, .int .i64 t630, .int .i64 t631, .int .i64 t632, .slice Ao18 t633.length co18, .slice Ao19 t636.length co19] 40 (0, 0)) (ZK BK640.out) k_ hk, Kd.freshB (g := gb654) (o := .cells #[.int .i64 t641, .int .i64 t642, .int .i64 t643, .int .i64 t644, .int .i64 t645, .int .i64 t646, .slice Ao27 t647.length co27, .slice Ao28 t650.length co28] 40 (0, 0)) (ZK BK654.out) k_ hk⟩))
   (case aO => exact (ZRN HO704.out))
   (case aS => exact (below_size (ZB)))
   (case aL => have := LMc112.out; omega)
   intro v707 w121 ho hb hg hat
   have HS0_ := cell_grown hg (hHeld.1) ((Kd.F_in (Kd.V_F HO_9.out) rfl (by have := of_eq_true q701; omega) (by decide)).2)
   have HS1_ := cell_grown hg (hHeld.2.1) ((Kd.F_in (Kd.V_F HO_9.out) rfl (by have := of_eq_true q701; omega) (by decide)).2)
   have HS2_ := cell_grown hg (hHeld.2.2.1) ((Kd.F_in (Kd.V_F HO_9.out) rfl (by have := of_eq_true q701; omega) (by decide)).2)
   have HS3_ := cell_grown hg (hHeld.2.2.2.1) ((Kd.F_in (Kd.V_F HO_9.out) rfl (by have := of_eq_true q701; omega) (by decide)).2)
   have HS4_ := cell_grown hg (hHeld.2.2.2.2.1) ((Kd.F_in (Kd.V_F HO_9.out) rfl (by have := of_eq_true q701; omega) (by decide)).2)
   have HS5_ := cell_grown hg (hHeld.2.2.2.2.2.1) ((Kd.F_in (Kd.V_F HO_9.out) rfl (by have := of_eq_true q701; omega) (by decide)).2)
   have HS6_ := cell_grown hg (hHeld.2.2.2.2.2.2.1) ((Kd.F_in (Kd.V_F HO_9.out) rfl (by have := of_eq_true q701; omega) (by decide)).2)
   have HS7_ := cell_grown hg (hHeld.2.2.2.2.2.2.2.1) ((Kd.F_in (Kd.V_F HO_9.out) rfl (by have := of_eq_true q701; omega) (by decide)).2)
   have HS8_ := cell_grown hg (hHeld.2.2.2.2.2.2.2.2.1) ((Kd.F_in (Kd.V_F HO_9.out) rfl (by have := of_eq_true q705; omega) (by decide)).2)
   have HS9_ := cell_grown hg (hHeld.2.2.2.2.2.2.2.2.2.1) ((Kd.F_in (Kd.V_F HO_9.out) rfl (by have := of_eq_true q705; omega) (by decide)).2)
   have HS10_ := cell_grown hg (hHeld.2.2.2.2.2.2.2.2.2.2.1) ((Kd.F_in (Kd.V_F HO_9.out) rfl (by have := of_eq_true q705; omega) (by decide)).2)
   have HS11_ := cell_grown hg (hHeld.2.2.2.2.2.2.2.2.2.2.2.1) ((Kd.F_in (Kd.V_F HO_9.out) rfl (by have := of_eq_true q705; omega) (by decide)).2)
   have HS12_ := cell_grown hg (hHeld.2.2.2.2.2.2.2.2.2.2.2.2.1) ((Kd.F_in (Kd.V_F HO_9.out) rfl (by have := of_eq_true q705; omega) (by decide)).2)
   have HS13_ := cell_grown hg (hHeld.2.2.2.2.2.2.2.2.2.2.2.2.2.1) ((Kd.F_in (Kd.V_F HO_9.out) rfl (by have := of_eq_true q705; omega) (by decide)).2)
   have HS14_ := cell_grown hg (hHeld.2.2.2.2.2.2.2.2.2.2.2.2.2.2.1) ((Kd.F_in (Kd.V_F HO_9.out) rfl (by have := of_eq_true q705; omega) (by decide)).2)
   have HS15_ := cell_grown hg (hHeld.2.2.2.2.2.2.2.2.2.2.2.2.2.2.2) ((Kd.F_in (Kd.V_F HO_9.out) rfl (by have := of_eq_true q705; omega) (by decide)).2)
   rw [← Ny706.out] at ho
   have n0_ := AM (Kd.V_afterv (ok := (fun k_ => some k_ ≠ (.slice Ao9 t619.length co9 : Value).ownBlock ∧ k_ ≠ gb626 ∧ k_ ≠ gb640 ∧ k_ ≠ gb654)) (ZRV HO_9.out) hg hat)
   have n1_ := AM (Kd.R_over' (ZR HO_627000.out) (Kd.N_typed (ZRN HO704.out)) (by decide) hg)
   have n2_ := AM (Kd.N_afterv (ok := (fun k_ => some k_ ≠ (.slice Ao9 t619.length co9 : Value).ownBlock ∧ k_ ≠ gb626 ∧ k_ ≠ gb640 ∧ k_ ≠ gb654)) (ZRN HO_627001.out) hg hat)
   have n3_ := AM (Kd.V_afterv (ok := (fun k_ => some k_ ≠ (.slice Ao9 t619.length co9 : Value).ownBlock ∧ k_ ≠ gb626 ∧ k_ ≠ gb640 ∧ k_ ≠ gb654)) (ZRV HO_641006.out) hg hat)
   have n4_ := AM (Kd.V_afterv (ok := (fun k_ => some k_ ≠ (.slice Ao9 t619.length co9 : Value).ownBlock ∧ k_ ≠ gb626 ∧ k_ ≠ gb640 ∧ k_ ≠ gb654)) (ZRV HO_641007.out) hg hat)
   have n5_ := AM (Kd.V_afterv (ok := (fun k_ => some k_ ≠ (.slice Ao9 t619.length co9 : Value).ownBlock ∧ k_ ≠ gb626 ∧ k_ ≠ gb640 ∧ k_ ≠ gb654)) (ZRV HO_655006.out) hg hat)
   have n6_ := AM (Kd.V_afterv (ok := (fun k_ => some k_ ≠ (.slice Ao9 t619.length co9 : Value).ownBlock ∧ k_ ≠ gb626 ∧ k_ ≠ gb640 ∧ k_ ≠ gb654)) (ZRV HO_655007.out) hg hat)
   have n7_ := AM (blk_grown (g := gb626) (o := .cells #[.slice Ao9 t619.length co9, .slice Ao11 t622.length co11] 26 (0, 0)) (ZK BK626.out) hg (Kd.N_ne HO704.out BK626.out (by decide)))
   have n8_ := AM (blk_grown (g := gb640) (o := .cells #[.int .i64 t627, .int .i64 t628, .int .i64 t629, .int .i64 t630, .int .i64 t631, .int .i64 t632, .slice Ao18 t633.length co18, .slice Ao19 t636.length co19] 40 (0, 0)) (ZK BK640.out) hg (Kd.N_away HO704.out (fun _ hk => hk.2.2.1)))
   have n9_ := AM (blk_grown (g := gb654) (o := .cells #[.int .i64 t641, .int .i64 t642, .int .i64 t643, .int .i64 t644, .int .i64 t645, .int .i64 t646, .slice Ao27 t647.length co27, .slice Ao28 t650.length co28] 40 (0, 0)) (ZK BK654.out) hg (Kd.N_away HO704.out (fun _ hk => hk.2.2.2)))
   have n10_ := AM (Kd.V_afterv (ok := (fun k_ => some k_ ≠ (.slice Ao9 t619.length co9 : Value).ownBlock ∧ k_ ≠ gb626 ∧ k_ ≠ gb640 ∧ k_ ≠ gb654)) (ZRV HL701_6.out) hg hat)
   have n11_ := AM (Kd.V_afterv (ok := (fun k_ => some k_ ≠ (.slice Ao9 t619.length co9 : Value).ownBlock ∧ k_ ≠ gb626 ∧ k_ ≠ gb640 ∧ k_ ≠ gb654)) (ZRV HL701_7.out) hg hat)
   have n12_ := AM (Kd.V_afterv (ok := (fun k_ => some k_ ≠ (.slice Ao9 t619.length co9 : Value).ownBlock ∧ k_ ≠ gb626 ∧ k_ ≠ gb640 ∧ k_ ≠ gb654)) (ZRV HL705_6.out) hg hat)
   have n13_ := AM (Kd.V_afterv (ok := (fun k_ => some k_ ≠ (.slice Ao9 t619.length co9 : Value).ownBlock ∧ k_ ≠ gb626 ∧ k_ ≠ gb640 ∧ k_ ≠ gb654)) (ZRV HL705_7.out) hg hat)
   have n14_ := AM (hb)
   have n15_ := AM (ho)
   clear HO_9 HO_627000 HO_627001 HO_641006 HO_641007 HO_655006 HO_655007 BK626 BK640 BK654 HL701_6 HL701_7 HL705_6 HL705_7 HB HO704
   have HO_9 := n0_
   have HO_627000 := n1_
   have HO_627001 := n2_
   have HO_641006 := n3_
   have HO_641007 := n4_
   have HO_655006 := n5_
   have HO_655007 := n6_
   have BK626 := n7_
   have BK640 := n8_
   have BK654 := n9_
   have HL701_6 := n10_
   have HL701_7 := n11_
   have HL705_6 := n12_
   have HL705_7 := n13_
   have HB := n14_
   have HO708 := n15_
   clear n0_ n1_ n2_ n3_ n4_ n5_ n6_ n7_ n8_ n9_ n10_ n11_ n12_ n13_ n14_ n15_ ho hb hg hat
   refine hK.out _ _ ?_
   clear hK K
   refine ZNO 103 ?_
   refine ZU 11 11 #[T,T,T,T,T,T,T,T,T,T,T,T] ?_
   refine done_ (done_of HT_.out (by kernel_rfl)) ?_
   have hnb122 := NB626_640.out
   have hnc122 := NB640_626.out
   have hnb123 := NB626_654.out
   have hnc123 := NB654_626.out
   have hcz124 := ZC2 w121 BK626
   obtain ⟨Ao125, co125, eo125⟩ := Kd.N_slice HO708.out
   subst eo125
   try go_wp2_with (first | ((with_reducible refine gate_callee (f := 20) rfl ?_); refine ZGL (some 111) Try.func20 #[.agg #[.slice Ao9 t619.length co9, .slice Ao125 y706.length co125], .int .i64 (wrap64 (x4_80 - 1))] ?_; (with_reducible refine (impl_ProgAt.calls kj80 _ _ t619 (fun k_ => (some k_ ≠ (.slice Ao9 t619.length co9 : Value).ownBlock ∧ (k_ ≠ gb626 ∧ (k_ ≠ gb640 ∧ k_ ≠ gb654)))) _ _ y706 (wrap64 (x4_80 - 1)) t709 t710 t711 t712 t713 t714 t715 t718 true _ ?side1 ?side2 ?side3 A113.out).mono ?_); (case side1 => exact ZQ ((Kd.R_reads' HO_627000.out).2.2)); (case side2 => exact (Kd.R_reads' HO_627000.out).2.1); (case side3 => exact Kd.N_V (HO708.out)); rintro e w126 ⟨v716, v719, rfl, ho0, ho1, hb⟩; refine ZV1 ?_; have HO717 := AM (Kd.V_lower (Kd.V_mono (ok' := fun k_ => some k_ ≠ (.slice Ao9 t619.length co9 : Value).ownBlock ∧ k_ ≠ gb626 ∧ k_ ≠ gb640 ∧ k_ ≠ gb654) ho0 (fun k_ hk_ => ⟨Or.elim hk_ (fun hs_ => hs_.1) (fun hn_ => (Kd.fresh' (Kd.R_lt (ZR HO_627000.out)) k_ hn_)), Or.elim hk_ (fun hs_ => hs_.2.1) (fun hn_ => (Kd.freshB (g := gb626) (o := .cells #[.slice Ao9 t619.length co9, .slice Ao11 t622.length co11] 26 (0, 0)) (ZK BK626.out) k_ hn_)), Or.elim hk_ (fun hs_ => hs_.2.2.1) (fun hn_ => (Kd.freshB (g := gb640) (o := .cells #[.int .i64 t627, .int .i64 t628, .int .i64 t629, .int .i64 t630, .int .i64 t631, .int .i64 t632, .slice Ao18 t633.length co18, .slice Ao19 t636.length co19] 40 (0, 0)) (ZK BK640.out) k_ hn_)), Or.elim hk_ (fun hs_ => hs_.2.2.2) (fun hn_ => (Kd.freshB (g := gb654) (o := .cells #[.int .i64 t641, .int .i64 t642, .int .i64 t643, .int .i64 t644, .int .i64 t645, .int .i64 t646, .slice Ao27 t647.length co27, .slice Ao28 t650.length co28] 40 (0, 0)) (ZK BK654.out) k_ hn_))⟩)) (below_size (ZB))); have HO720 := AM (Kd.V_lower (Kd.V_mono (ok' := fun k_ => some k_ ≠ (.slice Ao9 t619.length co9 : Value).ownBlock ∧ k_ ≠ gb626 ∧ k_ ≠ gb640 ∧ k_ ≠ gb654) ho1 (fun k_ hk_ => ⟨Or.elim hk_ (fun hs_ => hs_.1) (fun hn_ => (Kd.fresh' (Kd.R_lt (ZR HO_627000.out)) k_ hn_)), Or.elim hk_ (fun hs_ => hs_.2.1) (fun hn_ => (Kd.freshB (g := gb626) (o := .cells #[.slice Ao9 t619.length co9, .slice Ao11 t622.length co11] 26 (0, 0)) (ZK BK626.out) k_ hn_)), Or.elim hk_ (fun hs_ => hs_.2.2.1) (fun hn_ => (Kd.freshB (g := gb640) (o := .cells #[.int .i64 t627, .int .i64 t628, .int .i64 t629, .int .i64 t630, .int .i64 t631, .int .i64 t632, .slice Ao18 t633.length co18, .slice Ao19 t636.length co19] 40 (0, 0)) (ZK BK640.out) k_ hn_)), Or.elim hk_ (fun hs_ => hs_.2.2.2) (fun hn_ => (Kd.freshB (g := gb654) (o := .cells #[.int .i64 t641, .int .i64 t642, .int .i64 t643, .int .i64 t644, .int .i64 t645, .int .i64 t646, .slice Ao27 t647.length co27, .slice Ao28 t650.length co28] 40 (0, 0)) (ZK BK654.out) k_ hn_))⟩)) (below_size (ZB))); replace HO_9 := AM (Kd.V_below (ZRV HO_9.out) hb); replace HO_627000 := AM (Kd.R_below (ZR HO_627000.out) hb); replace HO_627001 := AM (Kd.N_below (ZRN HO_627001.out) hb); replace HO_641006 := AM (Kd.V_below (ZRV HO_641006.out) hb); replace HO_641007 := AM (Kd.V_below (ZRV HO_641007.out) hb); replace HO_655006 := AM (Kd.V_below (ZRV HO_655006.out) hb); replace HO_655007 := AM (Kd.V_below (ZRV HO_655007.out) hb); replace HL701_6 := AM (Kd.V_below (ZRV HL701_6.out) hb); replace HL701_7 := AM (Kd.V_below (ZRV HL701_7.out) hb); replace HL705_6 := AM (Kd.V_below (ZRV HL705_6.out) hb); replace HL705_7 := AM (Kd.V_below (ZRV HL705_7.out) hb); replace HO708 := AM (Kd.N_below (ZRN HO708.out) hb); replace BK626 := ZW BK626 hb; replace BK640 := ZW BK640 hb; replace BK654 := ZW BK654 hb; replace HB := ZT HB hb; clear hb; (try clear ho0); (try clear ho1)) | ((with_reducible refine gate_dst (N := 12) rfl ?_); refine ZXW w (N := 12) (cs := #[.int .i64 0, .int .i64 0, .int .i64 0, .int .i64 0, .int .i64 0, .int .i64 0, .slice none 0 0, .slice none 0 0]) (t := 40) ?_; intro gb722 hg w127 BK722 GW722 hb; have NB626_722 : Za (gb626 ≠ gb722) := ZN hg BK626; have NB722_626 : Za (gb722 ≠ gb626) := ZM hg BK626; have NB640_722 : Za (gb640 ≠ gb722) := ZN hg BK640; have NB722_640 : Za (gb722 ≠ gb640) := ZM hg BK640; have NB654_722 : Za (gb654 ≠ gb722) := ZN hg BK654; have NB722_654 : Za (gb722 ≠ gb654) := ZM hg BK654; replace HO_9 := AM (Kd.V_below (Kd.V_elderB (ZRV HO_9.out) gb722 (Nat.le_of_eq hg.symm)) hb); replace HO_627000 := AM (Kd.R_below (ZR HO_627000.out) hb); replace HO_627001 := AM (Kd.N_below (Kd.N_elderB (ZRN HO_627001.out) gb722 (Nat.le_of_eq hg.symm)) hb); replace HO_641006 := AM (Kd.V_below (Kd.V_elderB (ZRV HO_641006.out) gb722 (Nat.le_of_eq hg.symm)) hb); replace HO_641007 := AM (Kd.V_below (Kd.V_elderB (ZRV HO_641007.out) gb722 (Nat.le_of_eq hg.symm)) hb); replace HO_655006 := AM (Kd.V_below (Kd.V_elderB (ZRV HO_655006.out) gb722 (Nat.le_of_eq hg.symm)) hb); replace HO_655007 := AM (Kd.V_below (Kd.V_elderB (ZRV HO_655007.out) gb722 (Nat.le_of_eq hg.symm)) hb); replace HL701_6 := AM (Kd.V_below (Kd.V_elderB (ZRV HL701_6.out) gb722 (Nat.le_of_eq hg.symm)) hb); replace HL701_7 := AM (Kd.V_below (Kd.V_elderB (ZRV HL701_7.out) gb722 (Nat.le_of_eq hg.symm)) hb); replace HL705_6 := AM (Kd.V_below (Kd.V_elderB (ZRV HL705_6.out) gb722 (Nat.le_of_eq hg.symm)) hb); replace HL705_7 := AM (Kd.V_below (Kd.V_elderB (ZRV HL705_7.out) gb722 (Nat.le_of_eq hg.symm)) hb); replace HO708 := AM (Kd.N_below (Kd.N_elderB (ZRN HO708.out) gb722 (Nat.le_of_eq hg.symm)) hb); replace HO717 := AM (Kd.V_below (Kd.V_elderB (ZRV HO717.out) gb722 (Nat.le_of_eq hg.symm)) hb); replace HO720 := AM (Kd.V_below (Kd.V_elderB (ZRV HO720.out) gb722 (Nat.le_of_eq hg.symm)) hb); replace BK626 := ZW BK626 hb; replace BK640 := ZW BK640 hb; replace BK654 := ZW BK654 hb; replace HB := ZT HB hb; clear hb hg; have hnb128 := NB722_626.out; have hnc128 := NB626_722.out; have hnb129 := NB722_640.out; have hnc129 := NB640_722.out; have hnb130 := NB722_654.out; have hnc130 := NB654_722.out; have hcz131 := ZC8 w127 BK722; obtain ⟨Ao132, co132, eo132⟩ := Kd.V_slice HO717.out; subst eo132; obtain ⟨Ao133, co133, eo133⟩ := Kd.V_slice HO720.out; subst eo133) | ((with_reducible refine gate_store (t := 40) (p := 12) rfl ?_); refine store_event (t := 40) (p := 12) (v := ?vo_w134) (w1 := ((((((((w127.setCell ⟨gb722, 0, none⟩ (.int .i64 t709)).setCell ⟨gb722, 1, none⟩ (.int .i64 t710)).setCell ⟨gb722, 2, none⟩ (.int .i64 t711)).setCell ⟨gb722, 3, none⟩ (.int .i64 t712)).setCell ⟨gb722, 4, none⟩ (.int .i64 t713)).setCell ⟨gb722, 5, none⟩ (.int .i64 t714)).setCell ⟨gb722, 6, none⟩ (.slice Ao132 t715.length co132)).setCell ⟨gb722, 7, none⟩ (.slice Ao133 t718.length co133))) ?hg ?ho ?hn ?hr ?_; (case ho => rfl); (case hg => rfl); (case hn => rfl); (case hr => first | (go_simp; done) | (go_simp; rfl)); intro w134 hw; have n0_ : Za (Kd.V k40 40 w134 w.heap.size (fun k_ => some k_ ≠ (.slice Ao9 t619.length co9 : Value).ownBlock ∧ some k_ ≠ (.slice Ao125 y706.length co125 : Value).ownBlock ∧ k_ ≠ gb626 ∧ k_ ≠ gb640 ∧ k_ ≠ gb654 ∧ k_ ≠ gb722) (.slice (some ad701) x9_80.length co117) x9_80) := ⟨(by rw [hw]; exact (ZVf (Kd.V_mono HO_9.out (fun k_ hk => (⟨hk, hk.2⟩ : _ ∧ k_ ≠ gb722))) (fun _ hk => ⟨hk.2, ⟨hk.1.1.1.1, ⟨hk.1.1.2, ⟨hk.1.1.1.2.1, ⟨hk.1.1.1.2.2.1, ⟨hk.1.1.1.2.2.2, hk.1.2⟩⟩⟩⟩⟩⟩)))⟩; have n1_ : Za (Kd.R k35 35 w134 w.heap.size (fun _ => True) (.slice Ao9 t619.length co9) t619) := ⟨(by rw [hw]; exact (ZRf (Kd.R_types HO_627000.out BK722.out (by decide)) (fun _ hk => ⟨hk.2, trivial⟩)))⟩; have n2_ : Za (Kd.N k40 40 w134 w.heap.size (fun k_ => some k_ ≠ (.slice Ao9 t619.length co9 : Value).ownBlock ∧ some k_ ≠ (.slice Ao125 y706.length co125 : Value).ownBlock ∧ k_ ≠ gb626 ∧ k_ ≠ gb640 ∧ k_ ≠ gb654 ∧ k_ ≠ gb722) (.slice Ao11 t622.length co11) t622) := ⟨(by rw [hw]; exact (ZNf (Kd.N_mono HO_627001.out (fun k_ hk => (⟨hk, hk.2⟩ : _ ∧ k_ ≠ gb722))) (fun _ hk => ⟨hk.2, ⟨hk.1.1.1.1, ⟨hk.1.1.2, ⟨hk.1.1.1.2.1, ⟨hk.1.1.1.2.2.1, ⟨hk.1.1.1.2.2.2, hk.1.2⟩⟩⟩⟩⟩⟩)))⟩; have n3_ : Za (Kd.V k40 40 w134 w.heap.size (fun k_ => some k_ ≠ (.slice Ao9 t619.length co9 : Value).ownBlock ∧ some k_ ≠ (.slice Ao125 y706.length co125 : Value).ownBlock ∧ k_ ≠ gb626 ∧ k_ ≠ gb640 ∧ k_ ≠ gb654 ∧ k_ ≠ gb722) (.slice Ao18 t633.length co18) t633) := ⟨(by rw [hw]; exact (ZVf (Kd.V_mono HO_641006.out (fun k_ hk => (⟨hk, hk.2⟩ : _ ∧ k_ ≠ gb722))) (fun _ hk => ⟨hk.2, ⟨hk.1.1.1.1, ⟨hk.1.1.2, ⟨hk.1.1.1.2.1, ⟨hk.1.1.1.2.2.1, ⟨hk.1.1.1.2.2.2, hk.1.2⟩⟩⟩⟩⟩⟩)))⟩; have n4_ : Za (Kd.V k40 40 w134 w.heap.size (fun k_ => some k_ ≠ (.slice Ao9 t619.length co9 : Value).ownBlock ∧ some k_ ≠ (.slice Ao125 y706.length co125 : Value).ownBlock ∧ k_ ≠ gb626 ∧ k_ ≠ gb640 ∧ k_ ≠ gb654 ∧ k_ ≠ gb722) (.slice Ao19 t636.length co19) t636) := ⟨(by rw [hw]; exact (ZVf (Kd.V_mono HO_641007.out (fun k_ hk => (⟨hk, hk.2⟩ : _ ∧ k_ ≠ gb722))) (fun _ hk => ⟨hk.2, ⟨hk.1.1.1.1, ⟨hk.1.1.2, ⟨hk.1.1.1.2.1, ⟨hk.1.1.1.2.2.1, ⟨hk.1.1.1.2.2.2, hk.1.2⟩⟩⟩⟩⟩⟩)))⟩; have n5_ : Za (Kd.V k40 40 w134 w.heap.size (fun k_ => some k_ ≠ (.slice Ao9 t619.length co9 : Value).ownBlock ∧ some k_ ≠ (.slice Ao125 y706.length co125 : Value).ownBlock ∧ k_ ≠ gb626 ∧ k_ ≠ gb640 ∧ k_ ≠ gb654 ∧ k_ ≠ gb722) (.slice Ao27 t647.length co27) t647) := ⟨(by rw [hw]; exact (ZVf (Kd.V_mono HO_655006.out (fun k_ hk => (⟨hk, hk.2⟩ : _ ∧ k_ ≠ gb722))) (fun _ hk => ⟨hk.2, ⟨hk.1.1.1.1, ⟨hk.1.1.2, ⟨hk.1.1.1.2.1, ⟨hk.1.1.1.2.2.1, ⟨hk.1.1.1.2.2.2, hk.1.2⟩⟩⟩⟩⟩⟩)))⟩; have n6_ : Za (Kd.V k40 40 w134 w.heap.size (fun k_ => some k_ ≠ (.slice Ao9 t619.length co9 : Value).ownBlock ∧ some k_ ≠ (.slice Ao125 y706.length co125 : Value).ownBlock ∧ k_ ≠ gb626 ∧ k_ ≠ gb640 ∧ k_ ≠ gb654 ∧ k_ ≠ gb722) (.slice Ao28 t650.length co28) t650) := ⟨(by rw [hw]; exact (ZVf (Kd.V_mono HO_655007.out (fun k_ hk => (⟨hk, hk.2⟩ : _ ∧ k_ ≠ gb722))) (fun _ hk => ⟨hk.2, ⟨hk.1.1.1.1, ⟨hk.1.1.2, ⟨hk.1.1.1.2.1, ⟨hk.1.1.1.2.2.1, ⟨hk.1.1.1.2.2.2, hk.1.2⟩⟩⟩⟩⟩⟩)))⟩; have n7_ : Za (Kd.V k40 40 w134 w.heap.size (fun k_ => some k_ ≠ (.slice Ao9 t619.length co9 : Value).ownBlock ∧ some k_ ≠ (.slice Ao125 y706.length co125 : Value).ownBlock ∧ k_ ≠ gb626 ∧ k_ ≠ gb640 ∧ k_ ≠ gb654 ∧ k_ ≠ gb722) (.slice A701_6 ((D40 x9_80 0).f4).length c701_6) ((D40 x9_80 0).f4)) := ⟨(by rw [hw]; exact (ZVf (Kd.V_mono HL701_6.out (fun k_ hk => (⟨hk, hk.2⟩ : _ ∧ k_ ≠ gb722))) (fun _ hk => ⟨hk.2, ⟨hk.1.1.1.1, ⟨hk.1.1.2, ⟨hk.1.1.1.2.1, ⟨hk.1.1.1.2.2.1, ⟨hk.1.1.1.2.2.2, hk.1.2⟩⟩⟩⟩⟩⟩)))⟩; have n8_ : Za (Kd.V k40 40 w134 w.heap.size (fun k_ => some k_ ≠ (.slice Ao9 t619.length co9 : Value).ownBlock ∧ some k_ ≠ (.slice Ao125 y706.length co125 : Value).ownBlock ∧ k_ ≠ gb626 ∧ k_ ≠ gb640 ∧ k_ ≠ gb654 ∧ k_ ≠ gb722) (.slice A701_7 ((D40 x9_80 0).f5).length c701_7) ((D40 x9_80 0).f5)) := ⟨(by rw [hw]; exact (ZVf (Kd.V_mono HL701_7.out (fun k_ hk => (⟨hk, hk.2⟩ : _ ∧ k_ ≠ gb722))) (fun _ hk => ⟨hk.2, ⟨hk.1.1.1.1, ⟨hk.1.1.2, ⟨hk.1.1.1.2.1, ⟨hk.1.1.1.2.2.1, ⟨hk.1.1.1.2.2.2, hk.1.2⟩⟩⟩⟩⟩⟩)))⟩; have n9_ : Za (Kd.V k40 40 w134 w.heap.size (fun k_ => some k_ ≠ (.slice Ao9 t619.length co9 : Value).ownBlock ∧ some k_ ≠ (.slice Ao125 y706.length co125 : Value).ownBlock ∧ k_ ≠ gb626 ∧ k_ ≠ gb640 ∧ k_ ≠ gb654 ∧ k_ ≠ gb722) (.slice A701_6 ((D40 x9_80 0).f4).length c701_6) ((D40 x9_80 0).f4)) := ⟨(by rw [hw]; exact (ZVf (Kd.V_mono HL705_6.out (fun k_ hk => (⟨hk, hk.2⟩ : _ ∧ k_ ≠ gb722))) (fun _ hk => ⟨hk.2, ⟨hk.1.1.1.1, ⟨hk.1.1.2, ⟨hk.1.1.1.2.1, ⟨hk.1.1.1.2.2.1, ⟨hk.1.1.1.2.2.2, hk.1.2⟩⟩⟩⟩⟩⟩)))⟩; have n10_ : Za (Kd.V k40 40 w134 w.heap.size (fun k_ => some k_ ≠ (.slice Ao9 t619.length co9 : Value).ownBlock ∧ some k_ ≠ (.slice Ao125 y706.length co125 : Value).ownBlock ∧ k_ ≠ gb626 ∧ k_ ≠ gb640 ∧ k_ ≠ gb654 ∧ k_ ≠ gb722) (.slice A701_7 ((D40 x9_80 0).f5).length c701_7) ((D40 x9_80 0).f5)) := ⟨(by rw [hw]; exact (ZVf (Kd.V_mono HL705_7.out (fun k_ hk => (⟨hk, hk.2⟩ : _ ∧ k_ ≠ gb722))) (fun _ hk => ⟨hk.2, ⟨hk.1.1.1.1, ⟨hk.1.1.2, ⟨hk.1.1.1.2.1, ⟨hk.1.1.1.2.2.1, ⟨hk.1.1.1.2.2.2, hk.1.2⟩⟩⟩⟩⟩⟩)))⟩; have n11_ : Za (Kd.N k40 40 w134 w.heap.size (fun k_ => some k_ ≠ (.slice Ao9 t619.length co9 : Value).ownBlock ∧ k_ ≠ gb626 ∧ k_ ≠ gb640 ∧ k_ ≠ gb654 ∧ k_ ≠ gb722) (.slice Ao125 y706.length co125) y706) := ⟨(by rw [hw]; exact (ZNf (Kd.N_mono HO708.out (fun k_ hk => (⟨hk, hk.2⟩ : _ ∧ k_ ≠ gb722))) (fun _ hk => ⟨hk.2, ⟨hk.1.1.1, ⟨hk.1.1.2.1, ⟨hk.1.1.2.2.1, ⟨hk.1.1.2.2.2, hk.1.2⟩⟩⟩⟩⟩)))⟩; have n12_ : Za (Kd.V k40 40 w134 w.heap.size (fun k_ => some k_ ≠ (.slice Ao9 t619.length co9 : Value).ownBlock ∧ k_ ≠ gb626 ∧ k_ ≠ gb640 ∧ k_ ≠ gb654 ∧ k_ ≠ gb722) (.slice Ao132 t715.length co132) t715) := ⟨(by rw [hw]; exact (ZVf (Kd.V_mono HO717.out (fun k_ hk => (⟨hk, hk.2⟩ : _ ∧ k_ ≠ gb722))) (fun _ hk => ⟨hk.2, ⟨hk.1.1.1, ⟨hk.1.1.2.1, ⟨hk.1.1.2.2.1, ⟨hk.1.1.2.2.2, hk.1.2⟩⟩⟩⟩⟩)))⟩; have n13_ : Za (Kd.V k40 40 w134 w.heap.size (fun k_ => some k_ ≠ (.slice Ao9 t619.length co9 : Value).ownBlock ∧ k_ ≠ gb626 ∧ k_ ≠ gb640 ∧ k_ ≠ gb654 ∧ k_ ≠ gb722) (.slice Ao133 t718.length co133) t718) := ⟨(by rw [hw]; exact (ZVf (Kd.V_mono HO720.out (fun k_ hk => (⟨hk, hk.2⟩ : _ ∧ k_ ≠ gb722))) (fun _ hk => ⟨hk.2, ⟨hk.1.1.1, ⟨hk.1.1.2.1, ⟨hk.1.1.2.2.1, ⟨hk.1.1.2.2.2, hk.1.2⟩⟩⟩⟩⟩)))⟩; have n14_ : Za (w134.heap[gb626]? = some (.cells #[.slice Ao9 t619.length co9, .slice Ao11 t622.length co11] 26 (0, 0))) := ⟨(by rw [hw]; exact (ZZ BK626.out))⟩; have n15_ : Za (w134.heap[gb640]? = some (.cells #[.int .i64 t627, .int .i64 t628, .int .i64 t629, .int .i64 t630, .int .i64 t631, .int .i64 t632, .slice Ao18 t633.length co18, .slice Ao19 t636.length co19] 40 (0, 0))) := ⟨(by rw [hw]; exact (ZZ BK640.out))⟩; have n16_ : Za (w134.heap[gb654]? = some (.cells #[.int .i64 t641, .int .i64 t642, .int .i64 t643, .int .i64 t644, .int .i64 t645, .int .i64 t646, .slice Ao27 t647.length co27, .slice Ao28 t650.length co28] 40 (0, 0))) := ⟨(by rw [hw]; exact (ZZ BK654.out))⟩; have n17_ : Za (w134.heap[gb722]? = some (.cells #[.int .i64 t709, .int .i64 t710, .int .i64 t711, .int .i64 t712, .int .i64 t713, .int .i64 t714, .slice Ao132 t715.length co132, .slice Ao133 t718.length co133] 40 (0, 0))) := ⟨(by rw [hw]; exact (ZZ BK722.out))⟩; have n18_ : Za (Below w.heap.size w w134) := ⟨(by rw [hw]; exact (ZB))⟩; clear hw HO_9 HO_627000 HO_627001 HO_641006 HO_641007 HO_655006 HO_655007 HL701_6 HL701_7 HL705_6 HL705_7 HO708 HO717 HO720 BK626 BK640 BK654 BK722 HB; have HO_9 := n0_; have HO_627000 := n1_; have HO_627001 := n2_; have HO_641006 := n3_; have HO_641007 := n4_; have HO_655006 := n5_; have HO_655007 := n6_; have HL701_6 := n7_; have HL701_7 := n8_; have HL705_6 := n9_; have HL705_7 := n10_; have HO708 := n11_; have HO717 := n12_; have HO720 := n13_; have BK626 := n14_; have BK640 := n15_; have BK654 := n16_; have BK722 := n17_; have HB := n18_; clear n0_ n1_ n2_ n3_ n4_ n5_ n6_ n7_ n8_ n9_ n10_ n11_ n12_ n13_ n14_ n15_ n16_ n17_ n18_; have hcz135 := ZC8 w134 BK722) | ((with_reducible refine gate_dst (N := 117) rfl ?_); refine Kd.N_litG k40 _ 40 ?hg (N' := 117) ?hd (xs := ([(⟨t709, t710, (⟨t711, t712, t713⟩ : S38), t714, t715, t718⟩ : S40)] : List (S40))) (inner := [.int .i64 t709, .int .i64 t710, .int .i64 t711, .int .i64 t712, .int .i64 t713, .int .i64 t714, .slice Ao132 t715.length co132, .slice Ao133 t718.length co133]) (ok := (fun k_ => some k_ ≠ (.slice Ao9 t619.length co9 : Value).ownBlock ∧ k_ ≠ gb626 ∧ k_ ≠ gb640 ∧ k_ ≠ gb654 ∧ k_ ≠ gb722)) (okp := (fun k_ => some k_ ≠ (.slice Ao9 t619.length co9 : Value).ownBlock ∧ k_ ≠ gb626 ∧ k_ ≠ gb640 ∧ k_ ≠ gb654 ∧ k_ ≠ gb722)) ?hr ?hp (fun _ hk => hk) ((show ∀ k_, w134.heap.size ≤ k_ → (fun k_ => some k_ ≠ (.slice Ao9 t619.length co9 : Value).ownBlock ∧ k_ ≠ gb626 ∧ k_ ≠ gb640 ∧ k_ ≠ gb654 ∧ k_ ≠ gb722) k_ from fun k_ hk => ⟨Kd.fresh' (Kd.R_lt (ZR HO_627000.out)) k_ hk, Kd.freshB (g := gb626) (o := .cells #[.slice Ao9 t619.length co9, .slice Ao11 t622.length co11] 26 (0, 0)) (ZK BK626.out) k_ hk, Kd.freshB (g := gb640) (o := .cells #[.int .i64 t627, .int .i64 t628, .int .i64 t629, .int .i64 t630, .int .i64 t631, .int .i64 t632, .slice Ao18 t633.length co18, .slice Ao19 t636.length co19] 40 (0, 0)) (ZK BK640.out) k_ hk, Kd.freshB (g := gb654) (o := .cells #[.int .i64 t641, .int .i64 t642, .int .i64 t643, .int .i64 t644, .int .i64 t645, .int .i64 t646, .slice Ao27 t647.length co27, .slice Ao28 t650.length co28] 40 (0, 0)) (ZK BK654.out) k_ hk, Kd.freshB (g := gb722) (o := .cells #[.int .i64 t709, .int .i64 t710, .int .i64 t711, .int .i64 t712, .int .i64 t713, .int .i64 t714, .slice Ao132 t715.length co132, .slice Ao133 t718.length co133] 40 (0, 0)) (ZK BK722.out) k_ hk⟩) _ (Nat.le_refl _)) (Below.refl _ _) (Nat.le_refl _) (by simp) ?_; (case hd => rfl); (case hg => rfl); (case hr => first | (go_simp; done) | (go_simp; rfl)); (case hp => exact (Reps.c8 (show Kd.FK k40 _ _ (⟨t709, t710, (⟨t711, t712, t713⟩ : S38), t714, t715, t718⟩ : S40) [.int .i64 t709, .int .i64 t710, .int .i64 t711, .int .i64 t712, .int .i64 t713, .int .i64 t714, .slice Ao132 t715.length co132, .slice Ao133 t718.length co133] from (k40_mkF _ _ (⟨t709, t710, (⟨t711, t712, t713⟩ : S38), t714, t715, t718⟩ : S40) (Kd.V_reads' (Kd.V_mono (ok' := (fun k_ => some k_ ≠ (.slice Ao9 t619.length co9 : Value).ownBlock ∧ k_ ≠ gb626 ∧ k_ ≠ gb640 ∧ k_ ≠ gb654 ∧ k_ ≠ gb722)) (HO717.out) (fun k_ hk => ⟨hk.1, ⟨hk.2.1, ⟨hk.2.2.1, ⟨hk.2.2.2.1, hk.2.2.2.2⟩⟩⟩⟩))).2.1 (Kd.V_F (Kd.V_mono (ok' := (fun k_ => some k_ ≠ (.slice Ao9 t619.length co9 : Value).ownBlock ∧ k_ ≠ gb626 ∧ k_ ≠ gb640 ∧ k_ ≠ gb654 ∧ k_ ≠ gb722)) (HO717.out) (fun k_ hk => ⟨hk.1, ⟨hk.2.1, ⟨hk.2.2.1, ⟨hk.2.2.2.1, hk.2.2.2.2⟩⟩⟩⟩))) (Kd.V_reads' (Kd.V_mono (ok' := (fun k_ => some k_ ≠ (.slice Ao9 t619.length co9 : Value).ownBlock ∧ k_ ≠ gb626 ∧ k_ ≠ gb640 ∧ k_ ≠ gb654 ∧ k_ ≠ gb722)) (HO720.out) (fun k_ hk => ⟨hk.1, ⟨hk.2.1, ⟨hk.2.2.1, ⟨hk.2.2.2.1, hk.2.2.2.2⟩⟩⟩⟩))).2.1 (Kd.V_F (Kd.V_mono (ok' := (fun k_ => some k_ ≠ (.slice Ao9 t619.length co9 : Value).ownBlock ∧ k_ ≠ gb626 ∧ k_ ≠ gb640 ∧ k_ ≠ gb654 ∧ k_ ≠ gb722)) (HO720.out) (fun k_ hk => ⟨hk.1, ⟨hk.2.1, ⟨hk.2.2.1, ⟨hk.2.2.2.1, hk.2.2.2.2⟩⟩⟩⟩))))) (Reps.none _ _))); intro v724 w136 ho137 hb hg_ hnew_; clear hg_ hnew_; (first | rw [← Ny723.out] at ho137 | (simp only [Int.reduceToNat] at ho137; rw [← Ny723.out] at ho137)); have HO725 := AM (Kd.N_lower ho137 (below_size (ZB))); replace HO_9 := AM (Kd.V_elder' (ZRV HO_9.out) (Kd.N_base ho137) hb); replace HO_627000 := AM (Kd.R_below (ZR HO_627000.out) hb); replace HO_627001 := AM (Kd.N_elder' (ZRN HO_627001.out) (Kd.N_base ho137) hb); replace HO_641006 := AM (Kd.V_elder' (ZRV HO_641006.out) (Kd.N_base ho137) hb); replace HO_641007 := AM (Kd.V_elder' (ZRV HO_641007.out) (Kd.N_base ho137) hb); replace HO_655006 := AM (Kd.V_elder' (ZRV HO_655006.out) (Kd.N_base ho137) hb); replace HO_655007 := AM (Kd.V_elder' (ZRV HO_655007.out) (Kd.N_base ho137) hb); replace HL701_6 := AM (Kd.V_elder' (ZRV HL701_6.out) (Kd.N_base ho137) hb); replace HL701_7 := AM (Kd.V_elder' (ZRV HL701_7.out) (Kd.N_base ho137) hb); replace HL705_6 := AM (Kd.V_elder' (ZRV HL705_6.out) (Kd.N_base ho137) hb); replace HL705_7 := AM (Kd.V_elder' (ZRV HL705_7.out) (Kd.N_base ho137) hb); replace HO708 := AM (Kd.N_elder' (ZRN HO708.out) (Kd.N_base ho137) hb); replace HO717 := AM (Kd.V_elder' (ZRV HO717.out) (Kd.N_base ho137) hb); replace HO720 := AM (Kd.V_elder' (ZRV HO720.out) (Kd.N_base ho137) hb); replace BK626 := ZW BK626 hb; replace BK640 := ZW BK640 hb; replace BK654 := ZW BK654 hb; replace BK722 := ZW BK722 hb; replace HB := ZT HB hb; clear hb ho137; have hnb138 := NB654_640.out; have hnc138 := NB640_654.out; have hcz139 := ZC8 w136 BK654) | ((with_reducible refine gate_dst (N := 119) rfl ?_); refine Kd.N_litG k40 _ 40 ?hg (N' := 119) ?hd (xs := ([(⟨t641, t642, (⟨t643, t644, t645⟩ : S38), t646, t647, t650⟩ : S40)] : List (S40))) (inner := [.int .i64 t641, .int .i64 t642, .int .i64 t643, .int .i64 t644, .int .i64 t645, .int .i64 t646, .slice Ao27 t647.length co27, .slice Ao28 t650.length co28]) (ok := (fun k_ => some k_ ≠ (.slice Ao9 t619.length co9 : Value).ownBlock ∧ some k_ ≠ (.slice Ao125 y706.length co125 : Value).ownBlock ∧ some k_ ≠ (v724 : Value).ownBlock ∧ k_ ≠ gb626 ∧ k_ ≠ gb640 ∧ k_ ≠ gb654 ∧ k_ ≠ gb722)) (okp := (fun k_ => some k_ ≠ (.slice Ao9 t619.length co9 : Value).ownBlock ∧ some k_ ≠ (.slice Ao125 y706.length co125 : Value).ownBlock ∧ some k_ ≠ (v724 : Value).ownBlock ∧ k_ ≠ gb626 ∧ k_ ≠ gb640 ∧ k_ ≠ gb654 ∧ k_ ≠ gb722)) ?hr ?hp (fun _ hk => hk) ((show ∀ k_, w136.heap.size ≤ k_ → (fun k_ => some k_ ≠ (.slice Ao9 t619.length co9 : Value).ownBlock ∧ some k_ ≠ (.slice Ao125 y706.length co125 : Value).ownBlock ∧ some k_ ≠ (v724 : Value).ownBlock ∧ k_ ≠ gb626 ∧ k_ ≠ gb640 ∧ k_ ≠ gb654 ∧ k_ ≠ gb722) k_ from fun k_ hk => ⟨Kd.fresh' (Kd.R_lt (ZR HO_627000.out)) k_ hk, Kd.fresh' (Kd.N_lt (ZRN HO708.out)) k_ hk, Kd.fresh' (Kd.N_lt (ZRN HO725.out)) k_ hk, Kd.freshB (g := gb626) (o := .cells #[.slice Ao9 t619.length co9, .slice Ao11 t622.length co11] 26 (0, 0)) (ZK BK626.out) k_ hk, Kd.freshB (g := gb640) (o := .cells #[.int .i64 t627, .int .i64 t628, .int .i64 t629, .int .i64 t630, .int .i64 t631, .int .i64 t632, .slice Ao18 t633.length co18, .slice Ao19 t636.length co19] 40 (0, 0)) (ZK BK640.out) k_ hk, Kd.freshB (g := gb654) (o := .cells #[.int .i64 t641, .int .i64 t642, .int .i64 t643, .int .i64 t644, .int .i64 t645, .int .i64 t646, .slice Ao27 t647.length co27, .slice Ao28 t650.length co28] 40 (0, 0)) (ZK BK654.out) k_ hk, Kd.freshB (g := gb722) (o := .cells #[.int .i64 t709, .int .i64 t710, .int .i64 t711, .int .i64 t712, .int .i64 t713, .int .i64 t714, .slice Ao132 t715.length co132, .slice Ao133 t718.length co133] 40 (0, 0)) (ZK BK722.out) k_ hk⟩) _ (Nat.le_refl _)) (Below.refl _ _) (Nat.le_refl _) (by simp) ?_; (case hd => rfl); (case hg => rfl); (case hr => first | (go_simp; done) | (go_simp; rfl)); (case hp => exact (Reps.c8 (show Kd.FK k40 _ _ (⟨t641, t642, (⟨t643, t644, t645⟩ : S38), t646, t647, t650⟩ : S40) [.int .i64 t641, .int .i64 t642, .int .i64 t643, .int .i64 t644, .int .i64 t645, .int .i64 t646, .slice Ao27 t647.length co27, .slice Ao28 t650.length co28] from (k40_mkF _ _ (⟨t641, t642, (⟨t643, t644, t645⟩ : S38), t646, t647, t650⟩ : S40) (Kd.V_reads' (Kd.V_mono (ok' := (fun k_ => some k_ ≠ (.slice Ao9 t619.length co9 : Value).ownBlock ∧ some k_ ≠ (.slice Ao125 y706.length co125 : Value).ownBlock ∧ some k_ ≠ (v724 : Value).ownBlock ∧ k_ ≠ gb626 ∧ k_ ≠ gb640 ∧ k_ ≠ gb654 ∧ k_ ≠ gb722)) (HO_655006.out) (fun k_ hk => ⟨hk.1.1, ⟨hk.1.2.1, ⟨hk.2, ⟨hk.1.2.2.1, ⟨hk.1.2.2.2.1, ⟨hk.1.2.2.2.2.1, hk.1.2.2.2.2.2⟩⟩⟩⟩⟩⟩))).2.1 (Kd.V_F (Kd.V_mono (ok' := (fun k_ => some k_ ≠ (.slice Ao9 t619.length co9 : Value).ownBlock ∧ some k_ ≠ (.slice Ao125 y706.length co125 : Value).ownBlock ∧ some k_ ≠ (v724 : Value).ownBlock ∧ k_ ≠ gb626 ∧ k_ ≠ gb640 ∧ k_ ≠ gb654 ∧ k_ ≠ gb722)) (HO_655006.out) (fun k_ hk => ⟨hk.1.1, ⟨hk.1.2.1, ⟨hk.2, ⟨hk.1.2.2.1, ⟨hk.1.2.2.2.1, ⟨hk.1.2.2.2.2.1, hk.1.2.2.2.2.2⟩⟩⟩⟩⟩⟩))) (Kd.V_reads' (Kd.V_mono (ok' := (fun k_ => some k_ ≠ (.slice Ao9 t619.length co9 : Value).ownBlock ∧ some k_ ≠ (.slice Ao125 y706.length co125 : Value).ownBlock ∧ some k_ ≠ (v724 : Value).ownBlock ∧ k_ ≠ gb626 ∧ k_ ≠ gb640 ∧ k_ ≠ gb654 ∧ k_ ≠ gb722)) (HO_655007.out) (fun k_ hk => ⟨hk.1.1, ⟨hk.1.2.1, ⟨hk.2, ⟨hk.1.2.2.1, ⟨hk.1.2.2.2.1, ⟨hk.1.2.2.2.2.1, hk.1.2.2.2.2.2⟩⟩⟩⟩⟩⟩))).2.1 (Kd.V_F (Kd.V_mono (ok' := (fun k_ => some k_ ≠ (.slice Ao9 t619.length co9 : Value).ownBlock ∧ some k_ ≠ (.slice Ao125 y706.length co125 : Value).ownBlock ∧ some k_ ≠ (v724 : Value).ownBlock ∧ k_ ≠ gb626 ∧ k_ ≠ gb640 ∧ k_ ≠ gb654 ∧ k_ ≠ gb722)) (HO_655007.out) (fun k_ hk => ⟨hk.1.1, ⟨hk.1.2.1, ⟨hk.2, ⟨hk.1.2.2.1, ⟨hk.1.2.2.2.1, ⟨hk.1.2.2.2.2.1, hk.1.2.2.2.2.2⟩⟩⟩⟩⟩⟩))))) (Reps.none _ _))); intro v727 w140 ho141 hb hg_ hnew_; clear hg_ hnew_; (first | rw [← Ny726.out] at ho141 | (simp only [Int.reduceToNat] at ho141; rw [← Ny726.out] at ho141)); have HO728 := AM (Kd.N_lower ho141 (below_size (ZB))); replace HO_9 := AM (Kd.V_elder' (ZRV HO_9.out) (Kd.N_base ho141) hb); replace HO_627000 := AM (Kd.R_below (ZR HO_627000.out) hb); replace HO_627001 := AM (Kd.N_elder' (ZRN HO_627001.out) (Kd.N_base ho141) hb); replace HO_641006 := AM (Kd.V_elder' (ZRV HO_641006.out) (Kd.N_base ho141) hb); replace HO_641007 := AM (Kd.V_elder' (ZRV HO_641007.out) (Kd.N_base ho141) hb); replace HO_655006 := AM (Kd.V_elder' (ZRV HO_655006.out) (Kd.N_base ho141) hb); replace HO_655007 := AM (Kd.V_elder' (ZRV HO_655007.out) (Kd.N_base ho141) hb); replace HL701_6 := AM (Kd.V_elder' (ZRV HL701_6.out) (Kd.N_base ho141) hb); replace HL701_7 := AM (Kd.V_elder' (ZRV HL701_7.out) (Kd.N_base ho141) hb); replace HL705_6 := AM (Kd.V_elder' (ZRV HL705_6.out) (Kd.N_base ho141) hb); replace HL705_7 := AM (Kd.V_elder' (ZRV HL705_7.out) (Kd.N_base ho141) hb); replace HO708 := AM (Kd.N_elder' (ZRN HO708.out) (Kd.N_base ho141) hb); replace HO717 := AM (Kd.V_elder' (ZRV HO717.out) (Kd.N_base ho141) hb); replace HO720 := AM (Kd.V_elder' (ZRV HO720.out) (Kd.N_base ho141) hb); replace HO725 := AM (Kd.N_elder' (ZRN HO725.out) (Kd.N_base ho141) hb); replace BK626 := ZW BK626 hb; replace BK640 := ZW BK640 hb; replace BK654 := ZW BK654 hb; replace BK722 := ZW BK722 hb; replace HB := ZT HB hb; clear hb ho141; obtain ⟨Ao142, co142, eo142⟩ := Kd.N_slice HO725.out; subst eo142; obtain ⟨Ao143, co143, eo143⟩ := Kd.N_slice HO728.out; subst eo143) | (go_at_call 22; (with_reducible refine (laws_lcSteps.calls kj80 _ _ y723 _ _ y726 t729 _ ?side1 ?side2 ?side3 ?side4 A115.out).mono ?_); (case side1 => exact ZQ ((Kd.N_reads' HO725.out).2.2)); (case side2 => exact (Kd.N_reads' HO725.out).2.1); (case side3 => exact ZQ ((Kd.N_reads' HO728.out).2.2)); (case side4 => exact (Kd.N_reads' HO728.out).2.1); rintro e w144 ⟨rfl, hb⟩; replace HO_9 := AM (Kd.V_below (ZRV HO_9.out) hb); replace HO_627000 := AM (Kd.R_below (ZR HO_627000.out) hb); replace HO_627001 := AM (Kd.N_below (ZRN HO_627001.out) hb); replace HO_641006 := AM (Kd.V_below (ZRV HO_641006.out) hb); replace HO_641007 := AM (Kd.V_below (ZRV HO_641007.out) hb); replace HO_655006 := AM (Kd.V_below (ZRV HO_655006.out) hb); replace HO_655007 := AM (Kd.V_below (ZRV HO_655007.out) hb); replace HL701_6 := AM (Kd.V_below (ZRV HL701_6.out) hb); replace HL701_7 := AM (Kd.V_below (ZRV HL701_7.out) hb); replace HL705_6 := AM (Kd.V_below (ZRV HL705_6.out) hb); replace HL705_7 := AM (Kd.V_below (ZRV HL705_7.out) hb); replace HO708 := AM (Kd.N_below (ZRN HO708.out) hb); replace HO717 := AM (Kd.V_below (ZRV HO717.out) hb); replace HO720 := AM (Kd.V_below (ZRV HO720.out) hb); replace HO725 := AM (Kd.N_below (ZRN HO725.out) hb); replace HO728 := AM (Kd.N_below (ZRN HO728.out) hb); replace BK626 := ZW BK626 hb; replace BK640 := ZW BK640 hb; replace BK654 := ZW BK654 hb; replace BK722 := ZW BK722 hb; replace HB := ZT HB hb; clear hb))
   go_ret
   exact ⟨ZE, ZB⟩)
   ·(
   replace c114 := Bool.eq_false_iff.mpr c114
   subst c114
   have H1 := H; rw [if_neg ZFT] at H1
   clear H
   have H := H1
   clear H1
   exact absurd H (by simp)))
   ·(
   rw [if_neg c112] at H
   exact absurd H (by simp)))
   ·(
   rw [if_neg c111] at H
   exact absurd H (by simp)))
   ·(
   rw [if_neg c110] at H
   exact absurd H (by simp))))))))

end Go.Proofs.Ytkkdeojbkfjlpaa.B
