/- Go functions as Lean functions, and for each its contract; written by wip/tools/pr.py over the kit's print. -/
import Derived.Test.YthidgkfgdkjghaaAx0
import Derived.Test.YthidgkfgdkjghaaAx3
import Derived.Test.YthidgkfgdkjghaaAx6
import Derived.Test.YthidgkfgdkjghaaAx9
import Derived.Test.YthidgkfgdkjghaaAx19
import Derived.Test.YthidgkfgdkjghaaAx23
import Derived.Test.YthidgkfgdkjghaaAx28
namespace Go.Proofs.Ythidgkfgdkjghaa.A
open Go.RowKit Go.Proofs.YthidgkfgdkjghaaW.PrintWords Go.Proofs.YthidgkfgdkjghaaW.PrintLast Go.Proofs.YthidgkfgdkjghaaW.PrintMore
attribute [local go_sem] max2_int min2_int max_two min_two max_three min_three max_four min_four
set_option linter.unusedVariables false
set_option linter.unusedSimpArgs false
set_option maxHeartbeats 8000000
set_option maxRecDepth 100000

/-! ### spec_DrawTypeKnows: function 25 -/
def spec_DrawTypeKnows.f (k : Nat) (l0 : List Int) : Option ((List (S39)) × (List (S32)) × Int) := (spec_l6Open.f l0).bind fun bt830 => ((spec_l71Any.f k bt830.1 bt830.2).bind fun bt833 => ((spec_l6Rd_pick.f k bt830.1 bt833.2.2 5).bind fun bt840 => (some (bt833.1, bt833.2.1, wrap64 (bt840.1 - 1)))))
theorem spec_DrawTypeKnows.calls (k : Nat) (A0 : Option Addr) (c0 : Nat) (l0 : List Int) (r1 : List (S39)) (r2 : List (S32)) (r3 : Int) (w : World) (hr0 : Kd.C (Kd.int .u8) w A0 l0.length l0) (hc0 : l0.length ≤ c0) (h : spec_DrawTypeKnows.f k l0 = some (r1, r2, r3)) :
  Calls Try.prog 25 #[.slice A0 l0.length c0] w fun e w' => ∃ v0_ v1_ : Value, e = .returned (.tuple #[.agg #[v0_, v1_], .int .i64 r3]) ∧ Kd.R k39 39 w' w.heap.size (fun k_ => (w.heap.size ≤ k_)) v0_ r1 ∧ Kd.N k32 32 w' w.heap.size (fun k_ => (w.heap.size ≤ k_) ∧ some k_ ≠ (v0_ : Value).ownBlock) v1_ r2 ∧ Below w.heap.size w w' := by
 have hu26 := Try.underlying26
 have HR0 := AM hr0
 have HC0 := AM hc0
 clear hr0 hc0
 have HB := AM (Below.refl w.heap.size w)
 have H := h
 unfold spec_DrawTypeKnows.f at H
 clear h
 obtain ⟨⟨t830, t831⟩, A2, H⟩ := ZOB H; try dsimp only at H
 obtain ⟨⟨t833, t836, t839⟩, A3, H⟩ := ZOB H; try dsimp only at H
 obtain ⟨⟨t840, t841⟩, A4, H⟩ := ZOB H; try dsimp only at H
 simp only [Option.some.injEq, Prod.mk.injEq] at H
 obtain ⟨rfl, rfl, rfl⟩ := H
 go_enter Try.func25, Try.ntmps25
 go_wp2_with (first | ((with_reducible refine gate_dst (N := 2) rfl ?_); refine ZX (N := 2) (cs := #[.slice none 0 0, .slice none 0 0]) (t := 26) ?_; intro gb829 hg w5 hbox hb; have BK829 := AM (hbox); have GW829 : Aside0 (w.heap.size ≤ gb829) := ZS hg; have GE829 : Aside0 (w.heap.size ≤ gb829) := ZS hg; replace HB := ZT HB hb; clear hb hbox hg) | ((with_reducible refine gate_callee (f := 35) rfl ?_); refine ZGL (some 6) Try.func35 #[.slice A0 l0.length c0] ?_; (with_reducible refine (spec_l6Open.calls _ _ l0 t830 t831 w _ ?side1 ?side2 ?side3 A2.out).mono ?_); (case side1 => repeat (first | (with_reducible first | exact HB.out | apply below_alloc | apply pw_below_drewN | apply below_drew1 | refine below_set ?_ GE829.out) | exact HB.out)); (case side2 => exact HR0.out); (case side3 => exact HC0.out); rintro e w6 ⟨g832, rfl, hi, hb, hb2⟩; refine ⟨_, rfl, ?_⟩; have HI832 := AM (hi); have NB832_829 := AM (IsS64.ne_blk hi (blk_below (g := gb829) (o := .cells #[.slice none 0 0, .slice none 0 0] 26 (0, 0)) (ZK BK829.out) hb2) (by decide)); have NB829_832 := AM (Ne.symm (IsS64.ne_blk hi (blk_below (g := gb829) (o := .cells #[.slice none 0 0, .slice none 0 0] 26 (0, 0)) (ZK BK829.out) hb2) (by decide))); replace BK829 := AM (blk_below (g := gb829) (o := .cells #[.slice none 0 0, .slice none 0 0] 26 (0, 0)) (ZK BK829.out) hb2); replace HB := AM (hb); clear hb hb2 hi) | ((with_reducible refine gate_callee (f := 34) rfl ?_); refine ZGL (some 8) Try.func34 #[.pointer (some ⟨g832, 0, none⟩)] ?_; (with_reducible refine (spec_l71Any.calls k g832 t830 t831 t833 t836 t839 w _ ?side1 ?side2 A3.out).mono ?_); (case side1 => repeat (first | (with_reducible first | exact HI832.out | apply IsS64.alloc | apply IsS64.drewN | apply IsS64.drew | apply IsS64.set_1 | refine IsS64.far ?_ NB832_829.out _) | exact HI832.out)); (case side2 => repeat (first | (with_reducible first | exact HB.out | apply below_alloc | apply pw_below_drewN | apply below_drew1 | refine below_set ?_ (IsS64.ge HI832.out) | refine below_set ?_ GE829.out) | exact HB.out)); rintro e w7 ⟨v834, v837, rfl, ho0, ho1, hi, hb, hk⟩; refine ⟨_, rfl, ?_⟩; have HO835 := AM (Kd.R_lower (Kd.R_newM (M := fun k_ => (w.heap.size ≤ k_)) (Kd.R_mono (ok' := fun k_ => True) ho0 (fun _ hk_ => trivial)) (below_size (by repeat (first | (with_reducible first | exact HB.out | apply below_alloc | apply pw_below_drewN | apply below_drew1 | refine below_set ?_ (IsS64.ge HI832.out) | refine below_set ?_ GE829.out) | exact HB.out))) (fun k_ h_ => h_)) (below_size (by repeat (first | (with_reducible first | exact HB.out | apply below_alloc | apply pw_below_drewN | apply below_drew1 | refine below_set ?_ (IsS64.ge HI832.out) | refine below_set ?_ GE829.out) | exact HB.out)))); have HO838 := AM (Kd.N_lower (Kd.N_mono (ok' := fun k_ => (w.heap.size ≤ k_) ∧ some k_ ≠ (v834 : Value).ownBlock ∧ k_ ≠ gb829 ∧ k_ ≠ g832) ho1 (fun k_ hk_ => ⟨(Nat.le_trans (below_size (by repeat (first | (with_reducible first | exact HB.out | apply below_alloc | apply pw_below_drewN | apply below_drew1 | refine below_set ?_ (IsS64.ge HI832.out) | refine below_set ?_ GE829.out) | exact HB.out))) hk_.1), hk_.2, (Kd.freshB (g := gb829) (o := .cells #[.slice none 0 0, .slice none 0 0] 26 (0, 0)) (ZK BK829.out) k_ hk_.1), (IsS64.fresh (by repeat (first | (with_reducible first | exact HI832.out | apply IsS64.alloc | apply IsS64.drewN | apply IsS64.drew | apply IsS64.set_1 | refine IsS64.far ?_ NB832_829.out _) | exact HI832.out)) k_ hk_.1)⟩)) (below_size (by repeat (first | (with_reducible first | exact HB.out | apply below_alloc | apply pw_below_drewN | apply below_drew1 | refine below_set ?_ (IsS64.ge HI832.out) | refine below_set ?_ GE829.out) | exact HB.out)))); replace BK829 := ZL hk BK829 NB829_832; replace HB := AM (hb); replace HI832 := AM (hi); clear hb hk hi; (try clear ho0); (try clear ho1)) | ((with_reducible refine gate_callee (f := 39) rfl ?_); refine ZGL (some 10) Try.func39 #[.pointer (some ⟨g832, 0, none⟩), .int .i64 5] ?_; (with_reducible refine (spec_l6Rd_pick.calls k g832 t830 t839 5 t840 t841 w _ ?side1 ?side2 A4.out).mono ?_); (case side1 => repeat (first | (with_reducible first | exact HI832.out | apply IsS64.alloc | apply IsS64.drewN | apply IsS64.drew | apply IsS64.set_1 | refine IsS64.far ?_ NB832_829.out _) | exact HI832.out)); (case side2 => repeat (first | (with_reducible first | exact HB.out | apply below_alloc | apply pw_below_drewN | apply below_drew1 | refine below_set ?_ (IsS64.ge HI832.out) | refine below_set ?_ GE829.out) | exact HB.out)); rintro e w8 ⟨rfl, hi, hb, hk⟩; refine ⟨_, rfl, ?_⟩; replace BK829 := ZL hk BK829 NB829_832; replace HO835 := AM (Kd.R_mono (Kd.R_keep (IsS64.apart (show IsS64 w _ g832 t830 t839 from by repeat (first | (with_reducible first | exact HI832.out | apply IsS64.alloc | apply IsS64.drewN | apply IsS64.drew | apply IsS64.set_1 | refine IsS64.far ?_ NB832_829.out _) | exact HI832.out)) (ZR HO835.out) (by decide)) hk (fun _ h => h.2)) (fun _ h => h.1)); replace HO838 := AM (Kd.N_mono (Kd.N_keep (Kd.N_mono (ok := fun k_ => (((w.heap.size ≤ k_)) ∧ (some k_ ≠ (v834 : Value).ownBlock ∧ (k_ ≠ gb829 ∧ k_ ≠ g832)))) (ZRN HO838.out) (fun k_ hk_ => (⟨hk_, hk_.2.2.2⟩ : _ ∧ k_ ≠ g832))) hk (fun _ h => h.2)) (fun _ h => h.1)); replace HB := AM (hb); replace HI832 := AM (hi); clear hb hk hi; obtain ⟨Ao9, co9, eo9⟩ := Kd.R_slice HO835.out; subst eo9; have hnb10 := NB829_832.out; have hnc10 := NB832_829.out; have hcz11 := ZC2 w8 BK829; have hfz11 := ZF2 BK829; obtain ⟨Ao12, co12, eo12⟩ := Kd.N_slice HO838.out; subst eo12))
 refine bodyPost_ret (results_ct rfl _ _ gb829 26 #[.slice Ao9 t833.length co9, .slice Ao12 t836.length co12] (0, 0) _ rfl (ZZ BK829.out) Try.underlying26 rfl (by kernel_rfl)) rfl ?_
 exact ⟨_, _, ZE, by (with_reducible repeat (first | apply Kd.R_alloc | apply Kd.R_drewN | apply Kd.R_drew)); exact Kd.R_mono (Kd.R_far (p := ⟨gb829, 1, none⟩) (Kd.R_far (p := ⟨gb829, 0, none⟩) (Kd.R_types HO835.out BK829.out (by decide)) (fun _ hk => hk.2) (.slice Ao9 t833.length co9)) (fun _ hk => hk.2) (.slice Ao12 t836.length co12)) (fun _ hk => hk.1.1), by (with_reducible repeat (first | apply Kd.N_alloc | apply Kd.N_drewN | apply Kd.N_drew)); exact Kd.N_mono (Kd.N_far (p := ⟨gb829, 1, none⟩) (Kd.N_far (p := ⟨gb829, 0, none⟩) (Kd.N_mono HO838.out (fun k_ hk => (⟨hk, hk.2.2.1⟩ : _ ∧ k_ ≠ gb829))) (fun _ hk => hk.2) (.slice Ao9 t833.length co9)) (fun _ hk => hk.2) (.slice Ao12 t836.length co12)) (fun _ hk => ⟨hk.1.1, hk.1.2.1⟩), by repeat (first | (with_reducible first | exact HB.out | apply below_alloc | apply pw_below_drewN | apply below_drew1 | refine below_set ?_ (IsS64.ge HI832.out) | refine below_set ?_ GE829.out) | exact HB.out)⟩

/-! ### impl_TypeKnows_1: function 49 -/
def impl_TypeKnows_1.f (a0_0 : Int) (a0_1 : Int) : Option (Int) := some a0_0
theorem impl_TypeKnows_1.calls (a0_0 : Int) (a0_1 : Int) (r : Int) (w : World) (h : impl_TypeKnows_1.f a0_0 a0_1 = some r) :
  Calls Try.prog 49 #[.agg #[.int .i64 a0_0, .int .i64 a0_1]] w fun e w' => e = .returned (.int .i64 r) ∧ Below w.heap.size w w' := by
 have hu39 := Try.underlying39
 have HB := AM (Below.refl w.heap.size w)
 have H := h
 unfold impl_TypeKnows_1.f at H
 clear h
 obtain rfl := Option.some.inj H
 go_enter Try.func49, Try.ntmps49
 go_wp2_with (first | ((with_reducible refine gate_dst (N := 1) rfl ?_); refine ZX (N := 1) (cs := #[.int .i64 a0_0, .int .i64 a0_1]) (t := 39) ?_; intro gb842 hg w2 hbox hb; have BK842 := AM (hbox); have GW842 : Aside0 (w.heap.size ≤ gb842) := ZS hg; have GE842 : Aside0 (w.heap.size ≤ gb842) := ZS hg; replace HB := ZT HB hb; clear hb hbox hg; have hcz3 := ZC2 w2 BK842; have hfz3 := ZF2 BK842))
 go_ret
 exact ⟨ZE, ZB⟩

/-! ### impl_Prog_each_49: function 48 -/
def impl_Prog_each_49.l0 : Nat → Int → List Bool → List (S39) → Int → Int → Option (List Bool)
 | 0, _, _, _, _, _ => none
 | k + 1, x1, x7, x14, x15, x16 => if x16 < x15 then (if 0 ≤ x16 then (if x16 < (x14.length : Int) then ((impl_TypeKnows_1.f ((rd_T39 x14 x16).f0) ((rd_T39 x14 x16).f1)).bind fun t847 => ((impl_has.f t847 x1).bind fun t848 => (if x7.length < 140737488355328 then (impl_Prog_each_49.l0 k x1 (x7 ++ [t848]) x14 x15 (wrap64 (x16 + 1))) else (none)))) else (none)) else (none)) else (some x7)
def impl_Prog_each_49.f (k : Nat) (l0_0 : List (S39)) (l0_1 : List (S32)) (a1 : Int)  : Option (List Bool) := (impl_ProgOk.f k l0_0 l0_1).bind fun t844 => (if t844 = true then (impl_Prog_each_49.l0 k a1 ([] : List Bool) l0_0 (l0_0.length : Int) 0) else (some ([] : List Bool)))
theorem impl_Prog_each_49.calls (k : Nat) (A0_0 : Option Addr) (c0_0 : Nat) (l0_0 : List (S39)) (A0_1 : Option Addr) (c0_1 : Nat) (l0_1 : List (S32)) (a1 : Int)  (r : List Bool) (w : World) (hr0_0 : Kd.C k39 w A0_0 l0_0.length l0_0) (hc0_0 : l0_0.length ≤ c0_0) (hr0_1 : Kd.C k32 w A0_1 l0_1.length l0_1) (hc0_1 : l0_1.length ≤ c0_1) (h : impl_Prog_each_49.f k l0_0 l0_1 a1 = some r) :
  Calls Try.prog 48 #[.agg #[.slice A0_0 l0_0.length c0_0, .slice A0_1 l0_1.length c0_1], .int .i64 a1, .func (.func 49) #[] #[]] w fun e w' => ∃ v0_ : Value, e = .returned (v0_) ∧ Kd.R Kd.bool 4 w' w.heap.size (fun _ => True) v0_ r ∧ Below w.heap.size w w' := by
 have hu26 := Try.underlying26
 have hu39 := Try.underlying39
 have HR0_0 := AM hr0_0
 have HC0_0 := AM hc0_0
 clear hr0_0 hc0_0
 have HR0_1 := AM hr0_1
 have HC0_1 := AM hc0_1
 clear hr0_1 hc0_1
 have HB := AM (Below.refl w.heap.size w)
 have H := h
 unfold impl_Prog_each_49.f at H
 clear h
 obtain ⟨t844, A4, H⟩ := ZOB H; try dsimp only at H
 by_cases c5 : t844 = true
 ·(
 subst c5
 have H1 := H; rw [if_pos rfl] at H1
 clear H
 have H := H1
 clear H1
 have H' := AM H
 clear H
 go_enter Try.func48, Try.ntmps48
 go_wp2_with (first | ((with_reducible refine gate_dst (N := 3) rfl ?_); refine ZX (N := 3) (cs := #[.slice A0_0 l0_0.length c0_0, .slice A0_1 l0_1.length c0_1]) (t := 26) ?_; intro gb843 hg w6 hbox hb; have BK843 := AM (hbox); have GW843 : Aside0 (w.heap.size ≤ gb843) := ZS hg; have GE843 : Aside0 (w.heap.size ≤ gb843) := ZS hg; replace HB := ZT HB hb; clear hb hbox hg; have hcz7 := ZC2 w6 BK843; have hfz7 := ZF2 BK843) | ((with_reducible refine gate_callee (f := 36) rfl ?_); refine ZGL (some 11) Try.func36 #[.agg #[.slice A0_0 l0_0.length c0_0, .slice A0_1 l0_1.length c0_1]] ?_; (with_reducible refine (impl_ProgOk.calls k _ _ l0_0 _ _ l0_1 true _ ?side1 ?side2 ?side3 ?side4 A4.out).mono ?_); (case side1 => exact ZQ (Kd.C_below HR0_0.out HB.out)); (case side2 => exact HC0_0.out); (case side3 => exact ZQ (Kd.C_below HR0_1.out HB.out)); (case side4 => exact HC0_1.out); rintro e w8 ⟨rfl, hb⟩; refine ⟨_, rfl, ?_⟩; replace BK843 := ZW BK843 hb; replace HB := ZT HB hb; clear hb; have hcz9 := ZC2 w8 BK843; have hfz9 := ZF2 BK843))
 go_loopg [7, 16] k (fun kq v7 v16 w' => ∃ (x7_1 : List Bool) (x16_1 : Int), v16 = .int .i64 x16_1 ∧ Aside0 (impl_Prog_each_49.l0 kq a1 x7_1 l0_0 (l0_0.length : Int) x16_1 = some r) ∧ Aside0 (kq ≤ k) ∧ Aside0 (Kd.R Kd.bool 4 w' w.heap.size (fun _ => True) v7 x7_1) ∧ Aside0 (w'.heap[gb843]? = some (.cells #[(.slice A0_0 l0_0.length c0_0), (.slice A0_1 l0_1.length c0_1)] 26 (0, 0))) ∧ Aside0 (Below w.heap.size w w'))
 case atStart => exact ⟨(([] : List Bool)), (0), (by first | rfl | (simp; done) | (simp [*]; done)), H', ⟨Nat.le_refl _⟩, ⟨by first | exact Kd.R_nil _ _ _ _ _ | exact Kd.N_nil _ _ _ _ _ | exact Kd.V_nil _ _ _ _ _ | exact Kd.Q_nil _ _ _ _ _ | exact Kd.S_nil _ _ _ _ _⟩, ⟨ZK BK843.out⟩, ⟨ZB⟩⟩
 case round => (
 clear H'
 try clear p2
 try clear c3
 try clear c4
 try clear c5
 try clear hcz7
 try clear hcz9
 try clear hfz7
 try clear hfz9
 obtain ⟨x7_1, x16_1, rfl, HA, HK1, HO_7, BK843, HB⟩ := hrel
 cases gk with
 | zero => exact absurd HA.out (by simp [impl_Prog_each_49.l0])
 | succ k1 =>
  have H := HA.out
  clear HA
  simp only [impl_Prog_each_49.l0] at H
  by_cases c10 : x16_1 < (l0_0.length : Int)
  ·(
  rw [if_pos c10] at H
  have c10b0 := decide_eq_true c10
  clear c10
  by_cases c11 : 0 ≤ x16_1
  ·(
  rw [if_pos c11] at H
  have c11b0 := decide_eq_true c11
  clear c11
  by_cases c12 : x16_1 < (l0_0.length : Int)
  ·(
  rw [if_pos c12] at H
  have c12b0 := decide_eq_true c12
  clear c12
  obtain ⟨t847, A13, H⟩ := ZOB H; try dsimp only at H
  obtain ⟨t848, A14, H⟩ := ZOB H; try dsimp only at H
  by_cases c15 : x7_1.length < 140737488355328
  ·(
  rw [if_pos c15] at H
  have LMc15 := AM c15
  clear c15
  obtain ⟨y849, hy849⟩ : ∃ y_ : List Bool, y_ = (x7_1 ++ [t848]) := ⟨_, rfl⟩
  replace H : (impl_Prog_each_49.l0 k1 a1 y849 l0_0 (l0_0.length : Int) (wrap64 (x16_1 + 1))) = some r := by first | (rw [hy849]; with_reducible exact H) | (have H2_ := (Option.bind_some _ _).symm.trans H; rw [hy849]; with_reducible exact H2_) | (have H2_ := (Option.bind_some _ _).symm.trans H; with_reducible exact H2_) | with_reducible exact H | (rw [hy849]; exact H) | exact H
  have Ny849 := AM hy849
  clear hy849
  have H' := AM H
  clear H
  have p845 : 0 ≤ (x16_1 : Int) := ZD
  have q845 : x16_1 < (l0_0.length : Int) := ZD
  obtain ⟨ad845, e845, hx845_0, hx845_1⟩ := at_T39 HR0_0.out x16_1 p845 q845
  cases e845
  replace hx845_0 := ZHX HB hx845_0
  replace hx845_1 := ZHX HB hx845_1
  replace p845 := eq_true p845
  replace q845 := eq_true q845
  go_wp2_with (first | ((with_reducible refine gate_dst (N := 9) rfl ?_); refine ZX (N := 9) (cs := #[.int .i64 0, .int .i64 0]) (t := 39) ?_; intro gb846 hg w16 hbox hb; have BK846 := AM (hbox); have GW846 : Aside0 (w.heap.size ≤ gb846) := ZS hg; have GE846 : Aside0 (w.heap.size ≤ gb846) := ZS hg; have NB843_846 : Aside0 (gb843 ≠ gb846) := ZN hg BK843; have NB846_843 : Aside0 (gb846 ≠ gb843) := ZM hg BK843; replace HO_7 := AM (Kd.R_below (ZR HO_7.out) hb); replace BK843 := ZW BK843 hb; replace HB := ZT HB hb; clear hb hbox hg; have hnb17 := NB846_843.out; have hnc17 := NB843_846.out; have hcz18 := ZC2 w16 BK846; have hfz18 := ZF2 BK846) | ((with_reducible refine gate_calleev ⟨_, _, _, rfl⟩ ?_); refine goesLv_ (some 23) rfl rfl Try.func49 (by kernel_rfl) rfl #[.agg #[.int .i64 ((rd_T39 l0_0 x16_1).f0), .int .i64 ((rd_T39 l0_0 x16_1).f1)]] ⟨_, _, rfl, rfl⟩ ZG ?_; (with_reducible refine (impl_TypeKnows_1.calls ((rd_T39 l0_0 x16_1).f0) ((rd_T39 l0_0 x16_1).f1) t847 _ A13.out).mono ?_); rintro e w19 ⟨rfl, hb⟩; refine ⟨_, rfl, ?_⟩; replace HO_7 := AM (Kd.R_below (ZR ((Kd.R_mono (Kd.R_far (p := ⟨gb846, 1, none⟩) (Kd.R_far (p := ⟨gb846, 0, none⟩) (Kd.R_types HO_7.out BK846.out (by decide)) (fun _ hk => hk.2) (.int .i64 ((rd_T39 l0_0 x16_1).f0))) (fun _ hk => hk.2) (.int .i64 ((rd_T39 l0_0 x16_1).f1))) (fun _ h_ => h_.1)))) hb); replace BK843 := ZV #[.slice (some ad845) l0_0.length c0_0, .slice A0_1 l0_1.length c0_1] BK843 hb; replace BK846 := ZV #[.int .i64 ((rd_T39 l0_0 x16_1).f0), .int .i64 ((rd_T39 l0_0 x16_1).f1)] BK846 hb; replace HB := ZT HB hb; clear hb) | ((with_reducible refine gate_callee (f := 68) rfl ?_); refine ZGL (some 25) Try.func68 #[.int .i64 t847, .int .i64 a1] ?_; (with_reducible refine (impl_has.calls t847 a1 t848 _ A14.out).mono ?_); rintro e w' ⟨rfl, ⟨nd, rfl⟩⟩; refine ⟨_, rfl, ?_⟩) | ((with_reducible refine gate_builtin (b := .append) (xs := #[.tmp 20, .tmp 26]) rfl ?_); at_builtin; refine Kd.R_append Kd.bool (w0 := w) w.heap.size rfl (.tmp 20) (.tmp 26) 44 4 (.bool false) 1 rfl Try.underlying44 info4 rfl (by decide) (by omega) u7 x7_1 t848 [.bool t848] (fun _ => True) (fun _ => False) rfl rfl ?aP (fun _ hk => hk.elim) ?aF ?aO ?aB ?aS ?aL ?_; (case aP => exact rfl); (case aB => exact (ZB)); (case aF => exact (fun _ _ => trivial)); (case aO => exact (ZR HO_7.out)); (case aS => exact (below_size (ZB))); (case aL => have := LMc15.out; omega); intro v850 w20 ho hb hg hat; rw [← Ny849.out] at ho; have n0_ := AM (blk_grown (g := gb843) (o := .cells #[.slice (some ad845) l0_0.length c0_0, .slice A0_1 l0_1.length c0_1] 26 (0, 0)) (ZK BK843.out) hg (Kd.R_ne HO_7.out BK843.out (by decide))); have n1_ := AM (blk_grown (g := gb846) (o := .cells #[.int .i64 ((rd_T39 l0_0 x16_1).f0), .int .i64 ((rd_T39 l0_0 x16_1).f1)] 39 (0, 0)) (ZK BK846.out) hg (Kd.R_ne HO_7.out BK846.out (by decide))); have n2_ := AM (hb); have n3_ := AM (ho); clear BK843 BK846 HB HO_7; have BK843 := n0_; have BK846 := n1_; have HB := n2_; have HO851 := n3_; clear n0_ n1_ n2_ n3_ ho hb hg hat))
  go_roundg k1
  case measure => have := HK1.out; omega
  case rel => exact ⟨(y849), (wrap64 (x16_1 + 1)), (by first | rfl | (simp; done) | (simp [*]; done)), H', ⟨by have := HK1.out; omega⟩, ⟨ZR HO851.out⟩, ⟨ZK BK843.out⟩, ⟨ZB⟩⟩)
  ·(
  rw [if_neg c15] at H
  exact absurd H (by simp)))
  ·(
  rw [if_neg c12] at H
  exact absurd H (by simp)))
  ·(
  rw [if_neg c11] at H
  exact absurd H (by simp)))
  ·(
  rw [if_neg c10] at H
  have c10b0 := decide_eq_false c10
  clear c10
  obtain rfl := Option.some.inj H
  go_wp2
  go_ret
  exact ⟨_, ZE, by (with_reducible repeat (first | apply Kd.R_alloc | apply Kd.R_drewN | apply Kd.R_drew)); exact HO_7.out, ZB⟩)))
 ·(
 replace c5 := Bool.eq_false_iff.mpr c5
 subst c5
 have H1 := H; rw [if_neg ZFT] at H1
 clear H
 have H := H1
 clear H1
 obtain rfl := Option.some.inj H
 go_enter Try.func48, Try.ntmps48
 go_wp2_with (first | ((with_reducible refine gate_dst (N := 3) rfl ?_); refine ZX (N := 3) (cs := #[.slice A0_0 l0_0.length c0_0, .slice A0_1 l0_1.length c0_1]) (t := 26) ?_; intro gb843 hg w21 hbox hb; have BK843 := AM (hbox); have GW843 : Aside0 (w.heap.size ≤ gb843) := ZS hg; have GE843 : Aside0 (w.heap.size ≤ gb843) := ZS hg; replace HB := ZT HB hb; clear hb hbox hg; have hcz22 := ZC2 w21 BK843; have hfz22 := ZF2 BK843) | ((with_reducible refine gate_callee (f := 36) rfl ?_); refine ZGL (some 11) Try.func36 #[.agg #[.slice A0_0 l0_0.length c0_0, .slice A0_1 l0_1.length c0_1]] ?_; (with_reducible refine (impl_ProgOk.calls k _ _ l0_0 _ _ l0_1 false _ ?side1 ?side2 ?side3 ?side4 A4.out).mono ?_); (case side1 => exact ZQ (Kd.C_below HR0_0.out HB.out)); (case side2 => exact HC0_0.out); (case side3 => exact ZQ (Kd.C_below HR0_1.out HB.out)); (case side4 => exact HC0_1.out); rintro e w23 ⟨rfl, hb⟩; refine ⟨_, rfl, ?_⟩; replace BK843 := ZW BK843 hb; replace HB := ZT HB hb; clear hb))
 go_ret
 exact ⟨_, ZE, by first | exact Kd.R_nil _ _ _ _ _ | exact Kd.N_nil _ _ _ _ _ | exact Kd.V_nil _ _ _ _ _ | exact Kd.Q_nil _ _ _ _ _ | exact Kd.S_nil _ _ _ _ _, ZB⟩)

/-! ### impl_TypeKnows: function 26 -/
def impl_TypeKnows.f (k : Nat) (l0_0 : List (S39)) (l0_1 : List (S32)) (a1 : Int) : Option (List Bool) := (impl_Prog_each_49.f k l0_0 l0_1 a1).bind fun t853 => (some t853)
theorem impl_TypeKnows.calls (k : Nat) (A0_0 : Option Addr) (c0_0 : Nat) (l0_0 : List (S39)) (A0_1 : Option Addr) (c0_1 : Nat) (l0_1 : List (S32)) (a1 : Int) (r : List Bool) (w : World) (hr0_0 : Kd.C k39 w A0_0 l0_0.length l0_0) (hc0_0 : l0_0.length ≤ c0_0) (hr0_1 : Kd.C k32 w A0_1 l0_1.length l0_1) (hc0_1 : l0_1.length ≤ c0_1) (h : impl_TypeKnows.f k l0_0 l0_1 a1 = some r) :
  Calls Try.prog 26 #[.agg #[.slice A0_0 l0_0.length c0_0, .slice A0_1 l0_1.length c0_1], .int .i64 a1] w fun e w' => ∃ v0_ : Value, e = .returned (v0_) ∧ Kd.R Kd.bool 4 w' w.heap.size (fun _ => True) v0_ r ∧ Below w.heap.size w w' := by
 have hu26 := Try.underlying26
 have HR0_0 := AM hr0_0
 have HC0_0 := AM hc0_0
 clear hr0_0 hc0_0
 have HR0_1 := AM hr0_1
 have HC0_1 := AM hc0_1
 clear hr0_1 hc0_1
 have HB := AM (Below.refl w.heap.size w)
 have H := h
 unfold impl_TypeKnows.f at H
 clear h
 obtain ⟨t853, A3, H⟩ := ZOB H; try dsimp only at H
 obtain rfl := Option.some.inj H
 go_enter Try.func26, Try.ntmps26
 go_wp2_with (first | ((with_reducible refine gate_dst (N := 2) rfl ?_); refine ZX (N := 2) (cs := #[.slice A0_0 l0_0.length c0_0, .slice A0_1 l0_1.length c0_1]) (t := 26) ?_; intro gb852 hg w4 hbox hb; have BK852 := AM (hbox); have GW852 : Aside0 (w.heap.size ≤ gb852) := ZS hg; have GE852 : Aside0 (w.heap.size ≤ gb852) := ZS hg; replace HB := ZT HB hb; clear hb hbox hg; have hcz5 := ZC2 w4 BK852; have hfz5 := ZF2 BK852) | ((with_reducible refine gate_callee (f := 48) rfl ?_); refine ZGL (some 7) Try.func48 #[.agg #[.slice A0_0 l0_0.length c0_0, .slice A0_1 l0_1.length c0_1], .int .i64 a1, .func (.func 49) #[] #[]] ?_; (with_reducible refine (impl_Prog_each_49.calls k _ _ l0_0 _ _ l0_1 a1  t853 _ ?side1 ?side2 ?side3 ?side4 A3.out).mono ?_); (case side1 => exact ZQ (Kd.C_below HR0_0.out HB.out)); (case side2 => exact HC0_0.out); (case side3 => exact ZQ (Kd.C_below HR0_1.out HB.out)); (case side4 => exact HC0_1.out); rintro e w6 ⟨v854, rfl, ho0, hb⟩; refine ⟨_, rfl, ?_⟩; have HO855 := AM (Kd.R_lower ho0 (below_size (ZB))); replace BK852 := ZW BK852 hb; replace HB := ZT HB hb; clear hb; (try clear ho0)))
 go_ret
 exact ⟨_, ZE, by (with_reducible repeat (first | apply Kd.R_alloc | apply Kd.R_drewN | apply Kd.R_drew)); exact HO855.out, ZB⟩

/-! ### spec_TypeKnows: function 27 -/
def spec_TypeKnows.l0 : Nat → Int → List Bool → Int → List (S39) → List (S32) → Option (List Bool)
 | 0, _, _, _, _, _ => none
 | k + 1, x1, x5, x6, x857000, x857001 => if x6 < (x857000.length : Int) then ((spec_ProgOk.f k x857000 x857001).bind fun t860 => (if t860 = true then (if 0 ≤ x6 then ((spec_l1Has.f ((rd_T39 x857000 x6).f0) x1).bind fun t862 => (if x5.length < 140737488355328 then (spec_TypeKnows.l0 k x1 (x5 ++ [t862]) (wrap64 (x6 + 1)) x857000 x857001) else (none))) else (none)) else (some x5))) else (some x5)
def spec_TypeKnows.f (k : Nat) (l0_0 : List (S39)) (l0_1 : List (S32)) (a1 : Int) : Option (List Bool) := spec_TypeKnows.l0 k a1 (([] : List Bool)) 0 l0_0 l0_1
theorem spec_TypeKnows.calls (k : Nat) (A0_0 : Option Addr) (c0_0 : Nat) (l0_0 : List (S39)) (A0_1 : Option Addr) (c0_1 : Nat) (l0_1 : List (S32)) (a1 : Int) (r : List Bool) (w : World) (hr0_0 : Kd.C k39 w A0_0 l0_0.length l0_0) (hc0_0 : l0_0.length ≤ c0_0) (hr0_1 : Kd.C k32 w A0_1 l0_1.length l0_1) (hc0_1 : l0_1.length ≤ c0_1) (h : spec_TypeKnows.f k l0_0 l0_1 a1 = some r) :
  Calls Try.prog 27 #[.agg #[.slice A0_0 l0_0.length c0_0, .slice A0_1 l0_1.length c0_1], .int .i64 a1] w fun e w' => ∃ v0_ : Value, e = .returned (v0_) ∧ Kd.R Kd.bool 4 w' w.heap.size (fun _ => True) v0_ r ∧ Below w.heap.size w w' := by
 have hu26 := Try.underlying26
 have HR0_0 := AM hr0_0
 have HC0_0 := AM hc0_0
 clear hr0_0 hc0_0
 have HR0_1 := AM hr0_1
 have HC0_1 := AM hc0_1
 clear hr0_1 hc0_1
 have HB := AM (Below.refl w.heap.size w)
 have H := h
 unfold spec_TypeKnows.f at H
 clear h
 obtain ⟨y857, hy857⟩ : ∃ y_ : List Bool, y_ = (([] : List Bool)) := ⟨_, rfl⟩
 replace H : (spec_TypeKnows.l0 k a1 y857 0 l0_0 l0_1) = some r := by first | (rw [hy857]; with_reducible exact H) | (have H2_ := (Option.bind_some _ _).symm.trans H; rw [hy857]; with_reducible exact H2_) | (have H2_ := (Option.bind_some _ _).symm.trans H; with_reducible exact H2_) | with_reducible exact H | (rw [hy857]; exact H) | exact H
 have Ny857 := AM hy857
 clear hy857
 have H' := AM H
 clear H
 go_enter Try.func27, Try.ntmps27
 go_wp2_with (first | ((with_reducible refine gate_dst (N := 2) rfl ?_); refine ZX (N := 2) (cs := #[.slice A0_0 l0_0.length c0_0, .slice A0_1 l0_1.length c0_1]) (t := 26) ?_; intro gb856 hg w3 hbox hb; have BK856 := AM (hbox); have GW856 : Aside0 (w.heap.size ≤ gb856) := ZS hg; have GE856 : Aside0 (w.heap.size ≤ gb856) := ZS hg; replace HB := ZT HB hb; clear hb hbox hg) | ((with_reducible refine gate_dst (N := 7) rfl ?_); refine Kd.R_lit Kd.bool _ 4 ?hg (N := 7) ?hd (xs := ([] : List Bool)) (inner := []) (ok := fun _ => True) (okp := fun _ => True) ?hr ?hp (fun _ hk => hk) trivial (Below.refl _ _) (Nat.le_refl _) (by simp) ?_; (case hd => rfl); (case hg => rfl); (case hr => first | (go_simp; done) | (go_simp; rfl)); (case hp => exact (Reps.none _ _)); intro v858 w4 ho5 hb hg_ hnew_; clear hg_ hnew_; (first | rw [← Ny857.out] at ho5 | (simp only [Int.reduceToNat] at ho5; rw [← Ny857.out] at ho5)); have HO859 := AM (Kd.R_lower ho5 (below_size (ZB))); replace BK856 := ZW BK856 hb; replace HB := ZT HB hb; clear hb ho5))
 go_loopg [5, 6] k (fun kq v5 v6 w' => ∃ (x5_1 : List Bool) (x6_1 : Int), v6 = .int .i64 x6_1 ∧ Aside0 (spec_TypeKnows.l0 kq a1 x5_1 x6_1 l0_0 l0_1 = some r) ∧ Aside0 (kq ≤ k) ∧ Aside0 (Kd.R Kd.bool 4 w' w.heap.size (fun _ => True) v5 x5_1) ∧ Aside0 (w'.heap[gb856]? = some (.cells #[(.slice A0_0 l0_0.length c0_0), (.slice A0_1 l0_1.length c0_1)] 26 (0, 0))) ∧ Aside0 (Below w.heap.size w w'))
 case atStart => exact ⟨(y857), (0), (by first | rfl | (simp; done) | (simp [*]; done)), H', ⟨Nat.le_refl _⟩, ⟨ZR HO859.out⟩, ⟨ZK BK856.out⟩, ⟨ZB⟩⟩
 case round => (
 clear H'
 try clear c2
 try clear p2
 obtain ⟨x5_1, x6_1, rfl, HA, HK1, HO_5, BK856, HB⟩ := hrel
 cases gk with
 | zero => exact absurd HA.out (by simp [spec_TypeKnows.l0])
 | succ k1 =>
  have H := HA.out
  clear HA
  simp only [spec_TypeKnows.l0] at H
  by_cases c6 : x6_1 < (l0_0.length : Int)
  ·(
  rw [if_pos c6] at H
  have c6b0 := decide_eq_true c6
  clear c6
  obtain ⟨t860, A7, H⟩ := ZOB H; try dsimp only at H
  by_cases c8 : t860 = true
  ·(
  subst c8
  have H1 := H; rw [if_pos rfl] at H1
  clear H
  have H := H1
  clear H1
  by_cases c9 : 0 ≤ x6_1
  ·(
  rw [if_pos c9] at H
  have c9b0 := decide_eq_true c9
  clear c9
  obtain ⟨t862, A10, H⟩ := ZOB H; try dsimp only at H
  by_cases c11 : x5_1.length < 140737488355328
  ·(
  rw [if_pos c11] at H
  have LMc11 := AM c11
  clear c11
  obtain ⟨y863, hy863⟩ : ∃ y_ : List Bool, y_ = (x5_1 ++ [t862]) := ⟨_, rfl⟩
  replace H : (spec_TypeKnows.l0 k1 a1 y863 (wrap64 (x6_1 + 1)) l0_0 l0_1) = some r := by first | (rw [hy863]; with_reducible exact H) | (have H2_ := (Option.bind_some _ _).symm.trans H; rw [hy863]; with_reducible exact H2_) | (have H2_ := (Option.bind_some _ _).symm.trans H; with_reducible exact H2_) | with_reducible exact H | (rw [hy863]; exact H) | exact H
  have Ny863 := AM hy863
  clear hy863
  have H' := AM H
  clear H
  have hcz12 := ZC2 wr BK856
  have hfz12 := ZF2 BK856
  go_wp2_with (first | (go_at_call 19; (with_reducible refine (spec_ProgOk.calls k1 _ _ l0_0 _ _ l0_1 true _ ?side1 ?side2 ?side3 ?side4 A7.out).mono ?_); (case side1 => exact ZQ (Kd.C_below HR0_0.out HB.out)); (case side2 => exact HC0_0.out); (case side3 => exact ZQ (Kd.C_below HR0_1.out HB.out)); (case side4 => exact HC0_1.out); rintro e w13 ⟨rfl, hb⟩; replace HO_5 := AM (Kd.R_below (ZR HO_5.out) hb); replace BK856 := ZW BK856 hb; replace HB := ZT HB hb; clear hb; have hcz14 := ZC2 w13 BK856; have hfz14 := ZF2 BK856; have p861 : 0 ≤ (x6_1 : Int) := ZD; have q861 : x6_1 < (l0_0.length : Int) := ZD; obtain ⟨ad861, e861, hx861_0, hx861_1⟩ := at_T39 HR0_0.out x6_1 p861 q861; cases e861; replace hx861_0 := ZHX HB hx861_0; replace hx861_1 := ZHX HB hx861_1; replace p861 := eq_true p861; replace q861 := eq_true q861) | ((with_reducible refine gate_callee (f := 50) rfl ?_); refine ZGL (some 27) Try.func50 #[.int .i64 ((rd_T39 l0_0 x6_1).f0), .int .i64 a1] ?_; (with_reducible refine (spec_l1Has.calls ((rd_T39 l0_0 x6_1).f0) a1 t862 _ A10.out).mono ?_); rintro e w' ⟨rfl, ⟨nd, rfl⟩⟩; refine ⟨_, rfl, ?_⟩) | ((with_reducible refine gate_builtin (b := .append) (xs := #[.tmp 19, .tmp 28]) rfl ?_); at_builtin; refine Kd.R_append Kd.bool (w0 := w) w.heap.size rfl (.tmp 19) (.tmp 28) 44 4 (.bool false) 1 rfl Try.underlying44 info4 rfl (by decide) (by omega) u5 x5_1 t862 [.bool t862] (fun _ => True) (fun _ => False) rfl rfl ?aP (fun _ hk => hk.elim) ?aF ?aO ?aB ?aS ?aL ?_; (case aP => exact rfl); (case aB => exact (ZB)); (case aF => exact (fun _ _ => trivial)); (case aO => exact (ZR HO_5.out)); (case aS => exact (below_size (ZB))); (case aL => have := LMc11.out; omega); intro v864 w15 ho hb hg hat; rw [← Ny863.out] at ho; have n0_ := AM (blk_grown (g := gb856) (o := .cells #[.slice (some ad861) l0_0.length c0_0, .slice A0_1 l0_1.length c0_1] 26 (0, 0)) (ZK BK856.out) hg (Kd.R_ne HO_5.out BK856.out (by decide))); have n1_ := AM (hb); have n2_ := AM (ho); clear BK856 HB HO_5; have BK856 := n0_; have HB := n1_; have HO865 := n2_; clear n0_ n1_ n2_ ho hb hg hat))
  go_roundg k1
  case measure => have := HK1.out; omega
  case rel => exact ⟨(y863), (wrap64 (x6_1 + 1)), (by first | rfl | (simp; done) | (simp [*]; done)), H', ⟨by have := HK1.out; omega⟩, ⟨ZR HO865.out⟩, ⟨ZK BK856.out⟩, ⟨ZB⟩⟩)
  ·(
  rw [if_neg c11] at H
  exact absurd H (by simp)))
  ·(
  rw [if_neg c9] at H
  exact absurd H (by simp)))
  ·(
  replace c8 := Bool.eq_false_iff.mpr c8
  subst c8
  have H1 := H; rw [if_neg ZFT] at H1
  clear H
  have H := H1
  clear H1
  obtain rfl := Option.some.inj H
  have hcz16 := ZC2 wr BK856
  have hfz16 := ZF2 BK856
  go_wp2_with (first | (go_at_call 19; (with_reducible refine (spec_ProgOk.calls k1 _ _ l0_0 _ _ l0_1 false _ ?side1 ?side2 ?side3 ?side4 A7.out).mono ?_); (case side1 => exact ZQ (Kd.C_below HR0_0.out HB.out)); (case side2 => exact HC0_0.out); (case side3 => exact ZQ (Kd.C_below HR0_1.out HB.out)); (case side4 => exact HC0_1.out); rintro e w17 ⟨rfl, hb⟩; replace HO_5 := AM (Kd.R_below (ZR HO_5.out) hb); replace BK856 := ZW BK856 hb; replace HB := ZT HB hb; clear hb))
  go_ret
  exact ⟨_, ZE, by (with_reducible repeat (first | apply Kd.R_alloc | apply Kd.R_drewN | apply Kd.R_drew)); exact HO_5.out, ZB⟩))
  ·(
  rw [if_neg c6] at H
  have c6b0 := decide_eq_false c6
  clear c6
  obtain rfl := Option.some.inj H
  have hcz18 := ZC2 wr BK856
  have hfz18 := ZF2 BK856
  go_wp2
  go_ret
  exact ⟨_, ZE, by (with_reducible repeat (first | apply Kd.R_alloc | apply Kd.R_drewN | apply Kd.R_drew)); exact HO_5.out, ZB⟩))

end Go.Proofs.Ythidgkfgdkjghaa.A
