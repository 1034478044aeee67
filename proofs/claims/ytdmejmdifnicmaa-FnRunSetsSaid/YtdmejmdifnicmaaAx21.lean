/- What Go functions compute, as Lean functions, and for each its contract: for every input at which the Lean function answers the call returns that; written by wip/tools/pr.py over the kit's print. -/
import Derived.Test.YtdmejmdifnicmaaAx0
import Derived.Test.YtdmejmdifnicmaaAx1
namespace Go.Proofs.Ytdmejmdifnicmaa.A
open Go.RowKit Go.Proofs.YtdmejmdifnicmaaW.PrintWords Go.Proofs.YtdmejmdifnicmaaW.PrintLast Go.Proofs.YtdmejmdifnicmaaW.PrintMore
attribute [local go_sem] max2_int min2_int max_two min_two max_three min_three max_four min_four   -- for this text's walks alone
set_option linter.unusedVariables false
set_option linter.unusedSimpArgs false

attribute [local go_sem high] eqA52
/-! ### impl_in: function 18 -/
def impl_in.f (a0 : Int) (a1 : Int) (a2 : Int) : Option (Bool) := if a1 ≤ a0 then (some (decide (a0 ≤ a2))) else (some false)
set_option maxHeartbeats 8000000 in
set_option maxRecDepth 100000 in
theorem impl_in.calls (a0 : Int) (a1 : Int) (a2 : Int) (r : Bool) (w : World) (h : impl_in.f a0 a1 a2 = some r) :
  Calls Try.prog 18 #[.int .i64 a0, .int .i64 a1, .int .i64 a2] w fun e w' => e = .returned (.bool r) ∧ Drawn0 w w' := by
 have H : (if a1 ≤ a0 then (some (decide (a0 ≤ a2))) else (some false)) = some r := h
 clear h
 by_cases c4 : a1 ≤ a0
 ·rw [if_pos c4] at H
  have c4b0 : decide (a1 ≤ a0) = true := decide_eq_true c4
  clear c4
  obtain rfl := Option.some.inj H
  go_enter Try.func18, Try.ntmps18
  go_wp2
  go_ret
  exact ⟨by first | rfl | (simp; done) | (simp [*]; done), by repeat (first | exact Drawn0.refl _ | apply Drawn0.step)⟩
 ·rw [if_neg c4] at H
  have c4b0 : decide (a1 ≤ a0) = false := decide_eq_false c4
  clear c4
  obtain rfl := Option.some.inj H
  go_enter Try.func18, Try.ntmps18
  go_wp2
  go_ret
  exact ⟨by first | rfl | (simp; done) | (simp [*]; done), by repeat (first | exact Drawn0.refl _ | apply Drawn0.step)⟩

/-! ### impl_RunSets: function 10 -/
def impl_RunSets.l0 : Nat → List Bool → List (S52) → List (S52) → Int → Int → Option ((List (S52)))
 | 0, _, _, _, _, _ => none
 | k + 1, x1, x5, x9, x10, x11 => if x11 < x10 then (if 0 ≤ x11 then (if x11 < (x9.length : Int) then ((impl_in.f ((rd_T52 x9 x11).f0) 0 (wrap64 ((x1.length : Int) - 1))).bind fun t448 => (if t448 = true then (if 0 ≤ ((rd_T52 x9 x11).f0) then (if ((rd_T52 x9 x11).f0) < (x1.length : Int) then (if rdOf false x1 ((rd_T52 x9 x11).f0) = true then (if x5.length < 8796093022208 then (impl_RunSets.l0 k x1 (x5 ++ [(⟨(rd_T52 x9 x11).f0, (rd_T52 x9 x11).f1⟩ : S52)]) x9 x10 (wrap64 (x11 + 1))) else (none)) else (impl_RunSets.l0 k x1 x5 x9 x10 (wrap64 (x11 + 1)))) else (none)) else (none)) else (impl_RunSets.l0 k x1 x5 x9 x10 (wrap64 (x11 + 1))))) else (none)) else (none)) else (some x5)
def impl_RunSets.f (k : Nat) (l0_0 : List Int) (l0_1 : List (S52)) (l0_2 : List (S50)) (l1 : List Bool) : Option ((List (S52))) := impl_RunSets.l0 k l1 ([] : List (S52)) l0_1 (l0_1.length : Int) 0
set_option maxHeartbeats 8000000 in
set_option maxRecDepth 100000 in
theorem impl_RunSets.calls (k : Nat) (A0_0 : Option Addr) (c0_0 : Nat) (l0_0 : List Int) (A0_1 : Option Addr) (c0_1 : Nat) (l0_1 : List (S52)) (A0_2 : Option Addr) (c0_2 : Nat) (l0_2 : List (S50)) (A1 : Option Addr) (c1 : Nat) (l1 : List Bool) (r : List (S52)) (w : World) (hr0_0 : Kd.C (Kd.int .i64) w A0_0 l0_0.length l0_0) (hc0_0 : l0_0.length ≤ c0_0) (hr0_1 : Kd.C k52 w A0_1 l0_1.length l0_1) (hc0_1 : l0_1.length ≤ c0_1) (hr0_2 : Kd.C k50 w A0_2 l0_2.length l0_2) (hc0_2 : l0_2.length ≤ c0_2) (hr1 : Kd.C Kd.bool w A1 l1.length l1) (hc1 : l1.length ≤ c1) (h : impl_RunSets.f k l0_0 l0_1 l0_2 l1 = some r) :
  Calls Try.prog 10 #[.agg #[.slice A0_0 l0_0.length c0_0, .slice A0_1 l0_1.length c0_1, .slice A0_2 l0_2.length c0_2], .slice A1 l1.length c1] w fun e w' => ∃ v0_ : Value, e = .returned (v0_) ∧ Kd.R k52 52 w' w.heap.size (fun _ => True) v0_ r ∧ Below w.heap.size w w' := by
 have hu27 := Try.underlying27
 have hu52 := Try.underlying52
 have HR0_0 := Aside0.mk hr0_0
 have HC0_0 := Aside0.mk hc0_0
 clear hr0_0 hc0_0
 have HR0_1 := Aside0.mk hr0_1
 have HC0_1 := Aside0.mk hc0_1
 clear hr0_1 hc0_1
 have HR0_2 := Aside0.mk hr0_2
 have HC0_2 := Aside0.mk hc0_2
 clear hr0_2 hc0_2
 have HR1 := Aside0.mk hr1
 have HC1 := Aside0.mk hc1
 clear hr1 hc1
 have HB := Aside0.mk (Below.refl w.heap.size w)
 have H : (impl_RunSets.l0 k l1 ([] : List (S52)) l0_1 (l0_1.length : Int) 0) = some r := h
 clear h
 have H' := Aside0.mk H
 clear H
 go_enter Try.func10, Try.ntmps10
 go_wp2_with (first | ((with_reducible refine gate_dst (N := 2) rfl ?_); refine ZX (N := 2) (cs := #[.slice A0_0 l0_0.length c0_0, .slice A0_1 l0_1.length c0_1, .slice A0_2 l0_2.length c0_2]) (t := 27) ?_; intro gb445 hg w3 hbox hb; have BK445 := Aside0.mk (hbox); have GW445 : Aside0 (w.heap.size ≤ gb445) := ZS hg; have GE445 : Aside0 (w.heap.size ≤ gb445) := ZS hg; replace HB := ZT HB hb; clear hb hbox hg; obtain ⟨hcz4_0, hcz4_1, hcz4_2⟩ := ZC3 w3 BK445; obtain ⟨hfz4_0, hfz4_1, hfz4_2⟩ := ZF3 BK445))
 go_loopg [5, 11] k (fun kq v5 v11 w' => ∃ (x5_1 : List (S52)) (x11_1 : Int), v11 = .int .i64 x11_1 ∧ Aside0 (impl_RunSets.l0 kq l1 x5_1 l0_1 (l0_1.length : Int) x11_1 = some r) ∧ Aside0 (kq ≤ k) ∧ Aside0 (Kd.R k52 52 w' w.heap.size (fun _ => True) v5 x5_1) ∧ Aside0 (w'.heap[gb445]? = some (.cells #[(.slice A0_0 l0_0.length c0_0), (.slice A0_1 l0_1.length c0_1), (.slice A0_2 l0_2.length c0_2)] 27 (0, 0))) ∧ Aside0 (Below w.heap.size w w'))
 case atStart => exact ⟨(([] : List (S52))), (0), (by first | rfl | (simp; done) | (simp [*]; done)), H', ⟨Nat.le_refl _⟩, ⟨by first | exact Kd.R_nil _ _ _ _ _ | exact Kd.N_nil _ _ _ _ _ | exact Kd.V_nil _ _ _ _ _ | exact Kd.Q_nil _ _ _ _ _ | exact Kd.S_nil _ _ _ _ _⟩, ⟨ZK BK445.out⟩, ⟨ZB⟩⟩
 case round =>
  clear H'
  try clear c1
  try clear p2
  try clear hcz4_0
  try clear hcz4_1
  try clear hcz4_2
  try clear hfz4_0
  try clear hfz4_1
  try clear hfz4_2
  obtain ⟨x5_1, x11_1, rfl, HA, HK1, HO_5, BK445, HB⟩ := hrel
  cases gk with
  | zero => exact absurd HA.out (by simp [impl_RunSets.l0])
  | succ k1 =>
   have H := HA.out
   clear HA
   simp only [impl_RunSets.l0] at H
   by_cases c5 : x11_1 < (l0_1.length : Int)
   ·rw [if_pos c5] at H
    have c5b0 : decide (x11_1 < (l0_1.length : Int)) = true := decide_eq_true c5
    clear c5
    by_cases c6 : 0 ≤ x11_1
    ·rw [if_pos c6] at H
     have c6b0 : decide (0 ≤ x11_1) = true := decide_eq_true c6
     clear c6
     by_cases c7 : x11_1 < (l0_1.length : Int)
     ·rw [if_pos c7] at H
      have c7b0 : decide (x11_1 < (l0_1.length : Int)) = true := decide_eq_true c7
      clear c7
      replace H := Option.bind_eq_some_iff.mp H
      obtain ⟨t448, A80, H⟩ := H
      replace H : (if t448 = true then (if 0 ≤ ((rd_T52 l0_1 x11_1).f0) then (if ((rd_T52 l0_1 x11_1).f0) < (l1.length : Int) then (if rdOf false l1 ((rd_T52 l0_1 x11_1).f0) = true then (if x5_1.length < 8796093022208 then (impl_RunSets.l0 k1 l1 (x5_1 ++ [(⟨(rd_T52 l0_1 x11_1).f0, (rd_T52 l0_1 x11_1).f1⟩ : S52)]) l0_1 (l0_1.length : Int) (wrap64 (x11_1 + 1))) else (none)) else (impl_RunSets.l0 k1 l1 x5_1 l0_1 (l0_1.length : Int) (wrap64 (x11_1 + 1)))) else (none)) else (none)) else (impl_RunSets.l0 k1 l1 x5_1 l0_1 (l0_1.length : Int) (wrap64 (x11_1 + 1)))) = some r := H
      have A8 := Aside0.mk A80
      clear A80
      by_cases c9 : t448 = true
      ·subst c9
       have H1 : (if 0 ≤ ((rd_T52 l0_1 x11_1).f0) then (if ((rd_T52 l0_1 x11_1).f0) < (l1.length : Int) then (if rdOf false l1 ((rd_T52 l0_1 x11_1).f0) = true then (if x5_1.length < 8796093022208 then (impl_RunSets.l0 k1 l1 (x5_1 ++ [(⟨(rd_T52 l0_1 x11_1).f0, (rd_T52 l0_1 x11_1).f1⟩ : S52)]) l0_1 (l0_1.length : Int) (wrap64 (x11_1 + 1))) else (none)) else (impl_RunSets.l0 k1 l1 x5_1 l0_1 (l0_1.length : Int) (wrap64 (x11_1 + 1)))) else (none)) else (none)) = some r := by rw [if_pos rfl] at H; exact H
       clear H
       have H := H1
       clear H1
       by_cases c10 : 0 ≤ ((rd_T52 l0_1 x11_1).f0)
       ·rw [if_pos c10] at H
        have c10b0 : decide (0 ≤ ((rd_T52 l0_1 x11_1).f0)) = true := decide_eq_true c10
        clear c10
        by_cases c11 : ((rd_T52 l0_1 x11_1).f0) < (l1.length : Int)
        ·rw [if_pos c11] at H
         have c11b0 : decide (((rd_T52 l0_1 x11_1).f0) < (l1.length : Int)) = true := decide_eq_true c11
         clear c11
         obtain ⟨bq12, hbq12⟩ : ∃ b_ : Bool, b_ = (rdOf false l1 ((rd_T52 l0_1 x11_1).f0)) := ⟨_, rfl⟩
         replace H : (if bq12 = true then (if x5_1.length < 8796093022208 then (impl_RunSets.l0 k1 l1 (x5_1 ++ [(⟨(rd_T52 l0_1 x11_1).f0, (rd_T52 l0_1 x11_1).f1⟩ : S52)]) l0_1 (l0_1.length : Int) (wrap64 (x11_1 + 1))) else (none)) else (impl_RunSets.l0 k1 l1 x5_1 l0_1 (l0_1.length : Int) (wrap64 (x11_1 + 1)))) = some r := by rw [← hbq12] at H; exact H
         have Nbq12 := Aside0.mk hbq12
         clear hbq12
         by_cases c13 : bq12 = true
         ·subst c13
          have H1 : (if x5_1.length < 8796093022208 then (impl_RunSets.l0 k1 l1 (x5_1 ++ [(⟨(rd_T52 l0_1 x11_1).f0, (rd_T52 l0_1 x11_1).f1⟩ : S52)]) l0_1 (l0_1.length : Int) (wrap64 (x11_1 + 1))) else (none)) = some r := by rw [if_pos rfl] at H; exact H
          clear H
          have H := H1
          clear H1
          by_cases c14 : x5_1.length < 8796093022208
          ·rw [if_pos c14] at H
           have LMc14 := Aside0.mk c14
           clear c14
           obtain ⟨y450, hy450⟩ : ∃ y_ : List (S52), y_ = (x5_1 ++ [(⟨(rd_T52 l0_1 x11_1).f0, (rd_T52 l0_1 x11_1).f1⟩ : S52)]) := ⟨_, rfl⟩
           replace H : (impl_RunSets.l0 k1 l1 y450 l0_1 (l0_1.length : Int) (wrap64 (x11_1 + 1))) = some r := by first | (rw [hy450]; with_reducible exact H) | (have H2_ := (Option.bind_some _ _).symm.trans H; rw [hy450]; with_reducible exact H2_) | (have H2_ := (Option.bind_some _ _).symm.trans H; with_reducible exact H2_) | with_reducible exact H | (rw [hy450]; exact H) | exact H
           have Ny450 := Aside0.mk hy450
           clear hy450
           have H' := Aside0.mk H
           clear H
           have p446 : 0 ≤ (x11_1 : Int) := ZD
           have q446 : x11_1 < (l0_1.length : Int) := ZD
           obtain ⟨ad446, e446, hx446_0, hx446_1⟩ := at_T52 HR0_1.out x11_1 p446 q446
           cases e446
           replace hx446_0 := (HB.out.cell (World.block_lt_of_cell? w _ hx446_0)).trans hx446_0
           replace hx446_1 := (HB.out.cell (World.block_lt_of_cell? w _ hx446_1)).trans hx446_1
           replace p446 := eq_true p446
           replace q446 := eq_true q446
           go_wp2_with (first | ((with_reducible refine gate_dst (N := 7) rfl ?_); refine ZX (N := 7) (cs := #[.int .i64 0, .int .i64 0]) (t := 52) ?_; intro gb447 hg w15 hbox hb; have BK447 := Aside0.mk (hbox); have GW447 : Aside0 (w.heap.size ≤ gb447) := ZS hg; have GE447 : Aside0 (w.heap.size ≤ gb447) := ZS hg; have NB445_447 : Aside0 (gb445 ≠ gb447) := ZN hg BK445; have NB447_445 : Aside0 (gb447 ≠ gb445) := ZM hg BK445; replace HO_5 := Aside0.mk (Kd.R_below (Kd.R_elderB (ZR HO_5.out) gb447 (Nat.le_of_eq hg.symm)) hb); replace BK445 := ZW BK445 hb; replace HB := ZT HB hb; clear hb hbox hg; have hnb16 := NB447_445.out; have hnc16 := NB445_447.out; obtain ⟨hcz17_0, hcz17_1⟩ := ZC2 w15 BK447; obtain ⟨hfz17_0, hfz17_1⟩ := ZF2 BK447) | ((with_reducible refine gate_callee (f := 18) rfl ?_); refine goesL_ (some 20) rfl rfl Try.func18 (by kernel_rfl) rfl #[.int .i64 ((rd_T52 l0_1 x11_1).f0), .int .i64 0, .int .i64 (wrap64 ((l1.length : Int) - 1))] rfl ZG ?_; (with_reducible refine (impl_in.calls ((rd_T52 l0_1 x11_1).f0) 0 (wrap64 ((l1.length : Int) - 1)) true _ A8.out).mono ?_); rintro e w' ⟨rfl, ⟨nd, rfl⟩⟩; refine ⟨_, rfl, ?_⟩; have p449 : 0 ≤ (((rd_T52 l0_1 x11_1).f0) : Int) := ZD; have q449 : ((rd_T52 l0_1 x11_1).f0) < (l1.length : Int) := ZD; obtain ⟨ad449, e449, hx449_0⟩ := Kd.at_bool HR1.out ((rd_T52 l0_1 x11_1).f0) p449 q449; (try rw [← Nbq12.out] at hx449_0); cases e449; have hn449_0 : ad449.block ≠ gb447 := ZO hx449_0 GW447; have hn449_1 : ad449.block ≠ gb447 := ZO hx449_0 GW447; replace hx449_0 := (HB.out.cell (World.block_lt_of_cell? w _ hx449_0)).trans hx449_0; replace hx449_0 := (cell_far (p := ⟨gb447, 0, none⟩) (ZY hn449_0) (.int .i64 ((rd_T52 l0_1 x11_1).f0))).trans hx449_0; replace hx449_0 := (cell_far (p := ⟨gb447, 1, none⟩) (ZY hn449_1) (.int .i64 ((rd_T52 l0_1 x11_1).f1))).trans hx449_0; clear hn449_0; clear hn449_1; replace p449 := eq_true p449; replace q449 := eq_true q449) | ((with_reducible refine gate_builtin (b := .append) (xs := #[.tmp 28, .tmp 30]) rfl ?_); at_builtin; refine Kd.R_append k52 (w0 := w) w.heap.size rfl (.tmp 28) (.tmp 30) 24 52 (.agg #[(.int .i64 0), (.int .i64 0)]) 16 rfl Try.underlying24 info52 rfl (by decide) (by omega) u5 x5_1 (⟨(rd_T52 l0_1 x11_1).f0, (rd_T52 l0_1 x11_1).f1⟩ : S52) [.int .i64 ((rd_T52 l0_1 x11_1).f0), .int .i64 ((rd_T52 l0_1 x11_1).f1)] (fun k_ => k_ ≠ gb447) (fun _ => False) rfl (by first | (go_simp; done) | (go_simp; rfl)) ?aP (fun _ hk => hk.elim) ?aF ?aO ?aB ?aS ?aL ?_; (case aP => exact k52_mkM _ _ _ (⟨(rd_T52 l0_1 x11_1).f0, (rd_T52 l0_1 x11_1).f1⟩ : S52)); (case aB => exact (ZB)); (case aF => exact (fun k_ hk => Kd.freshB (g := gb447) (o := .cells #[.int .i64 ((rd_T52 l0_1 x11_1).f0), .int .i64 ((rd_T52 l0_1 x11_1).f1)] 52 (0, 0)) (ZZ BK447.out) k_ hk)); (case aO => exact (by (with_reducible repeat (first | apply Kd.R_alloc | apply Kd.R_drewN | apply Kd.R_drew)); exact Kd.R_mono (Kd.R_far (p := ⟨gb447, 1, none⟩) (Kd.R_far (p := ⟨gb447, 0, none⟩) (Kd.R_mono HO_5.out (fun k_ hk => (⟨hk, hk.2⟩ : _ ∧ k_ ≠ gb447))) (fun _ hk => hk.2) (.int .i64 ((rd_T52 l0_1 x11_1).f0))) (fun _ hk => hk.2) (.int .i64 ((rd_T52 l0_1 x11_1).f1))) (fun _ hk => hk.1.2))); (case aS => exact (below_size (ZB))); (case aL => have := LMc14.out; omega); intro v451 w18 ho hb hg hat; rw [← Ny450.out] at ho; have n0_ := Aside0.mk (blk_grown (g := gb445) (o := .cells #[.slice A0_0 l0_0.length c0_0, .slice (some ad446) l0_1.length c0_1, .slice A0_2 l0_2.length c0_2] 27 (0, 0)) (ZZ BK445.out) hg (Kd.R_ne HO_5.out BK445.out (by decide))); have n1_ := Aside0.mk (blk_grown (g := gb447) (o := .cells #[.int .i64 ((rd_T52 l0_1 x11_1).f0), .int .i64 ((rd_T52 l0_1 x11_1).f1)] 52 (0, 0)) (ZZ BK447.out) hg (Kd.R_away HO_5.out (fun _ hk => hk.2))); have n2_ := Aside0.mk (hb); have n3_ := Aside0.mk (ho); clear BK445; clear BK447; clear HB; clear HO_5; have BK445 := n0_; have BK447 := n1_; have HB := n2_; have HO452 := n3_; clear n0_ n1_ n2_ n3_; clear ho hb hg hat))
           go_roundg k1
           case measure => have := HK1.out; omega
           case rel => exact ⟨(y450), (wrap64 (x11_1 + 1)), (by first | rfl | (simp; done) | (simp [*]; done)), H', ⟨by have := HK1.out; omega⟩, ⟨ZR (Kd.R_mono HO452.out (fun _ hk => trivial))⟩, ⟨ZK BK445.out⟩, ⟨ZB⟩⟩
          ·rw [if_neg c14] at H
           exact absurd H (by simp)
         ·replace c13 := Bool.eq_false_iff.mpr c13
          subst c13
          have H1 : (impl_RunSets.l0 k1 l1 x5_1 l0_1 (l0_1.length : Int) (wrap64 (x11_1 + 1))) = some r := by rw [if_neg (show ¬ (false = true) by decide)] at H; exact H
          clear H
          have H := H1
          clear H1
          have H' := Aside0.mk H
          clear H
          have p446 : 0 ≤ (x11_1 : Int) := ZD
          have q446 : x11_1 < (l0_1.length : Int) := ZD
          obtain ⟨ad446, e446, hx446_0, hx446_1⟩ := at_T52 HR0_1.out x11_1 p446 q446
          cases e446
          replace hx446_0 := (HB.out.cell (World.block_lt_of_cell? w _ hx446_0)).trans hx446_0
          replace hx446_1 := (HB.out.cell (World.block_lt_of_cell? w _ hx446_1)).trans hx446_1
          replace p446 := eq_true p446
          replace q446 := eq_true q446
          go_wp2_with (first | ((with_reducible refine gate_dst (N := 7) rfl ?_); refine ZX (N := 7) (cs := #[.int .i64 0, .int .i64 0]) (t := 52) ?_; intro gb447 hg w19 hbox hb; have BK447 := Aside0.mk (hbox); have GW447 : Aside0 (w.heap.size ≤ gb447) := ZS hg; have GE447 : Aside0 (w.heap.size ≤ gb447) := ZS hg; have NB445_447 : Aside0 (gb445 ≠ gb447) := ZN hg BK445; have NB447_445 : Aside0 (gb447 ≠ gb445) := ZM hg BK445; replace HO_5 := Aside0.mk (Kd.R_below (Kd.R_elderB (ZR HO_5.out) gb447 (Nat.le_of_eq hg.symm)) hb); replace BK445 := ZW BK445 hb; replace HB := ZT HB hb; clear hb hbox hg; have hnb20 := NB447_445.out; have hnc20 := NB445_447.out; obtain ⟨hcz21_0, hcz21_1⟩ := ZC2 w19 BK447; obtain ⟨hfz21_0, hfz21_1⟩ := ZF2 BK447) | ((with_reducible refine gate_callee (f := 18) rfl ?_); refine goesL_ (some 20) rfl rfl Try.func18 (by kernel_rfl) rfl #[.int .i64 ((rd_T52 l0_1 x11_1).f0), .int .i64 0, .int .i64 (wrap64 ((l1.length : Int) - 1))] rfl ZG ?_; (with_reducible refine (impl_in.calls ((rd_T52 l0_1 x11_1).f0) 0 (wrap64 ((l1.length : Int) - 1)) true _ A8.out).mono ?_); rintro e w' ⟨rfl, ⟨nd, rfl⟩⟩; refine ⟨_, rfl, ?_⟩; have p449 : 0 ≤ (((rd_T52 l0_1 x11_1).f0) : Int) := ZD; have q449 : ((rd_T52 l0_1 x11_1).f0) < (l1.length : Int) := ZD; obtain ⟨ad449, e449, hx449_0⟩ := Kd.at_bool HR1.out ((rd_T52 l0_1 x11_1).f0) p449 q449; (try rw [← Nbq12.out] at hx449_0); cases e449; have hn449_0 : ad449.block ≠ gb447 := ZO hx449_0 GW447; have hn449_1 : ad449.block ≠ gb447 := ZO hx449_0 GW447; replace hx449_0 := (HB.out.cell (World.block_lt_of_cell? w _ hx449_0)).trans hx449_0; replace hx449_0 := (cell_far (p := ⟨gb447, 0, none⟩) (ZY hn449_0) (.int .i64 ((rd_T52 l0_1 x11_1).f0))).trans hx449_0; replace hx449_0 := (cell_far (p := ⟨gb447, 1, none⟩) (ZY hn449_1) (.int .i64 ((rd_T52 l0_1 x11_1).f1))).trans hx449_0; clear hn449_0; clear hn449_1; replace p449 := eq_true p449; replace q449 := eq_true q449))
          go_roundg k1
          case measure => have := HK1.out; omega
          case rel => exact ⟨(x5_1), (wrap64 (x11_1 + 1)), (by first | rfl | (simp; done) | (simp [*]; done)), H', ⟨by have := HK1.out; omega⟩, ⟨by (with_reducible repeat (first | apply Kd.R_alloc | apply Kd.R_drewN | apply Kd.R_drew)); exact Kd.R_mono (Kd.R_far (p := ⟨gb447, 1, none⟩) (Kd.R_far (p := ⟨gb447, 0, none⟩) (Kd.R_mono HO_5.out (fun k_ hk => (⟨hk, hk.2⟩ : _ ∧ k_ ≠ gb447))) (fun _ hk => hk.2) (.int .i64 ((rd_T52 l0_1 x11_1).f0))) (fun _ hk => hk.2) (.int .i64 ((rd_T52 l0_1 x11_1).f1))) (fun _ hk => trivial)⟩, ⟨ZZ BK445.out⟩, ⟨ZB⟩⟩
        ·rw [if_neg c11] at H
         exact absurd H (by simp)
       ·rw [if_neg c10] at H
        exact absurd H (by simp)
      ·replace c9 := Bool.eq_false_iff.mpr c9
       subst c9
       have H1 : (impl_RunSets.l0 k1 l1 x5_1 l0_1 (l0_1.length : Int) (wrap64 (x11_1 + 1))) = some r := by rw [if_neg (show ¬ (false = true) by decide)] at H; exact H
       clear H
       have H := H1
       clear H1
       have H' := Aside0.mk H
       clear H
       have p446 : 0 ≤ (x11_1 : Int) := ZD
       have q446 : x11_1 < (l0_1.length : Int) := ZD
       obtain ⟨ad446, e446, hx446_0, hx446_1⟩ := at_T52 HR0_1.out x11_1 p446 q446
       cases e446
       replace hx446_0 := (HB.out.cell (World.block_lt_of_cell? w _ hx446_0)).trans hx446_0
       replace hx446_1 := (HB.out.cell (World.block_lt_of_cell? w _ hx446_1)).trans hx446_1
       replace p446 := eq_true p446
       replace q446 := eq_true q446
       go_wp2_with (first | ((with_reducible refine gate_dst (N := 7) rfl ?_); refine ZX (N := 7) (cs := #[.int .i64 0, .int .i64 0]) (t := 52) ?_; intro gb447 hg w22 hbox hb; have BK447 := Aside0.mk (hbox); have GW447 : Aside0 (w.heap.size ≤ gb447) := ZS hg; have GE447 : Aside0 (w.heap.size ≤ gb447) := ZS hg; have NB445_447 : Aside0 (gb445 ≠ gb447) := ZN hg BK445; have NB447_445 : Aside0 (gb447 ≠ gb445) := ZM hg BK445; replace HO_5 := Aside0.mk (Kd.R_below (Kd.R_elderB (ZR HO_5.out) gb447 (Nat.le_of_eq hg.symm)) hb); replace BK445 := ZW BK445 hb; replace HB := ZT HB hb; clear hb hbox hg; have hnb23 := NB447_445.out; have hnc23 := NB445_447.out; obtain ⟨hcz24_0, hcz24_1⟩ := ZC2 w22 BK447; obtain ⟨hfz24_0, hfz24_1⟩ := ZF2 BK447) | ((with_reducible refine gate_callee (f := 18) rfl ?_); refine goesL_ (some 20) rfl rfl Try.func18 (by kernel_rfl) rfl #[.int .i64 ((rd_T52 l0_1 x11_1).f0), .int .i64 0, .int .i64 (wrap64 ((l1.length : Int) - 1))] rfl ZG ?_; (with_reducible refine (impl_in.calls ((rd_T52 l0_1 x11_1).f0) 0 (wrap64 ((l1.length : Int) - 1)) false _ A8.out).mono ?_); rintro e w' ⟨rfl, ⟨nd, rfl⟩⟩; refine ⟨_, rfl, ?_⟩))
       go_roundg k1
       case measure => have := HK1.out; omega
       case rel => exact ⟨(x5_1), (wrap64 (x11_1 + 1)), (by first | rfl | (simp; done) | (simp [*]; done)), H', ⟨by have := HK1.out; omega⟩, ⟨by (with_reducible repeat (first | apply Kd.R_alloc | apply Kd.R_drewN | apply Kd.R_drew)); exact Kd.R_mono (Kd.R_far (p := ⟨gb447, 1, none⟩) (Kd.R_far (p := ⟨gb447, 0, none⟩) (Kd.R_mono HO_5.out (fun k_ hk => (⟨hk, hk.2⟩ : _ ∧ k_ ≠ gb447))) (fun _ hk => hk.2) (.int .i64 ((rd_T52 l0_1 x11_1).f0))) (fun _ hk => hk.2) (.int .i64 ((rd_T52 l0_1 x11_1).f1))) (fun _ hk => trivial)⟩, ⟨ZZ BK445.out⟩, ⟨ZB⟩⟩
     ·rw [if_neg c7] at H
      exact absurd H (by simp)
    ·rw [if_neg c6] at H
     exact absurd H (by simp)
   ·rw [if_neg c5] at H
    have c5b0 : decide (x11_1 < (l0_1.length : Int)) = false := decide_eq_false c5
    clear c5
    obtain rfl := Option.some.inj H
    go_wp2
    go_ret
    exact ⟨_, ZE, by (with_reducible repeat (first | apply Kd.R_alloc | apply Kd.R_drewN | apply Kd.R_drew)); exact HO_5.out, ZB⟩

/-! ### laws_lcWrites: function 11 -/
def laws_lcWrites.l0 : Nat → List (S52) → List (S52) → Int → Option (Bool)
 | 0, _, _, _ => none
 | k + 1, x0, x1, x5 => if x5 < (x0.length : Int) then (if 0 ≤ x5 then (if x5 < (x1.length : Int) then (if (!(((rd_T52 x0 x5).f0) == ((rd_T52 x1 x5).f0)) || (!(((rd_T52 x0 x5).f1) == ((rd_T52 x1 x5).f1)))) = true then (some false) else (laws_lcWrites.l0 k x0 x1 (wrap64 (x5 + 1)))) else (none)) else (none)) else (some true)
def laws_lcWrites.f (k : Nat) (l0 : List (S52)) (l1 : List (S52)) : Option (Bool) := if (l0.length : Int) = (l1.length : Int) then (laws_lcWrites.l0 k l0 l1 0) else (some false)
set_option maxHeartbeats 8000000 in
set_option maxRecDepth 100000 in
theorem laws_lcWrites.calls (k : Nat) (A0 : Option Addr) (c0 : Nat) (l0 : List (S52)) (A1 : Option Addr) (c1 : Nat) (l1 : List (S52)) (r : Bool) (w : World) (hr0 : Kd.C k52 w A0 l0.length l0) (hc0 : l0.length ≤ c0) (hr1 : Kd.C k52 w A1 l1.length l1) (hc1 : l1.length ≤ c1) (h : laws_lcWrites.f k l0 l1 = some r) :
  Calls Try.prog 11 #[.slice A0 l0.length c0, .slice A1 l1.length c1] w fun e w' => e = .returned (.bool r) ∧ Drawn0 w w' := by
 have hu52 := Try.underlying52
 have HR0 := Aside0.mk hr0
 have HC0 := Aside0.mk hc0
 clear hr0 hc0
 have HR1 := Aside0.mk hr1
 have HC1 := Aside0.mk hc1
 clear hr1 hc1
 have H : (if (l0.length : Int) = (l1.length : Int) then (laws_lcWrites.l0 k l0 l1 0) else (some false)) = some r := h
 clear h
 by_cases c3 : (l0.length : Int) = (l1.length : Int)
 ·rw [if_pos c3] at H
  have c3b0 : ((l0.length : Int) == (l1.length : Int)) = true := beq_iff_eq.mpr c3
  have c3b1 : ((l0.length : Int) != (l1.length : Int)) = false := bne_eq_false_iff_eq.mpr c3
  have c3b2 : (l0.length == l1.length) = true := by first | simpa using c3 | (simp at c3 ⊢; omega)
  clear c3
  have H' := Aside0.mk H
  clear H
  go_enter Try.func11, Try.ntmps11
  go_wp2
  repeat (go_quiet (fail); try go_wp2)
  go_loopg [5] k (fun kq v5 w' => ∃ (x5_1 : Int), v5 = .int .i64 x5_1 ∧ Aside0 (laws_lcWrites.l0 kq l0 l1 x5_1 = some r) ∧ Aside0 (kq ≤ k) ∧ Drawn0 w w')
  case atStart => exact ⟨(0), (by first | rfl | (simp; done) | (simp [*]; done)), H', ⟨Nat.le_refl _⟩, by repeat (first | exact Drawn0.refl _ | apply Drawn0.step)⟩
  case round =>
   clear H'
   try clear c1
   try clear p2
   try clear c3
   try clear c3b0
   try clear c3b1
   try clear c3b2
   obtain ⟨x5_1, rfl, HA, HK1, ⟨m1, rfl⟩⟩ := hrel
   cases gk with
   | zero => exact absurd HA.out (by simp [laws_lcWrites.l0])
   | succ k1 =>
    have H := HA.out
    clear HA
    simp only [laws_lcWrites.l0] at H
    by_cases c4 : x5_1 < (l0.length : Int)
    ·rw [if_pos c4] at H
     have c4b0 : decide (x5_1 < (l0.length : Int)) = true := decide_eq_true c4
     clear c4
     by_cases c5 : 0 ≤ x5_1
     ·rw [if_pos c5] at H
      have c5b0 : decide (0 ≤ x5_1) = true := decide_eq_true c5
      clear c5
      by_cases c6 : x5_1 < (l1.length : Int)
      ·rw [if_pos c6] at H
       have c6b0 : decide (x5_1 < (l1.length : Int)) = true := decide_eq_true c6
       clear c6
       by_cases c7 : (!(((rd_T52 l0 x5_1).f0) == ((rd_T52 l1 x5_1).f0)) || (!(((rd_T52 l0 x5_1).f1) == ((rd_T52 l1 x5_1).f1)))) = true
       ·rw [if_pos c7] at H
        have c7b0 : (!(((rd_T52 l0 x5_1).f0) == ((rd_T52 l1 x5_1).f0)) || (!(((rd_T52 l0 x5_1).f1) == ((rd_T52 l1 x5_1).f1)))) = true := c7
        clear c7
        obtain rfl := Option.some.inj H
        have p453 : 0 ≤ (x5_1 : Int) := ZD
        have q453 : x5_1 < (l0.length : Int) := ZD
        obtain ⟨ad453, e453, hx453_0, hx453_1⟩ := at_T52 HR0.out x5_1 p453 q453
        cases e453
        replace p453 := eq_true p453
        replace q453 := eq_true q453
        have p454 : 0 ≤ (x5_1 : Int) := ZD
        have q454 : x5_1 < (l1.length : Int) := ZD
        obtain ⟨ad454, e454, hx454_0, hx454_1⟩ := at_T52 HR1.out x5_1 p454 q454
        cases e454
        replace p454 := eq_true p454
        replace q454 := eq_true q454
        go_wp2
        repeat (go_quiet (fail); try go_wp2)
        go_ret
        exact ⟨by first | rfl | (simp; done) | (simp [*]; done), by repeat (first | exact Drawn0.refl _ | apply Drawn0.step)⟩
       ·rw [if_neg c7] at H
        have c7b0 : (!(((rd_T52 l0 x5_1).f0) == ((rd_T52 l1 x5_1).f0)) || (!(((rd_T52 l0 x5_1).f1) == ((rd_T52 l1 x5_1).f1)))) = false := by simpa using c7
        clear c7
        have H' := Aside0.mk H
        clear H
        have p453 : 0 ≤ (x5_1 : Int) := ZD
        have q453 : x5_1 < (l0.length : Int) := ZD
        obtain ⟨ad453, e453, hx453_0, hx453_1⟩ := at_T52 HR0.out x5_1 p453 q453
        cases e453
        replace p453 := eq_true p453
        replace q453 := eq_true q453
        have p454 : 0 ≤ (x5_1 : Int) := ZD
        have q454 : x5_1 < (l1.length : Int) := ZD
        obtain ⟨ad454, e454, hx454_0, hx454_1⟩ := at_T52 HR1.out x5_1 p454 q454
        cases e454
        replace p454 := eq_true p454
        replace q454 := eq_true q454
        go_wp2
        repeat (go_quiet (fail); try go_wp2)
        go_roundg k1
        case measure => have := HK1.out; omega
        case rel => exact ⟨(wrap64 (x5_1 + 1)), (by first | rfl | (simp; done) | (simp [*]; done)), H', ⟨by have := HK1.out; omega⟩, by repeat (first | exact Drawn0.refl _ | apply Drawn0.step)⟩
      ·rw [if_neg c6] at H
       exact absurd H (by simp)
     ·rw [if_neg c5] at H
      exact absurd H (by simp)
    ·rw [if_neg c4] at H
     have c4b0 : decide (x5_1 < (l0.length : Int)) = false := decide_eq_false c4
     clear c4
     obtain rfl := Option.some.inj H
     go_wp2
     repeat (go_quiet (fail); try go_wp2)
     go_ret
     exact ⟨by first | rfl | (simp; done) | (simp [*]; done), by repeat (first | exact Drawn0.refl _ | apply Drawn0.step)⟩
 ·rw [if_neg c3] at H
  have c3b0 : ((l0.length : Int) == (l1.length : Int)) = false := beq_eq_false_iff_ne.mpr c3
  have c3b1 : ((l0.length : Int) != (l1.length : Int)) = true := bne_iff_ne.mpr c3
  have c3b2 : (l0.length == l1.length) = false := by first | simpa using c3 | (simp at c3 ⊢; omega)
  obtain rfl := Option.some.inj H
  go_enter Try.func11, Try.ntmps11
  go_wp2
  repeat (go_quiet (fail); try go_wp2)
  go_ret
  exact ⟨by first | rfl | (simp; done) | (simp [*]; done), by repeat (first | exact Drawn0.refl _ | apply Drawn0.step)⟩

end Go.Proofs.Ytdmejmdifnicmaa.A
