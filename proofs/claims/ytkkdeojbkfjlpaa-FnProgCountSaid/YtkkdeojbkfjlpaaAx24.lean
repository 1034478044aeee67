/- Go functions as Lean functions, and for each its contract; written by wip/tools/pr.py over the kit's print. -/
import Derived.Test.YtkkdeojbkfjlpaaAx0
import Derived.Test.YtkkdeojbkfjlpaaAx9
import Derived.Test.YtkkdeojbkfjlpaaAx16
import Derived.Test.YtkkdeojbkfjlpaaAx22
import Derived.Test.YtkkdeojbkfjlpaaAx23
namespace Go.Proofs.Ytkkdeojbkfjlpaa.A
open Go.RowKit Go.Proofs.YtkkdeojbkfjlpaaW.PrintWords Go.Proofs.YtkkdeojbkfjlpaaW.PrintLast Go.Proofs.YtkkdeojbkfjlpaaW.PrintMore
attribute [local go_sem] max2_int min2_int max_two min_two max_three min_three max_four min_four
set_option linter.unusedVariables false
set_option linter.unusedSimpArgs false
set_option maxHeartbeats 8000000
set_option maxRecDepth 100000

/-! ### spec_l71Fine: function 46 -/
def spec_l71Fine.l0 : Nat → Int → List Int → Int → List (S35) → List (S40) → Option ((List (S35)) × (List (S40)) × Int)
 | 0, _, _, _, _, _ => none
 | k + 1, x4, x1000, x1001, x511000, x511001 => if x4 < 6 then ((spec_TypeWhy.f k x511000 x511001).bind fun bt511 => (if bt511.2 = true then ((spec_l71Without.f k x511001 bt511.1).bind fun t513 => (spec_l71Fine.l0 k (wrap64 (x4 + 1)) x1000 x1001 x511000 t513)) else (some (x511000, x511001, x1001)))) else (some (x511000, x511001, x1001))
def spec_l71Fine.f (k : Nat) (s0_0 : List Int) (s0_1 : Int) : Option ((List (S35)) × (List (S40)) × Int) := (spec_l71Prog.f k s0_0 s0_1).bind fun bt503 => (spec_l71Fine.l0 k 0 s0_0 bt503.2.2 bt503.1 bt503.2.1)
theorem spec_l71Fine.calls (k : Nat) (g : Nat) (s0_0 : List Int) (s0_1 : Int) (r1 : List (S35)) (r2 : List (S40)) (r3 : Int) (w0 w : World) (hI : IsS64 w0 w g s0_0 s0_1) (hB : Below w0.heap.size w0 w) (h : spec_l71Fine.f k s0_0 s0_1 = some (r1, r2, r3)) :
  Calls Try.prog 46 #[.pointer (some ⟨g, 0, none⟩)] w fun e w' => ∃ v0_ v1_ : Value, e = .returned (.agg #[v0_, v1_]) ∧ Kd.R k35 35 w' w.heap.size (fun k_ => (w.heap.size ≤ k_)) v0_ r1 ∧ Kd.N k40 40 w' w.heap.size (fun k_ => (w.heap.size ≤ k_) ∧ some k_ ≠ (v0_ : Value).ownBlock) v1_ r2 ∧ IsS64 w0 w' g s0_0 r3 ∧ Below w0.heap.size w0 w' ∧ KeepBut w w' g none := by
 have hu26 := Try.underlying26
 have HI0 := AM hI
 have HK := AM (KeepBut.refl w g none)
 have HL := AM hB.size
 clear hI
 have HW0 := AM hB.size
 have HB := AM hB
 clear hB
 have H := h
 unfold spec_l71Fine.f at H
 clear h
 obtain ⟨⟨t503, t506, t509⟩, A2, H⟩ := ZOB H; try dsimp only at H
 have H' := AM H
 clear H
 go_enter Try.func46, Try.ntmps46
 go_wp2_with (first | ((with_reducible refine gate_dst (N := 2) rfl ?_); refine ZX (N := 2) (cs := #[.slice none 0 0, .slice none 0 0]) (t := 26) ?_; intro gb502 hg w3 hbox hb; have BK502 := AM (hbox); have GW502 := AM ((by rw [hg]; exact (keep_size (w := w) (g := g) (row := none) (ZJ)) : w.heap.size ≤ gb502)); have GE502 := AM ((Nat.le_trans HW0.out (by rw [hg]; exact (keep_size (w := w) (g := g) (row := none) (ZJ)) : w.heap.size ≤ gb502) : w0.heap.size ≤ gb502)); have NB0_502 := AM ((by rw [hg]; exact Nat.ne_of_lt (IsS64.lt (show IsS64 w0 _ g s0_0 s0_1 from ZI)) : g ≠ gb502)); have NB502_0 := AM ((by rw [hg]; exact Nat.ne_of_gt (IsS64.lt (show IsS64 w0 _ g s0_0 s0_1 from ZI)) : gb502 ≠ g)); replace HK := ZKT HK (KeepBut.of_below hb g none); replace HB := ZTI HB hb; replace HI0 := AM (IsS64.below (ZI) hb); clear hb hbox hg) | ((with_reducible refine gate_callee (f := 45) rfl ?_); refine ZGL (some 8) Try.func45 #[.pointer (some ⟨g, 0, none⟩)] ?_; (with_reducible refine (spec_l71Prog.calls k g s0_0 s0_1 t503 t506 t509 w0 _ ?side1 ?side2 A2.out).mono ?_); (case side1 => exact ZI); (case side2 => exact ZBI); rintro e w4 ⟨v504, v507, rfl, ho0, ho1, hi, hb, hk⟩; refine ZV1 ?_; have HO505 := AM (Kd.R_lower (Kd.R_newM (M := fun k_ => (w.heap.size ≤ k_)) ho0 (keep_size (w := w) (g := g) (row := none) (ZJ)) (fun k_ h_ => h_)) (keep_size (w := w) (g := g) (row := none) (ZJ))); have HO508 := AM (Kd.N_lower (Kd.N_mono (ok' := fun k_ => (w.heap.size ≤ k_) ∧ some k_ ≠ (v504 : Value).ownBlock ∧ k_ ≠ gb502 ∧ k_ ≠ g) (Kd.R_N (Kd.R_bound (Kd.R_apart' ho1 (Kd.R_typed ho0) (by decide)))) (fun k_ hk_ => ⟨(Nat.le_trans (keep_size (w := w) (g := g) (row := none) (ZJ)) hk_.2.1), hk_.1.2, (Kd.freshB (g := gb502) (o := .cells #[.slice none 0 0, .slice none 0 0] 26 (0, 0)) (ZK BK502.out) k_ hk_.2.1), (IsS64.fresh (ZI) k_ hk_.2.1)⟩)) (keep_size (w := w) (g := g) (row := none) (ZJ))); replace BK502 := ZL hk BK502 NB502_0; replace HK := ZKT HK hk; replace HB := AM (hb); replace HI0 := AM (hi); clear hb hk hi; (try clear ho0); (try clear ho1)) | ((with_reducible refine gate_dst (N := 3) rfl ?_); refine ZX (N := 3) (cs := #[.slice none 0 0, .slice none 0 0]) (t := 26) ?_; intro gb510 hg w5 hbox hb; have BK510 := AM (hbox); have GW510 := AM ((by rw [hg]; exact (keep_size (w := w) (g := g) (row := none) (ZJ)) : w.heap.size ≤ gb510)); have GE510 := AM ((Nat.le_trans HW0.out (by rw [hg]; exact (keep_size (w := w) (g := g) (row := none) (ZJ)) : w.heap.size ≤ gb510) : w0.heap.size ≤ gb510)); have NB502_510 : Za (gb502 ≠ gb510) := ZN hg BK502; have NB510_502 : Za (gb510 ≠ gb502) := ZM hg BK502; have NB0_510 := AM ((by rw [hg]; exact Nat.ne_of_lt (IsS64.lt (show IsS64 w0 _ g s0_0 t509 from ZI)) : g ≠ gb510)); have NB510_0 := AM ((by rw [hg]; exact Nat.ne_of_gt (IsS64.lt (show IsS64 w0 _ g s0_0 t509 from ZI)) : gb510 ≠ g)); replace HO505 := AM (Kd.R_below (ZR HO505.out) hb); replace HO508 := AM (Kd.N_below (Kd.N_elderB (ZRN HO508.out) gb510 (Nat.le_of_eq hg.symm)) hb); replace BK502 := ZW BK502 hb; replace HK := ZKT HK (KeepBut.of_below hb g none); replace HB := ZTI HB hb; replace HI0 := AM (IsS64.below (ZI) hb); clear hb hbox hg; obtain ⟨Ao6, co6, eo6⟩ := Kd.R_slice HO505.out; subst eo6; have hnb7 := NB510_502.out; have hnc7 := NB502_510.out; have hnb8 := NB510_0.out; have hnc8 := NB0_510.out; have hcz9 := ZC2 w5 BK510; obtain ⟨Ao10, co10, eo10⟩ := Kd.N_slice HO508.out; subst eo10))
 go_loopg [4] k (fun kq v4 w' => ∃ (x4_1 : Int) (x511001_1 : List (S40)) (u511001 : Value), v4 = .int .i64 x4_1 ∧ Za (spec_l71Fine.l0 kq x4_1 s0_0 t509 t503 x511001_1 = some (r1, r2, r3)) ∧ Za (kq ≤ k) ∧ Za (Kd.R k35 35 w' w.heap.size (fun k_ => (w.heap.size ≤ k_)) (.slice Ao6 t503.length co6) t503) ∧ Za (Kd.N k40 40 w' w.heap.size (fun k_ => (w.heap.size ≤ k_) ∧ some k_ ≠ ((.slice Ao6 t503.length co6) : Value).ownBlock ∧ k_ ≠ gb502 ∧ k_ ≠ gb510 ∧ k_ ≠ g) u511001 x511001_1) ∧ Za (w'.heap[gb502]? = some (.cells #[(.slice none 0 0), (.slice none 0 0)] 26 (0, 0))) ∧ Za (w'.heap[gb510]? = some (.cells #[(.slice Ao6 t503.length co6), u511001] 26 (0, 0))) ∧ Za (IsS64 w0 w' g s0_0 t509) ∧ Za (KeepBut w w' g none) ∧ Za (Below w0.heap.size w0 w'))
 case atStart => exact ⟨(0), (t506), (.slice Ao10 t506.length co10), ZSM, H', ⟨Nat.le_refl _⟩, ⟨ZR (Kd.R_mono (Kd.R_far (p := ⟨gb510, 1, none⟩) (Kd.R_far (p := ⟨gb510, 0, none⟩) (Kd.R_types HO505.out BK510.out (by decide)) (fun _ hk => hk.2) (.slice Ao6 t503.length co6)) (fun _ hk => hk.2) (.slice Ao10 t506.length co10)) (fun _ hk => hk.1.1))⟩, ⟨ZNf (Kd.N_mono HO508.out (fun k_ hk => (⟨hk, hk.2⟩ : _ ∧ k_ ≠ gb510))) (fun _ hk => ⟨hk.2, ⟨hk.1.1.1, ⟨hk.1.1.2.1, ⟨hk.1.1.2.2.1, ⟨hk.1.2, hk.1.1.2.2.2⟩⟩⟩⟩⟩)⟩, ⟨ZZ BK502.out⟩, ⟨ZZ BK510.out⟩, ⟨ZI⟩, ⟨ZJ⟩, ⟨ZBI⟩⟩
 case round => (
 clear H'
 try clear p2
 try clear c4
 try clear c7
 try clear c8
 try clear hcz9
 obtain ⟨x4_1, x511001_1, u511001, rfl, HA, HK1, HO_511000, HO_511001, BK502, BK510, HI0, HK, HB⟩ := hrel
 cases gk with
 | zero => exact absurd HA.out (by simp [spec_l71Fine.l0])
 | succ k1 =>
  have H := HA.out
  clear HA
  simp only [spec_l71Fine.l0] at H
  by_cases c11 : x4_1 < 6
  ·(
  rw [if_pos c11] at H
  have c11b0 := decide_eq_true c11
  clear c11
  obtain ⟨⟨t511, t512⟩, A12, H⟩ := ZOB H; try dsimp only at H
  by_cases c13 : t512 = true
  ·(
  subst c13
  have H1 := H; rw [if_pos rfl] at H1
  clear H
  have H := H1
  clear H1
  obtain ⟨t513, A14, H⟩ := ZOB H; try dsimp only at H
  have H' := AM H
  clear H
  have hnb15 := NB510_502.out
  have hnc15 := NB502_510.out
  have hnb16 := NB510_0.out
  have hnc16 := NB0_510.out
  have hcz17 := ZC2 wr BK510
  obtain ⟨Ao18, co18, eo18⟩ := Kd.N_slice HO_511001.out
  subst eo18
  go_wp2_with (first | ((with_reducible refine gate_callee (f := 30) rfl ?_); refine ZGL (some 15) Try.func30 #[.agg #[.slice Ao6 t503.length co6, .slice Ao18 x511001_1.length co18]] ?_; (with_reducible refine (spec_TypeWhy.calls k1 _ _ t503 _ _ x511001_1 t511 true _ ?side1 ?side2 ?side3 ?side4 A12.out).mono ?_); (case side1 => exact ZQ ((Kd.R_reads' HO_511000.out).2.2)); (case side2 => exact (Kd.R_reads' HO_511000.out).2.1); (case side3 => exact ZQ ((Kd.N_reads' HO_511001.out).2.2)); (case side4 => exact (Kd.N_reads' HO_511001.out).2.1); rintro e w19 ⟨rfl, hb⟩; refine ZV1 ?_; replace HO_511000 := AM (Kd.R_below (ZR HO_511000.out) hb); replace HO_511001 := AM (Kd.N_below (ZRN HO_511001.out) hb); replace BK502 := ZW BK502 hb; replace BK510 := ZW BK510 hb; replace HK := ZKT HK (KeepBut.of_below hb g none); replace HB := ZTI HB hb; replace HI0 := AM (IsS64.below (ZI) hb); clear hb; have hcz20 := ZC2 w19 BK510) | ((with_reducible refine gate_callee (f := 64) rfl ?_); refine ZGL (some 24) Try.func64 #[.slice Ao18 x511001_1.length co18, .int .i64 t511] ?_; (with_reducible refine (spec_l71Without.calls k1 (fun k_ => ((w.heap.size ≤ k_) ∧ (some k_ ≠ (.slice Ao6 t503.length co6 : Value).ownBlock ∧ (k_ ≠ gb502 ∧ (k_ ≠ gb510 ∧ k_ ≠ g))))) _ _ x511001_1 t511 t513 _ ?side1 A14.out).mono ?_); (case side1 => exact Kd.N_V (HO_511001.out)); rintro e w21 ⟨v514, rfl, ho0, hb⟩; refine ZV1 ?_; have HO515 := AM (Kd.N_lower (Kd.N_mono (ok' := fun k_ => (w.heap.size ≤ k_) ∧ some k_ ≠ (.slice Ao6 t503.length co6 : Value).ownBlock ∧ k_ ≠ gb502 ∧ k_ ≠ gb510 ∧ k_ ≠ g) ho0 (fun k_ hk_ => ⟨Or.elim hk_ (fun hs_ => hs_.1) (fun hn_ => (Nat.le_trans (keep_size (w := w) (g := g) (row := none) (ZJ)) hn_)), Or.elim hk_ (fun hs_ => hs_.2.1) (fun hn_ => (Kd.fresh' (Kd.R_lt (ZR HO_511000.out)) k_ hn_)), Or.elim hk_ (fun hs_ => hs_.2.2.1) (fun hn_ => (Kd.freshB (g := gb502) (o := .cells #[.slice none 0 0, .slice none 0 0] 26 (0, 0)) (ZK BK502.out) k_ hn_)), Or.elim hk_ (fun hs_ => hs_.2.2.2.1) (fun hn_ => (Kd.freshB (g := gb510) (o := .cells #[.slice Ao6 t503.length co6, .slice Ao18 x511001_1.length co18] 26 (0, 0)) (ZK BK510.out) k_ hn_)), Or.elim hk_ (fun hs_ => hs_.2.2.2.2) (fun hn_ => (IsS64.fresh (ZI) k_ hn_))⟩)) (keep_size (w := w) (g := g) (row := none) (ZJ))); replace HO_511000 := AM (Kd.R_below (ZR HO_511000.out) hb); replace HO_511001 := AM (Kd.N_elder' (ZRN HO_511001.out) (Kd.N_base ho0) hb); replace BK502 := ZW BK502 hb; replace BK510 := ZW BK510 hb; replace HK := ZKT HK (KeepBut.of_below hb g none); replace HB := ZTI HB hb; replace HI0 := AM (IsS64.below (ZI) hb); clear hb; (try clear ho0); obtain ⟨Ao22, co22, eo22⟩ := Kd.N_slice HO515.out; subst eo22; have hcz23 := ZC2 w21 BK510))
  go_roundg k1
  case measure => have := HK1.out; omega
  case rel => exact ⟨(wrap64 (x4_1 + 1)), (t513), (.slice Ao22 t513.length co22), ZSM, H', ⟨by have := HK1.out; omega⟩, ⟨ZR (Kd.R_mono (Kd.R_far (p := ⟨gb510, 1, none⟩) (Kd.R_types HO_511000.out BK510.out (by decide)) (fun _ hk => hk.2) (.slice Ao22 t513.length co22)) (fun _ hk => hk.1))⟩, ⟨ZNf (Kd.N_mono HO515.out (fun k_ hk => (⟨hk, hk.2.2.2.1⟩ : _ ∧ k_ ≠ gb510))) (fun _ hk => ⟨hk.2, ⟨hk.1.1, ⟨hk.1.2.1, ⟨hk.1.2.2.1, ⟨hk.1.2.2.2.1, hk.1.2.2.2.2⟩⟩⟩⟩⟩)⟩, ⟨ZZ BK502.out⟩, ⟨ZZ BK510.out⟩, ⟨ZI⟩, ⟨ZJ⟩, ⟨ZBI⟩⟩)
  ·(
  replace c13 := Bool.eq_false_iff.mpr c13
  subst c13
  have H1 := H; rw [if_neg ZFT] at H1
  clear H
  have H := H1
  clear H1
  simp only [Option.some.injEq, Prod.mk.injEq] at H
  obtain ⟨rfl, rfl, rfl⟩ := H
  have hnb24 := NB510_502.out
  have hnc24 := NB502_510.out
  have hnb25 := NB510_0.out
  have hnc25 := NB0_510.out
  have hcz26 := ZC2 wr BK510
  obtain ⟨Ao27, co27, eo27⟩ := Kd.N_slice HO_511001.out
  subst eo27
  go_wp2_with (first | ((with_reducible refine gate_callee (f := 30) rfl ?_); refine ZGL (some 15) Try.func30 #[.agg #[.slice Ao6 t503.length co6, .slice Ao27 x511001_1.length co27]] ?_; (with_reducible refine (spec_TypeWhy.calls k1 _ _ t503 _ _ x511001_1 t511 false _ ?side1 ?side2 ?side3 ?side4 A12.out).mono ?_); (case side1 => exact ZQ ((Kd.R_reads' HO_511000.out).2.2)); (case side2 => exact (Kd.R_reads' HO_511000.out).2.1); (case side3 => exact ZQ ((Kd.N_reads' HO_511001.out).2.2)); (case side4 => exact (Kd.N_reads' HO_511001.out).2.1); rintro e w28 ⟨rfl, hb⟩; refine ZV1 ?_; replace HO_511000 := AM (Kd.R_below (ZR HO_511000.out) hb); replace HO_511001 := AM (Kd.N_below (ZRN HO_511001.out) hb); replace BK502 := ZW BK502 hb; replace BK510 := ZW BK510 hb; replace HK := ZKT HK (KeepBut.of_below hb g none); replace HB := ZTI HB hb; replace HI0 := AM (IsS64.below (ZI) hb); clear hb; have hcz29 := ZC2 w28 BK510; have hnb30 := NB502_0.out; have hnc30 := NB0_502.out; have hcz31 := ZC2 w28 BK502))
  refine bodyPost_ret (results_cell_row rfl _ _ gb502 26 #[.slice Ao6 t503.length co6, .slice Ao27 x511001_1.length co27] (0, 0) _ rfl (ZZ BK502.out) Try.underlying26 rfl (by kernel_rfl)) rfl ?_
  exact ⟨_, _, ZE, ZRf (Kd.R_types HO_511000.out BK502.out (by decide)) (fun _ hk => ⟨hk.2, hk.1⟩), ZNf (Kd.N_mono HO_511001.out (fun k_ hk => (⟨hk, hk.2.2.1⟩ : _ ∧ k_ ≠ gb502))) (fun _ hk => ⟨hk.2, ⟨hk.1.1, hk.1.2.1⟩⟩), ZI, ZBI, ZJ⟩))
  ·(
  rw [if_neg c11] at H
  have c11b0 := decide_eq_false c11
  clear c11
  simp only [Option.some.injEq, Prod.mk.injEq] at H
  obtain ⟨rfl, rfl, rfl⟩ := H
  have hnb32 := NB510_502.out
  have hnc32 := NB502_510.out
  have hnb33 := NB510_0.out
  have hnc33 := NB0_510.out
  have hcz34 := ZC2 wr BK510
  have hnb35 := NB502_0.out
  have hnc35 := NB0_502.out
  have hcz36 := ZC2 wr BK502
  obtain ⟨Ao37, co37, eo37⟩ := Kd.N_slice HO_511001.out
  subst eo37
  go_wp2
  refine bodyPost_ret (results_cell_row rfl _ _ gb502 26 #[.slice Ao6 t503.length co6, .slice Ao37 x511001_1.length co37] (0, 0) _ rfl (ZZ BK502.out) Try.underlying26 rfl (by kernel_rfl)) rfl ?_
  exact ⟨_, _, ZE, ZRf (Kd.R_types HO_511000.out BK502.out (by decide)) (fun _ hk => ⟨hk.2, hk.1⟩), ZNf (Kd.N_mono HO_511001.out (fun k_ hk => (⟨hk, hk.2.2.1⟩ : _ ∧ k_ ≠ gb502))) (fun _ hk => ⟨hk.2, ⟨hk.1.1, hk.1.2.1⟩⟩), ZI, ZBI, ZJ⟩))

/-! ### spec_l2Copy: function 41 -/
mutual
def spec_l2Copy.l0 : Nat → List (S40) → List (S40) → Int → Option ((List (S40)))
 | 0, _, _, _ => none
 | k + 1, x0, x3, x4 => if x4 < (x0.length : Int) then (if 0 ≤ x4 then ((spec_l2Copy.f k ((D40 x0 x4).f4)).bind fun t521 => ((spec_l2Copy.f k ((D40 x0 x4).f5)).bind fun t524 => (if x3.length < 1466015503701 then (spec_l2Copy.l0 k x0 (x3 ++ [(⟨(D40 x0 x4).f0, (D40 x0 x4).f1, (⟨(D40 x0 x4).f2.f0, (D40 x0 x4).f2.f1, (D40 x0 x4).f2.f2⟩ : S38), (D40 x0 x4).f3, t521, t524⟩ : S40)]) (wrap64 (x4 + 1))) else (none)))) else (none)) else (some x3)
def spec_l2Copy.f : Nat → List (S40) → Option ((List (S40)))
 | 0, _ => none
 | k + 1, l0 => spec_l2Copy.l0 k l0 (([] : List (S40))) 0
end
theorem spec_l2Copy.calls (k : Nat) : ∀ (A0 : Option Addr) (c0 : Nat) (l0 : List (S40)) (r : List (S40)) (w : World) (hr0 : Kd.C k40 w A0 l0.length l0) (hc0 : l0.length ≤ c0) (h : spec_l2Copy.f k l0 = some r),
  Calls Try.prog 41 #[.slice A0 l0.length c0] w fun e w' => ∃ v0_ : Value, e = .returned (v0_) ∧ Kd.R k40 40 w' w.heap.size (fun _ => True) v0_ r ∧ Below w.heap.size w w' := by
 induction k using Nat.strongRecOn with
 | _ k ih =>
 intro A0 c0 l0 r w hr0 hc0 h
 cases k with
 | zero => exact absurd h (by simp [spec_l2Copy.f])
 | succ k =>
 simp only [spec_l2Copy.f] at h
 have hu40 := Try.underlying40
 have HR0 := AM hr0
 have HC0 := AM hc0
 clear hr0 hc0
 have HB := AM (Below.refl w.heap.size w)
 have H : (spec_l2Copy.l0 k l0 (([] : List (S40))) 0) = some r := h
 clear h
 obtain ⟨y516, hy516⟩ : ∃ y_ : List (S40), y_ = (([] : List (S40))) := ⟨_, rfl⟩
 replace H : (spec_l2Copy.l0 k l0 y516 0) = some r := by rw [hy516]; exact H
 have Ny516 := AM hy516
 clear hy516
 have H' := AM H
 clear H
 go_enter Try.func41, Try.ntmps41
 go_wp2_with (first | ((with_reducible refine gate_dst (N := 6) rfl ?_); refine Kd.R_lit k40 _ 40 ?hg (N := 6) ?hd (xs := ([] : List (S40))) (inner := []) (ok := fun _ => True) (okp := fun _ => True) ?hr ?hp (fun _ hk => hk) trivial (Below.refl _ _) (Nat.le_refl _) (by simp) ?_; (case hd => rfl); (case hg => rfl); (case hr => first | (go_simp; done) | (go_simp; rfl)); (case hp => exact (Reps.none _ _)); intro v517 w2 ho3 hb hg_ hnew_; clear hg_ hnew_; (first | rw [← Ny516.out] at ho3 | (simp only [Int.reduceToNat] at ho3; rw [← Ny516.out] at ho3)); have HO518 := AM (Kd.R_lower ho3 (below_size (ZB))); replace HB := ZT HB hb; clear hb ho3))
 go_loopg [3, 4] k (fun kq v3 v4 w' => ∃ (x3_1 : List (S40)) (x4_1 : Int), v4 = .int .i64 x4_1 ∧ Za (spec_l2Copy.l0 kq l0 x3_1 x4_1 = some r) ∧ Za (kq ≤ k) ∧ Za (Kd.R k40 40 w' w.heap.size (fun _ => True) v3 x3_1) ∧ Za (Below w.heap.size w w'))
 case atStart => exact ⟨(y516), (0), ZSM, H', ⟨Nat.le_refl _⟩, ⟨ZR HO518.out⟩, ⟨ZB⟩⟩
 case round => (
 clear H'
 try clear p2
 obtain ⟨x3_1, x4_1, rfl, HA, HK1, HO_3, HB⟩ := hrel
 cases gk with
 | zero => exact absurd HA.out (by simp [spec_l2Copy.l0])
 | succ k1 =>
  have H := HA.out
  clear HA
  simp only [spec_l2Copy.l0] at H
  by_cases c4 : x4_1 < (l0.length : Int)
  ·(
  rw [if_pos c4] at H
  have c4b0 := decide_eq_true c4
  clear c4
  by_cases c5 : 0 ≤ x4_1
  ·(
  rw [if_pos c5] at H
  have c5b0 := decide_eq_true c5
  clear c5
  obtain ⟨t521, A6, H⟩ := ZOB H; try dsimp only at H
  obtain ⟨t524, A7, H⟩ := ZOB H; try dsimp only at H
  by_cases c8 : x3_1.length < 1466015503701
  ·(
  rw [if_pos c8] at H
  have LMc8 := AM c8
  clear c8
  obtain ⟨y527, hy527⟩ : ∃ y_ : List (S40), y_ = (x3_1 ++ [(⟨(D40 l0 x4_1).f0, (D40 l0 x4_1).f1, (⟨(D40 l0 x4_1).f2.f0, (D40 l0 x4_1).f2.f1, (D40 l0 x4_1).f2.f2⟩ : S38), (D40 l0 x4_1).f3, t521, t524⟩ : S40)]) := ⟨_, rfl⟩
  replace H : (spec_l2Copy.l0 k1 l0 y527 (wrap64 (x4_1 + 1))) = some r := by rw [hy527]; exact H
  have Ny527 := AM hy527
  clear hy527
  have H' := AM H
  clear H
  have p519 : 0 ≤ (x4_1 : Int) := ZD
  have q519 : x4_1 < (l0.length : Int) := ZD
  obtain ⟨ad519, A519_6, c519_6, A519_7, c519_7, e519, hx519_0, hx519_1, hx519_2, hx519_3, hx519_4, hx519_5, hx519_6, hx519_7, hl519_6, hi519_6, hl519_7, hi519_7⟩ := at_T40 HR0.out x4_1 p519 q519
  cases e519
  replace hx519_0 := ZHX HB hx519_0
  replace hx519_1 := ZHX HB hx519_1
  replace hx519_2 := ZHX HB hx519_2
  replace hx519_3 := ZHX HB hx519_3
  replace hx519_4 := ZHX HB hx519_4
  replace hx519_5 := ZHX HB hx519_5
  replace hx519_6 := ZHX HB hx519_6
  replace hx519_7 := ZHX HB hx519_7
  have HR519_6 := AM hi519_6
  have HC519_6 := AM hl519_6
  clear hi519_6 hl519_6
  have HR519_7 := AM hi519_7
  have HC519_7 := AM hl519_7
  clear hi519_7 hl519_7
  replace p519 := eq_true p519
  replace q519 := eq_true q519
  go_wp2_with (first | ((with_reducible refine gate_dst (N := 5) rfl ?_); refine ZXW w (N := 5) (cs := #[.int .i64 0, .int .i64 0, .int .i64 0, .int .i64 0, .int .i64 0, .int .i64 0, .slice none 0 0, .slice none 0 0]) (t := 40) ?_; intro gb520 hg w9 BK520 GW520 hb; replace HO_3 := AM (Kd.R_below (Kd.R_elderB (ZR HO_3.out) gb520 (Nat.le_of_eq hg.symm)) hb); replace HB := ZT HB hb; clear hb hg; have hcz10 := ZC8 w9 BK520) | ((with_reducible refine gate_callee (f := 41) rfl ?_); refine ZGL (some 19) Try.func41 #[.slice A519_6 ((D40 l0 x4_1).f4).length c519_6] ?_; (with_reducible refine (ih k1 (by have := HK1.out; omega) _ _ ((D40 l0 x4_1).f4) t521 _ ?side1 HC519_6.out A6.out).mono ?_); (case side1 => exact Kd.C_below HR519_6.out (ZB)); rintro e w11 ⟨v522, rfl, ho0, hb⟩; refine ZV1 ?_; have HO523 := AM (Kd.R_lower (Kd.R_newB (Kd.R_new' ho0 (Kd.R_lt (by (with_reducible repeat (first | apply Kd.R_alloc | apply Kd.R_drewN | apply Kd.R_drew)); exact (ZRf (Kd.R_mono HO_3.out (fun k_ hk => (⟨hk, hk.2⟩ : _ ∧ k_ ≠ gb520))) (fun _ h_ => ⟨h_.2, h_.1⟩))))) (g := gb520) (o := .cells #[.int .i64 ((D40 l0 x4_1).f0), .int .i64 ((D40 l0 x4_1).f1), .int .i64 ((D40 l0 x4_1).f2.f0), .int .i64 ((D40 l0 x4_1).f2.f1), .int .i64 ((D40 l0 x4_1).f2.f2), .int .i64 ((D40 l0 x4_1).f3), .slice A519_6 ((D40 l0 x4_1).f4).length c519_6, .slice A519_7 ((D40 l0 x4_1).f5).length c519_7] 40 (0, 0)) (ZZ BK520.out)) (below_size (ZB))); replace HO_3 := AM (Kd.R_elder' (by (with_reducible repeat (first | apply Kd.R_alloc | apply Kd.R_drewN | apply Kd.R_drew)); exact (ZRf (Kd.R_mono HO_3.out (fun k_ hk => (⟨hk, hk.2⟩ : _ ∧ k_ ≠ gb520))) (fun _ h_ => ⟨h_.2, h_.1⟩))) (Kd.R_base ho0) hb); replace BK520 := ZV #[.int .i64 ((D40 l0 x4_1).f0), .int .i64 ((D40 l0 x4_1).f1), .int .i64 ((D40 l0 x4_1).f2.f0), .int .i64 ((D40 l0 x4_1).f2.f1), .int .i64 ((D40 l0 x4_1).f2.f2), .int .i64 ((D40 l0 x4_1).f3), .slice A519_6 ((D40 l0 x4_1).f4).length c519_6, .slice A519_7 ((D40 l0 x4_1).f5).length c519_7] BK520 hb; replace HB := ZT HB hb; clear hb; (try clear ho0); obtain ⟨Ao12, co12, eo12⟩ := Kd.R_slice HO523.out; subst eo12; have hcz13 := ZC8 w11 BK520) | ((with_reducible refine gate_callee (f := 41) rfl ?_); refine ZGL (some 23) Try.func41 #[.slice A519_7 ((D40 l0 x4_1).f5).length c519_7] ?_; (with_reducible refine (ih k1 (by have := HK1.out; omega) _ _ ((D40 l0 x4_1).f5) t524 _ ?side1 HC519_7.out A7.out).mono ?_); (case side1 => exact Kd.C_below HR519_7.out (ZB)); rintro e w14 ⟨v525, rfl, ho0, hb⟩; refine ZV1 ?_; have HO526 := AM (Kd.R_lower (Kd.R_newB (Kd.R_new' (Kd.R_new' ho0 (Kd.R_lt (by (with_reducible repeat (first | apply Kd.R_alloc | apply Kd.R_drewN | apply Kd.R_drew)); exact (ZRf (Kd.R_mono HO_3.out (fun k_ hk => (⟨hk, hk.1.2⟩ : _ ∧ k_ ≠ gb520))) (fun _ h_ => ⟨h_.2, h_.1⟩))))) (Kd.R_lt (by (with_reducible repeat (first | apply Kd.R_alloc | apply Kd.R_drewN | apply Kd.R_drew)); exact (ZRf (Kd.R_mono HO523.out (fun k_ hk => (⟨hk, hk.2⟩ : _ ∧ k_ ≠ gb520))) (fun _ h_ => ⟨h_.2, h_.1⟩))))) (g := gb520) (o := .cells #[.int .i64 ((D40 l0 x4_1).f0), .int .i64 ((D40 l0 x4_1).f1), .int .i64 ((D40 l0 x4_1).f2.f0), .int .i64 ((D40 l0 x4_1).f2.f1), .int .i64 ((D40 l0 x4_1).f2.f2), .int .i64 ((D40 l0 x4_1).f3), .slice Ao12 t521.length co12, .slice A519_7 ((D40 l0 x4_1).f5).length c519_7] 40 (0, 0)) (ZZ BK520.out)) (below_size (ZB))); replace HO_3 := AM (Kd.R_elder' (by (with_reducible repeat (first | apply Kd.R_alloc | apply Kd.R_drewN | apply Kd.R_drew)); exact (ZRf (Kd.R_mono HO_3.out (fun k_ hk => (⟨hk, hk.1.2⟩ : _ ∧ k_ ≠ gb520))) (fun _ h_ => ⟨h_.2, h_.1⟩))) (Kd.R_base ho0) hb); replace HO523 := AM (Kd.R_elder' (by (with_reducible repeat (first | apply Kd.R_alloc | apply Kd.R_drewN | apply Kd.R_drew)); exact (ZRf (Kd.R_mono HO523.out (fun k_ hk => (⟨hk, hk.2⟩ : _ ∧ k_ ≠ gb520))) (fun _ h_ => ⟨h_.2, h_.1⟩))) (Kd.R_base ho0) hb); replace BK520 := ZV #[.int .i64 ((D40 l0 x4_1).f0), .int .i64 ((D40 l0 x4_1).f1), .int .i64 ((D40 l0 x4_1).f2.f0), .int .i64 ((D40 l0 x4_1).f2.f1), .int .i64 ((D40 l0 x4_1).f2.f2), .int .i64 ((D40 l0 x4_1).f3), .slice Ao12 t521.length co12, .slice A519_7 ((D40 l0 x4_1).f5).length c519_7] BK520 hb; replace HB := ZT HB hb; clear hb; (try clear ho0); obtain ⟨Ao15, co15, eo15⟩ := Kd.R_slice HO526.out; subst eo15; have hcz16 := ZC8 w14 BK520) | ((with_reducible refine gate_store (t := 24) (p := 24) rfl ?_); refine store_event (t := 24) (p := 24) (v := ?vo_w17) (w1 := (w14.setCell ⟨gb520, 7, none⟩ (.slice Ao15 t524.length co15))) ?hg ?ho ?hn ?hr ?_; (case ho => rfl); (case hg => rfl); (case hn => rfl); (case hr => first | (go_simp; done) | (go_simp; rfl)); intro w17 hw; have n0_ : Za (Kd.R k40 40 w17 w.heap.size (fun k_ => some k_ ≠ (.slice Ao12 t521.length co12 : Value).ownBlock ∧ some k_ ≠ (.slice Ao15 t524.length co15 : Value).ownBlock ∧ k_ ≠ gb520) u3 x3_1) := ⟨(by rw [hw]; exact (ZRf (Kd.R_mono HO_3.out (fun k_ hk => (⟨hk, hk.1.1.2⟩ : _ ∧ k_ ≠ gb520))) (fun _ hk => ⟨hk.2, ⟨hk.1.1.2, ⟨hk.1.2, hk.1.1.1.2⟩⟩⟩)))⟩; have n1_ : Za (Kd.R k40 40 w17 w.heap.size (fun k_ => some k_ ≠ (u3 : Value).ownBlock ∧ some k_ ≠ (.slice Ao15 t524.length co15 : Value).ownBlock ∧ k_ ≠ gb520) (.slice Ao12 t521.length co12) t521) := ⟨(by rw [hw]; exact (ZRf (Kd.R_mono HO523.out (fun k_ hk => (⟨hk, hk.1.2⟩ : _ ∧ k_ ≠ gb520))) (fun _ hk => ⟨hk.2, ⟨hk.1.1.1.2, ⟨hk.1.2, hk.1.1.2⟩⟩⟩)))⟩; have n2_ : Za (Kd.R k40 40 w17 w.heap.size (fun k_ => some k_ ≠ (u3 : Value).ownBlock ∧ some k_ ≠ (.slice Ao12 t521.length co12 : Value).ownBlock ∧ k_ ≠ gb520) (.slice Ao15 t524.length co15) t524) := ⟨(by rw [hw]; exact (ZRf (Kd.R_mono HO526.out (fun k_ hk => (⟨hk, hk.2⟩ : _ ∧ k_ ≠ gb520))) (fun _ hk => ⟨hk.2, ⟨hk.1.1.1.2, ⟨hk.1.1.2, hk.1.2⟩⟩⟩)))⟩; have n3_ : Za (w17.heap[gb520]? = some (.cells #[.int .i64 ((D40 l0 x4_1).f0), .int .i64 ((D40 l0 x4_1).f1), .int .i64 ((D40 l0 x4_1).f2.f0), .int .i64 ((D40 l0 x4_1).f2.f1), .int .i64 ((D40 l0 x4_1).f2.f2), .int .i64 ((D40 l0 x4_1).f3), .slice Ao12 t521.length co12, .slice Ao15 t524.length co15] 40 (0, 0))) := ⟨(by rw [hw]; exact (ZZ BK520.out))⟩; have n4_ : Za (Below w.heap.size w w17) := ⟨(by rw [hw]; exact (ZB))⟩; clear hw HO_3 HO523 HO526 BK520 HB; have HO_3 := n0_; have HO523 := n1_; have HO526 := n2_; have BK520 := n3_; have HB := n4_; clear n0_ n1_ n2_ n3_ n4_; have hcz18 := ZC8 w17 BK520) | ((with_reducible refine gate_builtin (b := .append) (xs := #[.tmp 25, .tmp 27]) rfl ?_); at_builtin; refine Kd.R_append k40 (w0 := w) w.heap.size rfl (.tmp 25) (.tmp 27) 24 40 (.agg #[(.int .i64 0), (.int .i64 0), (.int .i64 0), (.int .i64 0), (.int .i64 0), (.int .i64 0), (.slice none 0 0), (.slice none 0 0)]) 96 rfl Try.underlying24 info40 rfl (by decide) (by omega) u3 x3_1 (⟨(D40 l0 x4_1).f0, (D40 l0 x4_1).f1, (⟨(D40 l0 x4_1).f2.f0, (D40 l0 x4_1).f2.f1, (D40 l0 x4_1).f2.f2⟩ : S38), (D40 l0 x4_1).f3, t521, t524⟩ : S40) [.int .i64 ((D40 l0 x4_1).f0), .int .i64 ((D40 l0 x4_1).f1), .int .i64 ((D40 l0 x4_1).f2.f0), .int .i64 ((D40 l0 x4_1).f2.f1), .int .i64 ((D40 l0 x4_1).f2.f2), .int .i64 ((D40 l0 x4_1).f3), .slice Ao12 t521.length co12, .slice Ao15 t524.length co15] (fun k_ => k_ ≠ gb520) (fun k_ => ((fun k_ => k_ ≠ gb520)) k_ ∧ some k_ ≠ (u3 : Value).ownBlock) rfl rfl ?aP (fun _ hk => hk) ?aF ?aO ?aB ?aS ?aL ?_; (case aP => exact k40_mkM _ _ _ (⟨(D40 l0 x4_1).f0, (D40 l0 x4_1).f1, (⟨(D40 l0 x4_1).f2.f0, (D40 l0 x4_1).f2.f1, (D40 l0 x4_1).f2.f2⟩ : S38), (D40 l0 x4_1).f3, t521, t524⟩ : S40) (Kd.R_mono (HO523.out) (fun k_ hk => ⟨hk.2.2, hk.1⟩)) (Kd.R_mono (HO526.out) (fun k_ hk => ⟨hk.2.2, hk.1⟩))); (case aB => exact (ZB)); (case aF => exact (fun k_ hk => Kd.freshB (g := gb520) (o := .cells #[.int .i64 ((D40 l0 x4_1).f0), .int .i64 ((D40 l0 x4_1).f1), .int .i64 ((D40 l0 x4_1).f2.f0), .int .i64 ((D40 l0 x4_1).f2.f1), .int .i64 ((D40 l0 x4_1).f2.f2), .int .i64 ((D40 l0 x4_1).f3), .slice Ao12 t521.length co12, .slice Ao15 t524.length co15] 40 (0, 0)) (ZK BK520.out) k_ hk)); (case aO => exact (ZR (Kd.R_mono HO_3.out (fun _ hk => hk.2.2)))); (case aS => exact (below_size (ZB))); (case aL => have := LMc8.out; omega); intro v528 w19 ho hb hg hat; rw [← Ny527.out] at ho; have n0_ := AM (blk_grown (g := gb520) (o := .cells #[.int .i64 ((D40 l0 x4_1).f0), .int .i64 ((D40 l0 x4_1).f1), .int .i64 ((D40 l0 x4_1).f2.f0), .int .i64 ((D40 l0 x4_1).f2.f1), .int .i64 ((D40 l0 x4_1).f2.f2), .int .i64 ((D40 l0 x4_1).f3), .slice Ao12 t521.length co12, .slice Ao15 t524.length co15] 40 (0, 0)) (ZK BK520.out) hg (Kd.R_away HO_3.out (fun _ hk => hk.2.2))); have n1_ := AM (hb); have n2_ := AM (ho); clear BK520 HB HO_3 HO523 HO526; have BK520 := n0_; have HB := n1_; have HO529 := n2_; clear n0_ n1_ n2_ ho hb hg hat))
  go_roundg k1
  case measure => have := HK1.out; omega
  case rel => exact ⟨(y527), (wrap64 (x4_1 + 1)), ZSM, H', ⟨by have := HK1.out; omega⟩, ⟨ZR (Kd.R_mono HO529.out (fun _ hk => trivial))⟩, ⟨ZB⟩⟩)
  ·(
  rw [if_neg c8] at H
  exact absurd H (by simp)))
  ·(
  rw [if_neg c5] at H
  exact absurd H (by simp)))
  ·(
  rw [if_neg c4] at H
  have c4b0 := decide_eq_false c4
  clear c4
  obtain rfl := Option.some.inj H
  go_wp2
  go_ret
  exact ⟨_, ZE, by (with_reducible repeat (first | apply Kd.R_alloc | apply Kd.R_drewN | apply Kd.R_drew)); exact HO_3.out, ZB⟩))

end Go.Proofs.Ytkkdeojbkfjlpaa.A
