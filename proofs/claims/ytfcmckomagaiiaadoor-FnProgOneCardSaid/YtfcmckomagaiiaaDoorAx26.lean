/- Go functions as Lean functions, and for each its contract; written by wip/tools/pr.py over the kit's print. -/
import Derived.Test.YtfcmckomagaiiaaDoorAx0
import Derived.Test.YtfcmckomagaiiaaDoorAx13
import Derived.Test.YtfcmckomagaiiaaDoorAx17
import Derived.Test.YtfcmckomagaiiaaDoorAx24
import Derived.Test.YtfcmckomagaiiaaDoorAx25
namespace Go.Proofs.YtfcmckomagaiiaaDoor.A
open Go.RowKit Go.Proofs.YtfcmckomagaiiaaDoorW.PrintWords Go.Proofs.YtfcmckomagaiiaaDoorW.PrintLast Go.Proofs.YtfcmckomagaiiaaDoorW.PrintMore
attribute [local go_sem] max2_int min2_int max_two min_two max_three min_three max_four min_four
set_option linter.unusedVariables false
set_option linter.unusedSimpArgs false
set_option maxHeartbeats 8000000
set_option maxRecDepth 100000

/-! ### spec_l71Fine: function 53 -/
def spec_l71Fine.l0 : Nat → Int → List Int → Int → List (S43) → List (S71) → Option ((List (S43)) × (List (S71)) × Int)
 | 0, _, _, _, _, _ => none
 | k + 1, x4, x1000, x1001, x501000, x501001 => if x4 < 6 then ((spec_TypeWhy.f k x501000 x501001).bind fun bt501 => (if bt501.2 = true then ((spec_l71Without.f k x501001 bt501.1).bind fun t503 => (spec_l71Fine.l0 k (wrap64 (x4 + 1)) x1000 x1001 x501000 t503)) else (some (x501000, x501001, x1001)))) else (some (x501000, x501001, x1001))
def spec_l71Fine.f (k : Nat) (s0_0 : List Int) (s0_1 : Int) : Option ((List (S43)) × (List (S71)) × Int) := (spec_l71Prog.f k s0_0 s0_1).bind fun bt493 => (spec_l71Fine.l0 k 0 s0_0 bt493.2.2 bt493.1 bt493.2.1)
theorem spec_l71Fine.calls (k : Nat) (g : Nat) (s0_0 : List Int) (s0_1 : Int) (r1 : List (S43)) (r2 : List (S71)) (r3 : Int) (w0 w : World) (hI : IsS84 w0 w g s0_0 s0_1) (hB : Below w0.heap.size w0 w) (h : spec_l71Fine.f k s0_0 s0_1 = some (r1, r2, r3)) :
  Calls Tryd.prog 53 #[.pointer (some ⟨g, 0, none⟩)] w fun e w' => ∃ v0_ v1_ : Value, e = .returned (.agg #[v0_, v1_]) ∧ Kd.R k43 43 w' w.heap.size (fun k_ => (w.heap.size ≤ k_)) v0_ r1 ∧ Kd.N k71 71 w' w.heap.size (fun k_ => (w.heap.size ≤ k_) ∧ some k_ ≠ (v0_ : Value).ownBlock) v1_ r2 ∧ IsS84 w0 w' g s0_0 r3 ∧ Below w0.heap.size w0 w' ∧ KeepBut w w' g none := by
 have hu31 := Tryd.underlying31
 have HI0 := AM hI
 have HK := AM (KeepBut.refl w g none)
 have HL := AM hB.size
 clear hI
 have HW0 := AM hB.size
 have HB := AM hB
 clear hB
 have H := h
 unfold spec_l71Fine.f at H
 clear h
 obtain ⟨⟨t493, t496, t499⟩, A2, H⟩ := ZOB H; try dsimp only at H
 have H' := AM H
 clear H
 go_enter Tryd.func53, Tryd.ntmps53
 go_wp2_with (first | ((with_reducible refine gate_dst (N := 2) rfl ?_); refine ZX (N := 2) (cs := #[.slice none 0 0, .slice none 0 0]) (t := 31) ?_; intro gb492 hg w3 hbox hb; have BK492 := AM (hbox); have GW492 := AM ((by rw [hg]; exact (keep_size (w := w) (g := g) (row := none) (ZJ)) : w.heap.size ≤ gb492)); have GE492 := AM ((Nat.le_trans HW0.out (by rw [hg]; exact (keep_size (w := w) (g := g) (row := none) (ZJ)) : w.heap.size ≤ gb492) : w0.heap.size ≤ gb492)); have NB0_492 := AM ((by rw [hg]; exact Nat.ne_of_lt (IsS84.lt (show IsS84 w0 _ g s0_0 s0_1 from ZI)) : g ≠ gb492)); have NB492_0 := AM ((by rw [hg]; exact Nat.ne_of_gt (IsS84.lt (show IsS84 w0 _ g s0_0 s0_1 from ZI)) : gb492 ≠ g)); replace HK := ZKT HK (KeepBut.of_below hb g none); replace HB := ZTI HB hb; replace HI0 := AM (IsS84.below (ZI) hb); clear hb hbox hg) | ((with_reducible refine gate_callee (f := 51) rfl ?_); refine ZGL (some 8) Tryd.func51 #[.pointer (some ⟨g, 0, none⟩)] ?_; (with_reducible refine (spec_l71Prog.calls k g s0_0 s0_1 t493 t496 t499 w0 _ ?side1 ?side2 A2.out).mono ?_); (case side1 => exact ZI); (case side2 => exact ZBI); rintro e w4 ⟨v494, v497, rfl, ho0, ho1, hi, hb, hk⟩; refine ZV1 ?_; have HO495 := AM (Kd.R_lower (Kd.R_newM (M := fun k_ => (w.heap.size ≤ k_)) ho0 (keep_size (w := w) (g := g) (row := none) (ZJ)) (fun k_ h_ => h_)) (keep_size (w := w) (g := g) (row := none) (ZJ))); have HO498 := AM (Kd.N_lower (Kd.N_mono (ok' := fun k_ => (w.heap.size ≤ k_) ∧ some k_ ≠ (v494 : Value).ownBlock ∧ k_ ≠ gb492 ∧ k_ ≠ g) (Kd.R_N (Kd.R_bound (Kd.R_apart' ho1 (Kd.R_typed ho0) (by decide)))) (fun k_ hk_ => ⟨(Nat.le_trans (keep_size (w := w) (g := g) (row := none) (ZJ)) hk_.2.1), hk_.1.2, (Kd.freshB (g := gb492) (o := .cells #[.slice none 0 0, .slice none 0 0] 31 (0, 0)) (ZK BK492.out) k_ hk_.2.1), (IsS84.fresh (ZI) k_ hk_.2.1)⟩)) (keep_size (w := w) (g := g) (row := none) (ZJ))); replace BK492 := ZL hk BK492 NB492_0; replace HK := ZKT HK hk; replace HB := AM (hb); replace HI0 := AM (hi); clear hb hk hi; (try clear ho0); (try clear ho1)) | ((with_reducible refine gate_dst (N := 3) rfl ?_); refine ZX (N := 3) (cs := #[.slice none 0 0, .slice none 0 0]) (t := 31) ?_; intro gb500 hg w5 hbox hb; have BK500 := AM (hbox); have GW500 := AM ((by rw [hg]; exact (keep_size (w := w) (g := g) (row := none) (ZJ)) : w.heap.size ≤ gb500)); have GE500 := AM ((Nat.le_trans HW0.out (by rw [hg]; exact (keep_size (w := w) (g := g) (row := none) (ZJ)) : w.heap.size ≤ gb500) : w0.heap.size ≤ gb500)); have NB492_500 : Za (gb492 ≠ gb500) := ZN hg BK492; have NB500_492 : Za (gb500 ≠ gb492) := ZM hg BK492; have NB0_500 := AM ((by rw [hg]; exact Nat.ne_of_lt (IsS84.lt (show IsS84 w0 _ g s0_0 t499 from ZI)) : g ≠ gb500)); have NB500_0 := AM ((by rw [hg]; exact Nat.ne_of_gt (IsS84.lt (show IsS84 w0 _ g s0_0 t499 from ZI)) : gb500 ≠ g)); replace HO495 := AM (Kd.R_below (ZR HO495.out) hb); replace HO498 := AM (Kd.N_below (Kd.N_elderB (ZRN HO498.out) gb500 (Nat.le_of_eq hg.symm)) hb); replace BK492 := ZW BK492 hb; replace HK := ZKT HK (KeepBut.of_below hb g none); replace HB := ZTI HB hb; replace HI0 := AM (IsS84.below (ZI) hb); clear hb hbox hg; obtain ⟨Ao6, co6, eo6⟩ := Kd.R_slice HO495.out; subst eo6; have hnb7 := NB500_492.out; have hnc7 := NB492_500.out; have hnb8 := NB500_0.out; have hnc8 := NB0_500.out; have hcz9 := ZC2 w5 BK500; obtain ⟨Ao10, co10, eo10⟩ := Kd.N_slice HO498.out; subst eo10))
 go_loopg [4] k (fun kq v4 w' => ∃ (x4_1 : Int) (x501001_1 : List (S71)) (u501001 : Value), v4 = .int .i64 x4_1 ∧ Za (spec_l71Fine.l0 kq x4_1 s0_0 t499 t493 x501001_1 = some (r1, r2, r3)) ∧ Za (kq ≤ k) ∧ Za (Kd.R k43 43 w' w.heap.size (fun k_ => (w.heap.size ≤ k_)) (.slice Ao6 t493.length co6) t493) ∧ Za (Kd.N k71 71 w' w.heap.size (fun k_ => (w.heap.size ≤ k_) ∧ some k_ ≠ ((.slice Ao6 t493.length co6) : Value).ownBlock ∧ k_ ≠ gb492 ∧ k_ ≠ gb500 ∧ k_ ≠ g) u501001 x501001_1) ∧ Za (w'.heap[gb492]? = some (.cells #[(.slice none 0 0), (.slice none 0 0)] 31 (0, 0))) ∧ Za (w'.heap[gb500]? = some (.cells #[(.slice Ao6 t493.length co6), u501001] 31 (0, 0))) ∧ Za (IsS84 w0 w' g s0_0 t499) ∧ Za (KeepBut w w' g none) ∧ Za (Below w0.heap.size w0 w'))
 case atStart => exact ⟨(0), (t496), (.slice Ao10 t496.length co10), ZSM, H', ⟨Nat.le_refl _⟩, ⟨ZR (Kd.R_mono (Kd.R_far (p := ⟨gb500, 1, none⟩) (Kd.R_far (p := ⟨gb500, 0, none⟩) (Kd.R_types HO495.out BK500.out (by decide)) (fun _ hk => hk.2) (.slice Ao6 t493.length co6)) (fun _ hk => hk.2) (.slice Ao10 t496.length co10)) (fun _ hk => hk.1.1))⟩, ⟨ZNf (Kd.N_mono HO498.out (fun k_ hk => (⟨hk, hk.2⟩ : _ ∧ k_ ≠ gb500))) (fun _ hk => ⟨hk.2, ⟨hk.1.1.1, ⟨hk.1.1.2.1, ⟨hk.1.1.2.2.1, ⟨hk.1.2, hk.1.1.2.2.2⟩⟩⟩⟩⟩)⟩, ⟨ZZ BK492.out⟩, ⟨ZZ BK500.out⟩, ⟨ZI⟩, ⟨ZJ⟩, ⟨ZBI⟩⟩
 case round => (
 clear H'
 try clear p2
 try clear c5
 try clear c7
 try clear c8
 try clear hcz9
 obtain ⟨x4_1, x501001_1, u501001, rfl, HA, HK1, HO_501000, HO_501001, BK492, BK500, HI0, HK, HB⟩ := hrel
 cases gk with
 | zero => exact absurd HA.out (by simp [spec_l71Fine.l0])
 | succ k1 =>
  have H := HA.out
  clear HA
  simp only [spec_l71Fine.l0] at H
  by_cases c11 : x4_1 < 6
  ·(
  rw [if_pos c11] at H
  have c11b0 := decide_eq_true c11
  clear c11
  obtain ⟨⟨t501, t502⟩, A12, H⟩ := ZOB H; try dsimp only at H
  by_cases c13 : t502 = true
  ·(
  subst c13
  have H1 := H; rw [if_pos rfl] at H1
  clear H
  have H := H1
  clear H1
  obtain ⟨t503, A14, H⟩ := ZOB H; try dsimp only at H
  have H' := AM H
  clear H
  have hnb15 := NB500_492.out
  have hnc15 := NB492_500.out
  have hnb16 := NB500_0.out
  have hnc16 := NB0_500.out
  have hcz17 := ZC2 wr BK500
  obtain ⟨Ao18, co18, eo18⟩ := Kd.N_slice HO_501001.out
  subst eo18
  go_wp2_with (first | ((with_reducible refine gate_callee (f := 70) rfl ?_); refine ZGL (some 15) Tryd.func70 #[.agg #[.slice Ao6 t493.length co6, .slice Ao18 x501001_1.length co18]] ?_; (with_reducible refine (spec_TypeWhy.calls k1 _ _ t493 _ _ x501001_1 t501 true _ ?side1 ?side2 ?side3 ?side4 A12.out).mono ?_); (case side1 => exact ZQ ((Kd.R_reads' HO_501000.out).2.2)); (case side2 => exact (Kd.R_reads' HO_501000.out).2.1); (case side3 => exact ZQ ((Kd.N_reads' HO_501001.out).2.2)); (case side4 => exact (Kd.N_reads' HO_501001.out).2.1); rintro e w19 ⟨rfl, hb⟩; refine ZV1 ?_; replace HO_501000 := AM (Kd.R_below (ZR HO_501000.out) hb); replace HO_501001 := AM (Kd.N_below (ZRN HO_501001.out) hb); replace BK492 := ZW BK492 hb; replace BK500 := ZW BK500 hb; replace HK := ZKT HK (KeepBut.of_below hb g none); replace HB := ZTI HB hb; replace HI0 := AM (IsS84.below (ZI) hb); clear hb; have hcz20 := ZC2 w19 BK500) | ((with_reducible refine gate_callee (f := 71) rfl ?_); refine ZGL (some 24) Tryd.func71 #[.slice Ao18 x501001_1.length co18, .int .i64 t501] ?_; (with_reducible refine (spec_l71Without.calls k1 (fun k_ => ((w.heap.size ≤ k_) ∧ (some k_ ≠ (.slice Ao6 t493.length co6 : Value).ownBlock ∧ (k_ ≠ gb492 ∧ (k_ ≠ gb500 ∧ k_ ≠ g))))) _ _ x501001_1 t501 t503 _ ?side1 A14.out).mono ?_); (case side1 => exact Kd.N_V (HO_501001.out)); rintro e w21 ⟨v504, rfl, ho0, hb⟩; refine ZV1 ?_; have HO505 := AM (Kd.N_lower (Kd.N_mono (ok' := fun k_ => (w.heap.size ≤ k_) ∧ some k_ ≠ (.slice Ao6 t493.length co6 : Value).ownBlock ∧ k_ ≠ gb492 ∧ k_ ≠ gb500 ∧ k_ ≠ g) ho0 (fun k_ hk_ => ⟨Or.elim hk_ (fun hs_ => hs_.1) (fun hn_ => (Nat.le_trans (keep_size (w := w) (g := g) (row := none) (ZJ)) hn_)), Or.elim hk_ (fun hs_ => hs_.2.1) (fun hn_ => (Kd.fresh' (Kd.R_lt (ZR HO_501000.out)) k_ hn_)), Or.elim hk_ (fun hs_ => hs_.2.2.1) (fun hn_ => (Kd.freshB (g := gb492) (o := .cells #[.slice none 0 0, .slice none 0 0] 31 (0, 0)) (ZK BK492.out) k_ hn_)), Or.elim hk_ (fun hs_ => hs_.2.2.2.1) (fun hn_ => (Kd.freshB (g := gb500) (o := .cells #[.slice Ao6 t493.length co6, .slice Ao18 x501001_1.length co18] 31 (0, 0)) (ZK BK500.out) k_ hn_)), Or.elim hk_ (fun hs_ => hs_.2.2.2.2) (fun hn_ => (IsS84.fresh (ZI) k_ hn_))⟩)) (keep_size (w := w) (g := g) (row := none) (ZJ))); replace HO_501000 := AM (Kd.R_below (ZR HO_501000.out) hb); replace HO_501001 := AM (Kd.N_elder' (ZRN HO_501001.out) (Kd.N_base ho0) hb); replace BK492 := ZW BK492 hb; replace BK500 := ZW BK500 hb; replace HK := ZKT HK (KeepBut.of_below hb g none); replace HB := ZTI HB hb; replace HI0 := AM (IsS84.below (ZI) hb); clear hb; (try clear ho0); obtain ⟨Ao22, co22, eo22⟩ := Kd.N_slice HO505.out; subst eo22; have hcz23 := ZC2 w21 BK500))
  go_roundg k1
  case measure => have := HK1.out; omega
  case rel => exact ⟨(wrap64 (x4_1 + 1)), (t503), (.slice Ao22 t503.length co22), ZSM, H', ⟨by have := HK1.out; omega⟩, ⟨ZR (Kd.R_mono (Kd.R_far (p := ⟨gb500, 1, none⟩) (Kd.R_types HO_501000.out BK500.out (by decide)) (fun _ hk => hk.2) (.slice Ao22 t503.length co22)) (fun _ hk => hk.1))⟩, ⟨ZNf (Kd.N_mono HO505.out (fun k_ hk => (⟨hk, hk.2.2.2.1⟩ : _ ∧ k_ ≠ gb500))) (fun _ hk => ⟨hk.2, ⟨hk.1.1, ⟨hk.1.2.1, ⟨hk.1.2.2.1, ⟨hk.1.2.2.2.1, hk.1.2.2.2.2⟩⟩⟩⟩⟩)⟩, ⟨ZZ BK492.out⟩, ⟨ZZ BK500.out⟩, ⟨ZI⟩, ⟨ZJ⟩, ⟨ZBI⟩⟩)
  ·(
  replace c13 := Bool.eq_false_iff.mpr c13
  subst c13
  have H1 := H; rw [if_neg ZFT] at H1
  clear H
  have H := H1
  clear H1
  simp only [Option.some.injEq, Prod.mk.injEq] at H
  obtain ⟨rfl, rfl, rfl⟩ := H
  have hnb24 := NB500_492.out
  have hnc24 := NB492_500.out
  have hnb25 := NB500_0.out
  have hnc25 := NB0_500.out
  have hcz26 := ZC2 wr BK500
  obtain ⟨Ao27, co27, eo27⟩ := Kd.N_slice HO_501001.out
  subst eo27
  go_wp2_with (first | ((with_reducible refine gate_callee (f := 70) rfl ?_); refine ZGL (some 15) Tryd.func70 #[.agg #[.slice Ao6 t493.length co6, .slice Ao27 x501001_1.length co27]] ?_; (with_reducible refine (spec_TypeWhy.calls k1 _ _ t493 _ _ x501001_1 t501 false _ ?side1 ?side2 ?side3 ?side4 A12.out).mono ?_); (case side1 => exact ZQ ((Kd.R_reads' HO_501000.out).2.2)); (case side2 => exact (Kd.R_reads' HO_501000.out).2.1); (case side3 => exact ZQ ((Kd.N_reads' HO_501001.out).2.2)); (case side4 => exact (Kd.N_reads' HO_501001.out).2.1); rintro e w28 ⟨rfl, hb⟩; refine ZV1 ?_; replace HO_501000 := AM (Kd.R_below (ZR HO_501000.out) hb); replace HO_501001 := AM (Kd.N_below (ZRN HO_501001.out) hb); replace BK492 := ZW BK492 hb; replace BK500 := ZW BK500 hb; replace HK := ZKT HK (KeepBut.of_below hb g none); replace HB := ZTI HB hb; replace HI0 := AM (IsS84.below (ZI) hb); clear hb; have hcz29 := ZC2 w28 BK500; have hnb30 := NB492_0.out; have hnc30 := NB0_492.out; have hcz31 := ZC2 w28 BK492))
  refine bodyPost_ret (results_cell_row rfl _ _ gb492 31 #[.slice Ao6 t493.length co6, .slice Ao27 x501001_1.length co27] (0, 0) _ rfl (ZZ BK492.out) Tryd.underlying31 rfl (by kernel_rfl)) rfl ?_
  exact ⟨_, _, ZE, ZRf (Kd.R_types HO_501000.out BK492.out (by decide)) (fun _ hk => ⟨hk.2, hk.1⟩), ZNf (Kd.N_mono HO_501001.out (fun k_ hk => (⟨hk, hk.2.2.1⟩ : _ ∧ k_ ≠ gb492))) (fun _ hk => ⟨hk.2, ⟨hk.1.1, hk.1.2.1⟩⟩), ZI, ZBI, ZJ⟩))
  ·(
  rw [if_neg c11] at H
  have c11b0 := decide_eq_false c11
  clear c11
  simp only [Option.some.injEq, Prod.mk.injEq] at H
  obtain ⟨rfl, rfl, rfl⟩ := H
  have hnb32 := NB500_492.out
  have hnc32 := NB492_500.out
  have hnb33 := NB500_0.out
  have hnc33 := NB0_500.out
  have hcz34 := ZC2 wr BK500
  have hnb35 := NB492_0.out
  have hnc35 := NB0_492.out
  have hcz36 := ZC2 wr BK492
  obtain ⟨Ao37, co37, eo37⟩ := Kd.N_slice HO_501001.out
  subst eo37
  go_wp2
  refine bodyPost_ret (results_cell_row rfl _ _ gb492 31 #[.slice Ao6 t493.length co6, .slice Ao37 x501001_1.length co37] (0, 0) _ rfl (ZZ BK492.out) Tryd.underlying31 rfl (by kernel_rfl)) rfl ?_
  exact ⟨_, _, ZE, ZRf (Kd.R_types HO_501000.out BK492.out (by decide)) (fun _ hk => ⟨hk.2, hk.1⟩), ZNf (Kd.N_mono HO_501001.out (fun k_ hk => (⟨hk, hk.2.2.1⟩ : _ ∧ k_ ≠ gb492))) (fun _ hk => ⟨hk.2, ⟨hk.1.1, hk.1.2.1⟩⟩), ZI, ZBI, ZJ⟩))

/-! ### spec_l2Copy: function 72 -/
mutual
def spec_l2Copy.l0 : Nat → List (S71) → List (S71) → Int → Option ((List (S71)))
 | 0, _, _, _ => none
 | k + 1, x0, x3, x4 => if x4 < (x0.length : Int) then (if 0 ≤ x4 then ((spec_l2Copy.f k ((D71 x0 x4).f4)).bind fun t511 => ((spec_l2Copy.f k ((D71 x0 x4).f5)).bind fun t514 => (if x3.length < 1466015503701 then (spec_l2Copy.l0 k x0 (x3 ++ [(⟨(D71 x0 x4).f0, (D71 x0 x4).f1, (⟨(D71 x0 x4).f2.f0, (D71 x0 x4).f2.f1, (D71 x0 x4).f2.f2⟩ : S69), (D71 x0 x4).f3, t511, t514⟩ : S71)]) (wrap64 (x4 + 1))) else (none)))) else (none)) else (some x3)
def spec_l2Copy.f : Nat → List (S71) → Option ((List (S71)))
 | 0, _ => none
 | k + 1, l0 => spec_l2Copy.l0 k l0 (([] : List (S71))) 0
end
theorem spec_l2Copy.calls (k : Nat) : ∀ (A0 : Option Addr) (c0 : Nat) (l0 : List (S71)) (r : List (S71)) (w : World) (hr0 : Kd.C k71 w A0 l0.length l0) (hc0 : l0.length ≤ c0) (h : spec_l2Copy.f k l0 = some r),
  Calls Tryd.prog 72 #[.slice A0 l0.length c0] w fun e w' => ∃ v0_ : Value, e = .returned (v0_) ∧ Kd.R k71 71 w' w.heap.size (fun _ => True) v0_ r ∧ Below w.heap.size w w' := by
 induction k using Nat.strongRecOn with
 | _ k ih =>
 intro A0 c0 l0 r w hr0 hc0 h
 cases k with
 | zero => exact absurd h (by simp [spec_l2Copy.f])
 | succ k =>
 simp only [spec_l2Copy.f] at h
 have hu71 := Tryd.underlying71
 have HR0 := AM hr0
 have HC0 := AM hc0
 clear hr0 hc0
 have HB := AM (Below.refl w.heap.size w)
 have H : (spec_l2Copy.l0 k l0 (([] : List (S71))) 0) = some r := h
 clear h
 obtain ⟨y506, hy506⟩ : ∃ y_ : List (S71), y_ = (([] : List (S71))) := ⟨_, rfl⟩
 replace H : (spec_l2Copy.l0 k l0 y506 0) = some r := by rw [hy506]; exact H
 have Ny506 := AM hy506
 clear hy506
 have H' := AM H
 clear H
 go_enter Tryd.func72, Tryd.ntmps72
 go_wp2_with (first | ((with_reducible refine gate_dst (N := 6) rfl ?_); refine Kd.R_lit k71 _ 71 ?hg (N := 6) ?hd (xs := ([] : List (S71))) (inner := []) (ok := fun _ => True) (okp := fun _ => True) ?hr ?hp (fun _ hk => hk) trivial (Below.refl _ _) (Nat.le_refl _) (by simp) ?_; (case hd => rfl); (case hg => rfl); (case hr => first | (go_simp; done) | (go_simp; rfl)); (case hp => exact (Reps.none _ _)); intro v507 w2 ho3 hb hg_ hnew_; clear hg_ hnew_; (first | rw [← Ny506.out] at ho3 | (simp only [Int.reduceToNat] at ho3; rw [← Ny506.out] at ho3)); have HO508 := AM (Kd.R_lower ho3 (below_size (ZB))); replace HB := ZT HB hb; clear hb ho3))
 go_loopg [3, 4] k (fun kq v3 v4 w' => ∃ (x3_1 : List (S71)) (x4_1 : Int), v4 = .int .i64 x4_1 ∧ Za (spec_l2Copy.l0 kq l0 x3_1 x4_1 = some r) ∧ Za (kq ≤ k) ∧ Za (Kd.R k71 71 w' w.heap.size (fun _ => True) v3 x3_1) ∧ Za (Below w.heap.size w w'))
 case atStart => exact ⟨(y506), (0), ZSM, H', ⟨Nat.le_refl _⟩, ⟨ZR HO508.out⟩, ⟨ZB⟩⟩
 case round => (
 clear H'
 try clear p2
 obtain ⟨x3_1, x4_1, rfl, HA, HK1, HO_3, HB⟩ := hrel
 cases gk with
 | zero => exact absurd HA.out (by simp [spec_l2Copy.l0])
 | succ k1 =>
  have H := HA.out
  clear HA
  simp only [spec_l2Copy.l0] at H
  by_cases c4 : x4_1 < (l0.length : Int)
  ·(
  rw [if_pos c4] at H
  have c4b0 := decide_eq_true c4
  clear c4
  by_cases c5 : 0 ≤ x4_1
  ·(
  rw [if_pos c5] at H
  have c5b0 := decide_eq_true c5
  clear c5
  obtain ⟨t511, A6, H⟩ := ZOB H; try dsimp only at H
  obtain ⟨t514, A7, H⟩ := ZOB H; try dsimp only at H
  by_cases c8 : x3_1.length < 1466015503701
  ·(
  rw [if_pos c8] at H
  have LMc8 := AM c8
  clear c8
  obtain ⟨y517, hy517⟩ : ∃ y_ : List (S71), y_ = (x3_1 ++ [(⟨(D71 l0 x4_1).f0, (D71 l0 x4_1).f1, (⟨(D71 l0 x4_1).f2.f0, (D71 l0 x4_1).f2.f1, (D71 l0 x4_1).f2.f2⟩ : S69), (D71 l0 x4_1).f3, t511, t514⟩ : S71)]) := ⟨_, rfl⟩
  replace H : (spec_l2Copy.l0 k1 l0 y517 (wrap64 (x4_1 + 1))) = some r := by rw [hy517]; exact H
  have Ny517 := AM hy517
  clear hy517
  have H' := AM H
  clear H
  have p509 : 0 ≤ (x4_1 : Int) := ZD
  have q509 : x4_1 < (l0.length : Int) := ZD
  obtain ⟨ad509, A509_6, c509_6, A509_7, c509_7, e509, hx509_0, hx509_1, hx509_2, hx509_3, hx509_4, hx509_5, hx509_6, hx509_7, hl509_6, hi509_6, hl509_7, hi509_7⟩ := at_T71 HR0.out x4_1 p509 q509
  cases e509
  replace hx509_0 := ZHX HB hx509_0
  replace hx509_1 := ZHX HB hx509_1
  replace hx509_2 := ZHX HB hx509_2
  replace hx509_3 := ZHX HB hx509_3
  replace hx509_4 := ZHX HB hx509_4
  replace hx509_5 := ZHX HB hx509_5
  replace hx509_6 := ZHX HB hx509_6
  replace hx509_7 := ZHX HB hx509_7
  have HR509_6 := AM hi509_6
  have HC509_6 := AM hl509_6
  clear hi509_6 hl509_6
  have HR509_7 := AM hi509_7
  have HC509_7 := AM hl509_7
  clear hi509_7 hl509_7
  replace p509 := eq_true p509
  replace q509 := eq_true q509
  go_wp2_with (first | ((with_reducible refine gate_dst (N := 5) rfl ?_); refine ZXW w (N := 5) (cs := #[.int .i64 0, .int .i64 0, .int .i64 0, .int .i64 0, .int .i64 0, .int .i64 0, .slice none 0 0, .slice none 0 0]) (t := 71) ?_; intro gb510 hg w9 BK510 GW510 hb; replace HO_3 := AM (Kd.R_below (Kd.R_elderB (ZR HO_3.out) gb510 (Nat.le_of_eq hg.symm)) hb); replace HB := ZT HB hb; clear hb hg; have hcz10 := ZC8 w9 BK510) | ((with_reducible refine gate_callee (f := 72) rfl ?_); refine ZGL (some 19) Tryd.func72 #[.slice A509_6 ((D71 l0 x4_1).f4).length c509_6] ?_; (with_reducible refine (ih k1 (by have := HK1.out; omega) _ _ ((D71 l0 x4_1).f4) t511 _ ?side1 HC509_6.out A6.out).mono ?_); (case side1 => exact Kd.C_below HR509_6.out (ZB)); rintro e w11 ⟨v512, rfl, ho0, hb⟩; refine ZV1 ?_; have HO513 := AM (Kd.R_lower (Kd.R_newB (Kd.R_new' ho0 (Kd.R_lt (by (with_reducible repeat (first | apply Kd.R_alloc | apply Kd.R_drewN | apply Kd.R_drew)); exact (ZRf (Kd.R_mono HO_3.out (fun k_ hk => (⟨hk, hk.2⟩ : _ ∧ k_ ≠ gb510))) (fun _ h_ => ⟨h_.2, h_.1⟩))))) (g := gb510) (o := .cells #[.int .i64 ((D71 l0 x4_1).f0), .int .i64 ((D71 l0 x4_1).f1), .int .i64 ((D71 l0 x4_1).f2.f0), .int .i64 ((D71 l0 x4_1).f2.f1), .int .i64 ((D71 l0 x4_1).f2.f2), .int .i64 ((D71 l0 x4_1).f3), .slice A509_6 ((D71 l0 x4_1).f4).length c509_6, .slice A509_7 ((D71 l0 x4_1).f5).length c509_7] 71 (0, 0)) (ZZ BK510.out)) (below_size (ZB))); replace HO_3 := AM (Kd.R_elder' (by (with_reducible repeat (first | apply Kd.R_alloc | apply Kd.R_drewN | apply Kd.R_drew)); exact (ZRf (Kd.R_mono HO_3.out (fun k_ hk => (⟨hk, hk.2⟩ : _ ∧ k_ ≠ gb510))) (fun _ h_ => ⟨h_.2, h_.1⟩))) (Kd.R_base ho0) hb); replace BK510 := ZV #[.int .i64 ((D71 l0 x4_1).f0), .int .i64 ((D71 l0 x4_1).f1), .int .i64 ((D71 l0 x4_1).f2.f0), .int .i64 ((D71 l0 x4_1).f2.f1), .int .i64 ((D71 l0 x4_1).f2.f2), .int .i64 ((D71 l0 x4_1).f3), .slice A509_6 ((D71 l0 x4_1).f4).length c509_6, .slice A509_7 ((D71 l0 x4_1).f5).length c509_7] BK510 hb; replace HB := ZT HB hb; clear hb; (try clear ho0); obtain ⟨Ao12, co12, eo12⟩ := Kd.R_slice HO513.out; subst eo12; have hcz13 := ZC8 w11 BK510) | ((with_reducible refine gate_callee (f := 72) rfl ?_); refine ZGL (some 23) Tryd.func72 #[.slice A509_7 ((D71 l0 x4_1).f5).length c509_7] ?_; (with_reducible refine (ih k1 (by have := HK1.out; omega) _ _ ((D71 l0 x4_1).f5) t514 _ ?side1 HC509_7.out A7.out).mono ?_); (case side1 => exact Kd.C_below HR509_7.out (ZB)); rintro e w14 ⟨v515, rfl, ho0, hb⟩; refine ZV1 ?_; have HO516 := AM (Kd.R_lower (Kd.R_newB (Kd.R_new' (Kd.R_new' ho0 (Kd.R_lt (by (with_reducible repeat (first | apply Kd.R_alloc | apply Kd.R_drewN | apply Kd.R_drew)); exact (ZRf (Kd.R_mono HO_3.out (fun k_ hk => (⟨hk, hk.1.2⟩ : _ ∧ k_ ≠ gb510))) (fun _ h_ => ⟨h_.2, h_.1⟩))))) (Kd.R_lt (by (with_reducible repeat (first | apply Kd.R_alloc | apply Kd.R_drewN | apply Kd.R_drew)); exact (ZRf (Kd.R_mono HO513.out (fun k_ hk => (⟨hk, hk.2⟩ : _ ∧ k_ ≠ gb510))) (fun _ h_ => ⟨h_.2, h_.1⟩))))) (g := gb510) (o := .cells #[.int .i64 ((D71 l0 x4_1).f0), .int .i64 ((D71 l0 x4_1).f1), .int .i64 ((D71 l0 x4_1).f2.f0), .int .i64 ((D71 l0 x4_1).f2.f1), .int .i64 ((D71 l0 x4_1).f2.f2), .int .i64 ((D71 l0 x4_1).f3), .slice Ao12 t511.length co12, .slice A509_7 ((D71 l0 x4_1).f5).length c509_7] 71 (0, 0)) (ZZ BK510.out)) (below_size (ZB))); replace HO_3 := AM (Kd.R_elder' (by (with_reducible repeat (first | apply Kd.R_alloc | apply Kd.R_drewN | apply Kd.R_drew)); exact (ZRf (Kd.R_mono HO_3.out (fun k_ hk => (⟨hk, hk.1.2⟩ : _ ∧ k_ ≠ gb510))) (fun _ h_ => ⟨h_.2, h_.1⟩))) (Kd.R_base ho0) hb); replace HO513 := AM (Kd.R_elder' (by (with_reducible repeat (first | apply Kd.R_alloc | apply Kd.R_drewN | apply Kd.R_drew)); exact (ZRf (Kd.R_mono HO513.out (fun k_ hk => (⟨hk, hk.2⟩ : _ ∧ k_ ≠ gb510))) (fun _ h_ => ⟨h_.2, h_.1⟩))) (Kd.R_base ho0) hb); replace BK510 := ZV #[.int .i64 ((D71 l0 x4_1).f0), .int .i64 ((D71 l0 x4_1).f1), .int .i64 ((D71 l0 x4_1).f2.f0), .int .i64 ((D71 l0 x4_1).f2.f1), .int .i64 ((D71 l0 x4_1).f2.f2), .int .i64 ((D71 l0 x4_1).f3), .slice Ao12 t511.length co12, .slice A509_7 ((D71 l0 x4_1).f5).length c509_7] BK510 hb; replace HB := ZT HB hb; clear hb; (try clear ho0); obtain ⟨Ao15, co15, eo15⟩ := Kd.R_slice HO516.out; subst eo15; have hcz16 := ZC8 w14 BK510) | ((with_reducible refine gate_store (t := 29) (p := 24) rfl ?_); refine store_event (t := 29) (p := 24) (v := ?vo_w17) (w1 := (w14.setCell ⟨gb510, 7, none⟩ (.slice Ao15 t514.length co15))) ?hg ?ho ?hn ?hr ?_; (case ho => rfl); (case hg => rfl); (case hn => rfl); (case hr => first | (go_simp; done) | (go_simp; rfl)); intro w17 hw; have n0_ : Za (Kd.R k71 71 w17 w.heap.size (fun k_ => some k_ ≠ (.slice Ao12 t511.length co12 : Value).ownBlock ∧ some k_ ≠ (.slice Ao15 t514.length co15 : Value).ownBlock ∧ k_ ≠ gb510) u3 x3_1) := ⟨(by rw [hw]; exact (ZRf (Kd.R_mono HO_3.out (fun k_ hk => (⟨hk, hk.1.1.2⟩ : _ ∧ k_ ≠ gb510))) (fun _ hk => ⟨hk.2, ⟨hk.1.1.2, ⟨hk.1.2, hk.1.1.1.2⟩⟩⟩)))⟩; have n1_ : Za (Kd.R k71 71 w17 w.heap.size (fun k_ => some k_ ≠ (u3 : Value).ownBlock ∧ some k_ ≠ (.slice Ao15 t514.length co15 : Value).ownBlock ∧ k_ ≠ gb510) (.slice Ao12 t511.length co12) t511) := ⟨(by rw [hw]; exact (ZRf (Kd.R_mono HO513.out (fun k_ hk => (⟨hk, hk.1.2⟩ : _ ∧ k_ ≠ gb510))) (fun _ hk => ⟨hk.2, ⟨hk.1.1.1.2, ⟨hk.1.2, hk.1.1.2⟩⟩⟩)))⟩; have n2_ : Za (Kd.R k71 71 w17 w.heap.size (fun k_ => some k_ ≠ (u3 : Value).ownBlock ∧ some k_ ≠ (.slice Ao12 t511.length co12 : Value).ownBlock ∧ k_ ≠ gb510) (.slice Ao15 t514.length co15) t514) := ⟨(by rw [hw]; exact (ZRf (Kd.R_mono HO516.out (fun k_ hk => (⟨hk, hk.2⟩ : _ ∧ k_ ≠ gb510))) (fun _ hk => ⟨hk.2, ⟨hk.1.1.1.2, ⟨hk.1.1.2, hk.1.2⟩⟩⟩)))⟩; have n3_ : Za (w17.heap[gb510]? = some (.cells #[.int .i64 ((D71 l0 x4_1).f0), .int .i64 ((D71 l0 x4_1).f1), .int .i64 ((D71 l0 x4_1).f2.f0), .int .i64 ((D71 l0 x4_1).f2.f1), .int .i64 ((D71 l0 x4_1).f2.f2), .int .i64 ((D71 l0 x4_1).f3), .slice Ao12 t511.length co12, .slice Ao15 t514.length co15] 71 (0, 0))) := ⟨(by rw [hw]; exact (ZZ BK510.out))⟩; have n4_ : Za (Below w.heap.size w w17) := ⟨(by rw [hw]; exact (ZB))⟩; clear hw HO_3 HO513 HO516 BK510 HB; have HO_3 := n0_; have HO513 := n1_; have HO516 := n2_; have BK510 := n3_; have HB := n4_; clear n0_ n1_ n2_ n3_ n4_; have hcz18 := ZC8 w17 BK510) | ((with_reducible refine gate_builtin (b := .append) (xs := #[.tmp 25, .tmp 27]) rfl ?_); at_builtin; refine Kd.R_append k71 (w0 := w) w.heap.size rfl (.tmp 25) (.tmp 27) 29 71 (.agg #[(.int .i64 0), (.int .i64 0), (.int .i64 0), (.int .i64 0), (.int .i64 0), (.int .i64 0), (.slice none 0 0), (.slice none 0 0)]) 96 rfl Tryd.underlying29 info71 rfl (by decide) (by omega) u3 x3_1 (⟨(D71 l0 x4_1).f0, (D71 l0 x4_1).f1, (⟨(D71 l0 x4_1).f2.f0, (D71 l0 x4_1).f2.f1, (D71 l0 x4_1).f2.f2⟩ : S69), (D71 l0 x4_1).f3, t511, t514⟩ : S71) [.int .i64 ((D71 l0 x4_1).f0), .int .i64 ((D71 l0 x4_1).f1), .int .i64 ((D71 l0 x4_1).f2.f0), .int .i64 ((D71 l0 x4_1).f2.f1), .int .i64 ((D71 l0 x4_1).f2.f2), .int .i64 ((D71 l0 x4_1).f3), .slice Ao12 t511.length co12, .slice Ao15 t514.length co15] (fun k_ => k_ ≠ gb510) (fun k_ => ((fun k_ => k_ ≠ gb510)) k_ ∧ some k_ ≠ (u3 : Value).ownBlock) rfl rfl ?aP (fun _ hk => hk) ?aF ?aO ?aB ?aS ?aL ?_; (case aP => exact k71_mkM _ _ _ (⟨(D71 l0 x4_1).f0, (D71 l0 x4_1).f1, (⟨(D71 l0 x4_1).f2.f0, (D71 l0 x4_1).f2.f1, (D71 l0 x4_1).f2.f2⟩ : S69), (D71 l0 x4_1).f3, t511, t514⟩ : S71) (Kd.R_mono (HO513.out) (fun k_ hk => ⟨hk.2.2, hk.1⟩)) (Kd.R_mono (HO516.out) (fun k_ hk => ⟨hk.2.2, hk.1⟩))); (case aB => exact (ZB)); (case aF => exact (fun k_ hk => Kd.freshB (g := gb510) (o := .cells #[.int .i64 ((D71 l0 x4_1).f0), .int .i64 ((D71 l0 x4_1).f1), .int .i64 ((D71 l0 x4_1).f2.f0), .int .i64 ((D71 l0 x4_1).f2.f1), .int .i64 ((D71 l0 x4_1).f2.f2), .int .i64 ((D71 l0 x4_1).f3), .slice Ao12 t511.length co12, .slice Ao15 t514.length co15] 71 (0, 0)) (ZK BK510.out) k_ hk)); (case aO => exact (ZR (Kd.R_mono HO_3.out (fun _ hk => hk.2.2)))); (case aS => exact (below_size (ZB))); (case aL => have := LMc8.out; omega); intro v518 w19 ho hb hg hat; rw [← Ny517.out] at ho; have n0_ := AM (blk_grown (g := gb510) (o := .cells #[.int .i64 ((D71 l0 x4_1).f0), .int .i64 ((D71 l0 x4_1).f1), .int .i64 ((D71 l0 x4_1).f2.f0), .int .i64 ((D71 l0 x4_1).f2.f1), .int .i64 ((D71 l0 x4_1).f2.f2), .int .i64 ((D71 l0 x4_1).f3), .slice Ao12 t511.length co12, .slice Ao15 t514.length co15] 71 (0, 0)) (ZK BK510.out) hg (Kd.R_away HO_3.out (fun _ hk => hk.2.2))); have n1_ := AM (hb); have n2_ := AM (ho); clear BK510 HB HO_3 HO513 HO516; have BK510 := n0_; have HB := n1_; have HO519 := n2_; clear n0_ n1_ n2_ ho hb hg hat))
  go_roundg k1
  case measure => have := HK1.out; omega
  case rel => exact ⟨(y517), (wrap64 (x4_1 + 1)), ZSM, H', ⟨by have := HK1.out; omega⟩, ⟨ZR (Kd.R_mono HO519.out (fun _ hk => trivial))⟩, ⟨ZB⟩⟩)
  ·(
  rw [if_neg c8] at H
  exact absurd H (by simp)))
  ·(
  rw [if_neg c5] at H
  exact absurd H (by simp)))
  ·(
  rw [if_neg c4] at H
  have c4b0 := decide_eq_false c4
  clear c4
  obtain rfl := Option.some.inj H
  go_wp2
  go_ret
  exact ⟨_, ZE, by (with_reducible repeat (first | apply Kd.R_alloc | apply Kd.R_drewN | apply Kd.R_drew)); exact HO_3.out, ZB⟩))

end Go.Proofs.YtfcmckomagaiiaaDoor.A
