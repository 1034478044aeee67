/- Go functions as Lean functions, and for each its contract; written by wip/tools/pr.py over the kit's print. -/
import Derived.Test.YtkkdeojbkfjlpaaBx0
import Derived.Test.YtkkdeojbkfjlpaaBx2
import Derived.Test.YtkkdeojbkfjlpaaBx8
import Derived.Test.YtkkdeojbkfjlpaaBx14
import Derived.Test.YtkkdeojbkfjlpaaBx15
namespace Go.Proofs.Ytkkdeojbkfjlpaa.B
open Go.RowKit Go.Proofs.YtkkdeojbkfjlpaaW.PrintWords Go.Proofs.YtkkdeojbkfjlpaaW.PrintLast Go.Proofs.YtkkdeojbkfjlpaaW.PrintMore
attribute [local go_sem] max2_int min2_int max_two min_two max_three min_three max_four min_four
set_option linter.unusedVariables false
set_option linter.unusedSimpArgs false
set_option maxHeartbeats 8000000
set_option maxRecDepth 100000

/-! ### spec_l71Fine: function 46 -/
def spec_l71Fine.l0 : Nat → Int → List Int → Int → List (S35) → List (S40) → Option ((List (S35)) × (List (S40)) × Int)
 | 0, _, _, _, _, _ => none
 | k + 1, x4, x1000, x1001, x403000, x403001 => if x4 < 6 then ((spec_TypeWhy.f k x403000 x403001).bind fun bt403 => (if bt403.2 = true then ((spec_l71Without.f k x403001 bt403.1).bind fun t405 => (spec_l71Fine.l0 k (wrap64 (x4 + 1)) x1000 x1001 x403000 t405)) else (some (x403000, x403001, x1001)))) else (some (x403000, x403001, x1001))
def spec_l71Fine.f (k : Nat) (s0_0 : List Int) (s0_1 : Int) : Option ((List (S35)) × (List (S40)) × Int) := (spec_l71Prog.f k s0_0 s0_1).bind fun bt395 => (spec_l71Fine.l0 k 0 s0_0 bt395.2.2 bt395.1 bt395.2.1)
theorem spec_l71Fine.calls (k : Nat) (g : Nat) (s0_0 : List Int) (s0_1 : Int) (r1 : List (S35)) (r2 : List (S40)) (r3 : Int) (w0 w : World) (hI : IsS64 w0 w g s0_0 s0_1) (hB : Below w0.heap.size w0 w) (h : spec_l71Fine.f k s0_0 s0_1 = some (r1, r2, r3)) :
  Calls Try.prog 46 #[.pointer (some ⟨g, 0, none⟩)] w fun e w' => ∃ v0_ v1_ : Value, e = .returned (.agg #[v0_, v1_]) ∧ Kd.R k35 35 w' w.heap.size (fun k_ => (w.heap.size ≤ k_)) v0_ r1 ∧ Kd.N k40 40 w' w.heap.size (fun k_ => (w.heap.size ≤ k_) ∧ some k_ ≠ (v0_ : Value).ownBlock) v1_ r2 ∧ IsS64 w0 w' g s0_0 r3 ∧ Below w0.heap.size w0 w' ∧ KeepBut w w' g none := by
 have hu26 := Try.underlying26
 have HI0 := AM hI
 have HK := AM (KeepBut.refl w g none)
 have HL := AM hB.size
 clear hI
 have HW0 := AM hB.size
 have HB := AM hB
 clear hB
 have H := h
 unfold spec_l71Fine.f at H
 clear h
 obtain ⟨⟨t395, t398, t401⟩, A2, H⟩ := ZOB H; try dsimp only at H
 have H' := AM H
 clear H
 go_enter Try.func46, Try.ntmps46
 go_wp2_with (first | ((with_reducible refine gate_dst (N := 2) rfl ?_); refine ZX (N := 2) (cs := #[.slice none 0 0, .slice none 0 0]) (t := 26) ?_; intro gb394 hg w3 hbox hb; have BK394 := AM (hbox); have GW394 := AM ((by rw [hg]; exact (keep_size (w := w) (g := g) (row := none) (ZJ)) : w.heap.size ≤ gb394)); have GE394 := AM ((Nat.le_trans HW0.out (by rw [hg]; exact (keep_size (w := w) (g := g) (row := none) (ZJ)) : w.heap.size ≤ gb394) : w0.heap.size ≤ gb394)); have NB0_394 := AM ((by rw [hg]; exact Nat.ne_of_lt (IsS64.lt (show IsS64 w0 _ g s0_0 s0_1 from ZI)) : g ≠ gb394)); have NB394_0 := AM ((by rw [hg]; exact Nat.ne_of_gt (IsS64.lt (show IsS64 w0 _ g s0_0 s0_1 from ZI)) : gb394 ≠ g)); replace HK := ZKT HK (KeepBut.of_below hb g none); replace HB := ZTI HB hb; replace HI0 := AM (IsS64.below (ZI) hb); clear hb hbox hg) | ((with_reducible refine gate_callee (f := 45) rfl ?_); refine ZGL (some 8) Try.func45 #[.pointer (some ⟨g, 0, none⟩)] ?_; (with_reducible refine (spec_l71Prog.calls k g s0_0 s0_1 t395 t398 t401 w0 _ ?side1 ?side2 A2.out).mono ?_); (case side1 => exact ZI); (case side2 => exact ZBI); rintro e w4 ⟨v396, v399, rfl, ho0, ho1, hi, hb, hk⟩; refine ZV1 ?_; have HO397 := AM (Kd.R_lower (Kd.R_newM (M := fun k_ => (w.heap.size ≤ k_)) ho0 (keep_size (w := w) (g := g) (row := none) (ZJ)) (fun k_ h_ => h_)) (keep_size (w := w) (g := g) (row := none) (ZJ))); have HO400 := AM (Kd.N_lower (Kd.N_mono (ok' := fun k_ => (w.heap.size ≤ k_) ∧ some k_ ≠ (v396 : Value).ownBlock ∧ k_ ≠ gb394 ∧ k_ ≠ g) (Kd.R_N (Kd.R_bound (Kd.R_apart' ho1 (Kd.R_typed ho0) (by decide)))) (fun k_ hk_ => ⟨(Nat.le_trans (keep_size (w := w) (g := g) (row := none) (ZJ)) hk_.2.1), hk_.1.2, (Kd.freshB (g := gb394) (o := .cells #[.slice none 0 0, .slice none 0 0] 26 (0, 0)) (ZK BK394.out) k_ hk_.2.1), (IsS64.fresh (ZI) k_ hk_.2.1)⟩)) (keep_size (w := w) (g := g) (row := none) (ZJ))); replace BK394 := ZL hk BK394 NB394_0; replace HK := ZKT HK hk; replace HB := AM (hb); replace HI0 := AM (hi); clear hb hk hi; (try clear ho0); (try clear ho1)) | ((with_reducible refine gate_dst (N := 3) rfl ?_); refine ZX (N := 3) (cs := #[.slice none 0 0, .slice none 0 0]) (t := 26) ?_; intro gb402 hg w5 hbox hb; have BK402 := AM (hbox); have GW402 := AM ((by rw [hg]; exact (keep_size (w := w) (g := g) (row := none) (ZJ)) : w.heap.size ≤ gb402)); have GE402 := AM ((Nat.le_trans HW0.out (by rw [hg]; exact (keep_size (w := w) (g := g) (row := none) (ZJ)) : w.heap.size ≤ gb402) : w0.heap.size ≤ gb402)); have NB394_402 : Za (gb394 ≠ gb402) := ZN hg BK394; have NB402_394 : Za (gb402 ≠ gb394) := ZM hg BK394; have NB0_402 := AM ((by rw [hg]; exact Nat.ne_of_lt (IsS64.lt (show IsS64 w0 _ g s0_0 t401 from ZI)) : g ≠ gb402)); have NB402_0 := AM ((by rw [hg]; exact Nat.ne_of_gt (IsS64.lt (show IsS64 w0 _ g s0_0 t401 from ZI)) : gb402 ≠ g)); replace HO397 := AM (Kd.R_below (ZR HO397.out) hb); replace HO400 := AM (Kd.N_below (Kd.N_elderB (ZRN HO400.out) gb402 (Nat.le_of_eq hg.symm)) hb); replace BK394 := ZW BK394 hb; replace HK := ZKT HK (KeepBut.of_below hb g none); replace HB := ZTI HB hb; replace HI0 := AM (IsS64.below (ZI) hb); clear hb hbox hg; obtain ⟨Ao6, co6, eo6⟩ := Kd.R_slice HO397.out; subst eo6; have hnb7 := NB402_394.out; have hnc7 := NB394_402.out; have hnb8 := NB402_0.out; have hnc8 := NB0_402.out; have hcz9 := ZC2 w5 BK402; obtain ⟨Ao10, co10, eo10⟩ := Kd.N_slice HO400.out; subst eo10))
 go_loopg [4] k (fun kq v4 w' => ∃ (x4_1 : Int) (x403001_1 : List (S40)) (u403001 : Value), v4 = .int .i64 x4_1 ∧ Za (spec_l71Fine.l0 kq x4_1 s0_0 t401 t395 x403001_1 = some (r1, r2, r3)) ∧ Za (kq ≤ k) ∧ Za (Kd.R k35 35 w' w.heap.size (fun k_ => (w.heap.size ≤ k_)) (.slice Ao6 t395.length co6) t395) ∧ Za (Kd.N k40 40 w' w.heap.size (fun k_ => (w.heap.size ≤ k_) ∧ some k_ ≠ ((.slice Ao6 t395.length co6) : Value).ownBlock ∧ k_ ≠ gb394 ∧ k_ ≠ gb402 ∧ k_ ≠ g) u403001 x403001_1) ∧ Za (w'.heap[gb394]? = some (.cells #[(.slice none 0 0), (.slice none 0 0)] 26 (0, 0))) ∧ Za (w'.heap[gb402]? = some (.cells #[(.slice Ao6 t395.length co6), u403001] 26 (0, 0))) ∧ Za (IsS64 w0 w' g s0_0 t401) ∧ Za (KeepBut w w' g none) ∧ Za (Below w0.heap.size w0 w'))
 case atStart => exact ⟨(0), (t398), (.slice Ao10 t398.length co10), ZSM, H', ⟨Nat.le_refl _⟩, ⟨ZR (Kd.R_mono (Kd.R_far (p := ⟨gb402, 1, none⟩) (Kd.R_far (p := ⟨gb402, 0, none⟩) (Kd.R_types HO397.out BK402.out (by decide)) (fun _ hk => hk.2) (.slice Ao6 t395.length co6)) (fun _ hk => hk.2) (.slice Ao10 t398.length co10)) (fun _ hk => hk.1.1))⟩, ⟨ZNf (Kd.N_mono HO400.out (fun k_ hk => (⟨hk, hk.2⟩ : _ ∧ k_ ≠ gb402))) (fun _ hk => ⟨hk.2, ⟨hk.1.1.1, ⟨hk.1.1.2.1, ⟨hk.1.1.2.2.1, ⟨hk.1.2, hk.1.1.2.2.2⟩⟩⟩⟩⟩)⟩, ⟨ZZ BK394.out⟩, ⟨ZZ BK402.out⟩, ⟨ZI⟩, ⟨ZJ⟩, ⟨ZBI⟩⟩
 case round => (
 clear H'
 try clear p2
 try clear c4
 try clear c7
 try clear c8
 try clear hcz9
 obtain ⟨x4_1, x403001_1, u403001, rfl, HA, HK1, HO_403000, HO_403001, BK394, BK402, HI0, HK, HB⟩ := hrel
 cases gk with
 | zero => exact absurd HA.out (by simp [spec_l71Fine.l0])
 | succ k1 =>
  have H := HA.out
  clear HA
  simp only [spec_l71Fine.l0] at H
  by_cases c11 : x4_1 < 6
  ·(
  rw [if_pos c11] at H
  have c11b0 := decide_eq_true c11
  clear c11
  obtain ⟨⟨t403, t404⟩, A12, H⟩ := ZOB H; try dsimp only at H
  by_cases c13 : t404 = true
  ·(
  subst c13
  have H1 := H; rw [if_pos rfl] at H1
  clear H
  have H := H1
  clear H1
  obtain ⟨t405, A14, H⟩ := ZOB H; try dsimp only at H
  have H' := AM H
  clear H
  have hnb15 := NB402_394.out
  have hnc15 := NB394_402.out
  have hnb16 := NB402_0.out
  have hnc16 := NB0_402.out
  have hcz17 := ZC2 wr BK402
  obtain ⟨Ao18, co18, eo18⟩ := Kd.N_slice HO_403001.out
  subst eo18
  go_wp2_with (first | ((with_reducible refine gate_callee (f := 30) rfl ?_); refine ZGL (some 15) Try.func30 #[.agg #[.slice Ao6 t395.length co6, .slice Ao18 x403001_1.length co18]] ?_; (with_reducible refine (spec_TypeWhy.calls k1 _ _ t395 _ _ x403001_1 t403 true _ ?side1 ?side2 ?side3 ?side4 A12.out).mono ?_); (case side1 => exact ZQ ((Kd.R_reads' HO_403000.out).2.2)); (case side2 => exact (Kd.R_reads' HO_403000.out).2.1); (case side3 => exact ZQ ((Kd.N_reads' HO_403001.out).2.2)); (case side4 => exact (Kd.N_reads' HO_403001.out).2.1); rintro e w19 ⟨rfl, hb⟩; refine ZV1 ?_; replace HO_403000 := AM (Kd.R_below (ZR HO_403000.out) hb); replace HO_403001 := AM (Kd.N_below (ZRN HO_403001.out) hb); replace BK394 := ZW BK394 hb; replace BK402 := ZW BK402 hb; replace HK := ZKT HK (KeepBut.of_below hb g none); replace HB := ZTI HB hb; replace HI0 := AM (IsS64.below (ZI) hb); clear hb; have hcz20 := ZC2 w19 BK402) | ((with_reducible refine gate_callee (f := 64) rfl ?_); refine ZGL (some 24) Try.func64 #[.slice Ao18 x403001_1.length co18, .int .i64 t403] ?_; (with_reducible refine (spec_l71Without.calls k1 (fun k_ => ((w.heap.size ≤ k_) ∧ (some k_ ≠ (.slice Ao6 t395.length co6 : Value).ownBlock ∧ (k_ ≠ gb394 ∧ (k_ ≠ gb402 ∧ k_ ≠ g))))) _ _ x403001_1 t403 t405 _ ?side1 A14.out).mono ?_); (case side1 => exact Kd.N_V (HO_403001.out)); rintro e w21 ⟨v406, rfl, ho0, hb⟩; refine ZV1 ?_; have HO407 := AM (Kd.N_lower (Kd.N_mono (ok' := fun k_ => (w.heap.size ≤ k_) ∧ some k_ ≠ (.slice Ao6 t395.length co6 : Value).ownBlock ∧ k_ ≠ gb394 ∧ k_ ≠ gb402 ∧ k_ ≠ g) ho0 (fun k_ hk_ => ⟨Or.elim hk_ (fun hs_ => hs_.1) (fun hn_ => (Nat.le_trans (keep_size (w := w) (g := g) (row := none) (ZJ)) hn_)), Or.elim hk_ (fun hs_ => hs_.2.1) (fun hn_ => (Kd.fresh' (Kd.R_lt (ZR HO_403000.out)) k_ hn_)), Or.elim hk_ (fun hs_ => hs_.2.2.1) (fun hn_ => (Kd.freshB (g := gb394) (o := .cells #[.slice none 0 0, .slice none 0 0] 26 (0, 0)) (ZK BK394.out) k_ hn_)), Or.elim hk_ (fun hs_ => hs_.2.2.2.1) (fun hn_ => (Kd.freshB (g := gb402) (o := .cells #[.slice Ao6 t395.length co6, .slice Ao18 x403001_1.length co18] 26 (0, 0)) (ZK BK402.out) k_ hn_)), Or.elim hk_ (fun hs_ => hs_.2.2.2.2) (fun hn_ => (IsS64.fresh (ZI) k_ hn_))⟩)) (keep_size (w := w) (g := g) (row := none) (ZJ))); replace HO_403000 := AM (Kd.R_below (ZR HO_403000.out) hb); replace HO_403001 := AM (Kd.N_elder' (ZRN HO_403001.out) (Kd.N_base ho0) hb); replace BK394 := ZW BK394 hb; replace BK402 := ZW BK402 hb; replace HK := ZKT HK (KeepBut.of_below hb g none); replace HB := ZTI HB hb; replace HI0 := AM (IsS64.below (ZI) hb); clear hb; (try clear ho0); obtain ⟨Ao22, co22, eo22⟩ := Kd.N_slice HO407.out; subst eo22; have hcz23 := ZC2 w21 BK402))
  go_roundg k1
  case measure => have := HK1.out; omega
  case rel => exact ⟨(wrap64 (x4_1 + 1)), (t405), (.slice Ao22 t405.length co22), ZSM, H', ⟨by have := HK1.out; omega⟩, ⟨ZR (Kd.R_mono (Kd.R_far (p := ⟨gb402, 1, none⟩) (Kd.R_types HO_403000.out BK402.out (by decide)) (fun _ hk => hk.2) (.slice Ao22 t405.length co22)) (fun _ hk => hk.1))⟩, ⟨ZNf (Kd.N_mono HO407.out (fun k_ hk => (⟨hk, hk.2.2.2.1⟩ : _ ∧ k_ ≠ gb402))) (fun _ hk => ⟨hk.2, ⟨hk.1.1, ⟨hk.1.2.1, ⟨hk.1.2.2.1, ⟨hk.1.2.2.2.1, hk.1.2.2.2.2⟩⟩⟩⟩⟩)⟩, ⟨ZZ BK394.out⟩, ⟨ZZ BK402.out⟩, ⟨ZI⟩, ⟨ZJ⟩, ⟨ZBI⟩⟩)
  ·(
  replace c13 := Bool.eq_false_iff.mpr c13
  subst c13
  have H1 := H; rw [if_neg ZFT] at H1
  clear H
  have H := H1
  clear H1
  simp only [Option.some.injEq, Prod.mk.injEq] at H
  obtain ⟨rfl, rfl, rfl⟩ := H
  have hnb24 := NB402_394.out
  have hnc24 := NB394_402.out
  have hnb25 := NB402_0.out
  have hnc25 := NB0_402.out
  have hcz26 := ZC2 wr BK402
  obtain ⟨Ao27, co27, eo27⟩ := Kd.N_slice HO_403001.out
  subst eo27
  go_wp2_with (first | ((with_reducible refine gate_callee (f := 30) rfl ?_); refine ZGL (some 15) Try.func30 #[.agg #[.slice Ao6 t395.length co6, .slice Ao27 x403001_1.length co27]] ?_; (with_reducible refine (spec_TypeWhy.calls k1 _ _ t395 _ _ x403001_1 t403 false _ ?side1 ?side2 ?side3 ?side4 A12.out).mono ?_); (case side1 => exact ZQ ((Kd.R_reads' HO_403000.out).2.2)); (case side2 => exact (Kd.R_reads' HO_403000.out).2.1); (case side3 => exact ZQ ((Kd.N_reads' HO_403001.out).2.2)); (case side4 => exact (Kd.N_reads' HO_403001.out).2.1); rintro e w28 ⟨rfl, hb⟩; refine ZV1 ?_; replace HO_403000 := AM (Kd.R_below (ZR HO_403000.out) hb); replace HO_403001 := AM (Kd.N_below (ZRN HO_403001.out) hb); replace BK394 := ZW BK394 hb; replace BK402 := ZW BK402 hb; replace HK := ZKT HK (KeepBut.of_below hb g none); replace HB := ZTI HB hb; replace HI0 := AM (IsS64.below (ZI) hb); clear hb; have hcz29 := ZC2 w28 BK402; have hnb30 := NB394_0.out; have hnc30 := NB0_394.out; have hcz31 := ZC2 w28 BK394))
  refine bodyPost_ret (results_cell_row rfl _ _ gb394 26 #[.slice Ao6 t395.length co6, .slice Ao27 x403001_1.length co27] (0, 0) _ rfl (ZZ BK394.out) Try.underlying26 rfl (by kernel_rfl)) rfl ?_
  exact ⟨_, _, ZE, ZRf (Kd.R_types HO_403000.out BK394.out (by decide)) (fun _ hk => ⟨hk.2, hk.1⟩), ZNf (Kd.N_mono HO_403001.out (fun k_ hk => (⟨hk, hk.2.2.1⟩ : _ ∧ k_ ≠ gb394))) (fun _ hk => ⟨hk.2, ⟨hk.1.1, hk.1.2.1⟩⟩), ZI, ZBI, ZJ⟩))
  ·(
  rw [if_neg c11] at H
  have c11b0 := decide_eq_false c11
  clear c11
  simp only [Option.some.injEq, Prod.mk.injEq] at H
  obtain ⟨rfl, rfl, rfl⟩ := H
  have hnb32 := NB402_394.out
  have hnc32 := NB394_402.out
  have hnb33 := NB402_0.out
  have hnc33 := NB0_402.out
  have hcz34 := ZC2 wr BK402
  have hnb35 := NB394_0.out
  have hnc35 := NB0_394.out
  have hcz36 := ZC2 wr BK394
  obtain ⟨Ao37, co37, eo37⟩ := Kd.N_slice HO_403001.out
  subst eo37
  go_wp2
  refine bodyPost_ret (results_cell_row rfl _ _ gb394 26 #[.slice Ao6 t395.length co6, .slice Ao37 x403001_1.length co37] (0, 0) _ rfl (ZZ BK394.out) Try.underlying26 rfl (by kernel_rfl)) rfl ?_
  exact ⟨_, _, ZE, ZRf (Kd.R_types HO_403000.out BK394.out (by decide)) (fun _ hk => ⟨hk.2, hk.1⟩), ZNf (Kd.N_mono HO_403001.out (fun k_ hk => (⟨hk, hk.2.2.1⟩ : _ ∧ k_ ≠ gb394))) (fun _ hk => ⟨hk.2, ⟨hk.1.1, hk.1.2.1⟩⟩), ZI, ZBI, ZJ⟩))

/-! ### spec_l2Copy: function 41 -/
mutual
def spec_l2Copy.l0 : Nat → List (S40) → List (S40) → Int → Option ((List (S40)))
 | 0, _, _, _ => none
 | k + 1, x0, x3, x4 => if x4 < (x0.length : Int) then (if 0 ≤ x4 then ((spec_l2Copy.f k ((D40 x0 x4).f4)).bind fun t413 => ((spec_l2Copy.f k ((D40 x0 x4).f5)).bind fun t416 => (if x3.length < 1466015503701 then (spec_l2Copy.l0 k x0 (x3 ++ [(⟨(D40 x0 x4).f0, (D40 x0 x4).f1, (⟨(D40 x0 x4).f2.f0, (D40 x0 x4).f2.f1, (D40 x0 x4).f2.f2⟩ : S38), (D40 x0 x4).f3, t413, t416⟩ : S40)]) (wrap64 (x4 + 1))) else (none)))) else (none)) else (some x3)
def spec_l2Copy.f : Nat → List (S40) → Option ((List (S40)))
 | 0, _ => none
 | k + 1, l0 => spec_l2Copy.l0 k l0 (([] : List (S40))) 0
end
theorem spec_l2Copy.calls (k : Nat) : ∀ (A0 : Option Addr) (c0 : Nat) (l0 : List (S40)) (r : List (S40)) (w : World) (hr0 : Kd.C k40 w A0 l0.length l0) (hc0 : l0.length ≤ c0) (h : spec_l2Copy.f k l0 = some r),
  Calls Try.prog 41 #[.slice A0 l0.length c0] w fun e w' => ∃ v0_ : Value, e = .returned (v0_) ∧ Kd.R k40 40 w' w.heap.size (fun _ => True) v0_ r ∧ Below w.heap.size w w' := by
 induction k using Nat.strongRecOn with
 | _ k ih =>
 intro A0 c0 l0 r w hr0 hc0 h
 cases k with
 | zero => exact absurd h (by simp [spec_l2Copy.f])
 | succ k =>
 simp only [spec_l2Copy.f] at h
 have hu40 := Try.underlying40
 have HR0 := AM hr0
 have HC0 := AM hc0
 clear hr0 hc0
 have HB := AM (Below.refl w.heap.size w)
 have H : (spec_l2Copy.l0 k l0 (([] : List (S40))) 0) = some r := h
 clear h
 obtain ⟨y408, hy408⟩ : ∃ y_ : List (S40), y_ = (([] : List (S40))) := ⟨_, rfl⟩
 replace H : (spec_l2Copy.l0 k l0 y408 0) = some r := by rw [hy408]; exact H
 have Ny408 := AM hy408
 clear hy408
 have H' := AM H
 clear H
 go_enter Try.func41, Try.ntmps41
 go_wp2_with (first | ((with_reducible refine gate_dst (N := 6) rfl ?_); refine Kd.R_lit k40 _ 40 ?hg (N := 6) ?hd (xs := ([] : List (S40))) (inner := []) (ok := fun _ => True) (okp := fun _ => True) ?hr ?hp (fun _ hk => hk) trivial (Below.refl _ _) (Nat.le_refl _) (by simp) ?_; (case hd => rfl); (case hg => rfl); (case hr => first | (go_simp; done) | (go_simp; rfl)); (case hp => exact (Reps.none _ _)); intro v409 w2 ho3 hb hg_ hnew_; clear hg_ hnew_; (first | rw [← Ny408.out] at ho3 | (simp only [Int.reduceToNat] at ho3; rw [← Ny408.out] at ho3)); have HO410 := AM (Kd.R_lower ho3 (below_size (ZB))); replace HB := ZT HB hb; clear hb ho3))
 go_loopg [3, 4] k (fun kq v3 v4 w' => ∃ (x3_1 : List (S40)) (x4_1 : Int), v4 = .int .i64 x4_1 ∧ Za (spec_l2Copy.l0 kq l0 x3_1 x4_1 = some r) ∧ Za (kq ≤ k) ∧ Za (Kd.R k40 40 w' w.heap.size (fun _ => True) v3 x3_1) ∧ Za (Below w.heap.size w w'))
 case atStart => exact ⟨(y408), (0), ZSM, H', ⟨Nat.le_refl _⟩, ⟨ZR HO410.out⟩, ⟨ZB⟩⟩
 case round => (
 clear H'
 try clear p2
 obtain ⟨x3_1, x4_1, rfl, HA, HK1, HO_3, HB⟩ := hrel
 cases gk with
 | zero => exact absurd HA.out (by simp [spec_l2Copy.l0])
 | succ k1 =>
  have H := HA.out
  clear HA
  simp only [spec_l2Copy.l0] at H
  by_cases c4 : x4_1 < (l0.length : Int)
  ·(
  rw [if_pos c4] at H
  have c4b0 := decide_eq_true c4
  clear c4
  by_cases c5 : 0 ≤ x4_1
  ·(
  rw [if_pos c5] at H
  have c5b0 := decide_eq_true c5
  clear c5
  obtain ⟨t413, A6, H⟩ := ZOB H; try dsimp only at H
  obtain ⟨t416, A7, H⟩ := ZOB H; try dsimp only at H
  by_cases c8 : x3_1.length < 1466015503701
  ·(
  rw [if_pos c8] at H
  have LMc8 := AM c8
  clear c8
  obtain ⟨y419, hy419⟩ : ∃ y_ : List (S40), y_ = (x3_1 ++ [(⟨(D40 l0 x4_1).f0, (D40 l0 x4_1).f1, (⟨(D40 l0 x4_1).f2.f0, (D40 l0 x4_1).f2.f1, (D40 l0 x4_1).f2.f2⟩ : S38), (D40 l0 x4_1).f3, t413, t416⟩ : S40)]) := ⟨_, rfl⟩
  replace H : (spec_l2Copy.l0 k1 l0 y419 (wrap64 (x4_1 + 1))) = some r := by rw [hy419]; exact H
  have Ny419 := AM hy419
  clear hy419
  have H' := AM H
  clear H
  have p411 : 0 ≤ (x4_1 : Int) := ZD
  have q411 : x4_1 < (l0.length : Int) := ZD
  obtain ⟨ad411, A411_6, c411_6, A411_7, c411_7, e411, hx411_0, hx411_1, hx411_2, hx411_3, hx411_4, hx411_5, hx411_6, hx411_7, hl411_6, hi411_6, hl411_7, hi411_7⟩ := at_T40 HR0.out x4_1 p411 q411
  cases e411
  replace hx411_0 := ZHX HB hx411_0
  replace hx411_1 := ZHX HB hx411_1
  replace hx411_2 := ZHX HB hx411_2
  replace hx411_3 := ZHX HB hx411_3
  replace hx411_4 := ZHX HB hx411_4
  replace hx411_5 := ZHX HB hx411_5
  replace hx411_6 := ZHX HB hx411_6
  replace hx411_7 := ZHX HB hx411_7
  have HR411_6 := AM hi411_6
  have HC411_6 := AM hl411_6
  clear hi411_6 hl411_6
  have HR411_7 := AM hi411_7
  have HC411_7 := AM hl411_7
  clear hi411_7 hl411_7
  replace p411 := eq_true p411
  replace q411 := eq_true q411
  go_wp2_with (first | ((with_reducible refine gate_dst (N := 5) rfl ?_); refine ZXW w (N := 5) (cs := #[.int .i64 0, .int .i64 0, .int .i64 0, .int .i64 0, .int .i64 0, .int .i64 0, .slice none 0 0, .slice none 0 0]) (t := 40) ?_; intro gb412 hg w9 BK412 GW412 hb; replace HO_3 := AM (Kd.R_below (Kd.R_elderB (ZR HO_3.out) gb412 (Nat.le_of_eq hg.symm)) hb); replace HB := ZT HB hb; clear hb hg; have hcz10 := ZC8 w9 BK412) | ((with_reducible refine gate_callee (f := 41) rfl ?_); refine ZGL (some 19) Try.func41 #[.slice A411_6 ((D40 l0 x4_1).f4).length c411_6] ?_; (with_reducible refine (ih k1 (by have := HK1.out; omega) _ _ ((D40 l0 x4_1).f4) t413 _ ?side1 HC411_6.out A6.out).mono ?_); (case side1 => exact Kd.C_below HR411_6.out (ZB)); rintro e w11 ⟨v414, rfl, ho0, hb⟩; refine ZV1 ?_; have HO415 := AM (Kd.R_lower (Kd.R_newB (Kd.R_new' ho0 (Kd.R_lt (by (with_reducible repeat (first | apply Kd.R_alloc | apply Kd.R_drewN | apply Kd.R_drew)); exact (ZRf (Kd.R_mono HO_3.out (fun k_ hk => (⟨hk, hk.2⟩ : _ ∧ k_ ≠ gb412))) (fun _ h_ => ⟨h_.2, h_.1⟩))))) (g := gb412) (o := .cells #[.int .i64 ((D40 l0 x4_1).f0), .int .i64 ((D40 l0 x4_1).f1), .int .i64 ((D40 l0 x4_1).f2.f0), .int .i64 ((D40 l0 x4_1).f2.f1), .int .i64 ((D40 l0 x4_1).f2.f2), .int .i64 ((D40 l0 x4_1).f3), .slice A411_6 ((D40 l0 x4_1).f4).length c411_6, .slice A411_7 ((D40 l0 x4_1).f5).length c411_7] 40 (0, 0)) (ZZ BK412.out)) (below_size (ZB))); replace HO_3 := AM (Kd.R_elder' (by (with_reducible repeat (first | apply Kd.R_alloc | apply Kd.R_drewN | apply Kd.R_drew)); exact (ZRf (Kd.R_mono HO_3.out (fun k_ hk => (⟨hk, hk.2⟩ : _ ∧ k_ ≠ gb412))) (fun _ h_ => ⟨h_.2, h_.1⟩))) (Kd.R_base ho0) hb); replace BK412 := ZV #[.int .i64 ((D40 l0 x4_1).f0), .int .i64 ((D40 l0 x4_1).f1), .int .i64 ((D40 l0 x4_1).f2.f0), .int .i64 ((D40 l0 x4_1).f2.f1), .int .i64 ((D40 l0 x4_1).f2.f2), .int .i64 ((D40 l0 x4_1).f3), .slice A411_6 ((D40 l0 x4_1).f4).length c411_6, .slice A411_7 ((D40 l0 x4_1).f5).length c411_7] BK412 hb; replace HB := ZT HB hb; clear hb; (try clear ho0); obtain ⟨Ao12, co12, eo12⟩ := Kd.R_slice HO415.out; subst eo12; have hcz13 := ZC8 w11 BK412) | ((with_reducible refine gate_callee (f := 41) rfl ?_); refine ZGL (some 23) Try.func41 #[.slice A411_7 ((D40 l0 x4_1).f5).length c411_7] ?_; (with_reducible refine (ih k1 (by have := HK1.out; omega) _ _ ((D40 l0 x4_1).f5) t416 _ ?side1 HC411_7.out A7.out).mono ?_); (case side1 => exact Kd.C_below HR411_7.out (ZB)); rintro e w14 ⟨v417, rfl, ho0, hb⟩; refine ZV1 ?_; have HO418 := AM (Kd.R_lower (Kd.R_newB (Kd.R_new' (Kd.R_new' ho0 (Kd.R_lt (by (with_reducible repeat (first | apply Kd.R_alloc | apply Kd.R_drewN | apply Kd.R_drew)); exact (ZRf (Kd.R_mono HO_3.out (fun k_ hk => (⟨hk, hk.1.2⟩ : _ ∧ k_ ≠ gb412))) (fun _ h_ => ⟨h_.2, h_.1⟩))))) (Kd.R_lt (by (with_reducible repeat (first | apply Kd.R_alloc | apply Kd.R_drewN | apply Kd.R_drew)); exact (ZRf (Kd.R_mono HO415.out (fun k_ hk => (⟨hk, hk.2⟩ : _ ∧ k_ ≠ gb412))) (fun _ h_ => ⟨h_.2, h_.1⟩))))) (g := gb412) (o := .cells #[.int .i64 ((D40 l0 x4_1).f0), .int .i64 ((D40 l0 x4_1).f1), .int .i64 ((D40 l0 x4_1).f2.f0), .int .i64 ((D40 l0 x4_1).f2.f1), .int .i64 ((D40 l0 x4_1).f2.f2), .int .i64 ((D40 l0 x4_1).f3), .slice Ao12 t413.length co12, .slice A411_7 ((D40 l0 x4_1).f5).length c411_7] 40 (0, 0)) (ZZ BK412.out)) (below_size (ZB))); replace HO_3 := AM (Kd.R_elder' (by (with_reducible repeat (first | apply Kd.R_alloc | apply Kd.R_drewN | apply Kd.R_drew)); exact (ZRf (Kd.R_mono HO_3.out (fun k_ hk => (⟨hk, hk.1.2⟩ : _ ∧ k_ ≠ gb412))) (fun _ h_ => ⟨h_.2, h_.1⟩))) (Kd.R_base ho0) hb); replace HO415 := AM (Kd.R_elder' (by (with_reducible repeat (first | apply Kd.R_alloc | apply Kd.R_drewN | apply Kd.R_drew)); exact (ZRf (Kd.R_mono HO415.out (fun k_ hk => (⟨hk, hk.2⟩ : _ ∧ k_ ≠ gb412))) (fun _ h_ => ⟨h_.2, h_.1⟩))) (Kd.R_base ho0) hb); replace BK412 := ZV #[.int .i64 ((D40 l0 x4_1).f0), .int .i64 ((D40 l0 x4_1).f1), .int .i64 ((D40 l0 x4_1).f2.f0), .int .i64 ((D40 l0 x4_1).f2.f1), .int .i64 ((D40 l0 x4_1).f2.f2), .int .i64 ((D40 l0 x4_1).f3), .slice Ao12 t413.length co12, .slice A411_7 ((D40 l0 x4_1).f5).length c411_7] BK412 hb; replace HB := ZT HB hb; clear hb; (try clear ho0); obtain ⟨Ao15, co15, eo15⟩ := Kd.R_slice HO418.out; subst eo15; have hcz16 := ZC8 w14 BK412) | ((with_reducible refine gate_store (t := 24) (p := 24) rfl ?_); refine store_event (t := 24) (p := 24) (v := ?vo_w17) (w1 := (w14.setCell ⟨gb412, 7, none⟩ (.slice Ao15 t416.length co15))) ?hg ?ho ?hn ?hr ?_; (case ho => rfl); (case hg => rfl); (case hn => rfl); (case hr => first | (go_simp; done) | (go_simp; rfl)); intro w17 hw; have n0_ : Za (Kd.R k40 40 w17 w.heap.size (fun k_ => some k_ ≠ (.slice Ao12 t413.length co12 : Value).ownBlock ∧ some k_ ≠ (.slice Ao15 t416.length co15 : Value).ownBlock ∧ k_ ≠ gb412) u3 x3_1) := ⟨(by rw [hw]; exact (ZRf (Kd.R_mono HO_3.out (fun k_ hk => (⟨hk, hk.1.1.2⟩ : _ ∧ k_ ≠ gb412))) (fun _ hk => ⟨hk.2, ⟨hk.1.1.2, ⟨hk.1.2, hk.1.1.1.2⟩⟩⟩)))⟩; have n1_ : Za (Kd.R k40 40 w17 w.heap.size (fun k_ => some k_ ≠ (u3 : Value).ownBlock ∧ some k_ ≠ (.slice Ao15 t416.length co15 : Value).ownBlock ∧ k_ ≠ gb412) (.slice Ao12 t413.length co12) t413) := ⟨(by rw [hw]; exact (ZRf (Kd.R_mono HO415.out (fun k_ hk => (⟨hk, hk.1.2⟩ : _ ∧ k_ ≠ gb412))) (fun _ hk => ⟨hk.2, ⟨hk.1.1.1.2, ⟨hk.1.2, hk.1.1.2⟩⟩⟩)))⟩; have n2_ : Za (Kd.R k40 40 w17 w.heap.size (fun k_ => some k_ ≠ (u3 : Value).ownBlock ∧ some k_ ≠ (.slice Ao12 t413.length co12 : Value).ownBlock ∧ k_ ≠ gb412) (.slice Ao15 t416.length co15) t416) := ⟨(by rw [hw]; exact (ZRf (Kd.R_mono HO418.out (fun k_ hk => (⟨hk, hk.2⟩ : _ ∧ k_ ≠ gb412))) (fun _ hk => ⟨hk.2, ⟨hk.1.1.1.2, ⟨hk.1.1.2, hk.1.2⟩⟩⟩)))⟩; have n3_ : Za (w17.heap[gb412]? = some (.cells #[.int .i64 ((D40 l0 x4_1).f0), .int .i64 ((D40 l0 x4_1).f1), .int .i64 ((D40 l0 x4_1).f2.f0), .int .i64 ((D40 l0 x4_1).f2.f1), .int .i64 ((D40 l0 x4_1).f2.f2), .int .i64 ((D40 l0 x4_1).f3), .slice Ao12 t413.length co12, .slice Ao15 t416.length co15] 40 (0, 0))) := ⟨(by rw [hw]; exact (ZZ BK412.out))⟩; have n4_ : Za (Below w.heap.size w w17) := ⟨(by rw [hw]; exact (ZB))⟩; clear hw HO_3 HO415 HO418 BK412 HB; have HO_3 := n0_; have HO415 := n1_; have HO418 := n2_; have BK412 := n3_; have HB := n4_; clear n0_ n1_ n2_ n3_ n4_; have hcz18 := ZC8 w17 BK412) | ((with_reducible refine gate_builtin (b := .append) (xs := #[.tmp 25, .tmp 27]) rfl ?_); at_builtin; refine Kd.R_append k40 (w0 := w) w.heap.size rfl (.tmp 25) (.tmp 27) 24 40 (.agg #[(.int .i64 0), (.int .i64 0), (.int .i64 0), (.int .i64 0), (.int .i64 0), (.int .i64 0), (.slice none 0 0), (.slice none 0 0)]) 96 rfl Try.underlying24 info40 rfl (by decide) (by omega) u3 x3_1 (⟨(D40 l0 x4_1).f0, (D40 l0 x4_1).f1, (⟨(D40 l0 x4_1).f2.f0, (D40 l0 x4_1).f2.f1, (D40 l0 x4_1).f2.f2⟩ : S38), (D40 l0 x4_1).f3, t413, t416⟩ : S40) [.int .i64 ((D40 l0 x4_1).f0), .int .i64 ((D40 l0 x4_1).f1), .int .i64 ((D40 l0 x4_1).f2.f0), .int .i64 ((D40 l0 x4_1).f2.f1), .int .i64 ((D40 l0 x4_1).f2.f2), .int .i64 ((D40 l0 x4_1).f3), .slice Ao12 t413.length co12, .slice Ao15 t416.length co15] (fun k_ => k_ ≠ gb412) (fun k_ => ((fun k_ => k_ ≠ gb412)) k_ ∧ some k_ ≠ (u3 : Value).ownBlock) rfl rfl ?aP (fun _ hk => hk) ?aF ?aO ?aB ?aS ?aL ?_; (case aP => exact k40_mkM _ _ _ (⟨(D40 l0 x4_1).f0, (D40 l0 x4_1).f1, (⟨(D40 l0 x4_1).f2.f0, (D40 l0 x4_1).f2.f1, (D40 l0 x4_1).f2.f2⟩ : S38), (D40 l0 x4_1).f3, t413, t416⟩ : S40) (Kd.R_mono (HO415.out) (fun k_ hk => ⟨hk.2.2, hk.1⟩)) (Kd.R_mono (HO418.out) (fun k_ hk => ⟨hk.2.2, hk.1⟩))); (case aB => exact (ZB)); (case aF => exact (fun k_ hk => Kd.freshB (g := gb412) (o := .cells #[.int .i64 ((D40 l0 x4_1).f0), .int .i64 ((D40 l0 x4_1).f1), .int .i64 ((D40 l0 x4_1).f2.f0), .int .i64 ((D40 l0 x4_1).f2.f1), .int .i64 ((D40 l0 x4_1).f2.f2), .int .i64 ((D40 l0 x4_1).f3), .slice Ao12 t413.length co12, .slice Ao15 t416.length co15] 40 (0, 0)) (ZK BK412.out) k_ hk)); (case aO => exact (ZR (Kd.R_mono HO_3.out (fun _ hk => hk.2.2)))); (case aS => exact (below_size (ZB))); (case aL => have := LMc8.out; omega); intro v420 w19 ho hb hg hat; rw [← Ny419.out] at ho; have n0_ := AM (blk_grown (g := gb412) (o := .cells #[.int .i64 ((D40 l0 x4_1).f0), .int .i64 ((D40 l0 x4_1).f1), .int .i64 ((D40 l0 x4_1).f2.f0), .int .i64 ((D40 l0 x4_1).f2.f1), .int .i64 ((D40 l0 x4_1).f2.f2), .int .i64 ((D40 l0 x4_1).f3), .slice Ao12 t413.length co12, .slice Ao15 t416.length co15] 40 (0, 0)) (ZK BK412.out) hg (Kd.R_away HO_3.out (fun _ hk => hk.2.2))); have n1_ := AM (hb); have n2_ := AM (ho); clear BK412 HB HO_3 HO415 HO418; have BK412 := n0_; have HB := n1_; have HO421 := n2_; clear n0_ n1_ n2_ ho hb hg hat))
  go_roundg k1
  case measure => have := HK1.out; omega
  case rel => exact ⟨(y419), (wrap64 (x4_1 + 1)), ZSM, H', ⟨by have := HK1.out; omega⟩, ⟨ZR (Kd.R_mono HO421.out (fun _ hk => trivial))⟩, ⟨ZB⟩⟩)
  ·(
  rw [if_neg c8] at H
  exact absurd H (by simp)))
  ·(
  rw [if_neg c5] at H
  exact absurd H (by simp)))
  ·(
  rw [if_neg c4] at H
  have c4b0 := decide_eq_false c4
  clear c4
  obtain rfl := Option.some.inj H
  go_wp2
  go_ret
  exact ⟨_, ZE, by (with_reducible repeat (first | apply Kd.R_alloc | apply Kd.R_drewN | apply Kd.R_drew)); exact HO_3.out, ZB⟩))

end Go.Proofs.Ytkkdeojbkfjlpaa.B
