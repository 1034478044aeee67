/- Go functions as Lean functions, and for each its contract; written by wip/tools/pr.py over the kit's print. -/
import Derived.Test.YtkkdeojbkfjlpaaBx0
import Derived.Test.YtkkdeojbkfjlpaaBx2
import Derived.Test.YtkkdeojbkfjlpaaBx4
import Derived.Test.YtkkdeojbkfjlpaaBx8
import Derived.Test.YtkkdeojbkfjlpaaBx16
import Derived.Test.YtkkdeojbkfjlpaaBx17
namespace Go.Proofs.Ytkkdeojbkfjlpaa.B
open Go.RowKit Go.Proofs.YtkkdeojbkfjlpaaW.PrintWords Go.Proofs.YtkkdeojbkfjlpaaW.PrintLast Go.Proofs.YtkkdeojbkfjlpaaW.PrintMore
attribute [local go_sem] max2_int min2_int max_two min_two max_three min_three max_four min_four
set_option linter.unusedVariables false
set_option linter.unusedSimpArgs false
set_option maxHeartbeats 8000000
set_option maxRecDepth 100000

/-! ### spec_l71Any: function 23 -/
def spec_l71Any.j0 : Nat → List Int → Int → List (S35) → List (S40) → Option ((List (S35)) × (List (S40)) × Int)
 | 0, _, _, _, _ => none
 | k + 1, x1000, x1001, x484000, x484001 => (spec_l6Rd_pick.f k x1000 x1001 16).bind fun bt493 => (if bt493.1 = 0 then ((spec_l71Bent.f k x1000 bt493.2 x484000 x484001).bind fun bt495 => (some (bt495.1, bt495.2.1, bt495.2.2))) else (some (x484000, x484001, bt493.2)))
def spec_l71Any.f (k : Nat) (s0_0 : List Int) (s0_1 : Int) : Option ((List (S35)) × (List (S40)) × Int) := (spec_l71Prog.f k s0_0 s0_1).bind fun bt476 => ((spec_l6Rd_pick.f k s0_0 bt476.2.2 3).bind fun bt484 => (if bt484.1 > 0 then ((spec_l71Fine.f k s0_0 bt484.2).bind fun bt486 => (spec_l71Any.j0 k s0_0 bt486.2.2 bt486.1 bt486.2.1)) else (spec_l71Any.j0 k s0_0 bt484.2 bt476.1 bt476.2.1)))
theorem spec_l71Any.calls (k : Nat) (g : Nat) (s0_0 : List Int) (s0_1 : Int) (r1 : List (S35)) (r2 : List (S40)) (r3 : Int) (w0 w : World) (hI : IsS64 w0 w g s0_0 s0_1) (hB : Below w0.heap.size w0 w) (h : spec_l71Any.f k s0_0 s0_1 = some (r1, r2, r3)) :
  Calls Try.prog 23 #[.pointer (some ⟨g, 0, none⟩)] w fun e w' => ∃ v0_ v1_ : Value, e = .returned (.agg #[v0_, v1_]) ∧ Kd.R k35 35 w' w.heap.size (fun k_ => (w.heap.size ≤ k_)) v0_ r1 ∧ Kd.N k40 40 w' w.heap.size (fun k_ => (w.heap.size ≤ k_) ∧ some k_ ≠ (v0_ : Value).ownBlock) v1_ r2 ∧ IsS64 w0 w' g s0_0 r3 ∧ Below w0.heap.size w0 w' ∧ KeepBut w w' g none := by
 have hu26 := Try.underlying26
 have HI0 := AM hI
 have HK := AM (KeepBut.refl w g none)
 have HL := AM hB.size
 clear hI
 have HW0 := AM hB.size
 have HB := AM hB
 clear hB
 have H := h
 unfold spec_l71Any.f at H
 clear h
 obtain ⟨⟨t476, t479, t482⟩, A2, H⟩ := ZOB H; try dsimp only at H
 obtain ⟨⟨t484, t485⟩, A3, H⟩ := ZOB H; try dsimp only at H
 have HC4 := AM H
 clear H
 go_enter Try.func23, Try.ntmps23
 go_upto_if 8 with (first | ((with_reducible refine gate_dst (N := 2) rfl ?_); refine ZX (N := 2) (cs := #[.slice none 0 0, .slice none 0 0]) (t := 26) ?_; intro gb475 hg w5 hbox hb; have BK475 := AM (hbox); have GW475 := AM ((by rw [hg]; exact (keep_size (w := w) (g := g) (row := none) (ZJ)) : w.heap.size ≤ gb475)); have GE475 := AM ((Nat.le_trans HW0.out (by rw [hg]; exact (keep_size (w := w) (g := g) (row := none) (ZJ)) : w.heap.size ≤ gb475) : w0.heap.size ≤ gb475)); have NB0_475 := AM ((by rw [hg]; exact Nat.ne_of_lt (IsS64.lt (show IsS64 w0 _ g s0_0 s0_1 from ZI)) : g ≠ gb475)); have NB475_0 := AM ((by rw [hg]; exact Nat.ne_of_gt (IsS64.lt (show IsS64 w0 _ g s0_0 s0_1 from ZI)) : gb475 ≠ g)); replace HK := ZKT HK (KeepBut.of_below hb g none); replace HB := ZTI HB hb; replace HI0 := AM (IsS64.below (ZI) hb); clear hb hbox hg) | ((with_reducible refine gate_callee (f := 45) rfl ?_); refine ZGL (some 5) Try.func45 #[.pointer (some ⟨g, 0, none⟩)] ?_; (with_reducible refine (spec_l71Prog.calls k g s0_0 s0_1 t476 t479 t482 w0 _ ?side1 ?side2 A2.out).mono ?_); (case side1 => exact ZI); (case side2 => exact ZBI); rintro e w6 ⟨v477, v480, rfl, ho0, ho1, hi, hb, hk⟩; refine ZV1 ?_; have HO478 := AM (Kd.R_lower (Kd.R_newM (M := fun k_ => (w.heap.size ≤ k_)) ho0 (keep_size (w := w) (g := g) (row := none) (ZJ)) (fun k_ h_ => h_)) (keep_size (w := w) (g := g) (row := none) (ZJ))); have HO481 := AM (Kd.N_lower (Kd.N_mono (ok' := fun k_ => (w.heap.size ≤ k_) ∧ some k_ ≠ (v477 : Value).ownBlock ∧ k_ ≠ gb475 ∧ k_ ≠ g) (Kd.R_N (Kd.R_bound (Kd.R_apart' ho1 (Kd.R_typed ho0) (by decide)))) (fun k_ hk_ => ⟨(Nat.le_trans (keep_size (w := w) (g := g) (row := none) (ZJ)) hk_.2.1), hk_.1.2, (Kd.freshB (g := gb475) (o := .cells #[.slice none 0 0, .slice none 0 0] 26 (0, 0)) (ZK BK475.out) k_ hk_.2.1), (IsS64.fresh (ZI) k_ hk_.2.1)⟩)) (keep_size (w := w) (g := g) (row := none) (ZJ))); replace BK475 := ZL hk BK475 NB475_0; replace HK := ZKT HK hk; replace HB := AM (hb); replace HI0 := AM (hi); clear hb hk hi; (try clear ho0); (try clear ho1)) | ((with_reducible refine gate_dst (N := 3) rfl ?_); refine ZX (N := 3) (cs := #[.slice none 0 0, .slice none 0 0]) (t := 26) ?_; intro gb483 hg w7 hbox hb; have BK483 := AM (hbox); have GW483 := AM ((by rw [hg]; exact (keep_size (w := w) (g := g) (row := none) (ZJ)) : w.heap.size ≤ gb483)); have GE483 := AM ((Nat.le_trans HW0.out (by rw [hg]; exact (keep_size (w := w) (g := g) (row := none) (ZJ)) : w.heap.size ≤ gb483) : w0.heap.size ≤ gb483)); have NB475_483 : Za (gb475 ≠ gb483) := ZN hg BK475; have NB483_475 : Za (gb483 ≠ gb475) := ZM hg BK475; have NB0_483 := AM ((by rw [hg]; exact Nat.ne_of_lt (IsS64.lt (show IsS64 w0 _ g s0_0 t482 from ZI)) : g ≠ gb483)); have NB483_0 := AM ((by rw [hg]; exact Nat.ne_of_gt (IsS64.lt (show IsS64 w0 _ g s0_0 t482 from ZI)) : gb483 ≠ g)); replace HO478 := AM (Kd.R_below (ZR HO478.out) hb); replace HO481 := AM (Kd.N_below (Kd.N_elderB (ZRN HO481.out) gb483 (Nat.le_of_eq hg.symm)) hb); replace BK475 := ZW BK475 hb; replace HK := ZKT HK (KeepBut.of_below hb g none); replace HB := ZTI HB hb; replace HI0 := AM (IsS64.below (ZI) hb); clear hb hbox hg; obtain ⟨Ao8, co8, eo8⟩ := Kd.R_slice HO478.out; subst eo8; have hnb9 := NB483_475.out; have hnc9 := NB475_483.out; have hnb10 := NB483_0.out; have hnc10 := NB0_483.out; have hcz11 := ZC2 w7 BK483; obtain ⟨Ao12, co12, eo12⟩ := Kd.N_slice HO481.out; subst eo12) | ((with_reducible refine gate_callee (f := 38) rfl ?_); refine ZGL (some 7) Try.func38 #[.pointer (some ⟨g, 0, none⟩), .int .i64 3] ?_; (with_reducible refine (spec_l6Rd_pick.calls k g s0_0 t482 3 t484 t485 w0 _ ?side1 ?side2 A3.out).mono ?_); (case side1 => exact ZI); (case side2 => exact ZBI); rintro e w13 ⟨rfl, hi, hb, hk⟩; refine ZV1 ?_; replace BK475 := ZLV #[.slice none 0 0, .slice none 0 0] hk BK475 NB475_0; replace HO478 := AM (Kd.R_mono (Kd.R_keep (IsS64.apart (show IsS64 w0 _ g s0_0 t482 from ZI) (ZR ((Kd.R_mono (Kd.R_far (p := ⟨gb483, 1, none⟩) (Kd.R_far (p := ⟨gb483, 0, none⟩) (Kd.R_types HO478.out BK483.out (by decide)) (fun _ hk => hk.2) (.slice Ao8 t476.length co8)) (fun _ hk => hk.2) (.slice Ao12 t479.length co12)) (fun _ h_ => h_.1)))) (by decide)) hk (fun _ h => h.2)) (fun _ h => h.1)); replace HO481 := AM (Kd.N_mono (Kd.N_keep (Kd.N_mono (ok := fun k_ => ((((w.heap.size ≤ k_)) ∧ (some k_ ≠ (.slice Ao8 t476.length co8 : Value).ownBlock ∧ (k_ ≠ gb475 ∧ k_ ≠ g))) ∧ k_ ≠ gb483)) (by (with_reducible repeat (first | apply Kd.N_alloc | apply Kd.N_drewN | apply Kd.N_drew)); exact (ZNf (Kd.N_mono HO481.out (fun k_ hk => (⟨hk, hk.2⟩ : _ ∧ k_ ≠ gb483))) (fun _ h_ => ⟨h_.2, h_.1⟩))) (fun k_ hk_ => (⟨hk_, hk_.1.2.2.2⟩ : _ ∧ k_ ≠ g))) hk (fun _ h => h.2)) (fun _ h => h.1)); replace BK483 := ZLV #[.slice Ao8 t476.length co8, .slice Ao12 t479.length co12] hk BK483 NB483_0; replace HK := ZKT HK hk; replace HB := AM (hb); replace HI0 := AM (hi); clear hb hk hi))
 (try simp only [Act.put, List.setIfInBounds_toArray, List.set_cons_zero, List.set_cons_succ])
 go_cut [] (fun wc => ∃ (kq : Nat) (x1001_3 : Int) (x484000_3 : List (S35)) (x484001_3 : List (S40)) (u484000 : Value) (u484001 : Value), Za (spec_l71Any.j0 kq s0_0 x1001_3 x484000_3 x484001_3 = some (r1, r2, r3)) ∧ Za (kq ≤ k) ∧ Za (Kd.R k35 35 wc w.heap.size (fun k_ => (w.heap.size ≤ k_)) u484000 x484000_3) ∧ Za (Kd.N k40 40 wc w.heap.size (fun k_ => (w.heap.size ≤ k_) ∧ some k_ ≠ (u484000 : Value).ownBlock ∧ k_ ≠ gb475 ∧ k_ ≠ gb483 ∧ k_ ≠ g) u484001 x484001_3) ∧ Za (wc.heap[gb475]? = some (.cells #[(.slice none 0 0), (.slice none 0 0)] 26 (0, 0))) ∧ Za (wc.heap[gb483]? = some (.cells #[u484000, u484001] 26 (0, 0))) ∧ Za (IsS64 w0 wc g s0_0 x1001_3) ∧ Za (KeepBut w wc g none) ∧ Za (Below w0.heap.size w0 wc))
 case first => (
 have H := HC4.out
 clear HC4
 by_cases c14 : t484 > 0
 ·(
 rw [if_pos c14] at H
 have c14b0 := decide_eq_true c14
 clear c14
 (first | rw [c14b0] | (simp only [i64_w, i32_w]; rw [c14b0]) | skip)
 obtain ⟨⟨t486, t489, t492⟩, A15, H⟩ := ZOB H; try dsimp only at H
 have H' := AM H
 clear H
 go_wp2_with (first | ((with_reducible refine gate_callee (f := 46) rfl ?_); refine ZGL (some 10) Try.func46 #[.pointer (some ⟨g, 0, none⟩)] ?_; (with_reducible refine (spec_l71Fine.calls k g s0_0 t485 t486 t489 t492 w0 _ ?side1 ?side2 A15.out).mono ?_); (case side1 => exact ZI); (case side2 => exact ZBI); rintro e w16 ⟨v487, v490, rfl, ho0, ho1, hi, hb, hk⟩; refine ZV1 ?_; have HO488 := AM (Kd.R_lower (Kd.R_new' (Kd.R_newM (M := fun k_ => (w.heap.size ≤ k_)) (Kd.R_mono (ok' := fun k_ => True) ho0 (fun _ hk_ => trivial)) (keep_size (w := w) (g := g) (row := none) (ZJ)) (fun k_ h_ => h_)) (Kd.R_lt (ZR HO478.out))) (keep_size (w := w) (g := g) (row := none) (ZJ))); have HO491 := AM (Kd.N_lower (Kd.N_mono (ok' := fun k_ => (w.heap.size ≤ k_) ∧ some k_ ≠ (v487 : Value).ownBlock ∧ some k_ ≠ (.slice Ao8 t476.length co8 : Value).ownBlock ∧ some k_ ≠ (.slice Ao12 t479.length co12 : Value).ownBlock ∧ k_ ≠ gb475 ∧ k_ ≠ gb483 ∧ k_ ≠ g) ho1 (fun k_ hk_ => ⟨(Nat.le_trans (keep_size (w := w) (g := g) (row := none) (ZJ)) hk_.1), hk_.2, (Kd.fresh' (Kd.R_lt (ZR HO478.out)) k_ hk_.1), (Kd.fresh' (Kd.N_lt (ZRN HO481.out)) k_ hk_.1), (Kd.freshB (g := gb475) (o := .cells #[.slice none 0 0, .slice none 0 0] 26 (0, 0)) (ZK BK475.out) k_ hk_.1), (Kd.freshB (g := gb483) (o := .cells #[.slice Ao8 t476.length co8, .slice Ao12 t479.length co12] 26 (0, 0)) (ZK BK483.out) k_ hk_.1), (IsS64.fresh (ZI) k_ hk_.1)⟩)) (keep_size (w := w) (g := g) (row := none) (ZJ))); replace BK475 := ZL hk BK475 NB475_0; replace HO478 := AM (Kd.R_mono (Kd.R_told (Kd.R_oldK (IsS64.apart (show IsS64 w0 _ g s0_0 t485 from ZI) (ZR HO478.out) (by decide)) hk) (Kd.R_base ho0)) (fun _ h_ => h_.1)); replace HO481 := AM (Kd.N_mono (Kd.N_told (Kd.N_told (Kd.N_oldK (Kd.N_mono (ok := fun k_ => ((((w.heap.size ≤ k_)) ∧ (some k_ ≠ (.slice Ao8 t476.length co8 : Value).ownBlock ∧ (k_ ≠ gb475 ∧ k_ ≠ g))) ∧ k_ ≠ gb483)) (ZRN HO481.out) (fun k_ hk_ => (⟨hk_, hk_.1.2.2.2⟩ : _ ∧ k_ ≠ g))) hk) (Kd.R_base ho0)) (Kd.N_base ho1)) (fun _ h_ => h_.1)); replace BK483 := ZL hk BK483 NB483_0; replace HK := ZKT HK hk; replace HB := AM (hb); replace HI0 := AM (hi); clear hb hk hi; (try clear ho0); (try clear ho1); obtain ⟨Ao17, co17, eo17⟩ := Kd.R_slice HO488.out; subst eo17; have hnb18 := NB483_475.out; have hnc18 := NB475_483.out; have hnb19 := NB483_0.out; have hnc19 := NB0_483.out; have hcz20 := ZC2 w16 BK483; obtain ⟨Ao21, co21, eo21⟩ := Kd.N_slice HO491.out; subst eo21))
 go_meet
 case rel => exact ⟨_, (t492), (t486), (t489), (.slice Ao17 t486.length co17), (.slice Ao21 t489.length co21), H', ⟨by first | omega | exact Nat.le_refl _⟩, ⟨ZR (Kd.R_mono (Kd.R_far (p := ⟨gb483, 1, none⟩) (Kd.R_far (p := ⟨gb483, 0, none⟩) (Kd.R_types HO488.out BK483.out (by decide)) (fun _ hk => hk.2) (.slice Ao17 t486.length co17)) (fun _ hk => hk.2) (.slice Ao21 t489.length co21)) (fun _ hk => hk.1.1.1))⟩, ⟨ZNf (Kd.N_mono HO491.out (fun k_ hk => (⟨hk, hk.2.2.2.2.2.1⟩ : _ ∧ k_ ≠ gb483))) (fun _ hk => ⟨hk.2, ⟨hk.1.1, ⟨hk.1.2.1, ⟨hk.1.2.2.2.2.1, ⟨hk.1.2.2.2.2.2.1, hk.1.2.2.2.2.2.2⟩⟩⟩⟩⟩)⟩, ⟨ZZ BK475.out⟩, ⟨ZZ BK483.out⟩, ⟨ZI⟩, ⟨ZJ⟩, ⟨ZBI⟩⟩)
 ·(
 rw [if_neg c14] at H
 have c14b0 := decide_eq_false c14
 clear c14
 (first | rw [c14b0] | (simp only [i64_w, i32_w]; rw [c14b0]) | skip)
 have H' := AM H
 clear H
 go_wp2
 go_meet
 case rel => exact ⟨_, (t485), (t476), (t479), (.slice Ao8 t476.length co8), (.slice Ao12 t479.length co12), H', ⟨by first | omega | exact Nat.le_refl _⟩, ⟨ZR (Kd.R_mono HO478.out (fun _ hk => hk.1))⟩, ⟨ZNm HO481.out (fun _ hk => ⟨hk.1.1, ⟨hk.1.2.1, ⟨hk.1.2.2.1, ⟨hk.2, hk.1.2.2.2⟩⟩⟩⟩)⟩, ⟨ZK BK475.out⟩, ⟨ZK BK483.out⟩, ⟨ZI⟩, ⟨ZJ⟩, ⟨ZBI⟩⟩))
 case rest => (
 clear HC4
 try clear c1
 try clear c2
 try clear p2
 try clear c3
 try clear c4
 try clear c9
 try clear c10
 try clear c14
 try clear c14b0
 try clear c18
 try clear c19
 try clear hcz11
 try clear hcz20
 obtain ⟨kq, x1001_3, x484000_3, x484001_3, u484000, u484001, HA, HJ3, HO_484000, HO_484001, BK475, BK483, HI0, HK, HB⟩ := hcut
 cases kq with
 | zero => exact absurd HA.out (by simp [spec_l71Any.j0])
 | succ kj3 =>
  have H := HA.out
  clear HA
  simp only [spec_l71Any.j0] at H
  obtain ⟨⟨t493, t494⟩, A22, H⟩ := ZOB H; try dsimp only at H
  by_cases c23 : t493 = 0
  ·(
  rw [if_pos c23] at H
  have c23b0 := beq_iff_eq.mpr c23
  have c23b1 := bne_eq_false_iff_eq.mpr c23
  clear c23
  obtain ⟨⟨t495, t498, t501⟩, A24, H⟩ := ZOB H; try dsimp only at H
  simp only [Option.some.injEq, Prod.mk.injEq] at H
  obtain ⟨rfl, rfl, rfl⟩ := H
  go_wp2_with (first | ((with_reducible refine gate_callee (f := 38) rfl ?_); refine ZGL (some 12) Try.func38 #[.pointer (some ⟨g, 0, none⟩), .int .i64 16] ?_; (with_reducible refine (spec_l6Rd_pick.calls kj3 g s0_0 x1001_3 16 t493 t494 w0 _ ?side1 ?side2 A22.out).mono ?_); (case side1 => exact ZI); (case side2 => exact ZBI); rintro e w25 ⟨rfl, hi, hb, hk⟩; refine ZV1 ?_; replace HO_484000 := AM (Kd.R_mono (Kd.R_keep (IsS64.apart (show IsS64 w0 _ g s0_0 x1001_3 from ZI) (ZR HO_484000.out) (by decide)) hk (fun _ h => h.2)) (fun _ h => h.1)); replace HO_484001 := AM (Kd.N_mono (Kd.N_keep (Kd.N_mono (ok := fun k_ => (((w.heap.size ≤ k_)) ∧ (some k_ ≠ (u484000 : Value).ownBlock ∧ (k_ ≠ gb475 ∧ (k_ ≠ gb483 ∧ k_ ≠ g))))) (ZRN HO_484001.out) (fun k_ hk_ => (⟨hk_, hk_.2.2.2.2⟩ : _ ∧ k_ ≠ g))) hk (fun _ h => h.2)) (fun _ h => h.1)); replace BK475 := ZL hk BK475 NB475_0; replace BK483 := ZL hk BK483 NB483_0; replace HK := ZKT HK hk; replace HB := AM (hb); replace HI0 := AM (hi); clear hb hk hi; have hnb26 := NB483_475.out; have hnc26 := NB475_483.out; have hnb27 := NB483_0.out; have hnc27 := NB0_483.out; have hcz28 := ZC2 w25 BK483; obtain ⟨Ao29, co29, eo29⟩ := Kd.R_slice HO_484000.out; subst eo29; obtain ⟨Ao30, co30, eo30⟩ := Kd.N_slice HO_484001.out; subst eo30) | ((with_reducible refine gate_callee (f := 47) rfl ?_); refine ZGL (some 16) Try.func47 #[.pointer (some ⟨g, 0, none⟩), .agg #[.slice Ao29 x484000_3.length co29, .slice Ao30 x484001_3.length co30]] ?_; (with_reducible refine (spec_l71Bent.calls kj3 g s0_0 t494 _ _ x484000_3 _ _ x484001_3 t495 t498 t501 w0 _ ?side1 ?side2 ?side3 ?side4 ?side5 ?side6 A24.out).mono ?_); (case side1 => exact ZI); (case side2 => exact ZBI); (case side3 => exact Kd.C_foot_own (IsS64.apart (show IsS64 w0 _ g s0_0 t494 from ZI) (ZR HO_484000.out) (by decide)) (fun _ h_ => h_.2)); (case side4 => exact (Kd.R_reads' HO_484000.out).2.1); (case side5 => exact Kd.C_foot_ownV (base := 0) (Kd.N_V (Kd.N_mono (ok := fun k_ => (((w.heap.size ≤ k_)) ∧ (some k_ ≠ (.slice Ao29 x484000_3.length co29 : Value).ownBlock ∧ (k_ ≠ gb475 ∧ (k_ ≠ gb483 ∧ k_ ≠ g))))) (ZRN HO_484001.out) (fun k_ hk_ => (⟨hk_, hk_.2.2.2.2⟩ : _ ∧ k_ ≠ g)))) (fun _ h_ => h_.2)); (case side6 => exact (Kd.N_reads' HO_484001.out).2.1); rintro e w31 ⟨v496, v499, rfl, ho0, ho1, hi, hb, hk⟩; refine ZV1 ?_; have HO497 := AM (Kd.R_lower (Kd.R_new' (Kd.R_newM (M := fun k_ => (w.heap.size ≤ k_)) (Kd.R_mono (ok' := fun k_ => True) ho0 (fun _ hk_ => trivial)) (keep_size (w := w) (g := g) (row := none) (ZJ)) (fun k_ h_ => h_)) (Kd.R_lt (ZR HO_484000.out))) (keep_size (w := w) (g := g) (row := none) (ZJ))); have HO500 := AM (Kd.N_lower (Kd.N_mono (ok' := fun k_ => (w.heap.size ≤ k_) ∧ some k_ ≠ (v496 : Value).ownBlock ∧ some k_ ≠ (.slice Ao29 x484000_3.length co29 : Value).ownBlock ∧ some k_ ≠ (.slice Ao30 x484001_3.length co30 : Value).ownBlock ∧ k_ ≠ gb475 ∧ k_ ≠ gb483 ∧ k_ ≠ g) ho1 (fun k_ hk_ => ⟨(Nat.le_trans (keep_size (w := w) (g := g) (row := none) (ZJ)) hk_.1), hk_.2, (Kd.fresh' (Kd.R_lt (ZR HO_484000.out)) k_ hk_.1), (Kd.fresh' (Kd.N_lt (ZRN HO_484001.out)) k_ hk_.1), (Kd.freshB (g := gb475) (o := .cells #[.slice none 0 0, .slice none 0 0] 26 (0, 0)) (ZK BK475.out) k_ hk_.1), (Kd.freshB (g := gb483) (o := .cells #[.slice Ao29 x484000_3.length co29, .slice Ao30 x484001_3.length co30] 26 (0, 0)) (ZK BK483.out) k_ hk_.1), (IsS64.fresh (ZI) k_ hk_.1)⟩)) (keep_size (w := w) (g := g) (row := none) (ZJ))); replace HO_484000 := AM (Kd.R_mono (Kd.R_told (Kd.R_oldK (IsS64.apart (show IsS64 w0 _ g s0_0 t494 from ZI) (ZR HO_484000.out) (by decide)) hk) (Kd.R_base ho0)) (fun _ h_ => h_.1)); replace HO_484001 := AM (Kd.N_mono (Kd.N_told (Kd.N_told (Kd.N_oldK (Kd.N_mono (ok := fun k_ => (((w.heap.size ≤ k_)) ∧ (some k_ ≠ (.slice Ao29 x484000_3.length co29 : Value).ownBlock ∧ (k_ ≠ gb475 ∧ (k_ ≠ gb483 ∧ k_ ≠ g))))) (ZRN HO_484001.out) (fun k_ hk_ => (⟨hk_, hk_.2.2.2.2⟩ : _ ∧ k_ ≠ g))) hk) (Kd.R_base ho0)) (Kd.N_base ho1)) (fun _ h_ => h_.1)); replace BK475 := ZL hk BK475 NB475_0; replace BK483 := ZL hk BK483 NB483_0; replace HK := ZKT HK hk; replace HB := AM (hb); replace HI0 := AM (hi); clear hb hk hi; (try clear ho0); (try clear ho1); obtain ⟨Ao32, co32, eo32⟩ := Kd.R_slice HO497.out; subst eo32; have hnb33 := NB475_0.out; have hnc33 := NB0_475.out; have hcz34 := ZC2 w31 BK475; obtain ⟨Ao35, co35, eo35⟩ := Kd.N_slice HO500.out; subst eo35))
  refine bodyPost_ret (results_cell_row rfl _ _ gb475 26 #[.slice Ao32 t495.length co32, .slice Ao35 t498.length co35] (0, 0) _ rfl (ZZ BK475.out) Try.underlying26 rfl (by kernel_rfl)) rfl ?_
  exact ⟨_, _, ZE, ZRf (Kd.R_types HO497.out BK475.out (by decide)) (fun _ hk => ⟨hk.2, hk.1.1.1⟩), ZNf (Kd.N_mono HO500.out (fun k_ hk => (⟨hk, hk.2.2.2.2.1⟩ : _ ∧ k_ ≠ gb475))) (fun _ hk => ⟨hk.2, ⟨hk.1.1, hk.1.2.1⟩⟩), ZI, ZBI, ZJ⟩)
  ·(
  rw [if_neg c23] at H
  have c23b0 := beq_eq_false_iff_ne.mpr c23
  have c23b1 := bne_iff_ne.mpr c23
  simp only [Option.some.injEq, Prod.mk.injEq] at H
  obtain ⟨rfl, rfl, rfl⟩ := H
  go_wp2_with (first | ((with_reducible refine gate_callee (f := 38) rfl ?_); refine ZGL (some 12) Try.func38 #[.pointer (some ⟨g, 0, none⟩), .int .i64 16] ?_; (with_reducible refine (spec_l6Rd_pick.calls kj3 g s0_0 x1001_3 16 t493 t494 w0 _ ?side1 ?side2 A22.out).mono ?_); (case side1 => exact ZI); (case side2 => exact ZBI); rintro e w36 ⟨rfl, hi, hb, hk⟩; refine ZV1 ?_; replace HO_484000 := AM (Kd.R_mono (Kd.R_keep (IsS64.apart (show IsS64 w0 _ g s0_0 x1001_3 from ZI) (ZR HO_484000.out) (by decide)) hk (fun _ h => h.2)) (fun _ h => h.1)); replace HO_484001 := AM (Kd.N_mono (Kd.N_keep (Kd.N_mono (ok := fun k_ => (((w.heap.size ≤ k_)) ∧ (some k_ ≠ (u484000 : Value).ownBlock ∧ (k_ ≠ gb475 ∧ (k_ ≠ gb483 ∧ k_ ≠ g))))) (ZRN HO_484001.out) (fun k_ hk_ => (⟨hk_, hk_.2.2.2.2⟩ : _ ∧ k_ ≠ g))) hk (fun _ h => h.2)) (fun _ h => h.1)); replace BK475 := ZL hk BK475 NB475_0; replace BK483 := ZL hk BK483 NB483_0; replace HK := ZKT HK hk; replace HB := AM (hb); replace HI0 := AM (hi); clear hb hk hi; have hnb37 := NB483_475.out; have hnc37 := NB475_483.out; have hnb38 := NB483_0.out; have hnc38 := NB0_483.out; have hcz39 := ZC2 w36 BK483; obtain ⟨Ao40, co40, eo40⟩ := Kd.R_slice HO_484000.out; subst eo40; have hnb41 := NB475_0.out; have hnc41 := NB0_475.out; have hcz42 := ZC2 w36 BK475; obtain ⟨Ao43, co43, eo43⟩ := Kd.N_slice HO_484001.out; subst eo43))
  refine bodyPost_ret (results_cell_row rfl _ _ gb475 26 #[.slice Ao40 x484000_3.length co40, .slice Ao43 x484001_3.length co43] (0, 0) _ rfl (ZZ BK475.out) Try.underlying26 rfl (by kernel_rfl)) rfl ?_
  exact ⟨_, _, ZE, ZRf (Kd.R_types HO_484000.out BK475.out (by decide)) (fun _ hk => ⟨hk.2, hk.1⟩), ZNf (Kd.N_mono HO_484001.out (fun k_ hk => (⟨hk, hk.2.2.1⟩ : _ ∧ k_ ≠ gb475))) (fun _ hk => ⟨hk.2, ⟨hk.1.1, hk.1.2.1⟩⟩), ZI, ZBI, ZJ⟩))

/-! ### spec_l6Open: function 24 -/
def spec_l6Open.f (l0 : List Int) : Option (List Int × Int) := if (l0.length : Int) > 2000 then (if 2000 ≤ (l0.length : Int) then (some (l0.take 2000, 0)) else (none)) else (some (l0, 0))
theorem spec_l6Open.calls (A0 : Option Addr) (c0 : Nat) (l0 : List Int) (r1 : List Int) (r2 : Int) (w0 w : World) (hB : Below w0.heap.size w0 w) (hr0 : Kd.C (Kd.int .u8) w0 A0 l0.length l0) (hc0 : l0.length ≤ c0) (h : spec_l6Open.f l0 = some (r1, r2)) :
  Calls Try.prog 24 #[.slice A0 l0.length c0] w fun e w' => ∃ g_ : Nat, e = .returned (.pointer (some ⟨g_, 0, none⟩)) ∧ IsS64 w0 w' g_ r1 r2 ∧ Below w0.heap.size w0 w' ∧ Below w.heap.size w w' := by
 have hu64 := Try.underlying64
 have HR0 := AM hr0
 have HC0 := AM hc0
 clear hr0 hc0
 have HBW := AM (Below.refl w.heap.size w)
 have HW0 := AM hB.size
 have HB := AM hB
 clear hB
 have H := h
 unfold spec_l6Open.f at H
 clear h
 by_cases c2 : (l0.length : Int) > 2000
 ·(
 rw [if_pos c2] at H
 have c2b0 := decide_eq_true c2
 have c2b1 : decide (2000 < l0.length) = true := decide_eq_true (by omega)
 clear c2
 by_cases c3 : 2000 ≤ (l0.length : Int)
 ·(
 rw [if_pos c3] at H
 have c3b0 := eq_true c3
 have c3b1 := decide_eq_true c3
 clear c3
 simp only [Option.some.injEq, Prod.mk.injEq] at H
 obtain ⟨rfl, rfl⟩ := H
 obtain ⟨i04, hi04, _, hsz4, _⟩ := info_parts info5
 obtain ⟨hcut4, hA4, hC4⟩ := print_take_of (P := Try.prog) (Value.int .u8) 0 22 5 .i64 Try.underlying22 hi04 hsz4 A0 c0 l0 2000 (by omega) (ZD) HC0.out
 have HR502 := AM (Kd.C_of_reads (h1 := fun _ => rfl) (hA4 _ (Kd.reads_of_C HR0.out)))
 have HC502 := AM hC4
 clear hA4 hC4 hi04 hsz4
 go_enter Try.func24, Try.ntmps24
 go_wp2_with (first | ((with_reducible refine gate_dst (N := 10) rfl ?_); refine ZX (N := 10) (cs := #[.slice A0 (l0.take 2000).length c0, .int .i64 0]) (t := 64) ?_; intro gb503 hg w5 hbox hb; have BK503 := AM (hbox); have GW503 := AM ((by rw [hg]; exact (below_size (by repeat (first | (with_reducible first | exact HBW.out | apply below_alloc | apply pw_below_drewN | apply below_drew1) | exact HBW.out))) : w.heap.size ≤ gb503)); have GE503 := AM ((Nat.le_trans HW0.out (by rw [hg]; exact (below_size (by repeat (first | (with_reducible first | exact HBW.out | apply below_alloc | apply pw_below_drewN | apply below_drew1) | exact HBW.out))) : w.heap.size ≤ gb503) : w0.heap.size ≤ gb503)); replace HBW := AM (below_step HBW.out hb); replace HB := ZT HB hb; clear hb hbox hg))
 go_ret
 exact ⟨_, rfl, (show IsS64 w0 _ gb503 (l0.take 2000) 0 from ⟨_, _, by (with_reducible repeat (first | refine blk_drewN ?_ _ | refine blk_drew ?_ | refine blk_alloc ?_ _)); exact BK503.out, GE503.out, HR502.out⟩), ZB, by repeat (first | (with_reducible first | exact HBW.out | apply below_alloc | apply pw_below_drewN | apply below_drew1 | refine below_set ?_ GW503.out) | exact HBW.out)⟩)
 ·(
 rw [if_neg c3] at H
 exact absurd H (by simp)))
 ·(
 rw [if_neg c2] at H
 have c2b0 := decide_eq_false c2
 have c2b1 : decide (2000 < l0.length) = false := decide_eq_false (by omega)
 clear c2
 simp only [Option.some.injEq, Prod.mk.injEq] at H
 obtain ⟨rfl, rfl⟩ := H
 go_enter Try.func24, Try.ntmps24
 go_wp2_with (first | ((with_reducible refine gate_dst (N := 10) rfl ?_); refine ZX (N := 10) (cs := #[.slice A0 l0.length c0, .int .i64 0]) (t := 64) ?_; intro gb504 hg w6 hbox hb; have BK504 := AM (hbox); have GW504 := AM ((by rw [hg]; exact (below_size (by repeat (first | (with_reducible first | exact HBW.out | apply below_alloc | apply pw_below_drewN | apply below_drew1) | exact HBW.out))) : w.heap.size ≤ gb504)); have GE504 := AM ((Nat.le_trans HW0.out (by rw [hg]; exact (below_size (by repeat (first | (with_reducible first | exact HBW.out | apply below_alloc | apply pw_below_drewN | apply below_drew1) | exact HBW.out))) : w.heap.size ≤ gb504) : w0.heap.size ≤ gb504)); replace HBW := AM (below_step HBW.out hb); replace HB := ZT HB hb; clear hb hbox hg))
 go_ret
 exact ⟨_, rfl, (show IsS64 w0 _ gb504 l0 0 from ⟨_, _, by (with_reducible repeat (first | refine blk_drewN ?_ _ | refine blk_drew ?_ | refine blk_alloc ?_ _)); exact BK504.out, GE504.out, HR0.out⟩), ZB, by repeat (first | (with_reducible first | exact HBW.out | apply below_alloc | apply pw_below_drewN | apply below_drew1 | refine below_set ?_ GW504.out) | exact HBW.out)⟩)

/-! ### spec_ProgSize: function 39 -/
def spec_ProgSize.f (k : Nat) (l0_0 : List (S35)) (l0_1 : List (S40)) : Option (Int) := (spec_ProgOk.f k l0_0 l0_1).bind fun t506 => (if t506 = true then ((spec_l2Count.f k l0_1).bind fun t507 => (some t507)) else (some (-1)))
theorem spec_ProgSize.calls (k : Nat) (A0_0 : Option Addr) (c0_0 : Nat) (l0_0 : List (S35)) (A0_1 : Option Addr) (c0_1 : Nat) (l0_1 : List (S40)) (r : Int) (w : World) (hr0_0 : Kd.C k35 w A0_0 l0_0.length l0_0) (hc0_0 : l0_0.length ≤ c0_0) (hr0_1 : Kd.C k40 w A0_1 l0_1.length l0_1) (hc0_1 : l0_1.length ≤ c0_1) (h : spec_ProgSize.f k l0_0 l0_1 = some r) :
  Calls Try.prog 39 #[.agg #[.slice A0_0 l0_0.length c0_0, .slice A0_1 l0_1.length c0_1]] w fun e w' => e = .returned (.int .i64 r) ∧ Below w.heap.size w w' := by
 have hu26 := Try.underlying26
 have HR0_0 := AM hr0_0
 have HC0_0 := AM hc0_0
 clear hr0_0 hc0_0
 have HR0_1 := AM hr0_1
 have HC0_1 := AM hc0_1
 clear hr0_1 hc0_1
 have HB := AM (Below.refl w.heap.size w)
 have H := h
 unfold spec_ProgSize.f at H
 clear h
 obtain ⟨t506, A2, H⟩ := ZOB H; try dsimp only at H
 by_cases c3 : t506 = true
 ·(
 subst c3
 have H1 := H; rw [if_pos rfl] at H1
 clear H
 have H := H1
 clear H1
 obtain ⟨t507, A4, H⟩ := ZOB H; try dsimp only at H
 obtain rfl := Option.some.inj H
 go_enter Try.func39, Try.ntmps39
 go_wp2_with (first | ((with_reducible refine gate_dst (N := 1) rfl ?_); refine ZXW w (N := 1) (cs := #[.slice A0_0 l0_0.length c0_0, .slice A0_1 l0_1.length c0_1]) (t := 26) ?_; intro gb505 hg w5 BK505 GW505 hb; replace HB := ZT HB hb; clear hb hg; have hcz6 := ZC2 w5 BK505) | ((with_reducible refine gate_callee (f := 16) rfl ?_); refine ZGL (some 4) Try.func16 #[.agg #[.slice A0_0 l0_0.length c0_0, .slice A0_1 l0_1.length c0_1]] ?_; (with_reducible refine (spec_ProgOk.calls k _ _ l0_0 _ _ l0_1 true _ (ZQ (Kd.C_below HR0_0.out HB.out)) HC0_0.out (ZQ (Kd.C_below HR0_1.out HB.out)) HC0_1.out A2.out).mono ?_); rintro e w7 ⟨rfl, hb⟩; refine ZV1 ?_; replace BK505 := ZW BK505 hb; replace HB := ZT HB hb; clear hb; have hcz8 := ZC2 w7 BK505) | ((with_reducible refine gate_callee (f := 35) rfl ?_); refine ZGL (some 8) Try.func35 #[.slice A0_1 l0_1.length c0_1] ?_; (with_reducible refine (spec_l2Count.calls k _ _ l0_1 t507 _ (ZQ (Kd.C_below HR0_1.out HB.out)) HC0_1.out A4.out).mono ?_); rintro e w9 ⟨rfl, hb⟩; refine ZV1 ?_; replace BK505 := ZW BK505 hb; replace HB := ZT HB hb; clear hb))
 go_ret
 exact ⟨ZE, ZB⟩)
 ·(
 replace c3 := Bool.eq_false_iff.mpr c3
 subst c3
 have H1 := H; rw [if_neg ZFT] at H1
 clear H
 have H := H1
 clear H1
 obtain rfl := Option.some.inj H
 go_enter Try.func39, Try.ntmps39
 go_wp2_with (first | ((with_reducible refine gate_dst (N := 1) rfl ?_); refine ZXW w (N := 1) (cs := #[.slice A0_0 l0_0.length c0_0, .slice A0_1 l0_1.length c0_1]) (t := 26) ?_; intro gb505 hg w10 BK505 GW505 hb; replace HB := ZT HB hb; clear hb hg; have hcz11 := ZC2 w10 BK505) | ((with_reducible refine gate_callee (f := 16) rfl ?_); refine ZGL (some 4) Try.func16 #[.agg #[.slice A0_0 l0_0.length c0_0, .slice A0_1 l0_1.length c0_1]] ?_; (with_reducible refine (spec_ProgOk.calls k _ _ l0_0 _ _ l0_1 false _ (ZQ (Kd.C_below HR0_0.out HB.out)) HC0_0.out (ZQ (Kd.C_below HR0_1.out HB.out)) HC0_1.out A2.out).mono ?_); rintro e w12 ⟨rfl, hb⟩; refine ZV1 ?_; replace BK505 := ZW BK505 hb; replace HB := ZT HB hb; clear hb))
 go_ret
 exact ⟨ZE, ZB⟩)

end Go.Proofs.Ytkkdeojbkfjlpaa.B
