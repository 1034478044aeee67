/- What Go functions compute, as Lean functions, and for each its contract: for every input at which the Lean function answers the call returns that; written by wip/tools/pr.py over the kit's print. -/
import Derived.Test.YtcffnnedghgmaaaAx0
import Derived.Test.YtcffnnedghgmaaaAx34
import Derived.Test.YtcffnnedghgmaaaAx36
namespace Go.Proofs.Ytcffnnedghgmaaa.A
open Go.RowKit Go.Proofs.YtcffnnedghgmaaaW.PrintWords Go.Proofs.YtcffnnedghgmaaaW.PrintLast Go.Proofs.YtcffnnedghgmaaaW.PrintMore
attribute [local go_sem] max2_int min2_int max_two min_two max_three min_three max_four min_four   -- for this text's walks alone
set_option linter.unusedVariables false
set_option linter.unusedSimpArgs false

/-! ### impl_Prog_source: function 138 -/
def impl_Prog_source.l0 : Nat → List Int → Int → Int → List (S35) → List (S59) → Int → Int → Option (Int × Int)
 | 0, _, _, _, _, _, _, _ => none
 | k + 1, x11, x12, x13, x531000, x531001, x533000, x533001 => if x13 < x12 then (if 0 ≤ x13 then (if x13 < (x11.length : Int) then (if 0 ≤ (rd x11 x13) then (if (rd x11 x13) < (x531000.length : Int) then ((impl_Label_both.f x533000 x533001 ((rd_T35 x531000 (rd x11 x13)).f0) ((rd_T35 x531000 (rd x11 x13)).f1)).bind fun bt539 => (impl_Prog_source.l0 k x11 x12 (wrap64 (x13 + 1)) x531000 x531001 bt539.1 bt539.2)) else (none)) else (none)) else (none)) else (none)) else (some (x533000, x533001))
def impl_Prog_source.f (k : Nat) (l0_0 : List (S35)) (l0_1 : List (S59)) (a1_0 : Int) (a1_1 : Int) (a1_2 : Int) (a1_3 : Int) (a1_4 : Int) (a1_5 : Int) (l1_6 : List (S59)) (l1_7 : List (S59)) (a2_0 : Int) (a2_1 : Int) : Option (Int × Int) := (impl_Val_vars.f a1_2 a1_3 a1_4).bind fun t534 => (impl_Prog_source.l0 k t534 (t534.length : Int) 0 l0_0 l0_1 a2_0 a2_1)
def impl_Prog_source.T4 : Bool × List (List Nat × List Nat) := (true, [([], []), ([], []), ([1], [1]), ([], []), ([2, 3], [2, 3]), ([4], [4]), ([0, 5], [0, 5]), ([6, 6, 0, 1, 2, 3, 4, 5, 6], [6])])
def impl_Prog_source.B4 : List Nat := [0, 0, 2, 0, 14, 30, 63, 127]
theorem impl_Prog_source.tab4 : rtab .any (opsOf Try.f138 4) = impl_Prog_source.T4 := by kernel_rfl
theorem impl_Prog_source.bits4 : waitsOk impl_Prog_source.T4.2 impl_Prog_source.B4 = true := by kernel_rfl
set_option maxHeartbeats 8000000 in
set_option maxRecDepth 100000 in
theorem impl_Prog_source.calls (k : Nat) (A0_0 : Option Addr) (c0_0 : Nat) (l0_0 : List (S35)) (A0_1 : Option Addr) (c0_1 : Nat) (l0_1 : List (S59)) (a1_0 : Int) (a1_1 : Int) (a1_2 : Int) (a1_3 : Int) (a1_4 : Int) (a1_5 : Int) (A1_6 : Option Addr) (c1_6 : Nat) (l1_6 : List (S59)) (A1_7 : Option Addr) (c1_7 : Nat) (l1_7 : List (S59)) (a2_0 : Int) (a2_1 : Int) (r1 : Int) (r2 : Int) (w : World) (hr0_0 : Kd.C k35 w A0_0 l0_0.length l0_0) (hc0_0 : l0_0.length ≤ c0_0) (hr0_1 : Kd.C k59 w A0_1 l0_1.length l0_1) (hc0_1 : l0_1.length ≤ c0_1) (hr1_6 : Kd.C k59 w A1_6 l1_6.length l1_6) (hc1_6 : l1_6.length ≤ c1_6) (hr1_7 : Kd.C k59 w A1_7 l1_7.length l1_7) (hc1_7 : l1_7.length ≤ c1_7) (h : impl_Prog_source.f k l0_0 l0_1 a1_0 a1_1 a1_2 a1_3 a1_4 a1_5 l1_6 l1_7 a2_0 a2_1 = some (r1, r2)) :
  Calls Try.prog 138 #[.agg #[.slice A0_0 l0_0.length c0_0, .slice A0_1 l0_1.length c0_1], .agg #[.int .i64 a1_0, .int .i64 a1_1, .int .i64 a1_2, .int .i64 a1_3, .int .i64 a1_4, .int .i64 a1_5, .slice A1_6 l1_6.length c1_6, .slice A1_7 l1_7.length c1_7], .agg #[.int .i64 a2_0, .int .i64 a2_1]] w fun e w' => e = .returned (.agg #[.int .i64 r1, .int .i64 r2]) ∧ Below w.heap.size w w' := by
 have hu26 := Try.underlying26
 have hu59 := Try.underlying59
 have hu35 := Try.underlying35
 have hu57 := Try.underlying57
 have HR0_0 := Aside0.mk hr0_0
 have HC0_0 := Aside0.mk hc0_0
 clear hr0_0 hc0_0
 have HR0_1 := Aside0.mk hr0_1
 have HC0_1 := Aside0.mk hc0_1
 clear hr0_1 hc0_1
 have HR1_6 := Aside0.mk hr1_6
 have HC1_6 := Aside0.mk hc1_6
 clear hr1_6 hc1_6
 have HR1_7 := Aside0.mk hr1_7
 have HC1_7 := Aside0.mk hc1_7
 clear hr1_7 hc1_7
 have HB := Aside0.mk (Below.refl w.heap.size w)
 have H : ((impl_Val_vars.f a1_2 a1_3 a1_4).bind fun t534 => (impl_Prog_source.l0 k t534 (t534.length : Int) 0 l0_0 l0_1 a2_0 a2_1)) = some (r1, r2) := h
 clear h
 replace H := Option.bind_eq_some_iff.mp H
 obtain ⟨t534, A40, H⟩ := H
 replace H : (impl_Prog_source.l0 k t534 (t534.length : Int) 0 l0_0 l0_1 a2_0 a2_1) = some (r1, r2) := H
 have A4 := Aside0.mk A40
 clear A40
 have H' := Aside0.mk H
 clear H
 go_enter Try.func138, Try.ntmps138
 go_wp2_with (first | ((with_reducible refine gate_dst (N := 3) rfl ?_); refine ZX (N := 3) (cs := #[.slice A0_0 l0_0.length c0_0, .slice A0_1 l0_1.length c0_1]) (t := 26) ?_; intro gb530 hg w5 hbox hb; have BK530 := Aside0.mk (hbox); have GW530 : Aside0 (w.heap.size ≤ gb530) := ZS hg; have GE530 : Aside0 (w.heap.size ≤ gb530) := ZS hg; replace HB := ZT hb; clear hb hbox hg) | ((with_reducible refine gate_dst (N := 4) rfl ?_); refine ZX (N := 4) (cs := #[.int .i64 a1_0, .int .i64 a1_1, .int .i64 a1_2, .int .i64 a1_3, .int .i64 a1_4, .int .i64 a1_5, .slice A1_6 l1_6.length c1_6, .slice A1_7 l1_7.length c1_7]) (t := 59) ?_; intro gb531 hg w6 hbox hb; have BK531 := Aside0.mk (hbox); have GW531 : Aside0 (w.heap.size ≤ gb531) := ZS hg; have GE531 : Aside0 (w.heap.size ≤ gb531) := ZS hg; have NB530_531 : Aside0 (gb530 ≠ gb531) := ZN hg BK530; have NB531_530 : Aside0 (gb531 ≠ gb530) := ZM hg BK530; replace BK530 := ZW BK530 hb; replace HB := ZT hb; clear hb hbox hg) | ((with_reducible refine gate_dst (N := 5) rfl ?_); refine ZX (N := 5) (cs := #[.int .i64 a2_0, .int .i64 a2_1]) (t := 35) ?_; intro gb532 hg w7 hbox hb; have BK532 := Aside0.mk (hbox); have GW532 : Aside0 (w.heap.size ≤ gb532) := ZS hg; have GE532 : Aside0 (w.heap.size ≤ gb532) := ZS hg; have NB530_532 : Aside0 (gb530 ≠ gb532) := ZN hg BK530; have NB532_530 : Aside0 (gb532 ≠ gb530) := ZM hg BK530; have NB531_532 : Aside0 (gb531 ≠ gb532) := ZN hg BK531; have NB532_531 : Aside0 (gb532 ≠ gb531) := ZM hg BK531; replace BK530 := ZW BK530 hb; replace BK531 := ZW BK531 hb; replace HB := ZT hb; clear hb hbox hg) | ((with_reducible refine gate_dst (N := 6) rfl ?_); refine ZX (N := 6) (cs := #[.int .i64 0, .int .i64 0]) (t := 35) ?_; intro gb533 hg w8 hbox hb; have BK533 := Aside0.mk (hbox); have GW533 : Aside0 (w.heap.size ≤ gb533) := ZS hg; have GE533 : Aside0 (w.heap.size ≤ gb533) := ZS hg; have NB530_533 : Aside0 (gb530 ≠ gb533) := ZN hg BK530; have NB533_530 : Aside0 (gb533 ≠ gb530) := ZM hg BK530; have NB531_533 : Aside0 (gb531 ≠ gb533) := ZN hg BK531; have NB533_531 : Aside0 (gb533 ≠ gb531) := ZM hg BK531; have NB532_533 : Aside0 (gb532 ≠ gb533) := ZN hg BK532; have NB533_532 : Aside0 (gb533 ≠ gb532) := ZM hg BK532; replace BK530 := ZW BK530 hb; replace BK531 := ZW BK531 hb; replace BK532 := ZW BK532 hb; replace HB := ZT hb; clear hb hbox hg; have hnb9 := NB531_530.out; have hnc9 := NB530_531.out; have hnb10 := NB531_532.out; have hnc10 := NB532_531.out; have hnb11 := NB531_533.out; have hnc11 := NB533_531.out; obtain ⟨hcz12_0, hcz12_1, hcz12_2, hcz12_3, hcz12_4, hcz12_5, hcz12_6, hcz12_7⟩ := ZC8 w8 BK531; obtain ⟨hfz12_0, hfz12_1, hfz12_2, hfz12_3, hfz12_4, hfz12_5, hfz12_6, hfz12_7⟩ := ZF8 BK531) | ((with_reducible refine gate_callee (f := 148) rfl ?_); refine goesL_ (some 11) rfl rfl Try.func148 (by kernel_rfl) rfl #[.agg #[.int .i64 a1_2, .int .i64 a1_3, .int .i64 a1_4]] rfl ZG ?_; (with_reducible refine (impl_Val_vars.calls a1_2 a1_3 a1_4 t534 _ A4.out).mono ?_); rintro e w13 ⟨v535, rfl, ho0, hb⟩; refine ⟨_, rfl, ?_⟩; have HO536 := Aside0.mk (Kd.R_lower ho0 (below_size (ZB))); replace BK530 := ZW BK530 hb; replace BK531 := ZW BK531 hb; replace BK532 := ZW BK532 hb; replace BK533 := ZW BK533 hb; replace HB := ZT hb; (try clear hb); (try clear hb2); (try clear hk); (try clear hi); (try clear ho0); obtain ⟨Ao14, co14, eo14⟩ := Kd.R_slice HO536.out; subst eo14))
 go_loopg [13] k (fun kq v13 w' => ∃ (x13_1 : Int) (x533000_1 : Int) (x533001_1 : Int), v13 = .int .i64 x13_1 ∧ Aside0 (impl_Prog_source.l0 kq t534 (t534.length : Int) x13_1 l0_0 l0_1 x533000_1 x533001_1 = some (r1, r2)) ∧ Aside0 (kq ≤ k) ∧ Aside0 (Kd.R (Kd.int .i64) 3 w' w.heap.size (fun _ => True) (.slice Ao14 t534.length co14) t534) ∧ Aside0 (w'.heap[gb530]? = some (.cells #[(.slice A0_0 l0_0.length c0_0), (.slice A0_1 l0_1.length c0_1)] 26 (0, 0))) ∧ Aside0 (w'.heap[gb531]? = some (.cells #[.int .i64 a1_0, .int .i64 a1_1, .int .i64 a1_2, .int .i64 a1_3, .int .i64 a1_4, .int .i64 a1_5, (.slice A1_6 l1_6.length c1_6), (.slice A1_7 l1_7.length c1_7)] 59 (0, 0))) ∧ Aside0 (w'.heap[gb532]? = some (.cells #[.int .i64 x533000_1, .int .i64 x533001_1] 35 (0, 0))) ∧ Aside0 (w'.heap[gb533]? = some (.cells #[.int .i64 0, .int .i64 0] 35 (0, 0))) ∧ Aside0 (Below w.heap.size w w'))
 case atStart => exact ⟨(0), (a2_0), (a2_1), (by first | rfl | (simp; done) | (simp [*]; done)), H', ⟨Nat.le_refl _⟩, ⟨ZR HO536.out⟩, ⟨ZK BK530.out⟩, ⟨ZK BK531.out⟩, ⟨ZK BK532.out⟩, ⟨ZK BK533.out⟩, ⟨ZB⟩⟩
 case round =>
  clear H'
  try clear c1
  try clear p2
  try clear c9
  try clear c10
  try clear c11
  try clear c13
  try clear c14
  try clear hcz12_0
  try clear hcz12_1
  try clear hcz12_2
  try clear hcz12_3
  try clear hcz12_4
  try clear hcz12_5
  try clear hcz12_6
  try clear hcz12_7
  try clear hfz12_0
  try clear hfz12_1
  try clear hfz12_2
  try clear hfz12_3
  try clear hfz12_4
  try clear hfz12_5
  try clear hfz12_6
  try clear hfz12_7
  obtain ⟨x13_1, x533000_1, x533001_1, rfl, HA, HK1, HO_11, BK530, BK531, BK532, BK533, HB⟩ := hrel
  cases gk with
  | zero => exact absurd HA.out (by simp [impl_Prog_source.l0])
  | succ k1 =>
   have H := HA.out
   clear HA
   simp only [impl_Prog_source.l0] at H
   by_cases c15 : x13_1 < (t534.length : Int)
   ·rw [if_pos c15] at H
    have c15b0 : decide (x13_1 < (t534.length : Int)) = true := decide_eq_true c15
    clear c15
    by_cases c16 : 0 ≤ x13_1
    ·rw [if_pos c16] at H
     have c16b0 : decide (0 ≤ x13_1) = true := decide_eq_true c16
     clear c16
     by_cases c17 : x13_1 < (t534.length : Int)
     ·rw [if_pos c17] at H
      have c17b0 : decide (x13_1 < (t534.length : Int)) = true := decide_eq_true c17
      clear c17
      by_cases c18 : 0 ≤ (rd t534 x13_1)
      ·rw [if_pos c18] at H
       have c18b0 : decide (0 ≤ (rd t534 x13_1)) = true := decide_eq_true c18
       clear c18
       by_cases c19 : (rd t534 x13_1) < (l0_0.length : Int)
       ·rw [if_pos c19] at H
        have c19b0 : decide ((rd t534 x13_1) < (l0_0.length : Int)) = true := decide_eq_true c19
        clear c19
        replace H := Option.bind_eq_some_iff.mp H
        obtain ⟨⟨t539, t540⟩, A200, H⟩ := H
        replace H : (impl_Prog_source.l0 k1 t534 (t534.length : Int) (wrap64 (x13_1 + 1)) l0_0 l0_1 t539 t540) = some (r1, r2) := H
        have A20 := Aside0.mk A200
        clear A200
        have H' := Aside0.mk H
        clear H
        have p537 : 0 ≤ (x13_1 : Int) := ZD
        have q537 : x13_1 < (t534.length : Int) := ZD
        obtain ⟨ad537, e537, hx537_0⟩ := Kd.at_int (Kd.R_reads' HO_11.out).2.2 x13_1 p537 q537
        cases e537
        replace p537 := eq_true p537
        replace q537 := eq_true q537
        try go_wp2
        have n0_ := Aside0.mk (Kd.R_drew HO_11.out)
        have n1_ := Aside0.mk (blk_drew BK530.out)
        have n2_ := Aside0.mk (blk_drew BK531.out)
        have n3_ := Aside0.mk (blk_drew BK532.out)
        have n4_ := Aside0.mk (blk_drew BK533.out)
        have n5_ := Aside0.mk (below_drew1 HB.out)
        clear HO_11
        clear BK530
        clear BK531
        clear BK532
        clear BK533
        clear HB
        have HO_11 := n0_
        have BK530 := n1_
        have BK531 := n2_
        have BK532 := n3_
        have BK533 := n4_
        have HB := n5_
        clear n0_ n1_ n2_ n3_ n4_ n5_
        have p538 : 0 ≤ ((rd t534 x13_1) : Int) := ZD
        have q538 : (rd t534 x13_1) < (l0_0.length : Int) := ZD
        obtain ⟨ad538, e538, hx538_0, hx538_1⟩ := at_T35 HR0_0.out (rd t534 x13_1) p538 q538
        have hw538_1 := hx538_1
        have hw538_0 := hx538_0
        cases e538
        replace hx538_0 := (HB.out.cell (World.block_lt_of_cell? w _ hx538_0)).trans hx538_0
        replace hx538_1 := (HB.out.cell (World.block_lt_of_cell? w _ hx538_1)).trans hx538_1
        replace p538 := eq_true p538
        replace q538 := eq_true q538
        refine start_ (n := 8) (S := fun w' => w'.cell? ⟨gb532, 0, none⟩ = some (.int .i64 x533000_1) ∧ w'.cell? ⟨gb532, 1, none⟩ = some (.int .i64 x533001_1) ∧ w'.cell? ⟨gb530, 0, none⟩ = some (.slice (some ad538) l0_0.length c0_0) ∧ w'.cell? ⟨gb530, 1, none⟩ = some (.slice A0_1 l0_1.length c0_1) ∧ w'.cell? (ad538.add (((rd t534 x13_1)).toNat * 2)) = some (.int .i64 ((rd_T35 l0_0 (rd t534 x13_1)).f0)) ∧ w'.cell? ⟨(ad538.add (((rd t534 x13_1)).toNat * 2)).block, (ad538.add (((rd t534 x13_1)).toNat * 2)).off + 1, none⟩ = some (.int .i64 ((rd_T35 l0_0 (rd t534 x13_1)).f1))) (ds := [7]) #[false, false, false, false, false, false, false, false] (by kernel_rfl) rfl rfl ⟨(blk_cell BK532.out 0).trans rfl, (blk_cell BK532.out 1).trans rfl, (blk_cell BK530.out 0).trans rfl, (blk_cell BK530.out 1).trans rfl, ((HB.out.cell (World.block_lt_of_cell? w _ hw538_0)).trans hw538_0), ((HB.out.cell (World.block_lt_of_cell? w _ hw538_1)).trans hw538_1)⟩ (fun hHeld => ?_); refine with_tabW impl_Prog_source.tab4 impl_Prog_source.bits4 (fun HT_ HW_ => ?_)
        generalize wr.drew = w21 at HO_11 BK530 BK531 BK532 BK533 HB hx538_0 hx538_1 hHeld ⊢
        refine pure_ (i := 1) (N := some 18) (v := ?_) (a' := ?_) #[false, true, false, false, false, false, false, false] rfl rfl (any_of HT_.out (by kernel_rfl)) (fun _ _ _ h => h) (Or.inl ⟨by rfl, ?_⟩) ?_ ?_
        rotate_left
        ·intro w'
         go_simp
         with_reducible rfl
        rotate_left
        ·simp only [Act.put, List.setIfInBounds_toArray, List.set_cons_zero, List.set_cons_succ, i64_w, i32_w]
         rfl
        refine pure_ (i := 3) (N := some 20) (v := ?_) (a' := ?_) #[false, true, false, true, false, false, false, false] rfl rfl (any_of HT_.out (by kernel_rfl)) (fun _ _ _ h => h) (Or.inl ⟨by rfl, ?_⟩) ?_ ?_
        rotate_left
        ·intro w'
         go_simp
         with_reducible rfl
        rotate_left
        ·simp only [Act.put, List.setIfInBounds_toArray, List.set_cons_zero, List.set_cons_succ, i64_w, i32_w]
         rfl
        refine take_ (i := 0) (N := some 17) (v := ?_) (a' := ?_) #[true, true, false, true, false, false, false, false] rfl rfl (take_ofW HT_.out HW_.out (by kernel_rfl)) (fun _ _ _ h => h) (Or.inl ⟨by rfl, ?_⟩) hHeld ?_ ?_
        rotate_left
        ·rintro w' ⟨s0, s1, s2, s3, s4, s5⟩
         go_simp
         with_reducible rfl
        rotate_left
        ·simp only [Act.put, List.setIfInBounds_toArray, List.set_cons_zero, List.set_cons_succ, i64_w, i32_w]
         rfl
        refine take_ (i := 2) (N := some 19) (v := ?_) (a' := ?_) #[true, true, true, true, false, false, false, false] rfl rfl (take_ofW HT_.out HW_.out (by kernel_rfl)) (fun _ _ _ h => h) (Or.inl ⟨by rfl, ?_⟩) hHeld ?_ ?_
        rotate_left
        ·rintro w' ⟨s0, s1, s2, s3, s4, s5⟩
         go_simp
         with_reducible rfl
        rotate_left
        ·simp only [Act.put, List.setIfInBounds_toArray, List.set_cons_zero, List.set_cons_succ, i64_w, i32_w]
         rfl
        refine pure_ (i := 4) (N := some 21) (v := ?_) (a' := ?_) #[true, true, true, true, true, false, false, false] rfl rfl (any_of HT_.out (by kernel_rfl)) (fun _ _ _ h => h) (Or.inl ⟨by rfl, ?_⟩) ?_ ?_
        rotate_left
        ·intro w'
         go_simp
         with_reducible rfl
        rotate_left
        ·simp only [Act.put, List.setIfInBounds_toArray, List.set_cons_zero, List.set_cons_succ, i64_w, i32_w]
         rfl
        refine take_ (i := 5) (N := some 22) (v := ?_) (a' := ?_) #[true, true, true, true, true, true, false, false] rfl rfl (take_ofW HT_.out HW_.out (by kernel_rfl)) (fun _ _ _ h => h) (Or.inl ⟨by rfl, ?_⟩) hHeld ?_ ?_
        rotate_left
        ·rintro w' ⟨s0, s1, s2, s3, s4, s5⟩
         go_simp
         with_reducible rfl
        rotate_left
        ·simp only [Act.put, List.setIfInBounds_toArray, List.set_cons_zero, List.set_cons_succ, i64_w, i32_w]
         rfl
        refine one_ (i := 6) (N := some 23) #[true, true, true, true, true, true, true, false] rfl rfl (one_of HT_.out (by kernel_rfl)) (by decide) (fun K hK => ?_)
        refine goes_ Try.func143 (by kernel_rfl) rfl #[.agg #[.int .i64 x533000_1, .int .i64 x533001_1], .agg #[.int .i64 ((rd_T35 l0_0 (rd t534 x13_1)).f0), .int .i64 ((rd_T35 l0_0 (rd t534 x13_1)).f1)]] (by rfl) rfl rfl ZG ?_
        with_reducible refine (impl_Label_both.calls x533000_1 x533001_1 ((rd_T35 l0_0 (rd t534 x13_1)).f0) ((rd_T35 l0_0 (rd t534 x13_1)).f1) t539 t540 _ A20.out).mono ?_
        rintro e w22 ⟨rfl, hb⟩
        refine ⟨_, rfl, ?_⟩
        have n0_ := Aside0.mk (Kd.R_below (ZR HO_11.out) hb)
        have n1_ := ZW BK530 hb
        have n2_ := ZW BK531 hb
        have n3_ := ZW BK532 hb
        have n4_ := ZW BK533 hb
        have n5_ := ZT hb
        clear HO_11
        clear BK530
        clear BK531
        clear BK532
        clear BK533
        clear HB
        have HO_11 := n0_
        have BK530 := n1_
        have BK531 := n2_
        have BK532 := n3_
        have BK533 := n4_
        have HB := n5_
        clear n0_ n1_ n2_ n3_ n4_ n5_
        (try clear hb)
        (try clear hb2)
        (try clear hk)
        (try clear hi)
        refine hK.out _ _ ⟨(blk_cell BK532.out 0).trans rfl, (blk_cell BK532.out 1).trans rfl, (blk_cell BK530.out 0).trans rfl, (blk_cell BK530.out 1).trans rfl, ((HB.out.cell (World.block_lt_of_cell? w _ hw538_0)).trans hw538_0), ((HB.out.cell (World.block_lt_of_cell? w _ hw538_1)).trans hw538_1)⟩ (fun hHeld => ?_)
        clear hK K
        refine ZNO 23 ?_
        refine last_ (i := 7) (N := none) #[true, true, true, true, true, true, true, true] rfl rfl (one_of HT_.out (by kernel_rfl)) (by decide) (fun K hK => ?_)
        have hs23 : w22.cell? ⟨gb532, 0, none⟩ = some (.int .i64 x533000_1) := (blk_cell BK532.out 0).trans rfl
        have hfs23 := blk_frozen BK532.out 0
        have hns23_0 := NB530_532.out
        have hns23_1 := NB531_532.out
        have hns23_3 := NB533_532.out
        have hms23_0 := NB532_530.out
        have hms23_1 := NB532_531.out
        have hms23_3 := NB532_533.out
        have hs24 : w22.cell? ⟨gb532, 1, none⟩ = some (.int .i64 x533001_1) := (blk_cell BK532.out 1).trans rfl
        have hfs24 := blk_frozen BK532.out 1
        have hns24_0 := NB530_532.out
        have hns24_1 := NB531_532.out
        have hns24_3 := NB533_532.out
        have hms24_0 := NB532_530.out
        have hms24_1 := NB532_531.out
        have hms24_3 := NB532_533.out
        refine skip_ (w1 := ?_) (by rfl) rfl ?_ ?_
        rotate_left
        ·go_simp
         rfl
        refine hK.out _ _ ?_
        clear hK K
        refine done_ (done_of HT_.out (by kernel_rfl)) ?_
        try go_wp2
        go_roundg k1
        case measure => have := HK1.out; omega
        case rel => exact ⟨(wrap64 (x13_1 + 1)), (t539), (t540), (by first | rfl | (simp; done) | (simp [*]; done)), H', ⟨by have := HK1.out; omega⟩, ⟨ZR (Kd.R_mono (Kd.R_far (p := ⟨gb532, 1, none⟩) (Kd.R_far (p := ⟨gb532, 0, none⟩) (Kd.R_types HO_11.out BK532.out (by decide)) (fun _ hk => hk.2) (.int .i64 t539)) (fun _ hk => hk.2) (.int .i64 t540)) (fun _ hk => trivial))⟩, ⟨ZZ BK530.out⟩, ⟨ZZ BK531.out⟩, ⟨ZZ BK532.out⟩, ⟨ZZ BK533.out⟩, ⟨ZB⟩⟩
       ·rw [if_neg c19] at H
        exact absurd H (by simp)
      ·rw [if_neg c18] at H
       exact absurd H (by simp)
     ·rw [if_neg c17] at H
      exact absurd H (by simp)
    ·rw [if_neg c16] at H
     exact absurd H (by simp)
   ·rw [if_neg c15] at H
    have c15b0 : decide (x13_1 < (t534.length : Int)) = false := decide_eq_false c15
    clear c15
    simp only [Option.some.injEq, Prod.mk.injEq] at H
    obtain ⟨rfl, rfl⟩ := H
    have hnb25 := NB532_530.out
    have hnc25 := NB530_532.out
    have hnb26 := NB532_531.out
    have hnc26 := NB531_532.out
    have hnb27 := NB532_533.out
    have hnc27 := NB533_532.out
    obtain ⟨hcz28_0, hcz28_1⟩ := ZC2 wr BK532
    obtain ⟨hfz28_0, hfz28_1⟩ := ZF2 BK532
    have hnb29 := NB533_530.out
    have hnc29 := NB530_533.out
    have hnb30 := NB533_531.out
    have hnc30 := NB531_533.out
    obtain ⟨hcz31_0, hcz31_1⟩ := ZC2 wr BK533
    obtain ⟨hfz31_0, hfz31_1⟩ := ZF2 BK533
    go_wp2
    refine bodyPost_ret (results_cell_row rfl _ _ gb533 35 #[.int .i64 x533000_1, .int .i64 x533001_1] (0, 0) _ rfl (ZZ BK533.out) Try.underlying35 rfl (by kernel_rfl)) rfl ?_
    exact ⟨ZE, ZB⟩

end Go.Proofs.Ytcffnnedghgmaaa.A
