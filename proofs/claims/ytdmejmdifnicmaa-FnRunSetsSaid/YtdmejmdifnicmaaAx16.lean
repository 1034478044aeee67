/- What Go functions compute, as Lean functions, and for each its contract: for every input at which the Lean function answers the call returns that; written by wip/tools/pr.py over the kit's print. -/
import Derived.Test.YtdmejmdifnicmaaAx0
import Derived.Test.YtdmejmdifnicmaaAx3
namespace Go.Proofs.Ytdmejmdifnicmaa.A
open Go.RowKit Go.Proofs.YtdmejmdifnicmaaW.PrintWords Go.Proofs.YtdmejmdifnicmaaW.PrintLast Go.Proofs.YtdmejmdifnicmaaW.PrintMore
attribute [local go_sem] max2_int min2_int max_two min_two max_three min_three max_four min_four   -- for this text's walks alone
set_option linter.unusedVariables false
set_option linter.unusedSimpArgs false

/-! ### spec_l71Nums: function 16 -/
def spec_l71Nums.l0 : Nat → List Int → Int → List Int → Int → List (S57) → List (S66) → Option (List Int × Int)
 | 0, _, _, _, _, _, _ => none
 | k + 1, x5, x6, x1000, x1001, x310000, x310001 => if x6 < (x310000.length : Int) then ((some (([0, 0, 1, 2, 5, 9] : List Int) : List Int)).bind fun y313 => ((spec_l6Rd_pick.f k x1000 x1001 6).bind fun bt316 => (if 0 ≤ bt316.1 then (if bt316.1 < (y313.length : Int) then (if x5.length < 17592186044416 then (spec_l71Nums.l0 k (x5 ++ [rd y313 bt316.1]) (wrap64 (x6 + 1)) x1000 bt316.2 x310000 x310001) else (none)) else (none)) else (none)))) else ((spec_l6Rd_pick.f k x1000 x1001 20).bind fun bt322 => (if bt322.1 = 0 then (if x5.length < 17592186044416 then (some ((x5 ++ [0]), bt322.2)) else (none)) else (if bt322.1 = 1 then (if (x5.length : Int) > 0 then ((some (([(-1), 10] : List Int) : List Int)).bind fun y327 => ((spec_l6Rd_pick.f k x1000 bt322.2 2).bind fun bt330 => (if 0 ≤ bt330.1 then (if bt330.1 < (y327.length : Int) then (if 0 < (x5.length : Int) then (some ((x5.set (0 : Int).toNat (rd y327 bt330.1)), bt330.2)) else (none)) else (none)) else (none)))) else (some (x5, bt322.2))) else (some (x5, bt322.2)))))
def spec_l71Nums.f (k : Nat) (s0_0 : List Int) (s0_1 : Int) (l1_0 : List (S57)) (l1_1 : List (S66)) : Option (List Int × Int) := spec_l71Nums.l0 k (([] : List Int)) 0 s0_0 s0_1 l1_0 l1_1
set_option maxHeartbeats 8000000 in
set_option maxRecDepth 100000 in
theorem spec_l71Nums.calls (k : Nat) (g : Nat) (s0_0 : List Int) (s0_1 : Int) (A1_0 : Option Addr) (c1_0 : Nat) (l1_0 : List (S57)) (A1_1 : Option Addr) (c1_1 : Nat) (l1_1 : List (S66)) (r1 : List Int) (r2 : Int) (w0 w : World) (hI : IsS55 w0 w g s0_0 s0_1) (hB : Below w0.heap.size w0 w) (hr1_0 : ∀ W_, KeepBut w W_ g none → Kd.C k57 W_ A1_0 l1_0.length l1_0) (hc1_0 : l1_0.length ≤ c1_0) (hr1_1 : ∀ W_, KeepBut w W_ g none → Kd.C k66 W_ A1_1 l1_1.length l1_1) (hc1_1 : l1_1.length ≤ c1_1) (h : spec_l71Nums.f k s0_0 s0_1 l1_0 l1_1 = some (r1, r2)) :
  Calls Try.prog 16 #[.pointer (some ⟨g, 0, none⟩), .agg #[.slice A1_0 l1_0.length c1_0, .slice A1_1 l1_1.length c1_1]] w fun e w' => ∃ v0_ : Value, e = .returned (v0_) ∧ Kd.R (Kd.int .i64) 3 w' w.heap.size (fun _ => True) v0_ r1 ∧ IsS55 w0 w' g s0_0 r2 ∧ Below w0.heap.size w0 w' ∧ KeepBut w w' g none := by
 have hu43 := Try.underlying43
 have HR1_0 := Aside0.mk hr1_0
 have HC1_0 := Aside0.mk hc1_0
 clear hr1_0 hc1_0
 have HR1_1 := Aside0.mk hr1_1
 have HC1_1 := Aside0.mk hc1_1
 clear hr1_1 hc1_1
 have HI0 := Aside0.mk hI
 have HK := Aside0.mk (KeepBut.refl w g none)
 have HL := Aside0.mk hB.size
 clear hI
 have HW0 := Aside0.mk hB.size
 have HB := Aside0.mk hB
 clear hB
 have H : (spec_l71Nums.l0 k (([] : List Int)) 0 s0_0 s0_1 l1_0 l1_1) = some (r1, r2) := h
 clear h
 obtain ⟨y310, hy310⟩ : ∃ y_ : List Int, y_ = (([] : List Int)) := ⟨_, rfl⟩
 replace H : (spec_l71Nums.l0 k y310 0 s0_0 s0_1 l1_0 l1_1) = some (r1, r2) := by first | (rw [hy310]; with_reducible exact H) | (have H2_ := (Option.bind_some _ _).symm.trans H; rw [hy310]; with_reducible exact H2_) | (have H2_ := (Option.bind_some _ _).symm.trans H; with_reducible exact H2_) | with_reducible exact H | (rw [hy310]; exact H) | exact H
 have Ny310 := Aside0.mk hy310
 clear hy310
 have H' := Aside0.mk H
 clear H
 go_enter Try.func16, Try.ntmps16
 go_wp2_with (first | ((with_reducible refine gate_dst (N := 3) rfl ?_); refine ZX (N := 3) (cs := #[.slice A1_0 l1_0.length c1_0, .slice A1_1 l1_1.length c1_1]) (t := 43) ?_; intro gb309 hg w3 hbox hb; have BK309 := Aside0.mk (hbox); have GW309 := Aside0.mk ((by rw [hg]; exact (keep_size (w := w) (g := g) (row := none) (ZJ)) : w.heap.size ≤ gb309)); have GE309 := Aside0.mk ((Nat.le_trans HW0.out (by rw [hg]; exact (keep_size (w := w) (g := g) (row := none) (ZJ)) : w.heap.size ≤ gb309) : w0.heap.size ≤ gb309)); have NB0_309 := Aside0.mk ((by rw [hg]; exact Nat.ne_of_lt (IsS55.lt (show IsS55 w0 _ g s0_0 s0_1 from ZI)) : g ≠ gb309)); have NB309_0 := Aside0.mk ((by rw [hg]; exact Nat.ne_of_gt (IsS55.lt (show IsS55 w0 _ g s0_0 s0_1 from ZI)) : gb309 ≠ g)); replace HK := ZKT HK (KeepBut.of_below hb g none); replace HB := ZTI HB hb; replace HI0 := Aside0.mk (IsS55.below (ZI) hb); clear hb hbox hg) | ((with_reducible refine gate_dst (N := 7) rfl ?_); refine Kd.R_lit (Kd.int .i64) _ 3 ?hg (N := 7) ?hd (xs := ([] : List Int)) (inner := []) (ok := fun _ => True) (okp := fun _ => True) ?hr ?hp (fun _ hk => hk) trivial (Below.refl _ _) (Nat.le_refl _) (by simp) ?_; (case hd => rfl); (case hg => rfl); (case hr => first | (go_simp; done) | (go_simp; rfl)); (case hp => exact (Reps.none _ _)); intro v311 w4 ho5 hb hg_ hnew_; clear hg_ hnew_; (first | rw [← Ny310.out] at ho5 | (simp only [Int.reduceToNat] at ho5; rw [← Ny310.out] at ho5)); have HO312 := Aside0.mk (Kd.R_lower ho5 (keep_size (w := w) (g := g) (row := none) (ZJ))); replace BK309 := ZW BK309 hb; replace HK := ZKT HK (KeepBut.of_below hb g none); replace HB := ZTI HB hb; replace HI0 := Aside0.mk (IsS55.below (ZI) hb); clear hb ho5))
 go_loopg [5, 6] k (fun kq v5 v6 w' => ∃ (x5_1 : List Int) (x6_1 : Int) (x1001_1 : Int), v6 = .int .i64 x6_1 ∧ Aside0 (spec_l71Nums.l0 kq x5_1 x6_1 s0_0 x1001_1 l1_0 l1_1 = some (r1, r2)) ∧ Aside0 (kq ≤ k) ∧ Aside0 (Kd.R (Kd.int .i64) 3 w' w.heap.size (fun _ => True) v5 x5_1) ∧ Aside0 (w'.heap[gb309]? = some (.cells #[(.slice A1_0 l1_0.length c1_0), (.slice A1_1 l1_1.length c1_1)] 43 (0, 0))) ∧ Aside0 (IsS55 w0 w' g s0_0 x1001_1) ∧ Aside0 (KeepBut w w' g none) ∧ Aside0 (Below w0.heap.size w0 w'))
 case atStart => exact ⟨(y310), (0), (s0_1), (by first | rfl | (simp; done) | (simp [*]; done)), H', ⟨Nat.le_refl _⟩, ⟨ZR HO312.out⟩, ⟨ZK BK309.out⟩, ⟨ZI⟩, ⟨ZJ⟩, ⟨ZBI⟩⟩
 case round =>
  clear H'
  try clear c1
  try clear p2
  obtain ⟨x5_1, x6_1, x1001_1, rfl, HA, HK1, HO_5, BK309, HI0, HK, HB⟩ := hrel
  cases gk with
  | zero => exact absurd HA.out (by simp [spec_l71Nums.l0])
  | succ k1 =>
   have H := HA.out
   clear HA
   simp only [spec_l71Nums.l0] at H
   by_cases c6 : x6_1 < (l1_0.length : Int)
   ·rw [if_pos c6] at H
    have c6b0 : decide (x6_1 < (l1_0.length : Int)) = true := decide_eq_true c6
    clear c6
    obtain ⟨y313, hy313⟩ : ∃ y_ : List Int, y_ = (([0, 0, 1, 2, 5, 9] : List Int)) := ⟨_, rfl⟩
    replace H : ((spec_l6Rd_pick.f k1 s0_0 x1001_1 6).bind fun bt316 => (if 0 ≤ bt316.1 then (if bt316.1 < (y313.length : Int) then (if x5_1.length < 17592186044416 then (spec_l71Nums.l0 k1 (x5_1 ++ [rd y313 bt316.1]) (wrap64 (x6_1 + 1)) s0_0 bt316.2 l1_0 l1_1) else (none)) else (none)) else (none))) = some (r1, r2) := by first | (rw [hy313]; with_reducible exact H) | (have H2_ := (Option.bind_some _ _).symm.trans H; rw [hy313]; with_reducible exact H2_) | (have H2_ := (Option.bind_some _ _).symm.trans H; with_reducible exact H2_) | with_reducible exact H | (rw [hy313]; exact H) | exact H
    have Ny313 := Aside0.mk hy313
    clear hy313
    replace H := Option.bind_eq_some_iff.mp H
    obtain ⟨⟨t316, t317⟩, A70, H⟩ := H
    replace H : (if 0 ≤ t316 then (if t316 < (y313.length : Int) then (if x5_1.length < 17592186044416 then (spec_l71Nums.l0 k1 (x5_1 ++ [rd y313 t316]) (wrap64 (x6_1 + 1)) s0_0 t317 l1_0 l1_1) else (none)) else (none)) else (none)) = some (r1, r2) := H
    have A7 := Aside0.mk A70
    clear A70
    by_cases c8 : 0 ≤ t316
    ·rw [if_pos c8] at H
     have c8b0 : decide (0 ≤ t316) = true := decide_eq_true c8
     clear c8
     by_cases c9 : t316 < (y313.length : Int)
     ·rw [if_pos c9] at H
      have c9b0 : decide (t316 < (y313.length : Int)) = true := decide_eq_true c9
      clear c9
      by_cases c10 : x5_1.length < 17592186044416
      ·rw [if_pos c10] at H
       have LMc10 := Aside0.mk c10
       clear c10
       obtain ⟨y319, hy319⟩ : ∃ y_ : List Int, y_ = (x5_1 ++ [rd y313 t316]) := ⟨_, rfl⟩
       replace H : (spec_l71Nums.l0 k1 y319 (wrap64 (x6_1 + 1)) s0_0 t317 l1_0 l1_1) = some (r1, r2) := by first | (rw [hy319]; with_reducible exact H) | (have H2_ := (Option.bind_some _ _).symm.trans H; rw [hy319]; with_reducible exact H2_) | (have H2_ := (Option.bind_some _ _).symm.trans H; with_reducible exact H2_) | with_reducible exact H | (rw [hy319]; exact H) | exact H
       have Ny319 := Aside0.mk hy319
       clear hy319
       have H' := Aside0.mk H
       clear H
       have hnb11 := NB309_0.out
       have hnc11 := NB0_309.out
       obtain ⟨hcz12_0, hcz12_1⟩ := ZC2 wr BK309
       obtain ⟨hfz12_0, hfz12_1⟩ := ZF2 BK309
       go_wp2_with (first | ((with_reducible refine gate_dst (N := 16) rfl ?_); refine Kd.R_lit (Kd.int .i64) _ 3 ?hg (N := 16) ?hd (xs := ([0, 0, 1, 2, 5, 9] : List Int)) (inner := [.int .i64 0, .int .i64 0, .int .i64 1, .int .i64 2, .int .i64 5, .int .i64 9]) (ok := fun _ => True) (okp := fun _ => True) ?hr ?hp (fun _ hk => hk) trivial (Below.refl _ _) (Nat.le_refl _) (by simp) ?_; (case hd => rfl); (case hg => rfl); (case hr => first | (go_simp; done) | (go_simp; rfl)); (case hp => exact (Reps.one (show Kd.M (Kd.int .i64) _ _ _ 0 [.int .i64 0] from rfl) (Reps.one (show Kd.M (Kd.int .i64) _ _ _ 0 [.int .i64 0] from rfl) (Reps.one (show Kd.M (Kd.int .i64) _ _ _ 1 [.int .i64 1] from rfl) (Reps.one (show Kd.M (Kd.int .i64) _ _ _ 2 [.int .i64 2] from rfl) (Reps.one (show Kd.M (Kd.int .i64) _ _ _ 5 [.int .i64 5] from rfl) (Reps.one (show Kd.M (Kd.int .i64) _ _ _ 9 [.int .i64 9] from rfl) (Reps.none _ _)))))))); intro v314 w13 ho14 hb hg_ hnew_; clear hg_ hnew_; (first | rw [← Ny313.out] at ho14 | (simp only [Int.reduceToNat] at ho14; rw [← Ny313.out] at ho14)); have HO315 := Aside0.mk (Kd.R_lower (Kd.R_new' ho14 (Kd.R_lt (ZR HO_5.out))) (keep_size (w := w) (g := g) (row := none) (ZJ))); replace HO_5 := Aside0.mk (Kd.R_elder' (ZR HO_5.out) (Kd.R_base ho14) hb); replace BK309 := ZW BK309 hb; replace HK := ZKT HK (KeepBut.of_below hb g none); replace HB := ZTI HB hb; replace HI0 := Aside0.mk (IsS55.below (ZI) hb); clear hb ho14) | ((with_reducible refine gate_callee (f := 17) rfl ?_); refine goesL_ (some 18) rfl rfl Try.func17 (by kernel_rfl) rfl #[.pointer (some ⟨g, 0, none⟩), .int .i64 6] rfl ZG ?_; (with_reducible refine (spec_l6Rd_pick.calls k1 g s0_0 x1001_1 6 t316 t317 w0 _ ?side1 ?side2 A7.out).mono ?_); (case side1 => exact ZI); (case side2 => exact ZBI); rintro e w15 ⟨rfl, hi, hb, hk⟩; refine ⟨_, rfl, ?_⟩; replace HO_5 := Aside0.mk (Kd.R_mono (Kd.R_keep (IsS55.apart (show IsS55 w0 _ g s0_0 x1001_1 from ZI) (ZR HO_5.out) (by decide)) hk (fun _ h => h.2)) (fun _ h => h.1)); replace BK309 := ZL hk BK309 NB309_0; replace HO315 := Aside0.mk (Kd.R_mono (Kd.R_keep (IsS55.apart (show IsS55 w0 _ g s0_0 x1001_1 from ZI) (ZR HO315.out) (by decide)) hk (fun _ h => h.2)) (fun _ h => h.1)); replace HK := ZKT HK hk; replace HB := Aside0.mk (hb); replace HI0 := Aside0.mk (hi); (try clear hb); (try clear hb2); (try clear hk); (try clear hi); obtain ⟨Ao16, co16, eo16⟩ := Kd.R_slice HO315.out; subst eo16; have p318 : 0 ≤ (t316 : Int) := ZD; have q318 : t316 < (y313.length : Int) := ZD; obtain ⟨ad318, e318, hx318_0⟩ := Kd.at_int (Kd.R_reads' HO315.out).2.2 t316 p318 q318; cases e318; replace p318 := eq_true p318; replace q318 := eq_true q318) | ((with_reducible refine gate_builtin (b := .append) (xs := #[.tmp 15, .tmp 21]) rfl ?_); at_builtin; refine Kd.R_append (Kd.int .i64) w.heap.size rfl (.tmp 15) (.tmp 21) 23 3 (.int .i64 0) 8 rfl Try.underlying23 info3 rfl (by decide) (by omega) u5 x5_1 (rd y313 t316) [.int .i64 (rd y313 t316)] (fun k_ => some k_ ≠ (.slice (some ad318) y313.length co16 : Value).ownBlock) (fun _ => False) rfl rfl ?aP (fun _ hk => hk.elim) ?aF ?aO (Below.refl _ _) ?aS ?aL ?_; (case aP => exact rfl); (case aF => exact (fun k_ hk => Kd.fresh' (Kd.R_lt (ZR HO315.out)) k_ hk)); (case aO => exact (ZR (Kd.R_mono HO_5.out (fun _ hk => hk.2)))); (case aS => exact (keep_size (w := w) (g := g) (row := none) (ZJ))); (case aL => have := LMc10.out; omega); intro v320 w17 ho hb hg hat; rw [← Ny319.out] at ho; have n0_ := Aside0.mk (blk_grown (g := gb309) (o := .cells #[.slice A1_0 l1_0.length c1_0, .slice A1_1 l1_1.length c1_1] 43 (0, 0)) (ZK BK309.out) hg (Kd.R_ne HO_5.out BK309.out (by decide))); have n1_ := Aside0.mk (IsS55.grown (ZI) hg (IsS55.own_ne HI0.out HO_5.out (by decide))); have n2_ := Aside0.mk (Kd.R_after (ok := (fun _ => True)) (ZR HO315.out) hg hat); have n3_ := Aside0.mk (below_weaken (ZBI) HL.out hb); have n4_ := Aside0.mk (KeepBut.trans (ZJ) (KeepBut.of_grown hg g) (Kd.R_base2 HO_5.out)); have n5_ := Aside0.mk (ho); clear BK309; clear HI0; clear HO315; clear HB; clear HK; clear HO_5; have BK309 := n0_; have HI0 := n1_; have HO315 := n2_; have HB := n3_; have HK := n4_; have HO321 := n5_; clear n0_ n1_ n2_ n3_ n4_ n5_; clear ho hb hg hat))
       go_roundg k1
       case measure => have := HK1.out; omega
       case rel => exact ⟨(y319), (wrap64 (x6_1 + 1)), (t317), (by first | rfl | (simp; done) | (simp [*]; done)), H', ⟨by have := HK1.out; omega⟩, ⟨ZR (Kd.R_mono HO321.out (fun _ hk => trivial))⟩, ⟨ZK BK309.out⟩, ⟨ZI⟩, ⟨ZJ⟩, ⟨ZBI⟩⟩
      ·rw [if_neg c10] at H
       exact absurd H (by simp)
     ·rw [if_neg c9] at H
      exact absurd H (by simp)
    ·rw [if_neg c8] at H
     exact absurd H (by simp)
   ·rw [if_neg c6] at H
    have c6b0 : decide (x6_1 < (l1_0.length : Int)) = false := decide_eq_false c6
    clear c6
    replace H := Option.bind_eq_some_iff.mp H
    obtain ⟨⟨t322, t323⟩, A180, H⟩ := H
    replace H : (if t322 = 0 then (if x5_1.length < 17592186044416 then (some ((x5_1 ++ [0]), t323)) else (none)) else (if t322 = 1 then (if (x5_1.length : Int) > 0 then ((some (([(-1), 10] : List Int) : List Int)).bind fun y327 => ((spec_l6Rd_pick.f k1 s0_0 t323 2).bind fun bt330 => (if 0 ≤ bt330.1 then (if bt330.1 < (y327.length : Int) then (if 0 < (x5_1.length : Int) then (some ((x5_1.set (0 : Int).toNat (rd y327 bt330.1)), bt330.2)) else (none)) else (none)) else (none)))) else (some (x5_1, t323))) else (some (x5_1, t323)))) = some (r1, r2) := H
    have A18 := Aside0.mk A180
    clear A180
    by_cases c19 : t322 = 0
    ·rw [if_pos c19] at H
     have c19b0 : (t322 == 0) = true := beq_iff_eq.mpr c19
     have c19b1 : (t322 != 0) = false := bne_eq_false_iff_eq.mpr c19
     clear c19
     by_cases c20 : x5_1.length < 17592186044416
     ·rw [if_pos c20] at H
      have LMc20 := Aside0.mk c20
      clear c20
      obtain ⟨y324, hy324⟩ : ∃ y_ : List Int, y_ = (x5_1 ++ [0]) := ⟨_, rfl⟩
      replace H : (some (y324, t323)) = some (r1, r2) := by first | (rw [hy324]; with_reducible exact H) | (have H2_ := (Option.bind_some _ _).symm.trans H; rw [hy324]; with_reducible exact H2_) | (have H2_ := (Option.bind_some _ _).symm.trans H; with_reducible exact H2_) | with_reducible exact H | (rw [hy324]; exact H) | exact H
      have Ny324 := Aside0.mk hy324
      clear hy324
      simp only [Option.some.injEq, Prod.mk.injEq] at H
      obtain ⟨rfl, rfl⟩ := H
      have hnb21 := NB309_0.out
      have hnc21 := NB0_309.out
      obtain ⟨hcz22_0, hcz22_1⟩ := ZC2 wr BK309
      obtain ⟨hfz22_0, hfz22_1⟩ := ZF2 BK309
      go_wp2_with (first | ((with_reducible refine gate_callee (f := 17) rfl ?_); refine goesL_ (some 24) rfl rfl Try.func17 (by kernel_rfl) rfl #[.pointer (some ⟨g, 0, none⟩), .int .i64 20] rfl ZG ?_; (with_reducible refine (spec_l6Rd_pick.calls k1 g s0_0 x1001_1 20 t322 t323 w0 _ ?side1 ?side2 A18.out).mono ?_); (case side1 => exact ZI); (case side2 => exact ZBI); rintro e w23 ⟨rfl, hi, hb, hk⟩; refine ⟨_, rfl, ?_⟩; replace HO_5 := Aside0.mk (Kd.R_mono (Kd.R_keep (IsS55.apart (show IsS55 w0 _ g s0_0 x1001_1 from ZI) (ZR HO_5.out) (by decide)) hk (fun _ h => h.2)) (fun _ h => h.1)); replace BK309 := ZL hk BK309 NB309_0; replace HK := ZKT HK hk; replace HB := Aside0.mk (hb); replace HI0 := Aside0.mk (hi); (try clear hb); (try clear hb2); (try clear hk); (try clear hi)) | ((with_reducible refine gate_builtin (b := .append) (xs := #[.tmp 27, .tmp 28]) rfl ?_); at_builtin; refine Kd.R_append (Kd.int .i64) w.heap.size rfl (.tmp 27) (.tmp 28) 23 3 (.int .i64 0) 8 rfl Try.underlying23 info3 rfl (by decide) (by omega) u5 x5_1 0 [.int .i64 0] (fun _ => True) (fun _ => False) rfl rfl ?aP (fun _ hk => hk.elim) ?aF ?aO (Below.refl _ _) ?aS ?aL ?_; (case aP => exact rfl); (case aF => exact (fun _ _ => trivial)); (case aO => exact (ZR HO_5.out)); (case aS => exact (keep_size (w := w) (g := g) (row := none) (ZJ))); (case aL => have := LMc20.out; omega); intro v325 w24 ho hb hg hat; rw [← Ny324.out] at ho; have n0_ := Aside0.mk (blk_grown (g := gb309) (o := .cells #[.slice A1_0 l1_0.length c1_0, .slice A1_1 l1_1.length c1_1] 43 (0, 0)) (ZK BK309.out) hg (Kd.R_ne HO_5.out BK309.out (by decide))); have n1_ := Aside0.mk (IsS55.grown (ZI) hg (IsS55.own_ne HI0.out HO_5.out (by decide))); have n2_ := Aside0.mk (below_weaken (ZBI) HL.out hb); have n3_ := Aside0.mk (KeepBut.trans (ZJ) (KeepBut.of_grown hg g) (Kd.R_base2 HO_5.out)); have n4_ := Aside0.mk (ho); clear BK309; clear HI0; clear HB; clear HK; clear HO_5; have BK309 := n0_; have HI0 := n1_; have HB := n2_; have HK := n3_; have HO326 := n4_; clear n0_ n1_ n2_ n3_ n4_; clear ho hb hg hat))
      go_ret
      exact ⟨_, ZE, by (with_reducible repeat (first | apply Kd.R_alloc | apply Kd.R_drewN | apply Kd.R_drew)); exact HO326.out, ZI, ZBI, ZJ⟩
     ·rw [if_neg c20] at H
      exact absurd H (by simp)
    ·rw [if_neg c19] at H
     have c19b0 : (t322 == 0) = false := beq_eq_false_iff_ne.mpr c19
     have c19b1 : (t322 != 0) = true := bne_iff_ne.mpr c19
     by_cases c25 : t322 = 1
     ·rw [if_pos c25] at H
      have c25b0 : (t322 == 1) = true := beq_iff_eq.mpr c25
      have c25b1 : (t322 != 1) = false := bne_eq_false_iff_eq.mpr c25
      clear c25
      by_cases c26 : (x5_1.length : Int) > 0
      ·rw [if_pos c26] at H
       have c26b0 : decide (0 < (x5_1.length : Int)) = true := decide_eq_true c26
       have c26b1 : decide (0 < x5_1.length) = true := decide_eq_true (by omega)
       clear c26
       obtain ⟨y327, hy327⟩ : ∃ y_ : List Int, y_ = (([(-1), 10] : List Int)) := ⟨_, rfl⟩
       replace H : ((spec_l6Rd_pick.f k1 s0_0 t323 2).bind fun bt330 => (if 0 ≤ bt330.1 then (if bt330.1 < (y327.length : Int) then (if 0 < (x5_1.length : Int) then (some ((x5_1.set (0 : Int).toNat (rd y327 bt330.1)), bt330.2)) else (none)) else (none)) else (none))) = some (r1, r2) := by first | (rw [hy327]; with_reducible exact H) | (have H2_ := (Option.bind_some _ _).symm.trans H; rw [hy327]; with_reducible exact H2_) | (have H2_ := (Option.bind_some _ _).symm.trans H; with_reducible exact H2_) | with_reducible exact H | (rw [hy327]; exact H) | exact H
       have Ny327 := Aside0.mk hy327
       clear hy327
       replace H := Option.bind_eq_some_iff.mp H
       obtain ⟨⟨t330, t331⟩, A270, H⟩ := H
       replace H : (if 0 ≤ t330 then (if t330 < (y327.length : Int) then (if 0 < (x5_1.length : Int) then (some ((x5_1.set (0 : Int).toNat (rd y327 t330)), t331)) else (none)) else (none)) else (none)) = some (r1, r2) := H
       have A27 := Aside0.mk A270
       clear A270
       by_cases c28 : 0 ≤ t330
       ·rw [if_pos c28] at H
        have c28b0 : decide (0 ≤ t330) = true := decide_eq_true c28
        clear c28
        by_cases c29 : t330 < (y327.length : Int)
        ·rw [if_pos c29] at H
         have c29b0 : decide (t330 < (y327.length : Int)) = true := decide_eq_true c29
         clear c29
         by_cases c30 : 0 < (x5_1.length : Int)
         ·rw [if_pos c30] at H
          have c30b0 : decide (0 < (x5_1.length : Int)) = true := decide_eq_true c30
          have c30b1 : decide (0 < x5_1.length) = true := decide_eq_true (by omega)
          clear c30
          obtain ⟨y333, hy333⟩ : ∃ y_ : List Int, y_ = (x5_1.set (0 : Int).toNat (rd y327 t330)) := ⟨_, rfl⟩
          replace H : (some (y333, t331)) = some (r1, r2) := by first | (rw [hy333]; with_reducible exact H) | (have H2_ := (Option.bind_some _ _).symm.trans H; rw [hy333]; with_reducible exact H2_) | (have H2_ := (Option.bind_some _ _).symm.trans H; with_reducible exact H2_) | with_reducible exact H | (rw [hy333]; exact H) | exact H
          have Ny333 := Aside0.mk hy333
          clear hy333
          simp only [Option.some.injEq, Prod.mk.injEq] at H
          obtain ⟨rfl, rfl⟩ := H
          have hnb32 := NB309_0.out
          have hnc32 := NB0_309.out
          obtain ⟨hcz33_0, hcz33_1⟩ := ZC2 wr BK309
          obtain ⟨hfz33_0, hfz33_1⟩ := ZF2 BK309
          go_wp2_with (first | ((with_reducible refine gate_callee (f := 17) rfl ?_); refine goesL_ (some 24) rfl rfl Try.func17 (by kernel_rfl) rfl #[.pointer (some ⟨g, 0, none⟩), .int .i64 20] rfl ZG ?_; (with_reducible refine (spec_l6Rd_pick.calls k1 g s0_0 x1001_1 20 t322 t323 w0 _ ?side1 ?side2 A18.out).mono ?_); (case side1 => exact ZI); (case side2 => exact ZBI); rintro e w34 ⟨rfl, hi, hb, hk⟩; refine ⟨_, rfl, ?_⟩; replace HO_5 := Aside0.mk (Kd.R_mono (Kd.R_keep (IsS55.apart (show IsS55 w0 _ g s0_0 x1001_1 from ZI) (ZR HO_5.out) (by decide)) hk (fun _ h => h.2)) (fun _ h => h.1)); replace BK309 := ZL hk BK309 NB309_0; replace HK := ZKT HK hk; replace HB := Aside0.mk (hb); replace HI0 := Aside0.mk (hi); (try clear hb); (try clear hb2); (try clear hk); (try clear hi); obtain ⟨Ao35, co35, eo35⟩ := Kd.R_slice HO_5.out; subst eo35) | ((with_reducible refine gate_dst (N := 36) rfl ?_); refine Kd.R_lit (Kd.int .i64) _ 3 ?hg (N := 36) ?hd (xs := ([(-1), 10] : List Int)) (inner := [.int .i64 (-1), .int .i64 10]) (ok := fun _ => True) (okp := fun _ => True) ?hr ?hp (fun _ hk => hk) trivial (Below.refl _ _) (Nat.le_refl _) (by simp) ?_; (case hd => rfl); (case hg => rfl); (case hr => first | (go_simp; done) | (go_simp; rfl)); (case hp => exact (Reps.one (show Kd.M (Kd.int .i64) _ _ _ (-1) [.int .i64 (-1)] from rfl) (Reps.one (show Kd.M (Kd.int .i64) _ _ _ 10 [.int .i64 10] from rfl) (Reps.none _ _)))); intro v328 w36 ho37 hb hg_ hnew_; clear hg_ hnew_; (first | rw [← Ny327.out] at ho37 | (simp only [Int.reduceToNat] at ho37; rw [← Ny327.out] at ho37)); have HO329 := Aside0.mk (Kd.R_lower (Kd.R_new' ho37 (Kd.R_lt (ZR HO_5.out))) (keep_size (w := w) (g := g) (row := none) (ZJ))); replace HO_5 := Aside0.mk (Kd.R_elder' (ZR HO_5.out) (Kd.R_base ho37) hb); replace BK309 := ZW BK309 hb; replace HK := ZKT HK (KeepBut.of_below hb g none); replace HB := ZTI HB hb; replace HI0 := Aside0.mk (IsS55.below (ZI) hb); clear hb ho37) | ((with_reducible refine gate_callee (f := 17) rfl ?_); refine goesL_ (some 38) rfl rfl Try.func17 (by kernel_rfl) rfl #[.pointer (some ⟨g, 0, none⟩), .int .i64 2] rfl ZG ?_; (with_reducible refine (spec_l6Rd_pick.calls k1 g s0_0 t323 2 t330 t331 w0 _ ?side1 ?side2 A27.out).mono ?_); (case side1 => exact ZI); (case side2 => exact ZBI); rintro e w38 ⟨rfl, hi, hb, hk⟩; refine ⟨_, rfl, ?_⟩; replace HO_5 := Aside0.mk (Kd.R_mono (Kd.R_keep (IsS55.apart (show IsS55 w0 _ g s0_0 t323 from ZI) (ZR HO_5.out) (by decide)) hk (fun _ h => h.2)) (fun _ h => h.1)); replace BK309 := ZL hk BK309 NB309_0; replace HO329 := Aside0.mk (Kd.R_mono (Kd.R_keep (IsS55.apart (show IsS55 w0 _ g s0_0 t323 from ZI) (ZR HO329.out) (by decide)) hk (fun _ h => h.2)) (fun _ h => h.1)); replace HK := ZKT HK hk; replace HB := Aside0.mk (hb); replace HI0 := Aside0.mk (hi); (try clear hb); (try clear hb2); (try clear hk); (try clear hi); obtain ⟨Ao39, co39, eo39⟩ := Kd.R_slice HO329.out; subst eo39; have p332 : 0 ≤ (t330 : Int) := ZD; have q332 : t330 < (y327.length : Int) := ZD; obtain ⟨ad332, e332, hx332_0⟩ := Kd.at_int (Kd.R_reads' HO329.out).2.2 t330 p332 q332; cases e332; replace p332 := eq_true p332; replace q332 := eq_true q332; have p31 : 0 ≤ (0 : Int) := (by omega); have q31 : (0 : Int) < ((x5_1.length : Int) : Int) := ZD; have qi31 : (0 < x5_1.length) = True := eq_true (by omega); obtain ⟨go31, co31, eo31, gb31, gl31, cl31, HG31⟩ := Kd.R_form HO_5.out (by omega); (first | cases eo31 | (injection eo31 with ea_ en_ ec_; (first | subst ea_ | (injection ea_ with ea_; subst ea_)); subst ec_; clear en_)); have GB31 := Aside0.mk gb31; have GG31 := Aside0.mk HG31; clear gb31 gl31 HG31; obtain ⟨hx31_0, hf31_0⟩ := Kd.R_celln 0 HO_5.out (0 : Int) p31 q31; (try rw [show ((0 : Int)).toNat = 0 from rfl] at hx31_0); (try simp only [Nat.reduceMul, Nat.zero_mul, Nat.zero_add, Nat.reduceAdd] at hx31_0); (try rw [show ((0 : Int)).toNat = 0 from rfl] at hf31_0); (try simp only [Nat.reduceMul, Nat.zero_mul, Nat.zero_add, Nat.reduceAdd] at hf31_0); replace p31 := eq_true p31; replace q31 := eq_true q31; have n_ := Aside0.mk (Kd.R_mono (ok' := (fun k_ => some k_ ≠ (.slice (some ad332) y327.length co39 : Value).ownBlock)) HO_5.out (fun k_ hk => hk.2)); clear HO_5; have HO_5 := n_; clear n_; obtain ⟨hy40_, hz40_⟩ := Kd.R_celln 0 HO_5.out (0 : Int) (by omega) (ZD); (try simp only [Int.reduceToNat, Int.toNat_zero, Int.toNat_ofNat, Nat.reduceMul, Nat.zero_mul, Nat.zero_add] at hy40_ hz40_); (try rw [show ((0 : Int)).toNat = 0 from rfl] at hy40_); (try rw [show ((0 : Int)).toNat = 0 from rfl] at hz40_); have HP40 := Kd.R_putg HO_5.out (0 : Int) (rd y327 t330)) | ((with_reducible refine gate_store (t := 3) (p := 41) rfl ?_); refine store_event (t := 3) (p := 41) (v := ?vo_w41) (w1 := (w38.setCell ⟨go31, (0 : Int).toNat, none⟩ (.int .i64 (rd y327 t330)))) ?hg ?ho ?hn ?hr ?_; (case ho => rfl); (case hg => rfl); (case hn => rfl); (case hr => first | (go_simp; done) | (go_simp; rfl)); intro w41 hw; have hg : w38.grownBy w41 (some go31) := (by rw [hw]; exact HP40.2); have hp_ : Kd.R (Kd.int .i64) 3 w41 w.heap.size (fun k_ => some k_ ≠ (.slice (some ad332) y327.length co39 : Value).ownBlock) (.slice (some ⟨go31, 0, none⟩) x5_1.length co35) y333 := (by rw [hw, Ny333.out]; exact HP40.1); clear HP40; replace BK309 := Aside0.mk (blk_grown (g := gb309) (o := .cells #[.slice A1_0 l1_0.length c1_0, .slice A1_1 l1_1.length c1_1] 43 (0, 0)) (ZK BK309.out) hg (Kd.R_ne HO_5.out BK309.out (by decide))); replace HI0 := Aside0.mk (IsS55.grown (ZI) hg (IsS55.own_ne HI0.out HO_5.out (by decide))); replace HO329 := Aside0.mk (Kd.R_after (v := (.slice (some ⟨go31, 0, none⟩) x5_1.length co35)) (v1 := (.slice (some ⟨go31, 0, none⟩) x5_1.length co35)) (ok := (fun _ => True)) (ZR HO329.out) hg (.inl rfl)); replace HB := Aside0.mk ((by rw [hw]; exact below_set (HB.out) (Nat.le_trans HL.out GB31.out) : Below w0.heap.size w0 w41)); replace HK := Aside0.mk (KeepBut.trans (ZJ) (KeepBut.of_grown hg g) (Kd.R_base2 HO_5.out)); replace HO_5 := Aside0.mk (hp_); clear hg hw hp_))
          go_ret
          exact ⟨_, ZE, by (with_reducible repeat (first | apply Kd.R_alloc | apply Kd.R_drewN | apply Kd.R_drew)); exact Kd.R_mono HO_5.out (fun _ hk => trivial), ZI, ZBI, ZJ⟩
         ·rw [if_neg c30] at H
          exact absurd H (by simp)
        ·rw [if_neg c29] at H
         exact absurd H (by simp)
       ·rw [if_neg c28] at H
        exact absurd H (by simp)
      ·rw [if_neg c26] at H
       have c26b0 : decide (0 < (x5_1.length : Int)) = false := decide_eq_false c26
       have c26b1 : decide (0 < x5_1.length) = false := decide_eq_false (by omega)
       clear c26
       simp only [Option.some.injEq, Prod.mk.injEq] at H
       obtain ⟨rfl, rfl⟩ := H
       have hnb42 := NB309_0.out
       have hnc42 := NB0_309.out
       obtain ⟨hcz43_0, hcz43_1⟩ := ZC2 wr BK309
       obtain ⟨hfz43_0, hfz43_1⟩ := ZF2 BK309
       go_wp2_with (first | ((with_reducible refine gate_callee (f := 17) rfl ?_); refine goesL_ (some 24) rfl rfl Try.func17 (by kernel_rfl) rfl #[.pointer (some ⟨g, 0, none⟩), .int .i64 20] rfl ZG ?_; (with_reducible refine (spec_l6Rd_pick.calls k1 g s0_0 x1001_1 20 t322 t323 w0 _ ?side1 ?side2 A18.out).mono ?_); (case side1 => exact ZI); (case side2 => exact ZBI); rintro e w44 ⟨rfl, hi, hb, hk⟩; refine ⟨_, rfl, ?_⟩; replace HO_5 := Aside0.mk (Kd.R_mono (Kd.R_keep (IsS55.apart (show IsS55 w0 _ g s0_0 x1001_1 from ZI) (ZR HO_5.out) (by decide)) hk (fun _ h => h.2)) (fun _ h => h.1)); replace BK309 := ZL hk BK309 NB309_0; replace HK := ZKT HK hk; replace HB := Aside0.mk (hb); replace HI0 := Aside0.mk (hi); (try clear hb); (try clear hb2); (try clear hk); (try clear hi); obtain ⟨Ao45, co45, eo45⟩ := Kd.R_slice HO_5.out; subst eo45))
       go_ret
       exact ⟨_, ZE, by (with_reducible repeat (first | apply Kd.R_alloc | apply Kd.R_drewN | apply Kd.R_drew)); exact HO_5.out, ZI, ZBI, ZJ⟩
     ·rw [if_neg c25] at H
      have c25b0 : (t322 == 1) = false := beq_eq_false_iff_ne.mpr c25
      have c25b1 : (t322 != 1) = true := bne_iff_ne.mpr c25
      simp only [Option.some.injEq, Prod.mk.injEq] at H
      obtain ⟨rfl, rfl⟩ := H
      have hnb46 := NB309_0.out
      have hnc46 := NB0_309.out
      obtain ⟨hcz47_0, hcz47_1⟩ := ZC2 wr BK309
      obtain ⟨hfz47_0, hfz47_1⟩ := ZF2 BK309
      go_wp2_with (first | ((with_reducible refine gate_callee (f := 17) rfl ?_); refine goesL_ (some 24) rfl rfl Try.func17 (by kernel_rfl) rfl #[.pointer (some ⟨g, 0, none⟩), .int .i64 20] rfl ZG ?_; (with_reducible refine (spec_l6Rd_pick.calls k1 g s0_0 x1001_1 20 t322 t323 w0 _ ?side1 ?side2 A18.out).mono ?_); (case side1 => exact ZI); (case side2 => exact ZBI); rintro e w48 ⟨rfl, hi, hb, hk⟩; refine ⟨_, rfl, ?_⟩; replace HO_5 := Aside0.mk (Kd.R_mono (Kd.R_keep (IsS55.apart (show IsS55 w0 _ g s0_0 x1001_1 from ZI) (ZR HO_5.out) (by decide)) hk (fun _ h => h.2)) (fun _ h => h.1)); replace BK309 := ZL hk BK309 NB309_0; replace HK := ZKT HK hk; replace HB := Aside0.mk (hb); replace HI0 := Aside0.mk (hi); (try clear hb); (try clear hb2); (try clear hk); (try clear hi)))
      go_ret
      exact ⟨_, ZE, by (with_reducible repeat (first | apply Kd.R_alloc | apply Kd.R_drewN | apply Kd.R_drew)); exact HO_5.out, ZI, ZBI, ZJ⟩

end Go.Proofs.Ytdmejmdifnicmaa.A
