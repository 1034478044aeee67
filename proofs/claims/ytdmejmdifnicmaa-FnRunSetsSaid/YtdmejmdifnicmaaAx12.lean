/- What Go functions compute, as Lean functions, and for each its contract: for every input at which the Lean function answers the call returns that; written by wip/tools/pr.py over the kit's print. -/
import Derived.Test.YtdmejmdifnicmaaAx0
import Derived.Test.YtdmejmdifnicmaaAx3
import Derived.Test.YtdmejmdifnicmaaAx4
import Derived.Test.YtdmejmdifnicmaaAx6
import Derived.Test.YtdmejmdifnicmaaAx11
namespace Go.Proofs.Ytdmejmdifnicmaa.A
open Go.RowKit Go.Proofs.YtdmejmdifnicmaaW.PrintWords Go.Proofs.YtdmejmdifnicmaaW.PrintLast Go.Proofs.YtdmejmdifnicmaaW.PrintMore
attribute [local go_sem] max2_int min2_int max_two min_two max_three min_three max_four min_four   -- for this text's walks alone
set_option linter.unusedVariables false
set_option linter.unusedSimpArgs false

/-! ### spec_l71Prog: function 14 -/
mutual
def spec_l71Prog.l0 : Nat → Int → List Int → Int → Option ((List (S57)) × (List (S66)) × Int)
 | 0, _, _, _ => none
 | k + 1, x3, x1000, x1001 => if x3 < 20 then ((spec_l6Rd_pick.f k x1000 x1001 4).bind fun bt236 => (spec_l71Prog.l1 k x3 (wrap64 (1 + bt236.1)) x1000 bt236.2 (([] : List (S57))))) else (some ((([(⟨7, 0⟩ : S57)] : List (S57))), ([] : List (S66)), x1001))
def spec_l71Prog.l1 : Nat → Int → Int → List Int → Int → List (S57) → Option ((List (S57)) × (List (S66)) × Int)
 | 0, _, _, _, _, _ => none
 | k + 1, x3, x5, x1000, x1001, x236000 => if x5 > 0 then ((spec_l71Label.f k x1000 x1001).bind fun bt238 => (if x236000.length < 8796093022208 then (spec_l71Prog.l1 k x3 (wrap64 (x5 - 1)) x1000 bt238.2.2 (x236000 ++ [(⟨bt238.1, bt238.2.1⟩ : S57)])) else (none))) else ((spec_l71Steps.f k x1000 x1001 4 3 (x236000.length : Int)).bind fun bt244 => ((spec_ProgOk.f k x236000 bt244.1).bind fun t248 => (if t248 = true then (some (x236000, bt244.1, bt244.2)) else (spec_l71Prog.l0 k (wrap64 (x3 + 1)) x1000 bt244.2))))
end
def spec_l71Prog.f (k : Nat) (s0_0 : List Int) (s0_1 : Int) : Option ((List (S57)) × (List (S66)) × Int) := spec_l71Prog.l0 k 0 s0_0 s0_1
def spec_l71Prog.T8 : Bool × List (List Nat × List Nat) := (true, [([], []), ([0], [0]), ([], []), ([2], [2]), ([3], [3]), ([1, 4, 3], [1, 4]), ([0, 1, 2, 3, 4, 5], []), ([6, 5, 5, 0, 1, 2, 3, 4, 5], [5, 6])])
def spec_l71Prog.B8 : List Nat := [0, 1, 0, 4, 12, 31, 63, 127]
theorem spec_l71Prog.tab8 : rtab .any (opsOf Try.f14 8) = spec_l71Prog.T8 := by kernel_rfl
theorem spec_l71Prog.bits8 : waitsOk spec_l71Prog.T8.2 spec_l71Prog.B8 = true := by kernel_rfl
set_option maxHeartbeats 8000000 in
set_option maxRecDepth 100000 in
theorem spec_l71Prog.calls (k : Nat) (g : Nat) (s0_0 : List Int) (s0_1 : Int) (r1 : List (S57)) (r2 : List (S66)) (r3 : Int) (w0 w : World) (hI : IsS55 w0 w g s0_0 s0_1) (hB : Below w0.heap.size w0 w) (h : spec_l71Prog.f k s0_0 s0_1 = some (r1, r2, r3)) :
  Calls Try.prog 14 #[.pointer (some ⟨g, 0, none⟩)] w fun e w' => ∃ v0_ v1_ : Value, e = .returned (.agg #[v0_, v1_]) ∧ Kd.R k57 57 w' w.heap.size (fun _ => True) v0_ r1 ∧ Kd.R k66 66 w' w.heap.size (fun _ => True) v1_ r2 ∧ IsS55 w0 w' g s0_0 r3 ∧ Below w0.heap.size w0 w' ∧ KeepBut w w' g none := by
 have hu43 := Try.underlying43
 have hu57 := Try.underlying57
 have HI0 := Aside0.mk hI
 have HK := Aside0.mk (KeepBut.refl w g none)
 have HL := Aside0.mk hB.size
 clear hI
 have HW0 := Aside0.mk hB.size
 have HB := Aside0.mk hB
 clear hB
 have H : (spec_l71Prog.l0 k 0 s0_0 s0_1) = some (r1, r2, r3) := h
 clear h
 have H' := Aside0.mk H
 clear H
 go_enter Try.func14, Try.ntmps14
 go_wp2_with (first | ((with_reducible refine gate_dst (N := 2) rfl ?_); refine ZX (N := 2) (cs := #[.slice none 0 0, .slice none 0 0]) (t := 43) ?_; intro gb228 hg w2 hbox hb; have BK228 := Aside0.mk (hbox); have GW228 := Aside0.mk ((by rw [hg]; exact (keep_size (w := w) (g := g) (row := none) (ZJ)) : w.heap.size ≤ gb228)); have GE228 := Aside0.mk ((Nat.le_trans HW0.out (by rw [hg]; exact (keep_size (w := w) (g := g) (row := none) (ZJ)) : w.heap.size ≤ gb228) : w0.heap.size ≤ gb228)); have NB0_228 := Aside0.mk ((by rw [hg]; exact Nat.ne_of_lt (IsS55.lt (show IsS55 w0 _ g s0_0 s0_1 from ZI)) : g ≠ gb228)); have NB228_0 := Aside0.mk ((by rw [hg]; exact Nat.ne_of_gt (IsS55.lt (show IsS55 w0 _ g s0_0 s0_1 from ZI)) : gb228 ≠ g)); replace HK := ZKT HK (KeepBut.of_below hb g none); replace HB := ZTI HB hb; replace HI0 := Aside0.mk (IsS55.below (ZI) hb); clear hb hbox hg))
 go_loopg [3] k (fun kq v3 w' => ∃ (x3_1 : Int) (x1001_1 : Int), v3 = .int .i64 x3_1 ∧ Aside0 (spec_l71Prog.l0 kq x3_1 s0_0 x1001_1 = some (r1, r2, r3)) ∧ Aside0 (kq ≤ k) ∧ Aside0 (w'.heap[gb228]? = some (.cells #[(.slice none 0 0), (.slice none 0 0)] 43 (0, 0))) ∧ Aside0 (IsS55 w0 w' g s0_0 x1001_1) ∧ Aside0 (KeepBut w w' g none) ∧ Aside0 (Below w0.heap.size w0 w'))
 case atStart => exact ⟨(0), (s0_1), (by first | rfl | (simp; done) | (simp [*]; done)), H', ⟨Nat.le_refl _⟩, ⟨ZK BK228.out⟩, ⟨ZI⟩, ⟨ZJ⟩, ⟨ZBI⟩⟩
 case round =>
  clear H'
  try clear c1
  try clear p2
  obtain ⟨x3_1, x1001_1, rfl, HA, HK1, BK228, HI0, HK, HB⟩ := hrel
  cases gk with
  | zero => exact absurd HA.out (by simp [spec_l71Prog.l0])
  | succ k1 =>
   have H := HA.out
   clear HA
   simp only [spec_l71Prog.l0] at H
   by_cases c3 : x3_1 < 20
   ·rw [if_pos c3] at H
    have c3b0 : decide (x3_1 < 20) = true := decide_eq_true c3
    clear c3
    obtain ⟨y232, hy232⟩ : ∃ y_ : List (S57), y_ = (([] : List (S57))) := ⟨_, rfl⟩
    replace H : ((spec_l6Rd_pick.f k1 s0_0 x1001_1 4).bind fun bt236 => (spec_l71Prog.l1 k1 x3_1 (wrap64 (1 + bt236.1)) s0_0 bt236.2 y232)) = some (r1, r2, r3) := by first | (rw [hy232]; with_reducible exact H) | (have H2_ := (Option.bind_some _ _).symm.trans H; rw [hy232]; with_reducible exact H2_) | (have H2_ := (Option.bind_some _ _).symm.trans H; with_reducible exact H2_) | with_reducible exact H | (rw [hy232]; exact H) | exact H
    have Ny232 := Aside0.mk hy232
    clear hy232
    replace H := Option.bind_eq_some_iff.mp H
    obtain ⟨⟨t236, t237⟩, A40, H⟩ := H
    replace H : (spec_l71Prog.l1 k1 x3_1 (wrap64 (1 + t236)) s0_0 t237 y232) = some (r1, r2, r3) := H
    have A4 := Aside0.mk A40
    clear A40
    have H' := Aside0.mk H
    clear H
    go_wp2_with (first | ((with_reducible refine gate_dst (N := 10) rfl ?_); refine Kd.R_lit k57 _ 57 ?hg (N := 10) ?hd (xs := ([] : List (S57))) (inner := []) (ok := fun _ => True) (okp := fun _ => True) ?hr ?hp (fun _ hk => hk) trivial (Below.refl _ _) (Nat.le_refl _) (by simp) ?_; (case hd => rfl); (case hg => rfl); (case hr => first | (go_simp; done) | (go_simp; rfl)); (case hp => exact (Reps.none _ _)); intro v233 w5 ho6 hb hg_ hnew_; clear hg_ hnew_; (first | rw [← Ny232.out] at ho6 | (simp only [Int.reduceToNat] at ho6; rw [← Ny232.out] at ho6)); have HO234 := Aside0.mk (Kd.R_lower ho6 (keep_size (w := w) (g := g) (row := none) (ZJ))); replace BK228 := ZW BK228 hb; replace HK := ZKT HK (KeepBut.of_below hb g none); replace HB := ZTI HB hb; replace HI0 := Aside0.mk (IsS55.below (ZI) hb); clear hb ho6; obtain ⟨Ao7, co7, eo7⟩ := Kd.R_slice HO234.out; subst eo7) | ((with_reducible refine gate_dst (N := 4) rfl ?_); refine ZX (N := 4) (cs := #[.slice none 0 0, .slice none 0 0]) (t := 43) ?_; intro gb235 hg w8 hbox hb; have BK235 := Aside0.mk (hbox); have GW235 := Aside0.mk ((by rw [hg]; exact (keep_size (w := w) (g := g) (row := none) (ZJ)) : w.heap.size ≤ gb235)); have GE235 := Aside0.mk ((Nat.le_trans HW0.out (by rw [hg]; exact (keep_size (w := w) (g := g) (row := none) (ZJ)) : w.heap.size ≤ gb235) : w0.heap.size ≤ gb235)); have NB228_235 : Aside0 (gb228 ≠ gb235) := ZN hg BK228; have NB235_228 : Aside0 (gb235 ≠ gb228) := ZM hg BK228; have NB0_235 := Aside0.mk ((by rw [hg]; exact Nat.ne_of_lt (IsS55.lt (show IsS55 w0 _ g s0_0 x1001_1 from ZI)) : g ≠ gb235)); have NB235_0 := Aside0.mk ((by rw [hg]; exact Nat.ne_of_gt (IsS55.lt (show IsS55 w0 _ g s0_0 x1001_1 from ZI)) : gb235 ≠ g)); replace HO234 := Aside0.mk (Kd.R_below (ZR HO234.out) hb); replace BK228 := ZW BK228 hb; replace HK := ZKT HK (KeepBut.of_below hb g none); replace HB := ZTI HB hb; replace HI0 := Aside0.mk (IsS55.below (ZI) hb); clear hb hbox hg; have hnb9 := NB235_228.out; have hnc9 := NB228_235.out; have hnb10 := NB235_0.out; have hnc10 := NB0_235.out; obtain ⟨hcz11_0, hcz11_1⟩ := ZC2 w8 BK235; obtain ⟨hfz11_0, hfz11_1⟩ := ZF2 BK235) | ((with_reducible refine gate_callee (f := 17) rfl ?_); refine goesL_ (some 13) rfl rfl Try.func17 (by kernel_rfl) rfl #[.pointer (some ⟨g, 0, none⟩), .int .i64 4] rfl ZG ?_; (with_reducible refine (spec_l6Rd_pick.calls k1 g s0_0 x1001_1 4 t236 t237 w0 _ ?side1 ?side2 A4.out).mono ?_); (case side1 => exact ZI); (case side2 => exact ZBI); rintro e w12 ⟨rfl, hi, hb, hk⟩; refine ⟨_, rfl, ?_⟩; replace BK228 := ZLV #[.slice none 0 0, .slice none 0 0] hk BK228 NB228_0; replace HO234 := Aside0.mk (Kd.R_mono (Kd.R_keep (IsS55.apart (show IsS55 w0 _ g s0_0 x1001_1 from ZI) (ZR ((Kd.R_mono (Kd.R_far (p := ⟨gb235, 1, none⟩) (Kd.R_far (p := ⟨gb235, 0, none⟩) (Kd.R_types HO234.out BK235.out (by decide)) (fun _ hk => hk.2) (.slice Ao7 y232.length co7)) (fun _ hk => hk.2) (.slice none 0 0)) (fun _ h_ => h_.1)))) (by decide)) hk (fun _ h => h.2)) (fun _ h => h.1)); replace BK235 := ZLV #[.slice Ao7 y232.length co7, .slice none 0 0] hk BK235 NB235_0; replace HK := ZKT HK hk; replace HB := Aside0.mk (hb); replace HI0 := Aside0.mk (hi); (try clear hb); (try clear hb2); (try clear hk); (try clear hi)))
    go_loopg [5] k1 (fun kq v5 w' => ∃ (x5_2 : Int) (x1001_2 : Int) (x236000_2 : List (S57)) (u236000 : Value), v5 = .int .i64 x5_2 ∧ Aside0 (spec_l71Prog.l1 kq x3_1 x5_2 s0_0 x1001_2 x236000_2 = some (r1, r2, r3)) ∧ Aside0 (kq ≤ k1) ∧ Aside0 (Kd.R k57 57 w' w.heap.size (fun _ => True) u236000 x236000_2) ∧ Aside0 (w'.heap[gb228]? = some (.cells #[(.slice none 0 0), (.slice none 0 0)] 43 (0, 0))) ∧ Aside0 (w'.heap[gb235]? = some (.cells #[u236000, (.slice none 0 0)] 43 (0, 0))) ∧ Aside0 (IsS55 w0 w' g s0_0 x1001_2) ∧ Aside0 (KeepBut w w' g none) ∧ Aside0 (Below w0.heap.size w0 w'))
    case atStart => exact ⟨(wrap64 (1 + t236)), (t237), (y232), (.slice Ao7 y232.length co7), (by first | rfl | (simp; done) | (simp [*]; done)), H', ⟨Nat.le_refl _⟩, ⟨ZR HO234.out⟩, ⟨ZK BK228.out⟩, ⟨ZK BK235.out⟩, ⟨ZI⟩, ⟨ZJ⟩, ⟨ZBI⟩⟩
    case round =>
     clear H'
     try clear c1
     try clear p2
     try clear c3
     try clear c3b0
     try clear p6
     try clear c9
     try clear c10
     try clear hcz11_0
     try clear hcz11_1
     try clear hfz11_0
     try clear hfz11_1
     try clear p2
     obtain ⟨x5_2, x1001_2, x236000_2, u236000, rfl, HA, HK2, HO_236000, BK228, BK235, HI0, HK, HB⟩ := hrel
     cases gk with
     | zero => exact absurd HA.out (by simp [spec_l71Prog.l1])
     | succ k2 =>
      have H := HA.out
      clear HA
      simp only [spec_l71Prog.l1] at H
      by_cases c13 : x5_2 > 0
      ·rw [if_pos c13] at H
       have c13b0 : decide (0 < x5_2) = true := decide_eq_true c13
       clear c13
       replace H := Option.bind_eq_some_iff.mp H
       obtain ⟨⟨t238, t239, t240⟩, A140, H⟩ := H
       replace H : (if x236000_2.length < 8796093022208 then (spec_l71Prog.l1 k2 x3_1 (wrap64 (x5_2 - 1)) s0_0 t240 (x236000_2 ++ [(⟨t238, t239⟩ : S57)])) else (none)) = some (r1, r2, r3) := H
       have A14 := Aside0.mk A140
       clear A140
       by_cases c15 : x236000_2.length < 8796093022208
       ·rw [if_pos c15] at H
        have LMc15 := Aside0.mk c15
        clear c15
        obtain ⟨y241, hy241⟩ : ∃ y_ : List (S57), y_ = (x236000_2 ++ [(⟨t238, t239⟩ : S57)]) := ⟨_, rfl⟩
        replace H : (spec_l71Prog.l1 k2 x3_1 (wrap64 (x5_2 - 1)) s0_0 t240 y241) = some (r1, r2, r3) := by first | (rw [hy241]; with_reducible exact H) | (have H2_ := (Option.bind_some _ _).symm.trans H; rw [hy241]; with_reducible exact H2_) | (have H2_ := (Option.bind_some _ _).symm.trans H; with_reducible exact H2_) | with_reducible exact H | (rw [hy241]; exact H) | exact H
        have Ny241 := Aside0.mk hy241
        clear hy241
        have H' := Aside0.mk H
        clear H
        try go_wp2
        have n0_ := Aside0.mk (Kd.R_drew HO_236000.out)
        have n1_ := Aside0.mk (blk_drew BK228.out)
        have n2_ := Aside0.mk (blk_drew BK235.out)
        have n3_ := Aside0.mk (IsS55.drew HI0.out)
        have n4_ := Aside0.mk (keep_drew HK.out)
        have n5_ := Aside0.mk (below_drew1 HB.out)
        clear HO_236000
        clear BK228
        clear BK235
        clear HI0
        clear HK
        clear HB
        have HO_236000 := n0_
        have BK228 := n1_
        have BK235 := n2_
        have HI0 := n3_
        have HK := n4_
        have HB := n5_
        clear n0_ n1_ n2_ n3_ n4_ n5_
        refine start_ (n := 8) (S := fun w' => w'.cell? ⟨gb235, 0, none⟩ = some (u236000) ∧ w'.cell? ⟨gb235, 1, none⟩ = some (.slice none 0 0)) (ds := [7]) #[false, false, false, false, false, false, false, false] (by kernel_rfl) rfl rfl ⟨(blk_cell BK235.out 0).trans rfl, (blk_cell BK235.out 1).trans rfl⟩ (fun hHeld => ?_); refine with_tabW spec_l71Prog.tab8 spec_l71Prog.bits8 (fun HT_ HW_ => ?_)
        generalize wr.drew = w16 at HO_236000 BK228 BK235 HI0 HK HB hHeld ⊢
        refine pure_ (i := 0) (N := some 19) (v := ?_) (a' := ?_) #[true, false, false, false, false, false, false, false] rfl rfl (any_of HT_.out (by kernel_rfl)) (fun _ _ _ h => h) (Or.inl ⟨by rfl, ?_⟩) ?_ ?_
        rotate_left
        ·intro w'
         go_simp
         with_reducible rfl
        rotate_left
        ·simp only [Act.put, List.setIfInBounds_toArray, List.set_cons_zero, List.set_cons_succ, i64_w, i32_w]
         rfl
        refine pure_ (i := 2) (N := some 21) (v := ?_) (a' := ?_) #[true, false, true, false, false, false, false, false] rfl rfl (any_of HT_.out (by kernel_rfl)) (fun _ _ _ h => h) (Or.inl ⟨by rfl, ?_⟩) ?_ ?_
        rotate_left
        ·intro w'
         go_simp
         with_reducible rfl
        rotate_left
        ·simp only [Act.put, List.setIfInBounds_toArray, List.set_cons_zero, List.set_cons_succ, i64_w, i32_w]
         rfl
        refine take_ (i := 1) (N := some 20) (v := ?_) (a' := ?_) #[true, true, true, false, false, false, false, false] rfl rfl (take_ofW HT_.out HW_.out (by kernel_rfl)) (fun _ _ _ h => h) (Or.inl ⟨by rfl, ?_⟩) hHeld ?_ ?_
        rotate_left
        ·rintro w' ⟨s0, s1⟩
         go_simp
         with_reducible rfl
        rotate_left
        ·simp only [Act.put, List.setIfInBounds_toArray, List.set_cons_zero, List.set_cons_succ, i64_w, i32_w]
         rfl
        refine one_ (i := 3) (N := some 22) #[true, true, true, true, false, false, false, false] rfl rfl (one_of HT_.out (by kernel_rfl)) (by decide) (fun K hK => ?_)
        refine goes_ Try.func20 (by kernel_rfl) rfl #[.pointer (some ⟨g, 0, none⟩)] (by rfl) rfl rfl ZG ?_
        with_reducible refine (spec_l71Label.calls k2 g s0_0 x1001_2 t238 t239 t240 w0 _ ?side1 ?side2 A14.out).mono ?_
        (case side1 => exact ZI)
        (case side2 => exact ZBI)
        rintro e w17 ⟨rfl, hi, hb, hk⟩
        refine ⟨_, rfl, ?_⟩
        have n0_ := Aside0.mk (Kd.R_mono (Kd.R_keep (IsS55.apart (show IsS55 w0 _ g s0_0 x1001_2 from ZI) (ZR HO_236000.out) (by decide)) hk (fun _ h => h.2)) (fun _ h => h.1))
        have n1_ := ZL hk BK228 NB228_0
        have n2_ := ZL hk BK235 NB235_0
        have n3_ := ZKT HK hk
        have n4_ := Aside0.mk (hb)
        have n5_ := Aside0.mk (hi)
        clear HO_236000
        clear BK228
        clear BK235
        clear HK
        clear HB
        clear HI0
        have HO_236000 := n0_
        have BK228 := n1_
        have BK235 := n2_
        have HK := n3_
        have HB := n4_
        have HI0 := n5_
        clear n0_ n1_ n2_ n3_ n4_ n5_
        (try clear hb)
        (try clear hb2)
        (try clear hk)
        (try clear hi)
        refine hK.out _ _ ⟨(blk_cell BK235.out 0).trans rfl, (blk_cell BK235.out 1).trans rfl⟩ (fun hHeld => ?_)
        clear hK K
        refine ZNO 22 ?_
        refine one_ (i := 4) (N := some 23) #[true, true, true, true, true, false, false, false] rfl rfl (one_of HT_.out (by kernel_rfl)) (by decide) (fun K hK => ?_)
        refine value_ (w1 := ?_) (v := ?_) (by rfl) rfl ?_ ?_
        rotate_left 2
        ·go_simp
         constructor
         ·rfl
         ·rfl
        refine hK.out _ _ ⟨(blk_cell (blk_alloc BK235.out _) 0).trans rfl, (blk_cell (blk_alloc BK235.out _) 1).trans rfl⟩ (fun hHeld => ?_)
        clear hK K
        refine ZNO 23 ?_
        refine one_ (i := 5) (N := some 24) #[true, true, true, true, true, true, false, false] rfl rfl (one_of HT_.out (by kernel_rfl)) (by decide) (fun K hK => ?_)
        refine Kd.R_append_step k57 w.heap.size (by rfl) (.tmp 20) (.tmp 23) 40 57 (.agg #[(.int .i64 0), (.int .i64 0)]) 16 rfl Try.underlying40 info57 rfl (by decide) (by omega) u236000 x236000_2 (⟨t238, t239⟩ : S57) [.int .i64 t238, .int .i64 t239] (fun _ => True) (fun _ => False) rfl rfl ?aP (fun _ hk => hk.elim) ?aF ?aO (Below.refl _ _) ?aS ?aL ?_
        (case aP => exact k57_mkM _ _ _ (⟨t238, t239⟩ : S57))
        (case aF => exact (fun _ _ => trivial))
        (case aO => exact (ZR HO_236000.out))
        (case aS => exact (keep_size (w := w) (g := g) (row := none) (ZJ)))
        (case aL => have := LMc15.out; omega)
        intro v242 w18 ho hb hg hat
        rw [← Ny241.out] at ho
        have n0_ := Aside0.mk (blk_grown (g := gb228) (o := .cells #[.slice none 0 0, .slice none 0 0] 43 (0, 0)) (ZK BK228.out) hg (Kd.R_ne HO_236000.out BK228.out (by decide)))
        have n1_ := Aside0.mk (blk_grown (g := gb235) (o := .cells #[u236000, .slice none 0 0] 43 (0, 0)) (ZK BK235.out) hg (Kd.R_ne HO_236000.out BK235.out (by decide)))
        have n2_ := Aside0.mk (IsS55.grown (ZI) hg (IsS55.own_ne HI0.out HO_236000.out (by decide)))
        have n3_ := Aside0.mk (below_weaken (ZBI) HL.out hb)
        have n4_ := Aside0.mk (KeepBut.trans (ZJ) (KeepBut.of_grown hg g) (Kd.R_base2 HO_236000.out))
        have n5_ := Aside0.mk (ho)
        clear BK228
        clear BK235
        clear HI0
        clear HB
        clear HK
        clear HO_236000
        have BK228 := n0_
        have BK235 := n1_
        have HI0 := n2_
        have HB := n3_
        have HK := n4_
        have HO243 := n5_
        clear n0_ n1_ n2_ n3_ n4_ n5_
        clear ho hb hg hat
        obtain ⟨Ao19, co19, eo19⟩ := Kd.R_slice HO243.out
        (first | subst eo19 | (injection eo19 with f1_ f2_ f3_; have f4_ := f1_.symm; have f5_ := f3_.symm; clear f1_ f2_ f3_; subst f4_; subst f5_))
        refine hK.out _ _ ⟨(blk_cell BK235.out 0).trans rfl, (blk_cell BK235.out 1).trans rfl⟩ (fun hHeld => ?_)
        clear hK K
        refine ZNO 24 ?_
        refine pure_ (i := 6) (N := some 25) (v := ?_) (a' := ?_) #[true, true, true, true, true, true, true, false] rfl rfl (any_of HT_.out (by kernel_rfl)) (fun _ _ _ h => h) (Or.inl ⟨by rfl, ?_⟩) ?_ ?_
        rotate_left
        ·intro w'
         go_simp
         with_reducible rfl
        rotate_left
        ·simp only [Act.put, List.setIfInBounds_toArray, List.set_cons_zero, List.set_cons_succ, i64_w, i32_w]
         rfl
        refine last_ (i := 7) (N := none) #[true, true, true, true, true, true, true, true] rfl rfl (one_of HT_.out (by kernel_rfl)) (by decide) (fun K hK => ?_)
        have hs20 : w18.cell? ⟨gb235, 0, none⟩ = some (u236000) := (blk_cell BK235.out 0).trans rfl
        have hfs20 := blk_frozen BK235.out 0
        have hns20_0 := NB228_235.out
        have hms20_0 := NB235_228.out
        refine skip_ (w1 := ?_) (by rfl) rfl ?_ ?_
        rotate_left
        ·go_simp
         rfl
        refine hK.out _ _ ?_
        clear hK K
        refine done_ (done_of HT_.out (by kernel_rfl)) ?_
        try go_wp2
        go_roundg k2
        case measure => have := HK1.out; have := HK2.out; omega
        case rel => exact ⟨(wrap64 (x5_2 - 1)), (t240), (y241), (.slice Ao19 y241.length co19), (by first | rfl | (simp; done) | (simp [*]; done)), H', ⟨by have := HK1.out; have := HK2.out; omega⟩, ⟨ZR (Kd.R_mono (Kd.R_far (p := ⟨gb235, 0, none⟩) (Kd.R_types HO243.out BK235.out (by decide)) (fun _ hk => hk.2) (.slice Ao19 y241.length co19)) (fun _ hk => trivial))⟩, ⟨ZZ BK228.out⟩, ⟨ZZ BK235.out⟩, ⟨ZI⟩, ⟨ZJ⟩, ⟨ZBI⟩⟩
       ·rw [if_neg c15] at H
        exact absurd H (by simp)
      ·rw [if_neg c13] at H
       have c13b0 : decide (0 < x5_2) = false := decide_eq_false c13
       clear c13
       replace H := Option.bind_eq_some_iff.mp H
       obtain ⟨⟨t244, t247⟩, A210, H⟩ := H
       replace H : ((spec_ProgOk.f k2 x236000_2 t244).bind fun t248 => (if t248 = true then (some (x236000_2, t244, t247)) else (spec_l71Prog.l0 k2 (wrap64 (x3_1 + 1)) s0_0 t247))) = some (r1, r2, r3) := H
       have A21 := Aside0.mk A210
       clear A210
       replace H := Option.bind_eq_some_iff.mp H
       obtain ⟨t248, A220, H⟩ := H
       replace H : (if t248 = true then (some (x236000_2, t244, t247)) else (spec_l71Prog.l0 k2 (wrap64 (x3_1 + 1)) s0_0 t247)) = some (r1, r2, r3) := H
       have A22 := Aside0.mk A220
       clear A220
       by_cases c23 : t248 = true
       ·subst c23
        have H1 : (some (x236000_2, t244, t247)) = some (r1, r2, r3) := by rw [if_pos rfl] at H; exact H
        clear H
        have H := H1
        clear H1
        simp only [Option.some.injEq, Prod.mk.injEq] at H
        obtain ⟨rfl, rfl, rfl⟩ := H
        have hnb24 := NB235_228.out
        have hnc24 := NB228_235.out
        have hnb25 := NB235_0.out
        have hnc25 := NB0_235.out
        obtain ⟨hcz26_0, hcz26_1⟩ := ZC2 wr BK235
        obtain ⟨hfz26_0, hfz26_1⟩ := ZF2 BK235
        obtain ⟨Ao27, co27, eo27⟩ := Kd.R_slice HO_236000.out
        subst eo27
        go_wp2_with (first | ((with_reducible refine gate_callee (f := 21) rfl ?_); refine goesL_ (some 30) rfl rfl Try.func21 (by kernel_rfl) rfl #[.pointer (some ⟨g, 0, none⟩), .int .i64 4, .int .i64 3, .int .i64 (x236000_2.length : Int)] rfl ZG ?_; (with_reducible refine (spec_l71Steps.calls k2 g s0_0 x1001_2 4 3 (x236000_2.length : Int) t244 t247 w0 _ ?side1 ?side2 A21.out).mono ?_); (case side1 => exact ZI); (case side2 => exact ZBI); rintro e w28 ⟨v245, rfl, ho0, hi, hb, hk⟩; refine ⟨_, rfl, ?_⟩; have HO246 := Aside0.mk (Kd.R_lower ho0 (keep_size (w := w) (g := g) (row := none) (ZJ))); replace HO_236000 := Aside0.mk (Kd.R_mono (Kd.R_keep (IsS55.apart (show IsS55 w0 _ g s0_0 x1001_2 from ZI) (ZR HO_236000.out) (by decide)) hk (fun _ h => h.2)) (fun _ h => h.1)); replace BK228 := ZL hk BK228 NB228_0; replace BK235 := ZL hk BK235 NB235_0; replace HK := ZKT HK hk; replace HB := Aside0.mk (hb); replace HI0 := Aside0.mk (hi); (try clear hb); (try clear hb2); (try clear hk); (try clear hi); (try clear ho0); obtain ⟨Ao29, co29, eo29⟩ := Kd.R_slice HO246.out; subst eo29; obtain ⟨hcz30_0, hcz30_1⟩ := ZC2 w28 BK235; obtain ⟨hfz30_0, hfz30_1⟩ := ZF2 BK235) | ((with_reducible refine gate_callee (f := 22) rfl ?_); refine goesL_ (some 33) rfl rfl Try.func22 (by kernel_rfl) rfl #[.agg #[.slice Ao27 x236000_2.length co27, .slice Ao29 t244.length co29]] rfl ZG ?_; (with_reducible refine (spec_ProgOk.calls k2 _ _ x236000_2 _ _ t244 true _ ?side1 ?side2 ?side3 ?side4 A22.out).mono ?_); (case side1 => refine (Kd.R_reads' (e := 57) (base := w.heap.size) (ok := fun k_ => True) (n := x236000_2.length) (c := co27) ?_).2.2; exact (ZR ((Kd.R_mono (Kd.R_far (p := ⟨gb235, 1, none⟩) (Kd.R_types HO_236000.out BK235.out (by decide)) (fun _ hk => hk.2) (.slice Ao29 t244.length co29)) (fun _ h_ => h_.1))))); (case side2 => exact (Kd.R_reads' HO_236000.out).2.1); (case side3 => refine (Kd.R_reads' (e := 66) (base := w.heap.size) (ok := fun k_ => True) (n := t244.length) (c := co29) ?_).2.2; exact (ZR ((Kd.R_mono (Kd.R_far (p := ⟨gb235, 1, none⟩) (Kd.R_types HO246.out BK235.out (by decide)) (fun _ hk => hk.2) (.slice Ao29 t244.length co29)) (fun _ h_ => h_.1))))); (case side4 => exact (Kd.R_reads' HO246.out).2.1); rintro e w31 ⟨rfl, hb⟩; refine ⟨_, rfl, ?_⟩; replace HO_236000 := Aside0.mk (Kd.R_below (ZR ((Kd.R_mono (Kd.R_far (p := ⟨gb235, 1, none⟩) (Kd.R_types HO_236000.out BK235.out (by decide)) (fun _ hk => hk.2) (.slice Ao29 t244.length co29)) (fun _ h_ => h_.1)))) hb); replace HO246 := Aside0.mk (Kd.R_below (ZR ((Kd.R_mono (Kd.R_far (p := ⟨gb235, 1, none⟩) (Kd.R_types HO246.out BK235.out (by decide)) (fun _ hk => hk.2) (.slice Ao29 t244.length co29)) (fun _ h_ => h_.1)))) hb); replace BK228 := ZV #[.slice none 0 0, .slice none 0 0] BK228 hb; replace BK235 := ZV #[.slice Ao27 x236000_2.length co27, .slice Ao29 t244.length co29] BK235 hb; replace HK := ZKT HK (KeepBut.of_below hb g none); replace HB := ZTI HB hb; replace HI0 := Aside0.mk (IsS55.below (show IsS55 w0 (w28.setCell ⟨gb235, 1, none⟩ (.slice Ao29 t244.length co29)) g s0_0 t247 from ZI) hb); (try clear hb); (try clear hb2); (try clear hk); (try clear hi); obtain ⟨hcz32_0, hcz32_1⟩ := ZC2 w31 BK235; obtain ⟨hfz32_0, hfz32_1⟩ := ZF2 BK235; have hnb33 := NB228_0.out; have hnc33 := NB0_228.out; obtain ⟨hcz34_0, hcz34_1⟩ := ZC2 w31 BK228; obtain ⟨hfz34_0, hfz34_1⟩ := ZF2 BK228))
        refine bodyPost_ret (results_cell_row rfl _ _ gb228 43 #[.slice Ao27 x236000_2.length co27, .slice Ao29 t244.length co29] (0, 0) _ rfl (ZZ BK228.out) Try.underlying43 rfl (by kernel_rfl)) rfl ?_
        exact ⟨_, _, ZE, by (with_reducible repeat (first | apply Kd.R_alloc | apply Kd.R_drewN | apply Kd.R_drew)); exact Kd.R_mono (Kd.R_far (p := ⟨gb228, 1, none⟩) (Kd.R_far (p := ⟨gb228, 0, none⟩) (Kd.R_types HO_236000.out BK228.out (by decide)) (fun _ hk => hk.2) (.slice Ao27 x236000_2.length co27)) (fun _ hk => hk.2) (.slice Ao29 t244.length co29)) (fun _ hk => trivial), by (with_reducible repeat (first | apply Kd.R_alloc | apply Kd.R_drewN | apply Kd.R_drew)); exact Kd.R_mono (Kd.R_far (p := ⟨gb228, 1, none⟩) (Kd.R_far (p := ⟨gb228, 0, none⟩) (Kd.R_types HO246.out BK228.out (by decide)) (fun _ hk => hk.2) (.slice Ao27 x236000_2.length co27)) (fun _ hk => hk.2) (.slice Ao29 t244.length co29)) (fun _ hk => trivial), ZI, ZBI, ZJ⟩
       ·replace c23 := Bool.eq_false_iff.mpr c23
        subst c23
        have H1 : (spec_l71Prog.l0 k2 (wrap64 (x3_1 + 1)) s0_0 t247) = some (r1, r2, r3) := by rw [if_neg (show ¬ (false = true) by decide)] at H; exact H
        clear H
        have H := H1
        clear H1
        have H' := Aside0.mk H
        clear H
        have hnb35 := NB235_228.out
        have hnc35 := NB228_235.out
        have hnb36 := NB235_0.out
        have hnc36 := NB0_235.out
        obtain ⟨hcz37_0, hcz37_1⟩ := ZC2 wr BK235
        obtain ⟨hfz37_0, hfz37_1⟩ := ZF2 BK235
        obtain ⟨Ao38, co38, eo38⟩ := Kd.R_slice HO_236000.out
        subst eo38
        go_wp2_with (first | ((with_reducible refine gate_callee (f := 21) rfl ?_); refine goesL_ (some 30) rfl rfl Try.func21 (by kernel_rfl) rfl #[.pointer (some ⟨g, 0, none⟩), .int .i64 4, .int .i64 3, .int .i64 (x236000_2.length : Int)] rfl ZG ?_; (with_reducible refine (spec_l71Steps.calls k2 g s0_0 x1001_2 4 3 (x236000_2.length : Int) t244 t247 w0 _ ?side1 ?side2 A21.out).mono ?_); (case side1 => exact ZI); (case side2 => exact ZBI); rintro e w39 ⟨v245, rfl, ho0, hi, hb, hk⟩; refine ⟨_, rfl, ?_⟩; have HO246 := Aside0.mk (Kd.R_lower ho0 (keep_size (w := w) (g := g) (row := none) (ZJ))); replace HO_236000 := Aside0.mk (Kd.R_mono (Kd.R_keep (IsS55.apart (show IsS55 w0 _ g s0_0 x1001_2 from ZI) (ZR HO_236000.out) (by decide)) hk (fun _ h => h.2)) (fun _ h => h.1)); replace BK228 := ZL hk BK228 NB228_0; replace BK235 := ZL hk BK235 NB235_0; replace HK := ZKT HK hk; replace HB := Aside0.mk (hb); replace HI0 := Aside0.mk (hi); (try clear hb); (try clear hb2); (try clear hk); (try clear hi); (try clear ho0); obtain ⟨Ao40, co40, eo40⟩ := Kd.R_slice HO246.out; subst eo40; obtain ⟨hcz41_0, hcz41_1⟩ := ZC2 w39 BK235; obtain ⟨hfz41_0, hfz41_1⟩ := ZF2 BK235) | ((with_reducible refine gate_callee (f := 22) rfl ?_); refine goesL_ (some 33) rfl rfl Try.func22 (by kernel_rfl) rfl #[.agg #[.slice Ao38 x236000_2.length co38, .slice Ao40 t244.length co40]] rfl ZG ?_; (with_reducible refine (spec_ProgOk.calls k2 _ _ x236000_2 _ _ t244 false _ ?side1 ?side2 ?side3 ?side4 A22.out).mono ?_); (case side1 => refine (Kd.R_reads' (e := 57) (base := w.heap.size) (ok := fun k_ => True) (n := x236000_2.length) (c := co38) ?_).2.2; exact (ZR ((Kd.R_mono (Kd.R_far (p := ⟨gb235, 1, none⟩) (Kd.R_types HO_236000.out BK235.out (by decide)) (fun _ hk => hk.2) (.slice Ao40 t244.length co40)) (fun _ h_ => h_.1))))); (case side2 => exact (Kd.R_reads' HO_236000.out).2.1); (case side3 => refine (Kd.R_reads' (e := 66) (base := w.heap.size) (ok := fun k_ => True) (n := t244.length) (c := co40) ?_).2.2; exact (ZR ((Kd.R_mono (Kd.R_far (p := ⟨gb235, 1, none⟩) (Kd.R_types HO246.out BK235.out (by decide)) (fun _ hk => hk.2) (.slice Ao40 t244.length co40)) (fun _ h_ => h_.1))))); (case side4 => exact (Kd.R_reads' HO246.out).2.1); rintro e w42 ⟨rfl, hb⟩; refine ⟨_, rfl, ?_⟩; replace HO_236000 := Aside0.mk (Kd.R_below (ZR ((Kd.R_mono (Kd.R_far (p := ⟨gb235, 1, none⟩) (Kd.R_types HO_236000.out BK235.out (by decide)) (fun _ hk => hk.2) (.slice Ao40 t244.length co40)) (fun _ h_ => h_.1)))) hb); replace HO246 := Aside0.mk (Kd.R_below (ZR ((Kd.R_mono (Kd.R_far (p := ⟨gb235, 1, none⟩) (Kd.R_types HO246.out BK235.out (by decide)) (fun _ hk => hk.2) (.slice Ao40 t244.length co40)) (fun _ h_ => h_.1)))) hb); replace BK228 := ZV #[.slice none 0 0, .slice none 0 0] BK228 hb; replace BK235 := ZV #[.slice Ao38 x236000_2.length co38, .slice Ao40 t244.length co40] BK235 hb; replace HK := ZKT HK (KeepBut.of_below hb g none); replace HB := ZTI HB hb; replace HI0 := Aside0.mk (IsS55.below (show IsS55 w0 (w39.setCell ⟨gb235, 1, none⟩ (.slice Ao40 t244.length co40)) g s0_0 t247 from ZI) hb); (try clear hb); (try clear hb2); (try clear hk); (try clear hi)))
        go_roundg k2
        case measure => have := HK1.out; have := HK2.out; omega
        case rel => exact ⟨(wrap64 (x3_1 + 1)), (t247), (by first | rfl | (simp; done) | (simp [*]; done)), H', ⟨by have := HK1.out; have := HK2.out; omega⟩, ⟨ZK BK228.out⟩, ⟨ZI⟩, ⟨ZJ⟩, ⟨ZBI⟩⟩
   ·rw [if_neg c3] at H
    have c3b0 : decide (x3_1 < 20) = false := decide_eq_false c3
    clear c3
    obtain ⟨y229, hy229⟩ : ∃ y_ : List (S57), y_ = (([(⟨7, 0⟩ : S57)] : List (S57))) := ⟨_, rfl⟩
    replace H : (some (y229, ([] : List (S66)), x1001_1)) = some (r1, r2, r3) := by first | (rw [hy229]; with_reducible exact H) | (have H2_ := (Option.bind_some _ _).symm.trans H; rw [hy229]; with_reducible exact H2_) | (have H2_ := (Option.bind_some _ _).symm.trans H; with_reducible exact H2_) | with_reducible exact H | (rw [hy229]; exact H) | exact H
    have Ny229 := Aside0.mk hy229
    clear hy229
    simp only [Option.some.injEq, Prod.mk.injEq] at H
    obtain ⟨rfl, rfl, rfl⟩ := H
    go_wp2_with (first | ((with_reducible refine gate_dst (N := 36) rfl ?_); refine Kd.R_lit k57 _ 57 ?hg (N := 36) ?hd (xs := ([(⟨7, 0⟩ : S57)] : List (S57))) (inner := [.int .i64 7, .int .i64 0]) (ok := fun _ => True) (okp := fun _ => True) ?hr ?hp (fun _ hk => hk) trivial (Below.refl _ _) (Nat.le_refl _) (by simp) ?_; (case hd => rfl); (case hg => rfl); (case hr => first | (go_simp; done) | (go_simp; rfl)); (case hp => exact (Reps.c2 (show Kd.M k57 _ _ _ (⟨7, 0⟩ : S57) [.int .i64 7, .int .i64 0] from (k57_mkM _ _ _ (⟨7, 0⟩ : S57) )) (Reps.none _ _))); intro v230 w43 ho44 hb hg_ hnew_; clear hg_ hnew_; (first | rw [← Ny229.out] at ho44 | (simp only [Int.reduceToNat] at ho44; rw [← Ny229.out] at ho44)); have HO231 := Aside0.mk (Kd.R_lower ho44 (keep_size (w := w) (g := g) (row := none) (ZJ))); replace BK228 := ZW BK228 hb; replace HK := ZKT HK (KeepBut.of_below hb g none); replace HB := ZTI HB hb; replace HI0 := Aside0.mk (IsS55.below (ZI) hb); clear hb ho44; obtain ⟨Ao45, co45, eo45⟩ := Kd.R_slice HO231.out; subst eo45; have hnb46 := NB228_0.out; have hnc46 := NB0_228.out; obtain ⟨hcz47_0, hcz47_1⟩ := ZC2 w43 BK228; obtain ⟨hfz47_0, hfz47_1⟩ := ZF2 BK228))
    refine bodyPost_ret (results_cell_row rfl _ _ gb228 43 #[.slice Ao45 y229.length co45, .slice none 0 0] (0, 0) _ rfl (ZZ BK228.out) Try.underlying43 rfl (by kernel_rfl)) rfl ?_
    exact ⟨_, _, ZE, by (with_reducible repeat (first | apply Kd.R_alloc | apply Kd.R_drewN | apply Kd.R_drew)); exact Kd.R_mono (Kd.R_far (p := ⟨gb228, 1, none⟩) (Kd.R_far (p := ⟨gb228, 0, none⟩) (Kd.R_types HO231.out BK228.out (by decide)) (fun _ hk => hk.2) (.slice Ao45 y229.length co45)) (fun _ hk => hk.2) (.slice none 0 0)) (fun _ hk => trivial), by first | exact Kd.R_nil _ _ _ _ _ | exact Kd.N_nil _ _ _ _ _ | exact Kd.V_nil _ _ _ _ _ | exact Kd.Q_nil _ _ _ _ _ | exact Kd.S_nil _ _ _ _ _, ZI, ZBI, ZJ⟩

end Go.Proofs.Ytdmejmdifnicmaa.A
