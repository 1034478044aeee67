/- Go functions as Lean functions, and for each its contract; written by wip/tools/pr.py over the kit's print. -/
import Derived.Test.YtkkdeojbkfjlpaaAx0
import Derived.Test.YtkkdeojbkfjlpaaAx7
namespace Go.Proofs.Ytkkdeojbkfjlpaa.A
open Go.RowKit Go.Proofs.YtkkdeojbkfjlpaaW.PrintWords Go.Proofs.YtkkdeojbkfjlpaaW.PrintLast Go.Proofs.YtkkdeojbkfjlpaaW.PrintMore
attribute [local go_sem] max2_int min2_int max_two min_two max_three min_three max_four min_four
set_option linter.unusedVariables false
set_option linter.unusedSimpArgs false
set_option maxHeartbeats 8000000
set_option maxRecDepth 100000

/-! ### impl_Prog_labels: function 54 -/
mutual
def impl_Prog_labels.l0 : Nat → List (S35) → List (S40) → Int → Int → List (S35) → List (S40) → Int → Int → Option ((List (S35)))
 | 0, _, _, _, _, _, _, _, _ => none
 | k + 1, x3, x12, x13, x14, x181000, x181001, x182000, x182001 => if x14 < x13 then (if 0 ≤ x14 then (if x14 < (x12.length : Int) then (if x3.length < 8796093022208 then (if 0 ≤ ((D40 x12 x14).f1) then (if ((D40 x12 x14).f1) < (x181000.length : Int) then ((impl_Label_both.f x182000 x182001 ((D35 x181000 ((D40 x12 x14).f1)).f0) ((D35 x181000 ((D40 x12 x14).f1)).f1)).bind fun bt188 => ((impl_Prog_labels.f k x181000 x181001 ((D40 x12 x14).f4) bt188.1 bt188.2 (x3 ++ [(⟨x182000, x182001⟩ : S35)])).bind fun t191 => ((impl_Prog_labels.f k x181000 x181001 ((D40 x12 x14).f5) bt188.1 bt188.2 t191).bind fun t194 => (impl_Prog_labels.l0 k t194 x12 x13 (wrap64 (x14 + 1)) x181000 x181001 x182000 x182001)))) else (none)) else (none)) else (none)) else (none)) else (none)) else (some x3)
def impl_Prog_labels.f : Nat → List (S35) → List (S40) → List (S40) → Int → Int → List (S35) → Option ((List (S35)))
 | 0, _, _, _, _, _, _ => none
 | k + 1, l0_0, l0_1, l1, a2_0, a2_1, l3 => impl_Prog_labels.l0 k l3 l1 (l1.length : Int) 0 l0_0 l0_1 a2_0 a2_1
end
def impl_Prog_labels.T5 : Bool × List (List Nat × List Nat) := (true, [([], []), ([], []), ([1], [1]), ([], []), ([3], [3]), ([2, 4], [2, 4]), ([5], [5]), ([0, 6], [0, 6]), ([], []), ([8, 7, 7, 0, 1, 2, 3, 4, 5, 6, 7, 8], [7, 8])])
def impl_Prog_labels.B5 : List Nat := [0, 0, 2, 0, 8, 30, 62, 127, 0, 511]
theorem impl_Prog_labels.tab5 : rtab .any (opsOf Try.f54 5) = impl_Prog_labels.T5 := by kernel_rfl
theorem impl_Prog_labels.bits5 : waitsOk impl_Prog_labels.T5.2 impl_Prog_labels.B5 = true := by kernel_rfl
theorem impl_Prog_labels.calls (k : Nat) : ∀ (A0_0 : Option Addr) (c0_0 : Nat) (l0_0 : List (S35)) (A0_1 : Option Addr) (c0_1 : Nat) (l0_1 : List (S40)) (A1 : Option Addr) (c1 : Nat) (l1 : List (S40)) (a2_0 : Int) (a2_1 : Int) (P3_ : Nat → Prop) (u9000_ : Value) (l3 : List (S35)) (r : List (S35)) (w0 w : World) (hB : Below w0.heap.size w0 w) (hr0_0 : ∀ W_, Kept w W_ (fun k_ => P3_ k_) → Kd.C k35 W_ A0_0 l0_0.length l0_0) (hc0_0 : l0_0.length ≤ c0_0) (hr0_1 : ∀ W_, Kept w W_ (fun k_ => P3_ k_) → Kd.C k40 W_ A0_1 l0_1.length l0_1) (hc0_1 : l0_1.length ≤ c0_1) (hr1 : ∀ W_, Kept w W_ (fun k_ => P3_ k_) → Kd.C k40 W_ A1 l1.length l1) (hc1 : l1.length ≤ c1) (ho3 : Kd.R k35 35 w w0.heap.size P3_ u9000_ l3) (h : impl_Prog_labels.f k l0_0 l0_1 l1 a2_0 a2_1 l3 = some r),
  Calls Try.prog 54 #[.agg #[.slice A0_0 l0_0.length c0_0, .slice A0_1 l0_1.length c0_1], .slice A1 l1.length c1, .agg #[.int .i64 a2_0, .int .i64 a2_1], u9000_] w fun e w' => ∃ v0_ : Value, e = .returned (v0_) ∧ Kd.R k35 35 w' w0.heap.size (fun k_ => (P3_ k_ ∨ w.heap.size ≤ k_)) v0_ r ∧ Below w0.heap.size w0 w' ∧ Kept w w' (fun k_ => P3_ k_) := by
 induction k using Nat.strongRecOn with
 | _ k ih =>
 intro A0_0 c0_0 l0_0 A0_1 c0_1 l0_1 A1 c1 l1 a2_0 a2_1 P3_ u9000_ l3 r w0 w hB hr0_0 hc0_0 hr0_1 hc0_1 hr1 hc1 ho3 h
 cases k with
 | zero => exact absurd h (by simp [impl_Prog_labels.f])
 | succ k =>
 simp only [impl_Prog_labels.f] at h
 have hu26 := Try.underlying26
 have hu35 := Try.underlying35
 have hu40 := Try.underlying40
 have HR0_0 := AM hr0_0
 have HC0_0 := AM hc0_0
 clear hr0_0 hc0_0
 have HR0_1 := AM hr0_1
 have HC0_1 := AM hc0_1
 clear hr0_1 hc0_1
 have HR1 := AM hr1
 have HC1 := AM hc1
 clear hr1 hc1
 have HO3 := AM (show Kd.R k35 35 w w0.heap.size (fun k_ => (P3_ k_ ∨ w.heap.size ≤ k_)) u9000_ l3 from Kd.R_mono ho3 (fun k_ hk => (.inl hk)))
 have HK := AM (Kept.refl w (fun k_ => P3_ k_))
 have HW0 := AM hB.size
 have HB := AM hB
 clear hB
 have H : (impl_Prog_labels.l0 k l3 l1 (l1.length : Int) 0 l0_0 l0_1 a2_0 a2_1) = some r := h
 clear h
 have H' := AM H
 clear H
 go_enter Try.func54, Try.ntmps54
 go_wp2_with (first | ((with_reducible refine gate_dst (N := 4) rfl ?_); refine ZX (N := 4) (cs := #[.slice A0_0 l0_0.length c0_0, .slice A0_1 l0_1.length c0_1]) (t := 26) ?_; intro gb180 hg w5 hbox hb; have BK180 := AM (hbox); have GW180 := AM ((by rw [hg]; exact (by first | exact HK.out.1 | exact (show Kept w _ (fun k_ => P3_ k_) from ZHK HK).1) : w.heap.size ≤ gb180)); have GE180 : Za (w0.heap.size ≤ gb180) := ZS hg; replace HO3 := AM (Kd.R_below (ZR HO3.out) hb); replace HK := AM (Kept.below (S := (fun k_ => P3_ k_)) (ZHK HK) hb); replace HB := ZT HB hb; clear hb hbox hg) | ((with_reducible refine gate_dst (N := 6) rfl ?_); refine ZX (N := 6) (cs := #[.int .i64 a2_0, .int .i64 a2_1]) (t := 35) ?_; intro gb181 hg w6 hbox hb; have BK181 := AM (hbox); have GW181 := AM ((by rw [hg]; exact (by first | exact HK.out.1 | exact (show Kept w _ (fun k_ => P3_ k_) from ZHK HK).1) : w.heap.size ≤ gb181)); have GE181 : Za (w0.heap.size ≤ gb181) := ZS hg; have NB180_181 : Za (gb180 ≠ gb181) := ZN hg BK180; have NB181_180 : Za (gb181 ≠ gb180) := ZM hg BK180; replace HO3 := AM (Kd.R_below (Kd.R_elderB (ZR HO3.out) gb181 (Nat.le_of_eq hg.symm)) hb); replace BK180 := ZW BK180 hb; replace HK := AM (Kept.below (S := (fun k_ => P3_ k_)) (ZHK HK) hb); replace HB := ZT HB hb; clear hb hbox hg))
 go_loopg [3, 14] k (fun kq v3 v14 w' => ∃ (x3_1 : List (S35)) (x14_1 : Int), v14 = .int .i64 x14_1 ∧ Za (impl_Prog_labels.l0 kq x3_1 l1 (l1.length : Int) x14_1 l0_0 l0_1 a2_0 a2_1 = some r) ∧ Za (kq ≤ k) ∧ Za (Kd.R k35 35 w' w0.heap.size (fun k_ => (P3_ k_ ∨ w.heap.size ≤ k_) ∧ k_ ≠ gb181) v3 x3_1) ∧ Za (w'.heap[gb180]? = some (.cells #[(.slice A0_0 l0_0.length c0_0), (.slice A0_1 l0_1.length c0_1)] 26 (0, 0))) ∧ Za (w'.heap[gb181]? = some (.cells #[.int .i64 a2_0, .int .i64 a2_1] 35 (0, 0))) ∧ Za (Kept w w' (fun k_ => P3_ k_)) ∧ Za (Below w0.heap.size w0 w'))
 case atStart => exact ⟨(l3), (0), ZSM, H', ⟨Nat.le_refl _⟩, ⟨ZR HO3.out⟩, ⟨ZK BK180.out⟩, ⟨ZK BK181.out⟩, ⟨ZHK HK⟩, ⟨ZB⟩⟩
 case round => (
 clear H'
 try clear c1
 try clear p2
 try clear c5
 obtain ⟨x3_1, x14_1, rfl, HA, HK1, HO_3, BK180, BK181, HK, HB⟩ := hrel
 cases gk with
 | zero => exact absurd HA.out (by simp [impl_Prog_labels.l0])
 | succ k1 =>
  have H := HA.out
  clear HA
  simp only [impl_Prog_labels.l0] at H
  by_cases c7 : x14_1 < (l1.length : Int)
  ·(
  rw [if_pos c7] at H
  have c7b0 := decide_eq_true c7
  clear c7
  by_cases c8 : 0 ≤ x14_1
  ·(
  rw [if_pos c8] at H
  have c8b0 := decide_eq_true c8
  clear c8
  by_cases c9 : x14_1 < (l1.length : Int)
  ·(
  rw [if_pos c9] at H
  have c9b0 := decide_eq_true c9
  clear c9
  by_cases c10 : x3_1.length < 8796093022208
  ·(
  rw [if_pos c10] at H
  have LMc10 := AM c10
  clear c10
  obtain ⟨y184, hy184⟩ : ∃ y_ : List (S35), y_ = (x3_1 ++ [(⟨a2_0, a2_1⟩ : S35)]) := ⟨_, rfl⟩
  replace H : (if 0 ≤ ((D40 l1 x14_1).f1) then (if ((D40 l1 x14_1).f1) < (l0_0.length : Int) then ((impl_Label_both.f a2_0 a2_1 ((D35 l0_0 ((D40 l1 x14_1).f1)).f0) ((D35 l0_0 ((D40 l1 x14_1).f1)).f1)).bind fun bt188 => ((impl_Prog_labels.f k1 l0_0 l0_1 ((D40 l1 x14_1).f4) bt188.1 bt188.2 y184).bind fun t191 => ((impl_Prog_labels.f k1 l0_0 l0_1 ((D40 l1 x14_1).f5) bt188.1 bt188.2 t191).bind fun t194 => (impl_Prog_labels.l0 k1 t194 l1 (l1.length : Int) (wrap64 (x14_1 + 1)) l0_0 l0_1 a2_0 a2_1)))) else (none)) else (none)) = some r := by rw [hy184]; exact H
  have Ny184 := AM hy184
  clear hy184
  by_cases c11 : 0 ≤ ((D40 l1 x14_1).f1)
  ·(
  rw [if_pos c11] at H
  have c11b0 := decide_eq_true c11
  clear c11
  by_cases c12 : ((D40 l1 x14_1).f1) < (l0_0.length : Int)
  ·(
  rw [if_pos c12] at H
  have c12b0 := decide_eq_true c12
  clear c12
  obtain ⟨⟨t188, t189⟩, A13, H⟩ := ZOB H; try dsimp only at H
  obtain ⟨t191, A14, H⟩ := ZOB H; try dsimp only at H
  obtain ⟨t194, A15, H⟩ := ZOB H; try dsimp only at H
  have H' := AM H
  clear H
  have p182 : 0 ≤ (x14_1 : Int) := ZD
  have q182 : x14_1 < (l1.length : Int) := ZD
  obtain ⟨ad182, A182_6, c182_6, A182_7, c182_7, e182, hx182_0, hx182_1, hx182_2, hx182_3, hx182_4, hx182_5, hx182_6, hx182_7, hl182_6, hi182_6, hl182_7, hi182_7⟩ := at_T40 (Kd.C_kept_now HR1.out HK.out) x14_1 p182 q182
  cases e182
  have hy182_0 := Kd.kept_slot HR1.out (by omega) (by decide) (ZHK HK) hx182_0 (add_block _ _) (Kept.refl _ _)
  have hy182_1 := Kd.kept_slot HR1.out (by omega) (by decide) (ZHK HK) hx182_1 (add_block _ _) (Kept.refl _ _)
  have hy182_2 := Kd.kept_slot HR1.out (by omega) (by decide) (ZHK HK) hx182_2 (add_block _ _) (Kept.refl _ _)
  have hy182_3 := Kd.kept_slot HR1.out (by omega) (by decide) (ZHK HK) hx182_3 (add_block _ _) (Kept.refl _ _)
  have hy182_4 := Kd.kept_slot HR1.out (by omega) (by decide) (ZHK HK) hx182_4 (add_block _ _) (Kept.refl _ _)
  have hy182_5 := Kd.kept_slot HR1.out (by omega) (by decide) (ZHK HK) hx182_5 (add_block _ _) (Kept.refl _ _)
  have hy182_6 := Kd.kept_slot HR1.out (by omega) (by decide) (ZHK HK) hx182_6 (add_block _ _) (Kept.refl _ _)
  have hy182_7 := Kd.kept_slot HR1.out (by omega) (by decide) (ZHK HK) hx182_7 (add_block _ _) (Kept.refl _ _)
  have HR182_6 := AM hi182_6
  have HC182_6 := AM hl182_6
  clear hi182_6 hl182_6
  have HR182_7 := AM hi182_7
  have HC182_7 := AM hl182_7
  clear hi182_7 hl182_7
  replace p182 := eq_true p182
  replace q182 := eq_true q182
  try go_wp2_with (first | ((with_reducible refine gate_dst (N := 10) rfl ?_); refine ZX (N := 10) (cs := #[.int .i64 0, .int .i64 0, .int .i64 0, .int .i64 0, .int .i64 0, .int .i64 0, .slice none 0 0, .slice none 0 0]) (t := 40) ?_; intro gb183 hg w16 hbox hb; have BK183 := AM (hbox); have GW183 := AM ((by rw [hg]; exact (by first | exact HK.out.1 | exact (show Kept w _ (fun k_ => P3_ k_) from ZHK HK).1) : w.heap.size ≤ gb183)); have GE183 : Za (w0.heap.size ≤ gb183) := ZS hg; have NB180_183 : Za (gb180 ≠ gb183) := ZN hg BK180; have NB183_180 : Za (gb183 ≠ gb180) := ZM hg BK180; have NB181_183 : Za (gb181 ≠ gb183) := ZN hg BK181; have NB183_181 : Za (gb183 ≠ gb181) := ZM hg BK181; replace HO_3 := AM (Kd.R_below (ZR HO_3.out) hb); replace BK180 := ZW BK180 hb; replace BK181 := ZW BK181 hb; replace HR182_6 := AM (Kd.C_below (ZQ HR182_6.out) hb); replace HR182_7 := AM (Kd.C_below (ZQ HR182_7.out) hb); replace HK := AM (Kept.below (S := (fun k_ => P3_ k_)) (ZHK HK) hb); replace HB := ZT HB hb; clear hb hbox hg; have hnb17 := NB183_180.out; have hnc17 := NB180_183.out; have hnb18 := NB183_181.out; have hnc18 := NB181_183.out; have hcz19 := ZC8 w16 BK183; have hnb20 := NB181_180.out; have hnc20 := NB180_181.out; have hcz21 := ZC2 w16 BK181) | ((with_reducible refine gate_builtin (b := .append) (xs := #[.tmp 18, .tmp 20]) rfl ?_); at_builtin; refine Kd.R_append k35 (w0 := w0) w0.heap.size rfl (.tmp 18) (.tmp 20) 23 35 (.agg #[(.int .i64 0), (.int .i64 0)]) 16 rfl Try.underlying23 info35 rfl (by decide) (by omega) u3 x3_1 (⟨a2_0, a2_1⟩ : S35) [.int .i64 a2_0, .int .i64 a2_1] (fun k_ => (P3_ k_ ∨ w.heap.size ≤ k_) ∧ k_ ≠ gb181) (fun _ => False) rfl (by first | (go_simp; done) | (go_simp; rfl)) ?aP (fun _ hk => hk.elim) ?aF ?aO ?aB ?aS ?aL ?_; (case aP => exact k35_mkM _ _ _ (⟨a2_0, a2_1⟩ : S35)); (case aB => exact (ZB)); (case aF => exact (fun k_ hk => ⟨(.inr (Nat.le_trans (show Kept w _ (fun k_ => P3_ k_) from ZHK HK).1 hk)), Kd.freshB (g := gb181) (o := .cells #[.int .i64 a2_0, .int .i64 a2_1] 35 (0, 0)) (ZZ BK181.out) k_ hk⟩)); (case aO => exact (ZRf (Kd.R_types HO_3.out BK183.out (by decide)) (fun _ hk => ⟨hk.2, ⟨hk.1.1, hk.1.2⟩⟩))); (case aS => exact (below_size (ZB))); (case aL => have := LMc10.out; omega); intro v185 w22 ho hb hg hat; rw [← Ny184.out] at ho; have n0_ := AM (blk_grown (g := gb180) (o := .cells #[.slice A0_0 l0_0.length c0_0, .slice A0_1 l0_1.length c0_1] 26 (0, 0)) (ZZ BK180.out) hg (Kd.R_ne HO_3.out BK180.out (by decide))); have n1_ := AM (blk_grown (g := gb181) (o := .cells #[.int .i64 a2_0, .int .i64 a2_1] 35 (0, 0)) (ZZ BK181.out) hg (Kd.R_away HO_3.out (fun _ hk => hk.2))); have n2_ := AM (blk_grown (g := gb183) (o := .cells #[.int .i64 ((D40 l1 x14_1).f0), .int .i64 ((D40 l1 x14_1).f1), .int .i64 ((D40 l1 x14_1).f2.f0), .int .i64 ((D40 l1 x14_1).f2.f1), .int .i64 ((D40 l1 x14_1).f2.f2), .int .i64 ((D40 l1 x14_1).f3), .slice A182_6 ((D40 l1 x14_1).f4).length c182_6, .slice A182_7 ((D40 l1 x14_1).f5).length c182_7] 40 (0, 0)) (ZZ BK183.out) hg (Kd.R_ne HO_3.out BK183.out (by decide))); have n3_ := AM (hb); have n4_ := AM (Kept.of_grown (S := (fun k_ => P3_ k_)) hg (ZHK HK) (fun k_ e_ => (HO_3.out.1 k_ e_).1)); have n5_ := AM (ho); clear BK180 BK181 BK183 HB HK HO_3; have BK180 := n0_; have BK181 := n1_; have BK183 := n2_; have HB := n3_; have HK := n4_; have HO186 := n5_; clear n0_ n1_ n2_ n3_ n4_ n5_ ho hb hg hat))
  replace HO186 := AM (Kd.R_drew HO186.out)
  replace BK180 := AM (blk_drew BK180.out)
  replace BK181 := AM (blk_drew BK181.out)
  replace BK183 := AM (blk_drew BK183.out)
  replace HK := AM (Kept.drew HK.out)
  replace HB := AM (below_drew1 HB.out)
  have p187 : 0 ≤ (((D40 l1 x14_1).f1) : Int) := ZD
  have q187 : ((D40 l1 x14_1).f1) < (l0_0.length : Int) := ZD
  obtain ⟨ad187, e187, hx187_0, hx187_1⟩ := at_T35 (Kd.C_kept_now HR0_0.out HK.out) ((D40 l1 x14_1).f1) p187 q187
  have hw187_1 := hx187_1
  have hw187_0 := hx187_0
  cases e187
  have hy187_0 := Kd.kept_slot HR0_0.out (by omega) (by decide) (ZHK HK) hx187_0 (add_block _ _) (Kept.refl _ _)
  have hy187_1 := Kd.kept_slot HR0_0.out (by omega) (by decide) (ZHK HK) hx187_1 (add_block _ _) (Kept.refl _ _)
  replace p187 := eq_true p187
  replace q187 := eq_true q187
  refine start_ (n := 10) (S := fun w' => w'.cell? ⟨gb181, 0, none⟩ = some (.int .i64 a2_0) ∧ w'.cell? ⟨gb181, 1, none⟩ = some (.int .i64 a2_1) ∧ w'.cell? ⟨gb180, 0, none⟩ = some (.slice (some ad187) l0_0.length c0_0) ∧ w'.cell? ⟨gb180, 1, none⟩ = some (.slice A0_1 l0_1.length c0_1) ∧ w'.cell? ⟨gb183, 0, none⟩ = some (.int .i64 ((D40 l1 x14_1).f0)) ∧ w'.cell? ⟨gb183, 1, none⟩ = some (.int .i64 ((D40 l1 x14_1).f1)) ∧ w'.cell? ⟨gb183, 2, none⟩ = some (.int .i64 ((D40 l1 x14_1).f2.f0)) ∧ w'.cell? ⟨gb183, 3, none⟩ = some (.int .i64 ((D40 l1 x14_1).f2.f1)) ∧ w'.cell? ⟨gb183, 4, none⟩ = some (.int .i64 ((D40 l1 x14_1).f2.f2)) ∧ w'.cell? ⟨gb183, 5, none⟩ = some (.int .i64 ((D40 l1 x14_1).f3)) ∧ w'.cell? ⟨gb183, 6, none⟩ = some (.slice A182_6 ((D40 l1 x14_1).f4).length c182_6) ∧ w'.cell? ⟨gb183, 7, none⟩ = some (.slice A182_7 ((D40 l1 x14_1).f5).length c182_7) ∧ w'.cell? (ad187.add ((((D40 l1 x14_1).f1)).toNat * 2)) = some (.int .i64 ((D35 l0_0 ((D40 l1 x14_1).f1)).f0)) ∧ w'.cell? ⟨(ad187.add ((((D40 l1 x14_1).f1)).toNat * 2)).block, (ad187.add ((((D40 l1 x14_1).f1)).toNat * 2)).off + 1, none⟩ = some (.int .i64 ((D35 l0_0 ((D40 l1 x14_1).f1)).f1))) (ds := []) #[F,F,F,F,F,F,F,F,F,F] (by kernel_rfl) rfl rfl ⟨ZA BK181 0, ZA BK181 1, ZA BK180 0, ZA BK180 1, ZA BK183 0, ZA BK183 1, ZA BK183 2, ZA BK183 3, ZA BK183 4, ZA BK183 5, ZA BK183 6, ZA BK183 7, (ZKS HR0_0 p187 q187 hy187_0 (ZHK HK)), (ZKS HR0_0 p187 q187 hy187_1 (ZHK HK))⟩ (fun hHeld => ?_); refine with_tabW impl_Prog_labels.tab5 impl_Prog_labels.bits5 (fun HT_ HW_ => ?_)
  generalize w22.drew = w23 at HO186 BK180 BK181 BK183 HK HB hx187_0 hx187_1 hHeld ⊢
  refine ZU 1 23 #[F,T,F,F,F,F,F,F,F,F] ?_
  refine ZU 3 25 #[F,T,F,T,F,F,F,F,F,F] ?_
  refine ZTK 0 22 #[T,T,F,T,F,F,F,F,F,F] hHeld ?_
  refine ZTK 2 24 #[T,T,T,T,F,F,F,F,F,F] hHeld ?_
  refine ZTK 4 26 #[T,T,T,T,T,F,F,F,F,F] hHeld ?_
  refine ZU 5 27 #[T,T,T,T,T,T,F,F,F,F] ?_
  refine ZTK 6 28 #[T,T,T,T,T,T,T,F,F,F] hHeld ?_
  refine join_ (σ := Nat) 1 #[T,T,T,T,T,T,T,T,T,F] (fun s_ => [(29, .agg #[.int .i64 t188, .int .i64 t189]), (11, .pointer (some ⟨s_, 0, none⟩))]) (fun s_ w' => (w'.cell? ⟨gb181, 0, none⟩ = some (.int .i64 a2_0) ∧ w'.cell? ⟨gb181, 1, none⟩ = some (.int .i64 a2_1) ∧ w'.cell? ⟨gb180, 0, none⟩ = some (.slice (some ad187) l0_0.length c0_0) ∧ w'.cell? ⟨gb180, 1, none⟩ = some (.slice A0_1 l0_1.length c0_1) ∧ w'.cell? ⟨gb183, 0, none⟩ = some (.int .i64 ((D40 l1 x14_1).f0)) ∧ w'.cell? ⟨gb183, 1, none⟩ = some (.int .i64 ((D40 l1 x14_1).f1)) ∧ w'.cell? ⟨gb183, 2, none⟩ = some (.int .i64 ((D40 l1 x14_1).f2.f0)) ∧ w'.cell? ⟨gb183, 3, none⟩ = some (.int .i64 ((D40 l1 x14_1).f2.f1)) ∧ w'.cell? ⟨gb183, 4, none⟩ = some (.int .i64 ((D40 l1 x14_1).f2.f2)) ∧ w'.cell? ⟨gb183, 5, none⟩ = some (.int .i64 ((D40 l1 x14_1).f3)) ∧ w'.cell? ⟨gb183, 6, none⟩ = some (.slice A182_6 ((D40 l1 x14_1).f4).length c182_6) ∧ w'.cell? ⟨gb183, 7, none⟩ = some (.slice A182_7 ((D40 l1 x14_1).f5).length c182_7) ∧ w'.cell? (ad187.add ((((D40 l1 x14_1).f1)).toNat * 2)) = some (.int .i64 ((D35 l0_0 ((D40 l1 x14_1).f1)).f0)) ∧ w'.cell? ⟨(ad187.add ((((D40 l1 x14_1).f1)).toNat * 2)).block, (ad187.add ((((D40 l1 x14_1).f1)).toNat * 2)).off + 1, none⟩ = some (.int .i64 ((D35 l0_0 ((D40 l1 x14_1).f1)).f1))) ∧ (Kd.R k35 35 w' w0.heap.size (fun k_ => (P3_ k_ ∨ w.heap.size ≤ k_) ∧ k_ ≠ gb181 ∧ k_ ≠ s_) v185 y184) ∧ (w'.heap[gb180]? = some (.cells #[.slice (some ad187) l0_0.length c0_0, .slice A0_1 l0_1.length c0_1] 26 (0, 0))) ∧ (w'.heap[gb181]? = some (.cells #[.int .i64 a2_0, .int .i64 a2_1] 35 (0, 0))) ∧ (w'.heap[gb183]? = some (.cells #[.int .i64 ((D40 l1 x14_1).f0), .int .i64 ((D40 l1 x14_1).f1), .int .i64 ((D40 l1 x14_1).f2.f0), .int .i64 ((D40 l1 x14_1).f2.f1), .int .i64 ((D40 l1 x14_1).f2.f2), .int .i64 ((D40 l1 x14_1).f3), .slice A182_6 ((D40 l1 x14_1).f4).length c182_6, .slice A182_7 ((D40 l1 x14_1).f5).length c182_7] 40 (0, 0))) ∧ (w'.heap[s_]? = some (.cells #[.int .i64 0, .int .i64 0] 35 (0, 0))) ∧ (w.heap.size ≤ s_) ∧ (w0.heap.size ≤ s_) ∧ (gb180 ≠ s_) ∧ (s_ ≠ gb180) ∧ (gb181 ≠ s_) ∧ (s_ ≠ gb181) ∧ (gb183 ≠ s_) ∧ (s_ ≠ gb183) ∧ (Kept w w' (fun k_ => P3_ k_)) ∧ (Below w0.heap.size w0 w')) ?_ ?_
  rotate_left
  ·(
  intro hCont
  refine two_ (i := 7) (j := 8) (Ni := some 29) (Nj := some 11) #[T,T,T,T,T,T,T,T,F,F] #[T,T,T,T,T,T,T,F,T,F] rfl rfl rfl rfl (two_of HT_.out (by kernel_rfl)) (by decide) (by decide) (fun K hK => ?_) (fun K hK => ?_)
  ·(
  skip
  refine ZGO Try.func76 #[.agg #[.int .i64 a2_0, .int .i64 a2_1], .agg #[.int .i64 ((D35 l0_0 ((D40 l1 x14_1).f1)).f0), .int .i64 ((D35 l0_0 ((D40 l1 x14_1).f1)).f1)]] ?_
  with_reducible refine (impl_Label_both.calls a2_0 a2_1 ((D35 l0_0 ((D40 l1 x14_1).f1)).f0) ((D35 l0_0 ((D40 l1 x14_1).f1)).f1) t188 t189 _ A13.out).mono ?_
  rintro e w24 ⟨rfl, hb⟩
  refine ZV1 ?_
  replace HO186 := AM (Kd.R_below (ZR HO186.out) hb)
  replace BK180 := ZW BK180 hb
  replace BK181 := ZW BK181 hb
  replace BK183 := ZW BK183 hb
  replace HK := AM (Kept.below (S := (fun k_ => P3_ k_)) (ZHK HK) hb)
  replace HB := ZT HB hb
  (try clear hb)
  (try clear hb2)
  (try clear hk)
  (try clear hi)
  refine hK.out _ _ ⟨ZA BK181 0, ZA BK181 1, ZA BK180 0, ZA BK180 1, ZA BK183 0, ZA BK183 1, ZA BK183 2, ZA BK183 3, ZA BK183 4, ZA BK183 5, ZA BK183 6, ZA BK183 7, (ZKS HR0_0 p187 q187 hy187_0 (ZHK HK)), (ZKS HR0_0 p187 q187 hy187_1 (ZHK HK))⟩ (fun hHeld => ?_)
  clear hK K
  refine ZNO 29 ?_
  refine one_ (i := 8) (N := some 11) #[T,T,T,T,T,T,T,T,T,F] rfl rfl (one_of HT_.out (by kernel_rfl)) (by decide) (fun K hK => ?_)
  refine box_step ?hg (N := 11) ?hd (cs := #[.int .i64 0, .int .i64 0]) (t := 35) ?hr ?_; (case hd => rfl); (case hg => rfl); (case hr => first | (go_simp; done) | (go_simp; rfl))
  intro gb190 hg w25 hbox hb
  have BK190 := AM (hbox)
  have GW190 := AM ((by rw [hg]; exact (by first | exact HK.out.1 | exact (show Kept w _ (fun k_ => P3_ k_) from ZHK HK).1) : w.heap.size ≤ gb190))
  have GE190 : Za (w0.heap.size ≤ gb190) := ZS hg
  have NB180_190 : Za (gb180 ≠ gb190) := ZN hg BK180
  have NB190_180 : Za (gb190 ≠ gb180) := ZM hg BK180
  have NB181_190 : Za (gb181 ≠ gb190) := ZN hg BK181
  have NB190_181 : Za (gb190 ≠ gb181) := ZM hg BK181
  have NB183_190 : Za (gb183 ≠ gb190) := ZN hg BK183
  have NB190_183 : Za (gb190 ≠ gb183) := ZM hg BK183
  replace HO186 := AM (Kd.R_below (Kd.R_elderB (ZR HO186.out) gb190 (Nat.le_of_eq hg.symm)) hb)
  replace BK180 := ZW BK180 hb
  replace BK181 := ZW BK181 hb
  replace BK183 := ZW BK183 hb
  replace HK := AM (Kept.below (S := (fun k_ => P3_ k_)) (ZHK HK) hb)
  replace HB := ZT HB hb
  clear hb hbox hg
  refine hK.out _ _ ⟨ZA BK181 0, ZA BK181 1, ZA BK180 0, ZA BK180 1, ZA BK183 0, ZA BK183 1, ZA BK183 2, ZA BK183 3, ZA BK183 4, ZA BK183 5, ZA BK183 6, ZA BK183 7, (ZKS HR0_0 p187 q187 hy187_0 (ZHK HK)), (ZKS HR0_0 p187 q187 hy187_1 (ZHK HK))⟩ (fun hHeld => ?_)
  clear hK K
  refine ZNO 11 ?_
  exact norm_ (by simp only [putAll, Act.put, List.setIfInBounds_toArray, List.set_cons_zero, List.set_cons_succ]) (hCont (gb190) _ ⟨hHeld, (ZRm HO186.out (fun _ hk => ⟨hk.1.1, ⟨hk.1.2, hk.2⟩⟩)), (ZK BK180.out), (ZK BK181.out), (ZK BK183.out), (ZK BK190.out), GW190.out, GE190.out, NB180_190.out, NB190_180.out, NB181_190.out, NB190_181.out, NB183_190.out, NB190_183.out, (ZHK HK), (ZB)⟩))
  ·(
  skip
  refine box_step ?hg (N := 11) ?hd (cs := #[.int .i64 0, .int .i64 0]) (t := 35) ?hr ?_; (case hd => rfl); (case hg => rfl); (case hr => first | (go_simp; done) | (go_simp; rfl))
  intro gb190 hg w24 hbox hb
  have BK190 := AM (hbox)
  have GW190 := AM ((by rw [hg]; exact (by first | exact HK.out.1 | exact (show Kept w _ (fun k_ => P3_ k_) from ZHK HK).1) : w.heap.size ≤ gb190))
  have GE190 : Za (w0.heap.size ≤ gb190) := ZS hg
  have NB180_190 : Za (gb180 ≠ gb190) := ZN hg BK180
  have NB190_180 : Za (gb190 ≠ gb180) := ZM hg BK180
  have NB181_190 : Za (gb181 ≠ gb190) := ZN hg BK181
  have NB190_181 : Za (gb190 ≠ gb181) := ZM hg BK181
  have NB183_190 : Za (gb183 ≠ gb190) := ZN hg BK183
  have NB190_183 : Za (gb190 ≠ gb183) := ZM hg BK183
  replace HO186 := AM (Kd.R_below (Kd.R_elderB (ZR HO186.out) gb190 (Nat.le_of_eq hg.symm)) hb)
  replace BK180 := ZW BK180 hb
  replace BK181 := ZW BK181 hb
  replace BK183 := ZW BK183 hb
  replace HK := AM (Kept.below (S := (fun k_ => P3_ k_)) (ZHK HK) hb)
  replace HB := ZT HB hb
  clear hb hbox hg
  refine hK.out _ _ ⟨ZA BK181 0, ZA BK181 1, ZA BK180 0, ZA BK180 1, ZA BK183 0, ZA BK183 1, ZA BK183 2, ZA BK183 3, ZA BK183 4, ZA BK183 5, ZA BK183 6, ZA BK183 7, (ZKS HR0_0 p187 q187 hy187_0 (ZHK HK)), (ZKS HR0_0 p187 q187 hy187_1 (ZHK HK))⟩ (fun hHeld => ?_)
  clear hK K
  refine ZNO 11 ?_
  refine one_ (i := 7) (N := some 29) #[T,T,T,T,T,T,T,T,T,F] rfl rfl (one_of HT_.out (by kernel_rfl)) (by decide) (fun K hK => ?_)
  refine ZGO Try.func76 #[.agg #[.int .i64 a2_0, .int .i64 a2_1], .agg #[.int .i64 ((D35 l0_0 ((D40 l1 x14_1).f1)).f0), .int .i64 ((D35 l0_0 ((D40 l1 x14_1).f1)).f1)]] ?_
  with_reducible refine (impl_Label_both.calls a2_0 a2_1 ((D35 l0_0 ((D40 l1 x14_1).f1)).f0) ((D35 l0_0 ((D40 l1 x14_1).f1)).f1) t188 t189 _ A13.out).mono ?_
  rintro e w25 ⟨rfl, hb⟩
  refine ZV1 ?_
  replace HO186 := AM (Kd.R_below (ZR HO186.out) hb)
  replace BK180 := ZW BK180 hb
  replace BK181 := ZW BK181 hb
  replace BK183 := ZW BK183 hb
  replace BK190 := ZW BK190 hb
  replace HK := AM (Kept.below (S := (fun k_ => P3_ k_)) (ZHK HK) hb)
  replace HB := ZT HB hb
  (try clear hb)
  (try clear hb2)
  (try clear hk)
  (try clear hi)
  refine hK.out _ _ ⟨ZA BK181 0, ZA BK181 1, ZA BK180 0, ZA BK180 1, ZA BK183 0, ZA BK183 1, ZA BK183 2, ZA BK183 3, ZA BK183 4, ZA BK183 5, ZA BK183 6, ZA BK183 7, (ZKS HR0_0 p187 q187 hy187_0 (ZHK HK)), (ZKS HR0_0 p187 q187 hy187_1 (ZHK HK))⟩ (fun hHeld => ?_)
  clear hK K
  refine ZNO 29 ?_
  exact norm_ (by simp only [putAll, Act.put, List.setIfInBounds_toArray, List.set_cons_zero, List.set_cons_succ]) (hCont (gb190) _ ⟨hHeld, (ZRm HO186.out (fun _ hk => ⟨hk.1.1, ⟨hk.1.2, hk.2⟩⟩)), (ZK BK180.out), (ZK BK181.out), (ZK BK183.out), (ZK BK190.out), GW190.out, GE190.out, NB180_190.out, NB190_180.out, NB181_190.out, NB190_181.out, NB183_190.out, NB190_183.out, (ZHK HK), (ZB)⟩)))
  rintro gb190 w26 ⟨hS_, h0_, h1_, h2_, h3_, h4_, h5_, h6_, h7_, h8_, h9_, h10_, h11_, h12_, h13_, h14_⟩
  try dsimp only at h0_ h1_ h2_ h3_ h4_ h5_ h6_ h7_ h8_ h9_ h10_ h11_ h12_ h13_ h14_
  have n0_ := AM h0_
  have n1_ := AM h1_
  have n2_ := AM h2_
  have n3_ := AM h3_
  have n4_ := AM h4_
  have n5_ := AM h5_
  have n6_ := AM h6_
  have n7_ := AM h7_
  have n8_ := AM h8_
  have n9_ := AM h9_
  have n10_ := AM h10_
  have n11_ := AM h11_
  have n12_ := AM h12_
  have n13_ := AM h13_
  have n14_ := AM h14_
  clear HO186 BK180 BK181 BK183 HK HB h0_ h1_ h2_ h3_ h4_ h5_ h6_ h7_ h8_ h9_ h10_ h11_ h12_ h13_ h14_
  have HO186 := n0_
  have BK180 := n1_
  have BK181 := n2_
  have BK183 := n3_
  have BK190 := n4_
  have GW190 := n5_
  have GE190 := n6_
  have NB180_190 := n7_
  have NB190_180 := n8_
  have NB181_190 := n9_
  have NB190_181 := n10_
  have NB183_190 := n11_
  have NB190_183 := n12_
  have HK := n13_
  have HB := n14_
  clear n0_ n1_ n2_ n3_ n4_ n5_ n6_ n7_ n8_ n9_ n10_ n11_ n12_ n13_ n14_
  try dsimp only at hS_
  have hHeld := hS_
  refine ZNP ?_
  refine one_ (i := 9) (N := none) #[T,T,T,T,T,T,T,T,T,T] rfl rfl (one_of HT_.out (by kernel_rfl)) (by decide) (fun K hK => ?_)
  have hs27 : w26.cell? ⟨gb190, 0, none⟩ = some (.int .i64 0) := ZA BK190 0
  have hfs27 := blk_frozen BK190.out 0
  have hns27_0 := NB180_190.out
  have hns27_1 := NB181_190.out
  have hns27_2 := NB183_190.out
  have hms27_0 := NB190_180.out
  have hms27_1 := NB190_181.out
  have hms27_2 := NB190_183.out
  have hs28 : w26.cell? ⟨gb190, 1, none⟩ = some (.int .i64 0) := ZA BK190 1
  have hfs28 := blk_frozen BK190.out 1
  have hns28_0 := NB180_190.out
  have hns28_1 := NB181_190.out
  have hns28_2 := NB183_190.out
  have hms28_0 := NB190_180.out
  have hms28_1 := NB190_181.out
  have hms28_2 := NB190_183.out
  refine skip_ (w1 := ?_) (by rfl) rfl ?_ ?_
  rotate_left
  ·(
  go_simp
  rfl)
  refine hK.out _ _ ⟨((cell_far (p := ⟨gb190, _, none⟩) NB181_190.out _).trans (((cell_far (p := ⟨gb190, _, none⟩) NB181_190.out _).trans (hHeld.1)))), ((cell_far (p := ⟨gb190, _, none⟩) NB181_190.out _).trans (((cell_far (p := ⟨gb190, _, none⟩) NB181_190.out _).trans (hHeld.2.1)))), ((cell_far (p := ⟨gb190, _, none⟩) NB180_190.out _).trans (((cell_far (p := ⟨gb190, _, none⟩) NB180_190.out _).trans (hHeld.2.2.1)))), ((cell_far (p := ⟨gb190, _, none⟩) NB180_190.out _).trans (((cell_far (p := ⟨gb190, _, none⟩) NB180_190.out _).trans (hHeld.2.2.2.1)))), ((cell_far (p := ⟨gb190, _, none⟩) NB183_190.out _).trans (((cell_far (p := ⟨gb190, _, none⟩) NB183_190.out _).trans (hHeld.2.2.2.2.1)))), ((cell_far (p := ⟨gb190, _, none⟩) NB183_190.out _).trans (((cell_far (p := ⟨gb190, _, none⟩) NB183_190.out _).trans (hHeld.2.2.2.2.2.1)))), ((cell_far (p := ⟨gb190, _, none⟩) NB183_190.out _).trans (((cell_far (p := ⟨gb190, _, none⟩) NB183_190.out _).trans (hHeld.2.2.2.2.2.2.1)))), ((cell_far (p := ⟨gb190, _, none⟩) NB183_190.out _).trans (((cell_far (p := ⟨gb190, _, none⟩) NB183_190.out _).trans (hHeld.2.2.2.2.2.2.2.1)))), ((cell_far (p := ⟨gb190, _, none⟩) NB183_190.out _).trans (((cell_far (p := ⟨gb190, _, none⟩) NB183_190.out _).trans (hHeld.2.2.2.2.2.2.2.2.1)))), ((cell_far (p := ⟨gb190, _, none⟩) NB183_190.out _).trans (((cell_far (p := ⟨gb190, _, none⟩) NB183_190.out _).trans (hHeld.2.2.2.2.2.2.2.2.2.1)))), ((cell_far (p := ⟨gb190, _, none⟩) NB183_190.out _).trans (((cell_far (p := ⟨gb190, _, none⟩) NB183_190.out _).trans (hHeld.2.2.2.2.2.2.2.2.2.2.1)))), ((cell_far (p := ⟨gb190, _, none⟩) NB183_190.out _).trans (((cell_far (p := ⟨gb190, _, none⟩) NB183_190.out _).trans (hHeld.2.2.2.2.2.2.2.2.2.2.2.1)))), (ZKS HR0_0 p187 q187 hy187_0 (ZHK HK)), (ZKS HR0_0 p187 q187 hy187_1 (ZHK HK))⟩ (fun hHeld => ?_)
  clear hK K
  refine done_ (done_of HT_.out (by kernel_rfl)) ?_
  have n0_ : Za (Kd.R k35 35 ((w26.setCell ⟨gb190, 0, none⟩ (.int .i64 t188)).setCell ⟨gb190, 1, none⟩ (.int .i64 t189)) w0.heap.size (fun k_ => (P3_ k_ ∨ w.heap.size ≤ k_) ∧ k_ ≠ gb181 ∧ k_ ≠ gb190) v185 y184) := ⟨ZRf (Kd.R_mono HO186.out (fun k_ hk => (⟨hk, hk.2.2⟩ : _ ∧ k_ ≠ gb190))) (fun _ hk => ⟨hk.2, ⟨hk.1.1, ⟨hk.1.2.1, hk.1.2.2⟩⟩⟩)⟩
  have n1_ : Za (((w26.setCell ⟨gb190, 0, none⟩ (.int .i64 t188)).setCell ⟨gb190, 1, none⟩ (.int .i64 t189)).heap[gb180]? = some (.cells #[.slice (some ad187) l0_0.length c0_0, .slice A0_1 l0_1.length c0_1] 26 (0, 0))) := ⟨ZZ BK180.out⟩
  have n2_ : Za (((w26.setCell ⟨gb190, 0, none⟩ (.int .i64 t188)).setCell ⟨gb190, 1, none⟩ (.int .i64 t189)).heap[gb181]? = some (.cells #[.int .i64 a2_0, .int .i64 a2_1] 35 (0, 0))) := ⟨ZZ BK181.out⟩
  have n3_ : Za (((w26.setCell ⟨gb190, 0, none⟩ (.int .i64 t188)).setCell ⟨gb190, 1, none⟩ (.int .i64 t189)).heap[gb183]? = some (.cells #[.int .i64 ((D40 l1 x14_1).f0), .int .i64 ((D40 l1 x14_1).f1), .int .i64 ((D40 l1 x14_1).f2.f0), .int .i64 ((D40 l1 x14_1).f2.f1), .int .i64 ((D40 l1 x14_1).f2.f2), .int .i64 ((D40 l1 x14_1).f3), .slice A182_6 ((D40 l1 x14_1).f4).length c182_6, .slice A182_7 ((D40 l1 x14_1).f5).length c182_7] 40 (0, 0))) := ⟨ZZ BK183.out⟩
  have n4_ : Za (((w26.setCell ⟨gb190, 0, none⟩ (.int .i64 t188)).setCell ⟨gb190, 1, none⟩ (.int .i64 t189)).heap[gb190]? = some (.cells #[.int .i64 t188, .int .i64 t189] 35 (0, 0))) := ⟨ZZ BK190.out⟩
  have n5_ : Za (Kept w ((w26.setCell ⟨gb190, 0, none⟩ (.int .i64 t188)).setCell ⟨gb190, 1, none⟩ (.int .i64 t189)) (fun k_ => P3_ k_)) := ⟨ZHK HK⟩
  have n6_ : Za (Below w0.heap.size w0 ((w26.setCell ⟨gb190, 0, none⟩ (.int .i64 t188)).setCell ⟨gb190, 1, none⟩ (.int .i64 t189))) := ⟨ZB⟩
  (try clear HO186)
  (try clear BK180)
  (try clear BK181)
  (try clear BK183)
  (try clear BK190)
  (try clear HK)
  (try clear HB)
  generalize ((w26.setCell ⟨gb190, 0, none⟩ (.int .i64 t188)).setCell ⟨gb190, 1, none⟩ (.int .i64 t189)) = w29 at n0_ n1_ n2_ n3_ n4_ n5_ n6_ ⊢
  have HO186 := n0_
  have BK180 := n1_
  have BK181 := n2_
  have BK183 := n3_
  have BK190 := n4_
  have HK := n5_
  have HB := n6_
  clear n0_ n1_ n2_ n3_ n4_ n5_ n6_
  have hnb30 := NB180_190.out
  have hnc30 := NB190_180.out
  have hcz31 := ZC2 w29 BK180
  have hnb32 := NB183_190.out
  have hnc32 := NB190_183.out
  have hcz33 := ZC8 w29 BK183
  have hnb34 := NB190_181.out
  have hnc34 := NB181_190.out
  have hcz35 := ZC2 w29 BK190
  obtain ⟨Ao36, co36, eo36⟩ := Kd.R_slice HO186.out
  subst eo36
  try go_wp2_with (first | ((with_reducible refine gate_callee (f := 54) rfl ?_); refine ZGL (some 35) Try.func54 #[.agg #[.slice (some ad187) l0_0.length c0_0, .slice A0_1 l0_1.length c0_1], .slice A182_6 ((D40 l1 x14_1).f4).length c182_6, .agg #[.int .i64 t188, .int .i64 t189], .slice Ao36 y184.length co36] ?_; (with_reducible refine (ih k1 (by have := HK1.out; omega) _ _ l0_0 _ _ l0_1 _ _ ((D40 l1 x14_1).f4) t188 t189 (fun k_ => some k_ = (.slice Ao36 y184.length co36 : Value).ownBlock) (.slice Ao36 y184.length co36) y184 t191 w0 _ ?side1 ?side2 HC0_0.out ?side4 HC0_1.out ?side6 HC182_6.out ?side8 A14.out).mono ?_); (case side1 => repeat (first | (with_reducible first | exact HB.out | apply below_alloc | apply pw_below_drewN | apply below_drew1 | refine below_set ?_ GE180.out | refine below_set ?_ GE181.out | refine below_set ?_ GE183.out | refine below_set ?_ GE190.out) | exact HB.out)); (case side2 => exact Kd.C_kept_call HR0_0.out (ZHK HK) (fun k_ hs_ => (fun e_ => (HO186.out.1 k_ e_.symm).1) hs_)); (case side4 => exact Kd.C_kept_call HR0_1.out (ZHK HK) (fun k_ hs_ => (fun e_ => (HO186.out.1 k_ e_.symm).1) hs_)); (case side6 => exact Kd.C_kept_call (fun W_ k_ => by have hw_ := Kd.kept_slot HR1.out (by have := (of_eq_true p182); have := (of_eq_true q182); omega) (by decide) (Kept.refl _ _) hy182_6 (add_block _ _) k_; obtain ⟨ad_, A6_, c6_, A7_, c7_, e_, m0_, m1_, m2_, m3_, m4_, m5_, m6_, m7_, y6_, z6_, y7_, z7_⟩ := at_T40 (HR1.out W_ k_) (x14_1) (by first | exact of_eq_true p182 | exact p182) (by first | exact of_eq_true q182 | exact q182); cases e_; rw [hw_] at m6_; cases m6_; exact z6_) (ZHK HK) (fun k_ hs_ => (fun e_ => (HO186.out.1 k_ e_.symm).1) hs_)); (case side8 => exact Kd.R_tight rfl HO186.out); rintro e w37 ⟨v192, rfl, ho0, hb, hkp⟩; refine ZV1 ?_; have n0_ := AM (blk_kept (ZK BK180.out) hkp (fun hs_ => (fun e_ => (Kd.R_ne HO186.out BK180.out (by decide)) e_) hs_)); have n1_ := AM (blk_kept (ZK BK181.out) hkp (fun hs_ => (fun e_ => (Kd.R_away HO186.out (fun _ hk => hk.2.1)) e_) hs_)); have n2_ := AM (blk_kept (ZK BK183.out) hkp (fun hs_ => (fun e_ => (Kd.R_ne HO186.out BK183.out (by decide)) e_) hs_)); have n3_ := AM (blk_kept (ZK BK190.out) hkp (fun hs_ => (fun e_ => (Kd.R_away HO186.out (fun _ hk => hk.2.2)) e_) hs_)); have n4_ := AM (Kd.R_mono (ok' := fun k_ => (P3_ k_ ∨ w.heap.size ≤ k_) ∧ k_ ≠ gb181 ∧ k_ ≠ gb190) ho0 (fun k_ hk_ => ⟨Or.elim hk_ (fun hs_ => (HO186.out.1 k_ (hs_).symm).1) (fun hn_ => (.inr (Nat.le_trans (by first | exact HK.out.1 | exact (show Kept w _ (fun k_ => P3_ k_) from ZHK HK).1) hn_))), Or.elim hk_ (fun hs_ => fun e_ => (Kd.R_away HO186.out (fun _ hk => hk.2.1)) (by rw [← e_]; exact hs_)) (fun hn_ => (Kd.freshB (g := gb181) (o := .cells #[.int .i64 a2_0, .int .i64 a2_1] 35 (0, 0)) (ZK BK181.out) k_ hn_)), Or.elim hk_ (fun hs_ => fun e_ => (Kd.R_away HO186.out (fun _ hk => hk.2.2)) (by rw [← e_]; exact hs_)) (fun hn_ => (Kd.freshB (g := gb190) (o := .cells #[.int .i64 t188, .int .i64 t189] 35 (0, 0)) (ZK BK190.out) k_ hn_))⟩)); have n5_ := AM (Kept.then_ (S := (fun k_ => P3_ k_)) (ZHK HK) hkp (fun k_ hs_ => (fun e_ => (HO186.out.1 k_ e_.symm).1) hs_)); have n6_ := AM (hb); clear BK180 BK181 BK183 BK190 HK HB HO186; have BK180 := n0_; have BK181 := n1_; have BK183 := n2_; have BK190 := n3_; have HO193 := n4_; have HK := n5_; have HB := n6_; clear n0_ n1_ n2_ n3_ n4_ n5_ n6_; (try clear hb); (try clear hkp); (try clear ho0); have hcz38 := ZC2 w37 BK180; have hcz39 := ZC8 w37 BK183; have hcz40 := ZC2 w37 BK190; obtain ⟨Ao41, co41, eo41⟩ := Kd.R_slice HO193.out; subst eo41) | ((with_reducible refine gate_callee (f := 54) rfl ?_); refine ZGL (some 41) Try.func54 #[.agg #[.slice (some ad187) l0_0.length c0_0, .slice A0_1 l0_1.length c0_1], .slice A182_7 ((D40 l1 x14_1).f5).length c182_7, .agg #[.int .i64 t188, .int .i64 t189], .slice Ao41 t191.length co41] ?_; (with_reducible refine (ih k1 (by have := HK1.out; omega) _ _ l0_0 _ _ l0_1 _ _ ((D40 l1 x14_1).f5) t188 t189 (fun k_ => some k_ = (.slice Ao41 t191.length co41 : Value).ownBlock) (.slice Ao41 t191.length co41) t191 t194 w0 _ ?side1 ?side2 HC0_0.out ?side4 HC0_1.out ?side6 HC182_7.out ?side8 A15.out).mono ?_); (case side1 => repeat (first | (with_reducible first | exact HB.out | apply below_alloc | apply pw_below_drewN | apply below_drew1 | refine below_set ?_ GE180.out | refine below_set ?_ GE181.out | refine below_set ?_ GE183.out | refine below_set ?_ GE190.out) | exact HB.out)); (case side2 => exact Kd.C_kept_call HR0_0.out (ZHK HK) (fun k_ hs_ => (fun e_ => (HO193.out.1 k_ e_.symm).1) hs_)); (case side4 => exact Kd.C_kept_call HR0_1.out (ZHK HK) (fun k_ hs_ => (fun e_ => (HO193.out.1 k_ e_.symm).1) hs_)); (case side6 => exact Kd.C_kept_call (fun W_ k_ => by have hw_ := Kd.kept_slot HR1.out (by have := (of_eq_true p182); have := (of_eq_true q182); omega) (by decide) (Kept.refl _ _) hy182_7 (add_block _ _) k_; obtain ⟨ad_, A6_, c6_, A7_, c7_, e_, m0_, m1_, m2_, m3_, m4_, m5_, m6_, m7_, y6_, z6_, y7_, z7_⟩ := at_T40 (HR1.out W_ k_) (x14_1) (by first | exact of_eq_true p182 | exact p182) (by first | exact of_eq_true q182 | exact q182); cases e_; rw [hw_] at m7_; cases m7_; exact z7_) (ZHK HK) (fun k_ hs_ => (fun e_ => (HO193.out.1 k_ e_.symm).1) hs_)); (case side8 => exact Kd.R_tight rfl HO193.out); rintro e w42 ⟨v195, rfl, ho0, hb, hkp⟩; refine ZV1 ?_; have n0_ := AM (blk_kept (ZK BK180.out) hkp (fun hs_ => (fun e_ => (Kd.R_ne HO193.out BK180.out (by decide)) e_) hs_)); have n1_ := AM (blk_kept (ZK BK181.out) hkp (fun hs_ => (fun e_ => (Kd.R_away HO193.out (fun _ hk => hk.2.1)) e_) hs_)); have n2_ := AM (blk_kept (ZK BK183.out) hkp (fun hs_ => (fun e_ => (Kd.R_ne HO193.out BK183.out (by decide)) e_) hs_)); have n3_ := AM (blk_kept (ZK BK190.out) hkp (fun hs_ => (fun e_ => (Kd.R_away HO193.out (fun _ hk => hk.2.2)) e_) hs_)); have n4_ := AM (Kd.R_mono (ok' := fun k_ => (P3_ k_ ∨ w.heap.size ≤ k_) ∧ k_ ≠ gb181 ∧ k_ ≠ gb190) ho0 (fun k_ hk_ => ⟨Or.elim hk_ (fun hs_ => (HO193.out.1 k_ (hs_).symm).1) (fun hn_ => (.inr (Nat.le_trans (by first | exact HK.out.1 | exact (show Kept w _ (fun k_ => P3_ k_) from ZHK HK).1) hn_))), Or.elim hk_ (fun hs_ => fun e_ => (Kd.R_away HO193.out (fun _ hk => hk.2.1)) (by rw [← e_]; exact hs_)) (fun hn_ => (Kd.freshB (g := gb181) (o := .cells #[.int .i64 a2_0, .int .i64 a2_1] 35 (0, 0)) (ZK BK181.out) k_ hn_)), Or.elim hk_ (fun hs_ => fun e_ => (Kd.R_away HO193.out (fun _ hk => hk.2.2)) (by rw [← e_]; exact hs_)) (fun hn_ => (Kd.freshB (g := gb190) (o := .cells #[.int .i64 t188, .int .i64 t189] 35 (0, 0)) (ZK BK190.out) k_ hn_))⟩)); have n5_ := AM (Kept.then_ (S := (fun k_ => P3_ k_)) (ZHK HK) hkp (fun k_ hs_ => (fun e_ => (HO193.out.1 k_ e_.symm).1) hs_)); have n6_ := AM (hb); clear BK180 BK181 BK183 BK190 HK HB HO193; have BK180 := n0_; have BK181 := n1_; have BK183 := n2_; have BK190 := n3_; have HO196 := n4_; have HK := n5_; have HB := n6_; clear n0_ n1_ n2_ n3_ n4_ n5_ n6_; (try clear hb); (try clear hkp); (try clear ho0)))
  go_roundg k1
  case measure => have := HK1.out; omega
  case rel => exact ⟨(t194), (wrap64 (x14_1 + 1)), ZSM, H', ⟨by have := HK1.out; omega⟩, ⟨ZRm HO196.out (fun _ hk => ⟨hk.1, hk.2.1⟩)⟩, ⟨ZK BK180.out⟩, ⟨ZK BK181.out⟩, ⟨ZHK HK⟩, ⟨ZB⟩⟩)
  ·(
  rw [if_neg c12] at H
  exact absurd H (by simp)))
  ·(
  rw [if_neg c11] at H
  exact absurd H (by simp)))
  ·(
  rw [if_neg c10] at H
  exact absurd H (by simp)))
  ·(
  rw [if_neg c9] at H
  exact absurd H (by simp)))
  ·(
  rw [if_neg c8] at H
  exact absurd H (by simp)))
  ·(
  rw [if_neg c7] at H
  have c7b0 := decide_eq_false c7
  clear c7
  obtain rfl := Option.some.inj H
  go_wp2
  go_ret
  exact ⟨_, ZE, ZRm HO_3.out (fun _ hk => hk.1), ZB, ZHK HK⟩))

end Go.Proofs.Ytkkdeojbkfjlpaa.A
