/- Go functions as Lean functions, and for each its contract; written by wip/tools/pr.py over the kit's print. -/
import Derived.Test.YtkkdeojbkfjlpaaAx0
namespace Go.Proofs.Ytkkdeojbkfjlpaa.A
open Go.RowKit Go.Proofs.YtkkdeojbkfjlpaaW.PrintWords Go.Proofs.YtkkdeojbkfjlpaaW.PrintLast Go.Proofs.YtkkdeojbkfjlpaaW.PrintMore
attribute [local go_sem] max2_int min2_int max_two min_two max_three min_three max_four min_four
set_option linter.unusedVariables false
set_option linter.unusedSimpArgs false
set_option maxHeartbeats 8000000
set_option maxRecDepth 100000

/-! ### impl_cloneSteps: function 44 -/
mutual
def impl_cloneSteps.l0 : Nat → List (S40) → List (S40) → Int → Int → Option ((List (S40)))
 | 0, _, _, _, _ => none
 | k + 1, x3, x6, x7, x8 => if x8 < x7 then (if 0 ≤ x8 then (if x8 < (x6.length : Int) then ((impl_cloneSteps.f k ((D40 x6 x8).f4)).bind fun t645 => ((impl_cloneSteps.f k ((D40 x6 x8).f5)).bind fun t648 => (if x3.length < 1466015503701 then (impl_cloneSteps.l0 k (x3 ++ [(⟨(D40 x6 x8).f0, (D40 x6 x8).f1, (⟨(D40 x6 x8).f2.f0, (D40 x6 x8).f2.f1, (D40 x6 x8).f2.f2⟩ : S38), (D40 x6 x8).f3, t645, t648⟩ : S40)]) x6 x7 (wrap64 (x8 + 1))) else (none)))) else (none)) else (none)) else (some x3)
def impl_cloneSteps.f : Nat → List (S40) → Option ((List (S40)))
 | 0, _ => none
 | k + 1, l0 => impl_cloneSteps.l0 k ([] : List (S40)) l0 (l0.length : Int) 0
end
def impl_cloneSteps.T5 : Bool × List (List Nat × List Nat) := (true, [([], []), ([0], [0]), ([1], [1]), ([], []), ([3], [3]), ([4, 2], [4]), ([0, 1, 2, 3, 4], []), ([6, 2, 5, 0, 1, 2, 3, 4], [2, 6]), ([0, 1, 2, 3, 4, 5, 6, 7], []), ([8, 5, 7, 0, 1, 2, 3, 4, 5, 6, 7], [5, 8])])
def impl_cloneSteps.B5 : List Nat := [0, 1, 3, 0, 8, 31, 31, 127, 255, 511]
theorem impl_cloneSteps.tab5 : rtab .any (opsOf Try.f44 5) = impl_cloneSteps.T5 := by kernel_rfl
theorem impl_cloneSteps.bits5 : waitsOk impl_cloneSteps.T5.2 impl_cloneSteps.B5 = true := by kernel_rfl
theorem impl_cloneSteps.calls (k : Nat) : ∀ (A0 : Option Addr) (c0 : Nat) (l0 : List (S40)) (r : List (S40)) (w : World) (hr0 : Kd.C k40 w A0 l0.length l0) (hc0 : l0.length ≤ c0) (h : impl_cloneSteps.f k l0 = some r),
  Calls Try.prog 44 #[.slice A0 l0.length c0] w fun e w' => ∃ v0_ : Value, e = .returned (v0_) ∧ Kd.R k40 40 w' w.heap.size (fun _ => True) v0_ r ∧ Below w.heap.size w w' := by
 induction k using Nat.strongRecOn with
 | _ k ih =>
 intro A0 c0 l0 r w hr0 hc0 h
 cases k with
 | zero => exact absurd h (by simp [impl_cloneSteps.f])
 | succ k =>
 simp only [impl_cloneSteps.f] at h
 have hu40 := Try.underlying40
 have HR0 := AM hr0
 have HC0 := AM hc0
 clear hr0 hc0
 have HB := AM (Below.refl w.heap.size w)
 have H : (impl_cloneSteps.l0 k ([] : List (S40)) l0 (l0.length : Int) 0) = some r := h
 clear h
 have H' := AM H
 clear H
 go_enter Try.func44, Try.ntmps44
 go_wp2
 go_loopg [3, 8] k (fun kq v3 v8 w' => ∃ (x3_1 : List (S40)) (x8_1 : Int), v8 = .int .i64 x8_1 ∧ Za (impl_cloneSteps.l0 kq x3_1 l0 (l0.length : Int) x8_1 = some r) ∧ Za (kq ≤ k) ∧ Za (Kd.R k40 40 w' w.heap.size (fun _ => True) v3 x3_1) ∧ Za (Below w.heap.size w w'))
 case atStart => exact ⟨(([] : List (S40))), (0), ZSM, H', ⟨Nat.le_refl _⟩, ⟨by first | exact Kd.R_nil _ _ _ _ _ | exact Kd.N_nil _ _ _ _ _ | exact Kd.V_nil _ _ _ _ _ | exact Kd.Q_nil _ _ _ _ _ | exact Kd.S_nil _ _ _ _ _⟩, ⟨ZB⟩⟩
 case round => (
 clear H'
 obtain ⟨x3_1, x8_1, rfl, HA, HK1, HO_3, HB⟩ := hrel
 cases gk with
 | zero => exact absurd HA.out (by simp [impl_cloneSteps.l0])
 | succ k1 =>
  have H := HA.out
  clear HA
  simp only [impl_cloneSteps.l0] at H
  by_cases c2 : x8_1 < (l0.length : Int)
  ·(
  rw [if_pos c2] at H
  have c2b0 := decide_eq_true c2
  clear c2
  by_cases c3 : 0 ≤ x8_1
  ·(
  rw [if_pos c3] at H
  have c3b0 := decide_eq_true c3
  clear c3
  by_cases c4 : x8_1 < (l0.length : Int)
  ·(
  rw [if_pos c4] at H
  have c4b0 := decide_eq_true c4
  clear c4
  obtain ⟨t645, A5, H⟩ := ZOB H; try dsimp only at H
  obtain ⟨t648, A6, H⟩ := ZOB H; try dsimp only at H
  by_cases c7 : x3_1.length < 1466015503701
  ·(
  rw [if_pos c7] at H
  have LMc7 := AM c7
  clear c7
  obtain ⟨y651, hy651⟩ : ∃ y_ : List (S40), y_ = (x3_1 ++ [(⟨(D40 l0 x8_1).f0, (D40 l0 x8_1).f1, (⟨(D40 l0 x8_1).f2.f0, (D40 l0 x8_1).f2.f1, (D40 l0 x8_1).f2.f2⟩ : S38), (D40 l0 x8_1).f3, t645, t648⟩ : S40)]) := ⟨_, rfl⟩
  replace H : (impl_cloneSteps.l0 k1 y651 l0 (l0.length : Int) (wrap64 (x8_1 + 1))) = some r := by rw [hy651]; exact H
  have Ny651 := AM hy651
  clear hy651
  have H' := AM H
  clear H
  have p643 : 0 ≤ (x8_1 : Int) := ZD
  have q643 : x8_1 < (l0.length : Int) := ZD
  obtain ⟨ad643, A643_6, c643_6, A643_7, c643_7, e643, hx643_0, hx643_1, hx643_2, hx643_3, hx643_4, hx643_5, hx643_6, hx643_7, hl643_6, hi643_6, hl643_7, hi643_7⟩ := at_T40 HR0.out x8_1 p643 q643
  cases e643
  replace hx643_0 := ZHX HB hx643_0
  replace hx643_1 := ZHX HB hx643_1
  replace hx643_2 := ZHX HB hx643_2
  replace hx643_3 := ZHX HB hx643_3
  replace hx643_4 := ZHX HB hx643_4
  replace hx643_5 := ZHX HB hx643_5
  replace hx643_6 := ZHX HB hx643_6
  replace hx643_7 := ZHX HB hx643_7
  have HR643_6 := AM hi643_6
  have HC643_6 := AM hl643_6
  clear hi643_6 hl643_6
  have HR643_7 := AM hi643_7
  have HC643_7 := AM hl643_7
  clear hi643_7 hl643_7
  replace p643 := eq_true p643
  replace q643 := eq_true q643
  try go_wp2_with (first | ((with_reducible refine gate_dst (N := 5) rfl ?_); refine ZXW w (N := 5) (cs := #[.int .i64 0, .int .i64 0, .int .i64 0, .int .i64 0, .int .i64 0, .int .i64 0, .slice none 0 0, .slice none 0 0]) (t := 40) ?_; intro gb644 hg w8 BK644 GW644 hb; replace HO_3 := AM (Kd.R_below (Kd.R_elderB (ZR HO_3.out) gb644 (Nat.le_of_eq hg.symm)) hb); replace HB := ZT HB hb; clear hb hg; have hcz9 := ZC8 w8 BK644))
  have n0_ : Za (Kd.R k40 40 ((((((((w8.setCell ⟨gb644, 0, none⟩ (.int .i64 ((D40 l0 x8_1).f0))).setCell ⟨gb644, 1, none⟩ (.int .i64 ((D40 l0 x8_1).f1))).setCell ⟨gb644, 2, none⟩ (.int .i64 ((D40 l0 x8_1).f2.f0))).setCell ⟨gb644, 3, none⟩ (.int .i64 ((D40 l0 x8_1).f2.f1))).setCell ⟨gb644, 4, none⟩ (.int .i64 ((D40 l0 x8_1).f2.f2))).setCell ⟨gb644, 5, none⟩ (.int .i64 ((D40 l0 x8_1).f3))).setCell ⟨gb644, 6, none⟩ (.slice A643_6 ((D40 l0 x8_1).f4).length c643_6)).setCell ⟨gb644, 7, none⟩ (.slice A643_7 ((D40 l0 x8_1).f5).length c643_7)) w.heap.size (fun k_ => k_ ≠ gb644) u3 x3_1) := ⟨ZRf (Kd.R_mono HO_3.out (fun k_ hk => (⟨hk, hk.2⟩ : _ ∧ k_ ≠ gb644))) (fun _ hk => ⟨hk.2, hk.1.2⟩)⟩
  have n1_ : Za (((((((((w8.setCell ⟨gb644, 0, none⟩ (.int .i64 ((D40 l0 x8_1).f0))).setCell ⟨gb644, 1, none⟩ (.int .i64 ((D40 l0 x8_1).f1))).setCell ⟨gb644, 2, none⟩ (.int .i64 ((D40 l0 x8_1).f2.f0))).setCell ⟨gb644, 3, none⟩ (.int .i64 ((D40 l0 x8_1).f2.f1))).setCell ⟨gb644, 4, none⟩ (.int .i64 ((D40 l0 x8_1).f2.f2))).setCell ⟨gb644, 5, none⟩ (.int .i64 ((D40 l0 x8_1).f3))).setCell ⟨gb644, 6, none⟩ (.slice A643_6 ((D40 l0 x8_1).f4).length c643_6)).setCell ⟨gb644, 7, none⟩ (.slice A643_7 ((D40 l0 x8_1).f5).length c643_7)).heap[gb644]? = some (.cells #[.int .i64 ((D40 l0 x8_1).f0), .int .i64 ((D40 l0 x8_1).f1), .int .i64 ((D40 l0 x8_1).f2.f0), .int .i64 ((D40 l0 x8_1).f2.f1), .int .i64 ((D40 l0 x8_1).f2.f2), .int .i64 ((D40 l0 x8_1).f3), .slice A643_6 ((D40 l0 x8_1).f4).length c643_6, .slice A643_7 ((D40 l0 x8_1).f5).length c643_7] 40 (0, 0))) := ⟨ZZ BK644.out⟩
  have n2_ : Za (Below w.heap.size w ((((((((w8.setCell ⟨gb644, 0, none⟩ (.int .i64 ((D40 l0 x8_1).f0))).setCell ⟨gb644, 1, none⟩ (.int .i64 ((D40 l0 x8_1).f1))).setCell ⟨gb644, 2, none⟩ (.int .i64 ((D40 l0 x8_1).f2.f0))).setCell ⟨gb644, 3, none⟩ (.int .i64 ((D40 l0 x8_1).f2.f1))).setCell ⟨gb644, 4, none⟩ (.int .i64 ((D40 l0 x8_1).f2.f2))).setCell ⟨gb644, 5, none⟩ (.int .i64 ((D40 l0 x8_1).f3))).setCell ⟨gb644, 6, none⟩ (.slice A643_6 ((D40 l0 x8_1).f4).length c643_6)).setCell ⟨gb644, 7, none⟩ (.slice A643_7 ((D40 l0 x8_1).f5).length c643_7))) := ⟨ZB⟩
  (try clear HO_3)
  (try clear BK644)
  (try clear HB)
  generalize ((((((((w8.setCell ⟨gb644, 0, none⟩ (.int .i64 ((D40 l0 x8_1).f0))).setCell ⟨gb644, 1, none⟩ (.int .i64 ((D40 l0 x8_1).f1))).setCell ⟨gb644, 2, none⟩ (.int .i64 ((D40 l0 x8_1).f2.f0))).setCell ⟨gb644, 3, none⟩ (.int .i64 ((D40 l0 x8_1).f2.f1))).setCell ⟨gb644, 4, none⟩ (.int .i64 ((D40 l0 x8_1).f2.f2))).setCell ⟨gb644, 5, none⟩ (.int .i64 ((D40 l0 x8_1).f3))).setCell ⟨gb644, 6, none⟩ (.slice A643_6 ((D40 l0 x8_1).f4).length c643_6)).setCell ⟨gb644, 7, none⟩ (.slice A643_7 ((D40 l0 x8_1).f5).length c643_7)) = w10 at n0_ n1_ n2_ ⊢
  have HO_3 := n0_
  have BK644 := n1_
  have HB := n2_
  clear n0_ n1_ n2_
  replace HO_3 := AM (Kd.R_drew HO_3.out)
  replace BK644 := AM (blk_drew BK644.out)
  replace HB := AM (below_drew1 HB.out)
  refine start_ (n := 10) (S := fun w' => w'.cell? ⟨gb644, 0, none⟩ = some (.int .i64 ((D40 l0 x8_1).f0)) ∧ w'.cell? ⟨gb644, 1, none⟩ = some (.int .i64 ((D40 l0 x8_1).f1)) ∧ w'.cell? ⟨gb644, 2, none⟩ = some (.int .i64 ((D40 l0 x8_1).f2.f0)) ∧ w'.cell? ⟨gb644, 3, none⟩ = some (.int .i64 ((D40 l0 x8_1).f2.f1)) ∧ w'.cell? ⟨gb644, 4, none⟩ = some (.int .i64 ((D40 l0 x8_1).f2.f2)) ∧ w'.cell? ⟨gb644, 5, none⟩ = some (.int .i64 ((D40 l0 x8_1).f3)) ∧ w'.cell? ⟨gb644, 6, none⟩ = some (.slice A643_6 ((D40 l0 x8_1).f4).length c643_6) ∧ w'.cell? ⟨gb644, 7, none⟩ = some (.slice A643_7 ((D40 l0 x8_1).f5).length c643_7)) (ds := [7, 9]) #[F,F,F,F,F,F,F,F,F,F] (by kernel_rfl) rfl rfl ⟨ZA BK644 0, ZA BK644 1, ZA BK644 2, ZA BK644 3, ZA BK644 4, ZA BK644 5, ZA BK644 6, ZA BK644 7⟩ (fun hHeld => ?_); refine with_tabW impl_cloneSteps.tab5 impl_cloneSteps.bits5 (fun HT_ HW_ => ?_)
  generalize w10.drew = w11 at HO_3 BK644 HB hHeld ⊢
  refine ZU 0 12 #[T,F,F,F,F,F,F,F,F,F] ?_
  refine ZU 3 15 #[T,F,F,T,F,F,F,F,F,F] ?_
  refine ZTK 1 13 #[T,T,F,T,F,F,F,F,F,F] hHeld ?_
  refine ZTK 4 16 #[T,T,F,T,T,F,F,F,F,F] hHeld ?_
  refine one_ (i := 2) (N := some 14) #[T,T,T,T,T,F,F,F,F,F] rfl rfl (one_of HT_.out (by kernel_rfl)) (by decide) (fun K hK => ?_)
  refine ZGO Try.func44 #[.slice A643_6 ((D40 l0 x8_1).f4).length c643_6] ?_
  with_reducible refine (ih k1 (by have := HK1.out; omega) _ _ ((D40 l0 x8_1).f4) t645 _ ?side1 ?side2 A5.out).mono ?_
  (case side1 => exact ZQ (Kd.C_below HR643_6.out HB.out))
  (case side2 => exact HC643_6.out)
  rintro e w12 ⟨v646, rfl, ho0, hb⟩
  refine ZV1 ?_
  have HO647 := AM (Kd.R_lower (Kd.R_newB (Kd.R_new' ho0 (Kd.R_lt (ZR HO_3.out))) (g := gb644) (o := .cells #[.int .i64 ((D40 l0 x8_1).f0), .int .i64 ((D40 l0 x8_1).f1), .int .i64 ((D40 l0 x8_1).f2.f0), .int .i64 ((D40 l0 x8_1).f2.f1), .int .i64 ((D40 l0 x8_1).f2.f2), .int .i64 ((D40 l0 x8_1).f3), .slice A643_6 ((D40 l0 x8_1).f4).length c643_6, .slice A643_7 ((D40 l0 x8_1).f5).length c643_7] 40 (0, 0)) (ZK BK644.out)) (below_size (ZB)))
  replace HO_3 := AM (Kd.R_elder' (ZR HO_3.out) (Kd.R_base ho0) hb)
  replace BK644 := ZW BK644 hb
  replace HB := ZT HB hb
  (try clear hb)
  (try clear hb2)
  (try clear hk)
  (try clear hi)
  (try clear ho0)
  refine hK.out _ _ ⟨ZA BK644 0, ZA BK644 1, ZA BK644 2, ZA BK644 3, ZA BK644 4, ZA BK644 5, ZA BK644 6, ZA BK644 7⟩ (fun hHeld => ?_)
  clear hK K
  refine ZNO 14 ?_
  refine ZU 6 18 #[T,T,T,T,T,F,T,F,F,F] ?_
  refine one_ (i := 5) (N := some 17) #[T,T,T,T,T,T,T,F,F,F] rfl rfl (one_of HT_.out (by kernel_rfl)) (by decide) (fun K hK => ?_)
  refine ZGO Try.func44 #[.slice A643_7 ((D40 l0 x8_1).f5).length c643_7] ?_
  with_reducible refine (ih k1 (by have := HK1.out; omega) _ _ ((D40 l0 x8_1).f5) t648 _ ?side1 ?side2 A6.out).mono ?_
  (case side1 => exact ZQ (Kd.C_below HR643_7.out HB.out))
  (case side2 => exact HC643_7.out)
  rintro e w13 ⟨v649, rfl, ho0, hb⟩
  refine ZV1 ?_
  have HO650 := AM (Kd.R_lower (Kd.R_newB (Kd.R_new' (Kd.R_new' ho0 (Kd.R_lt (ZR HO_3.out))) (Kd.R_lt (ZR HO647.out))) (g := gb644) (o := .cells #[.int .i64 ((D40 l0 x8_1).f0), .int .i64 ((D40 l0 x8_1).f1), .int .i64 ((D40 l0 x8_1).f2.f0), .int .i64 ((D40 l0 x8_1).f2.f1), .int .i64 ((D40 l0 x8_1).f2.f2), .int .i64 ((D40 l0 x8_1).f3), .slice A643_6 ((D40 l0 x8_1).f4).length c643_6, .slice A643_7 ((D40 l0 x8_1).f5).length c643_7] 40 (0, 0)) (ZK BK644.out)) (below_size (ZB)))
  replace HO_3 := AM (Kd.R_elder' (ZR HO_3.out) (Kd.R_base ho0) hb)
  replace HO647 := AM (Kd.R_elder' (ZR HO647.out) (Kd.R_base ho0) hb)
  replace BK644 := ZW BK644 hb
  replace HB := ZT HB hb
  (try clear hb)
  (try clear hb2)
  (try clear hk)
  (try clear hi)
  (try clear ho0)
  obtain ⟨Ao14, co14, eo14⟩ := Kd.R_slice HO647.out
  (first | subst eo14 | (injection eo14 with f1_ f2_ f3_; have f4_ := f1_.symm; have f5_ := f3_.symm; clear f1_ f2_ f3_; subst f4_; subst f5_))
  obtain ⟨Ao16, co16, eo16⟩ := Kd.R_slice HO650.out
  (first | subst eo16 | (injection eo16 with f1_ f2_ f3_; have f4_ := f1_.symm; have f5_ := f3_.symm; clear f1_ f2_ f3_; subst f4_; subst f5_))
  refine hK.out _ _ ⟨ZA BK644 0, ZA BK644 1, ZA BK644 2, ZA BK644 3, ZA BK644 4, ZA BK644 5, ZA BK644 6, ZA BK644 7⟩ (fun hHeld => ?_)
  clear hK K
  refine ZNO 17 ?_
  refine last_ (i := 7) (N := none) #[T,T,T,T,T,T,T,T,F,F] rfl rfl (one_of HT_.out (by kernel_rfl)) (by decide) (fun K hK => ?_)
  have hs15 : w13.cell? ⟨gb644, 6, none⟩ = some (.slice A643_6 ((D40 l0 x8_1).f4).length c643_6) := ZA BK644 6
  have hfs15 := blk_frozen BK644.out 6
  refine skip_ (w1 := ?_) (by rfl) rfl ?_ ?_
  rotate_left
  ·(
  go_simp
  rfl)
  refine hK.out _ _ ?_
  clear hK K
  refine ZU 8 19 #[T,T,T,T,T,T,T,T,T,F] ?_
  refine last_ (i := 9) (N := none) #[T,T,T,T,T,T,T,T,T,T] rfl rfl (one_of HT_.out (by kernel_rfl)) (by decide) (fun K hK => ?_)
  have hs17 : w13.cell? ⟨gb644, 7, none⟩ = some (.slice A643_7 ((D40 l0 x8_1).f5).length c643_7) := ZA BK644 7
  have hfs17 := blk_frozen BK644.out 7
  refine skip_ (w1 := ?_) (by rfl) rfl ?_ ?_
  rotate_left
  ·(
  go_simp
  rfl)
  refine hK.out _ _ ?_
  clear hK K
  refine done_ (done_of HT_.out (by kernel_rfl)) ?_
  have n0_ : Za (Kd.R k40 40 ((w13.setCell ⟨gb644, 6, none⟩ (.slice Ao14 t645.length co14)).setCell ⟨gb644, 7, none⟩ (.slice Ao16 t648.length co16)) w.heap.size (fun k_ => some k_ ≠ (.slice Ao14 t645.length co14 : Value).ownBlock ∧ some k_ ≠ (.slice Ao16 t648.length co16 : Value).ownBlock ∧ k_ ≠ gb644) u3 x3_1) := ⟨ZRf (Kd.R_mono HO_3.out (fun k_ hk => (⟨hk, hk.1.1⟩ : _ ∧ k_ ≠ gb644))) (fun _ hk => ⟨hk.2, ⟨hk.1.1.2, ⟨hk.1.2, hk.1.1.1⟩⟩⟩)⟩
  have n1_ : Za (Kd.R k40 40 ((w13.setCell ⟨gb644, 6, none⟩ (.slice Ao14 t645.length co14)).setCell ⟨gb644, 7, none⟩ (.slice Ao16 t648.length co16)) w.heap.size (fun k_ => some k_ ≠ (u3 : Value).ownBlock ∧ some k_ ≠ (.slice Ao16 t648.length co16 : Value).ownBlock ∧ k_ ≠ gb644) (.slice Ao14 t645.length co14) t645) := ⟨ZRf (Kd.R_mono HO647.out (fun k_ hk => (⟨hk, hk.1.2⟩ : _ ∧ k_ ≠ gb644))) (fun _ hk => ⟨hk.2, ⟨hk.1.1.1.2, ⟨hk.1.2, hk.1.1.2⟩⟩⟩)⟩
  have n2_ : Za (Kd.R k40 40 ((w13.setCell ⟨gb644, 6, none⟩ (.slice Ao14 t645.length co14)).setCell ⟨gb644, 7, none⟩ (.slice Ao16 t648.length co16)) w.heap.size (fun k_ => some k_ ≠ (u3 : Value).ownBlock ∧ some k_ ≠ (.slice Ao14 t645.length co14 : Value).ownBlock ∧ k_ ≠ gb644) (.slice Ao16 t648.length co16) t648) := ⟨ZRf (Kd.R_mono HO650.out (fun k_ hk => (⟨hk, hk.2⟩ : _ ∧ k_ ≠ gb644))) (fun _ hk => ⟨hk.2, ⟨hk.1.1.1.2, ⟨hk.1.1.2, hk.1.2⟩⟩⟩)⟩
  have n3_ : Za (((w13.setCell ⟨gb644, 6, none⟩ (.slice Ao14 t645.length co14)).setCell ⟨gb644, 7, none⟩ (.slice Ao16 t648.length co16)).heap[gb644]? = some (.cells #[.int .i64 ((D40 l0 x8_1).f0), .int .i64 ((D40 l0 x8_1).f1), .int .i64 ((D40 l0 x8_1).f2.f0), .int .i64 ((D40 l0 x8_1).f2.f1), .int .i64 ((D40 l0 x8_1).f2.f2), .int .i64 ((D40 l0 x8_1).f3), .slice Ao14 t645.length co14, .slice Ao16 t648.length co16] 40 (0, 0))) := ⟨ZZ BK644.out⟩
  have n4_ : Za (Below w.heap.size w ((w13.setCell ⟨gb644, 6, none⟩ (.slice Ao14 t645.length co14)).setCell ⟨gb644, 7, none⟩ (.slice Ao16 t648.length co16))) := ⟨ZB⟩
  (try clear HO_3)
  (try clear HO647)
  (try clear HO650)
  (try clear BK644)
  (try clear HB)
  generalize ((w13.setCell ⟨gb644, 6, none⟩ (.slice Ao14 t645.length co14)).setCell ⟨gb644, 7, none⟩ (.slice Ao16 t648.length co16)) = w18 at n0_ n1_ n2_ n3_ n4_ ⊢
  have HO_3 := n0_
  have HO647 := n1_
  have HO650 := n2_
  have BK644 := n3_
  have HB := n4_
  clear n0_ n1_ n2_ n3_ n4_
  have hcz19 := ZC8 w18 BK644
  try go_wp2_with (first | ((with_reducible refine gate_builtin (b := .append) (xs := #[.tmp 20, .tmp 22]) rfl ?_); at_builtin; refine Kd.R_append k40 (w0 := w) w.heap.size rfl (.tmp 20) (.tmp 22) 24 40 (.agg #[(.int .i64 0), (.int .i64 0), (.int .i64 0), (.int .i64 0), (.int .i64 0), (.int .i64 0), (.slice none 0 0), (.slice none 0 0)]) 96 rfl Try.underlying24 info40 rfl (by decide) (by omega) u3 x3_1 (⟨(D40 l0 x8_1).f0, (D40 l0 x8_1).f1, (⟨(D40 l0 x8_1).f2.f0, (D40 l0 x8_1).f2.f1, (D40 l0 x8_1).f2.f2⟩ : S38), (D40 l0 x8_1).f3, t645, t648⟩ : S40) [.int .i64 ((D40 l0 x8_1).f0), .int .i64 ((D40 l0 x8_1).f1), .int .i64 ((D40 l0 x8_1).f2.f0), .int .i64 ((D40 l0 x8_1).f2.f1), .int .i64 ((D40 l0 x8_1).f2.f2), .int .i64 ((D40 l0 x8_1).f3), .slice Ao14 t645.length co14, .slice Ao16 t648.length co16] (fun k_ => k_ ≠ gb644) (fun k_ => ((fun k_ => k_ ≠ gb644)) k_ ∧ some k_ ≠ (u3 : Value).ownBlock) rfl rfl ?aP (fun _ hk => hk) ?aF ?aO ?aB ?aS ?aL ?_; (case aP => exact k40_mkM _ _ _ (⟨(D40 l0 x8_1).f0, (D40 l0 x8_1).f1, (⟨(D40 l0 x8_1).f2.f0, (D40 l0 x8_1).f2.f1, (D40 l0 x8_1).f2.f2⟩ : S38), (D40 l0 x8_1).f3, t645, t648⟩ : S40) (Kd.R_mono (HO647.out) (fun k_ hk => ⟨hk.2.2, hk.1⟩)) (Kd.R_mono (HO650.out) (fun k_ hk => ⟨hk.2.2, hk.1⟩))); (case aB => exact (ZB)); (case aF => exact (fun k_ hk => Kd.freshB (g := gb644) (o := .cells #[.int .i64 ((D40 l0 x8_1).f0), .int .i64 ((D40 l0 x8_1).f1), .int .i64 ((D40 l0 x8_1).f2.f0), .int .i64 ((D40 l0 x8_1).f2.f1), .int .i64 ((D40 l0 x8_1).f2.f2), .int .i64 ((D40 l0 x8_1).f3), .slice Ao14 t645.length co14, .slice Ao16 t648.length co16] 40 (0, 0)) (ZK BK644.out) k_ hk)); (case aO => exact (ZR (Kd.R_mono HO_3.out (fun _ hk => hk.2.2)))); (case aS => exact (below_size (ZB))); (case aL => have := LMc7.out; omega); intro v652 w20 ho hb hg hat; rw [← Ny651.out] at ho; have n0_ := AM (blk_grown (g := gb644) (o := .cells #[.int .i64 ((D40 l0 x8_1).f0), .int .i64 ((D40 l0 x8_1).f1), .int .i64 ((D40 l0 x8_1).f2.f0), .int .i64 ((D40 l0 x8_1).f2.f1), .int .i64 ((D40 l0 x8_1).f2.f2), .int .i64 ((D40 l0 x8_1).f3), .slice Ao14 t645.length co14, .slice Ao16 t648.length co16] 40 (0, 0)) (ZK BK644.out) hg (Kd.R_away HO_3.out (fun _ hk => hk.2.2))); have n1_ := AM (hb); have n2_ := AM (ho); clear BK644 HB HO_3 HO647 HO650; have BK644 := n0_; have HB := n1_; have HO653 := n2_; clear n0_ n1_ n2_ ho hb hg hat))
  go_roundg k1
  case measure => have := HK1.out; omega
  case rel => exact ⟨(y651), (wrap64 (x8_1 + 1)), ZSM, H', ⟨by have := HK1.out; omega⟩, ⟨ZR (Kd.R_mono HO653.out (fun _ hk => trivial))⟩, ⟨ZB⟩⟩)
  ·(
  rw [if_neg c7] at H
  exact absurd H (by simp)))
  ·(
  rw [if_neg c4] at H
  exact absurd H (by simp)))
  ·(
  rw [if_neg c3] at H
  exact absurd H (by simp)))
  ·(
  rw [if_neg c2] at H
  have c2b0 := decide_eq_false c2
  clear c2
  obtain rfl := Option.some.inj H
  go_wp2
  go_ret
  exact ⟨_, ZE, by (with_reducible repeat (first | apply Kd.R_alloc | apply Kd.R_drewN | apply Kd.R_drew)); exact HO_3.out, ZB⟩))

end Go.Proofs.Ytkkdeojbkfjlpaa.A
