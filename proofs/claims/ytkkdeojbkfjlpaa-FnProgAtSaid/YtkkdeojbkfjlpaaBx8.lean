/- Go functions as Lean functions, and for each its contract; written by wip/tools/pr.py over the kit's print. -/
import Derived.Test.YtkkdeojbkfjlpaaBx0
import Derived.Test.YtkkdeojbkfjlpaaBx2
import Derived.Test.YtkkdeojbkfjlpaaBx4
import Derived.Test.YtkkdeojbkfjlpaaBx5
import Derived.Test.YtkkdeojbkfjlpaaBx7
namespace Go.Proofs.Ytkkdeojbkfjlpaa.B
open Go.RowKit Go.Proofs.YtkkdeojbkfjlpaaW.PrintWords Go.Proofs.YtkkdeojbkfjlpaaW.PrintLast Go.Proofs.YtkkdeojbkfjlpaaW.PrintMore
attribute [local go_sem] max2_int min2_int max_two min_two max_three min_three max_four min_four
set_option linter.unusedVariables false
set_option linter.unusedSimpArgs false
set_option maxHeartbeats 8000000
set_option maxRecDepth 100000

/-! ### spec_l71Prog: function 45 -/
mutual
def spec_l71Prog.l0 : Nat → Int → List Int → Int → Option ((List (S35)) × (List (S40)) × Int)
 | 0, _, _, _ => none
 | k + 1, x3, x1000, x1001 => if x3 < 20 then ((spec_l6Rd_pick.f k x1000 x1001 4).bind fun bt233 => (spec_l71Prog.l1 k x3 (wrap64 (1 + bt233.1)) x1000 bt233.2 (([] : List (S35))))) else (some ((([(⟨7, 0⟩ : S35)] : List (S35))), ([] : List (S40)), x1001))
def spec_l71Prog.l1 : Nat → Int → Int → List Int → Int → List (S35) → Option ((List (S35)) × (List (S40)) × Int)
 | 0, _, _, _, _, _ => none
 | k + 1, x3, x5, x1000, x1001, x233000 => if x5 > 0 then ((spec_l71Label.f k x1000 x1001).bind fun bt235 => (if x233000.length < 8796093022208 then (spec_l71Prog.l1 k x3 (wrap64 (x5 - 1)) x1000 bt235.2.2 (x233000 ++ [(⟨bt235.1, bt235.2.1⟩ : S35)])) else (none))) else ((spec_l71Steps.f k x1000 x1001 4 3 (x233000.length : Int)).bind fun bt241 => ((spec_ProgOk.f k x233000 bt241.1).bind fun t245 => (if t245 = true then (some (x233000, bt241.1, bt241.2)) else (spec_l71Prog.l0 k (wrap64 (x3 + 1)) x1000 bt241.2))))
end
def spec_l71Prog.f (k : Nat) (s0_0 : List Int) (s0_1 : Int) : Option ((List (S35)) × (List (S40)) × Int) := spec_l71Prog.l0 k 0 s0_0 s0_1
def spec_l71Prog.T8 : Bool × List (List Nat × List Nat) := (true, [([], []), ([0], [0]), ([], []), ([2], [2]), ([3], [3]), ([1, 4, 3], [1, 4]), ([0, 1, 2, 3, 4, 5], []), ([6, 5, 5, 0, 1, 2, 3, 4, 5], [5, 6])])
def spec_l71Prog.B8 : List Nat := [0, 1, 0, 4, 12, 31, 63, 127]
theorem spec_l71Prog.tab8 : rtab .any (opsOf Try.f45 8) = spec_l71Prog.T8 := by kernel_rfl
theorem spec_l71Prog.bits8 : waitsOk spec_l71Prog.T8.2 spec_l71Prog.B8 = true := by kernel_rfl
theorem spec_l71Prog.calls (k : Nat) (g : Nat) (s0_0 : List Int) (s0_1 : Int) (r1 : List (S35)) (r2 : List (S40)) (r3 : Int) (w0 w : World) (hI : IsS64 w0 w g s0_0 s0_1) (hB : Below w0.heap.size w0 w) (h : spec_l71Prog.f k s0_0 s0_1 = some (r1, r2, r3)) :
  Calls Try.prog 45 #[.pointer (some ⟨g, 0, none⟩)] w fun e w' => ∃ v0_ v1_ : Value, e = .returned (.agg #[v0_, v1_]) ∧ Kd.R k35 35 w' w.heap.size (fun _ => True) v0_ r1 ∧ Kd.R k40 40 w' w.heap.size (fun _ => True) v1_ r2 ∧ IsS64 w0 w' g s0_0 r3 ∧ Below w0.heap.size w0 w' ∧ KeepBut w w' g none := by
 have hu26 := Try.underlying26
 have hu35 := Try.underlying35
 have HI0 := AM hI
 have HK := AM (KeepBut.refl w g none)
 have HL := AM hB.size
 clear hI
 have HW0 := AM hB.size
 have HB := AM hB
 clear hB
 have H := h
 unfold spec_l71Prog.f at H
 clear h
 have H' := AM H
 clear H
 go_enter Try.func45, Try.ntmps45
 go_wp2_with (first | ((with_reducible refine gate_dst (N := 2) rfl ?_); refine ZX (N := 2) (cs := #[.slice none 0 0, .slice none 0 0]) (t := 26) ?_; intro gb225 hg w2 hbox hb; have BK225 := AM (hbox); have GW225 := AM ((by rw [hg]; exact (keep_size (w := w) (g := g) (row := none) (ZJ)) : w.heap.size ≤ gb225)); have GE225 := AM ((Nat.le_trans HW0.out (by rw [hg]; exact (keep_size (w := w) (g := g) (row := none) (ZJ)) : w.heap.size ≤ gb225) : w0.heap.size ≤ gb225)); have NB0_225 := AM ((by rw [hg]; exact Nat.ne_of_lt (IsS64.lt (show IsS64 w0 _ g s0_0 s0_1 from ZI)) : g ≠ gb225)); have NB225_0 := AM ((by rw [hg]; exact Nat.ne_of_gt (IsS64.lt (show IsS64 w0 _ g s0_0 s0_1 from ZI)) : gb225 ≠ g)); replace HK := ZKT HK (KeepBut.of_below hb g none); replace HB := ZTI HB hb; replace HI0 := AM (IsS64.below (ZI) hb); clear hb hbox hg))
 go_loopg [3] k (fun kq v3 w' => ∃ (x3_1 : Int) (x1001_1 : Int), v3 = .int .i64 x3_1 ∧ Za (spec_l71Prog.l0 kq x3_1 s0_0 x1001_1 = some (r1, r2, r3)) ∧ Za (kq ≤ k) ∧ Za (w'.heap[gb225]? = some (.cells #[(.slice none 0 0), (.slice none 0 0)] 26 (0, 0))) ∧ Za (IsS64 w0 w' g s0_0 x1001_1) ∧ Za (KeepBut w w' g none) ∧ Za (Below w0.heap.size w0 w'))
 case atStart => exact ⟨(0), (s0_1), ZSM, H', ⟨Nat.le_refl _⟩, ⟨ZK BK225.out⟩, ⟨ZI⟩, ⟨ZJ⟩, ⟨ZBI⟩⟩
 case round => (
 clear H'
 try clear p2
 obtain ⟨x3_1, x1001_1, rfl, HA, HK1, BK225, HI0, HK, HB⟩ := hrel
 cases gk with
 | zero => exact absurd HA.out (by simp [spec_l71Prog.l0])
 | succ k1 =>
  have H := HA.out
  clear HA
  simp only [spec_l71Prog.l0] at H
  by_cases c3 : x3_1 < 20
  ·(
  rw [if_pos c3] at H
  have c3b0 := decide_eq_true c3
  clear c3
  obtain ⟨y229, hy229⟩ : ∃ y_ : List (S35), y_ = (([] : List (S35))) := ⟨_, rfl⟩
  replace H : ((spec_l6Rd_pick.f k1 s0_0 x1001_1 4).bind fun bt233 => (spec_l71Prog.l1 k1 x3_1 (wrap64 (1 + bt233.1)) s0_0 bt233.2 y229)) = some (r1, r2, r3) := by rw [hy229]; exact H
  have Ny229 := AM hy229
  clear hy229
  obtain ⟨⟨t233, t234⟩, A4, H⟩ := ZOB H; try dsimp only at H
  have H' := AM H
  clear H
  go_wp2_with (first | ((with_reducible refine gate_dst (N := 10) rfl ?_); refine Kd.R_lit k35 _ 35 ?hg (N := 10) ?hd (xs := ([] : List (S35))) (inner := []) (ok := fun _ => True) (okp := fun _ => True) ?hr ?hp (fun _ hk => hk) trivial (Below.refl _ _) (Nat.le_refl _) (by simp) ?_; (case hd => rfl); (case hg => rfl); (case hr => first | (go_simp; done) | (go_simp; rfl)); (case hp => exact (Reps.none _ _)); intro v230 w5 ho6 hb hg_ hnew_; clear hg_ hnew_; (first | rw [← Ny229.out] at ho6 | (simp only [Int.reduceToNat] at ho6; rw [← Ny229.out] at ho6)); have HO231 := AM (Kd.R_lower ho6 (keep_size (w := w) (g := g) (row := none) (ZJ))); replace BK225 := ZW BK225 hb; replace HK := ZKT HK (KeepBut.of_below hb g none); replace HB := ZTI HB hb; replace HI0 := AM (IsS64.below (ZI) hb); clear hb ho6; obtain ⟨Ao7, co7, eo7⟩ := Kd.R_slice HO231.out; subst eo7) | ((with_reducible refine gate_dst (N := 4) rfl ?_); refine ZX (N := 4) (cs := #[.slice none 0 0, .slice none 0 0]) (t := 26) ?_; intro gb232 hg w8 hbox hb; have BK232 := AM (hbox); have GW232 := AM ((by rw [hg]; exact (keep_size (w := w) (g := g) (row := none) (ZJ)) : w.heap.size ≤ gb232)); have GE232 := AM ((Nat.le_trans HW0.out (by rw [hg]; exact (keep_size (w := w) (g := g) (row := none) (ZJ)) : w.heap.size ≤ gb232) : w0.heap.size ≤ gb232)); have NB225_232 : Za (gb225 ≠ gb232) := ZN hg BK225; have NB232_225 : Za (gb232 ≠ gb225) := ZM hg BK225; have NB0_232 := AM ((by rw [hg]; exact Nat.ne_of_lt (IsS64.lt (show IsS64 w0 _ g s0_0 x1001_1 from ZI)) : g ≠ gb232)); have NB232_0 := AM ((by rw [hg]; exact Nat.ne_of_gt (IsS64.lt (show IsS64 w0 _ g s0_0 x1001_1 from ZI)) : gb232 ≠ g)); replace HO231 := AM (Kd.R_below (ZR HO231.out) hb); replace BK225 := ZW BK225 hb; replace HK := ZKT HK (KeepBut.of_below hb g none); replace HB := ZTI HB hb; replace HI0 := AM (IsS64.below (ZI) hb); clear hb hbox hg; have hnb9 := NB232_225.out; have hnc9 := NB225_232.out; have hnb10 := NB232_0.out; have hnc10 := NB0_232.out; have hcz11 := ZC2 w8 BK232) | ((with_reducible refine gate_callee (f := 38) rfl ?_); refine ZGL (some 13) Try.func38 #[.pointer (some ⟨g, 0, none⟩), .int .i64 4] ?_; (with_reducible refine (spec_l6Rd_pick.calls k1 g s0_0 x1001_1 4 t233 t234 w0 _ ?side1 ?side2 A4.out).mono ?_); (case side1 => exact ZI); (case side2 => exact ZBI); rintro e w12 ⟨rfl, hi, hb, hk⟩; refine ZV1 ?_; replace BK225 := ZLV #[.slice none 0 0, .slice none 0 0] hk BK225 NB225_0; replace HO231 := AM (Kd.R_mono (Kd.R_keep (IsS64.apart (show IsS64 w0 _ g s0_0 x1001_1 from ZI) (ZR ((Kd.R_mono (Kd.R_far (p := ⟨gb232, 1, none⟩) (Kd.R_far (p := ⟨gb232, 0, none⟩) (Kd.R_types HO231.out BK232.out (by decide)) (fun _ hk => hk.2) (.slice Ao7 y229.length co7)) (fun _ hk => hk.2) (.slice none 0 0)) (fun _ h_ => h_.1)))) (by decide)) hk (fun _ h => h.2)) (fun _ h => h.1)); replace BK232 := ZLV #[.slice Ao7 y229.length co7, .slice none 0 0] hk BK232 NB232_0; replace HK := ZKT HK hk; replace HB := AM (hb); replace HI0 := AM (hi); clear hb hk hi))
  go_loopg [5] k1 (fun kq v5 w' => ∃ (x5_2 : Int) (x1001_2 : Int) (x233000_2 : List (S35)) (u233000 : Value), v5 = .int .i64 x5_2 ∧ Za (spec_l71Prog.l1 kq x3_1 x5_2 s0_0 x1001_2 x233000_2 = some (r1, r2, r3)) ∧ Za (kq ≤ k1) ∧ Za (Kd.R k35 35 w' w.heap.size (fun _ => True) u233000 x233000_2) ∧ Za (w'.heap[gb225]? = some (.cells #[(.slice none 0 0), (.slice none 0 0)] 26 (0, 0))) ∧ Za (w'.heap[gb232]? = some (.cells #[u233000, (.slice none 0 0)] 26 (0, 0))) ∧ Za (IsS64 w0 w' g s0_0 x1001_2) ∧ Za (KeepBut w w' g none) ∧ Za (Below w0.heap.size w0 w'))
  case atStart => exact ⟨(wrap64 (1 + t233)), (t234), (y229), (.slice Ao7 y229.length co7), ZSM, H', ⟨Nat.le_refl _⟩, ⟨ZR HO231.out⟩, ⟨ZK BK225.out⟩, ⟨ZK BK232.out⟩, ⟨ZI⟩, ⟨ZJ⟩, ⟨ZBI⟩⟩
  case round => (
  clear H'
  try clear c1
  try clear p2
  try clear c3
  try clear c3b0
  try clear c4
  try clear p6
  try clear c9
  try clear c10
  try clear hcz11
  try clear p2
  obtain ⟨x5_2, x1001_2, x233000_2, u233000, rfl, HA, HK2, HO_233000, BK225, BK232, HI0, HK, HB⟩ := hrel
  cases gk with
  | zero => exact absurd HA.out (by simp [spec_l71Prog.l1])
  | succ k2 =>
   have H := HA.out
   clear HA
   simp only [spec_l71Prog.l1] at H
   by_cases c13 : x5_2 > 0
   ·(
   rw [if_pos c13] at H
   have c13b0 := decide_eq_true c13
   clear c13
   obtain ⟨⟨t235, t236, t237⟩, A14, H⟩ := ZOB H; try dsimp only at H
   by_cases c15 : x233000_2.length < 8796093022208
   ·(
   rw [if_pos c15] at H
   have LMc15 := AM c15
   clear c15
   obtain ⟨y238, hy238⟩ : ∃ y_ : List (S35), y_ = (x233000_2 ++ [(⟨t235, t236⟩ : S35)]) := ⟨_, rfl⟩
   replace H : (spec_l71Prog.l1 k2 x3_1 (wrap64 (x5_2 - 1)) s0_0 t237 y238) = some (r1, r2, r3) := by rw [hy238]; exact H
   have Ny238 := AM hy238
   clear hy238
   have H' := AM H
   clear H
   try go_wp2
   replace HO_233000 := AM (Kd.R_drew HO_233000.out)
   replace BK225 := AM (blk_drew BK225.out)
   replace BK232 := AM (blk_drew BK232.out)
   replace HI0 := AM (IsS64.drew HI0.out)
   replace HK := AM (keep_drew HK.out)
   replace HB := AM (below_drew1 HB.out)
   refine start_ (n := 8) (S := fun w' => w'.cell? ⟨gb232, 0, none⟩ = some (u233000) ∧ w'.cell? ⟨gb232, 1, none⟩ = some (.slice none 0 0)) (ds := [7]) #[F,F,F,F,F,F,F,F] (by kernel_rfl) rfl rfl ⟨ZA BK232 0, ZA BK232 1⟩ (fun hHeld => ?_); refine with_tabW spec_l71Prog.tab8 spec_l71Prog.bits8 (fun HT_ HW_ => ?_)
   generalize wr.drew = w16 at HO_233000 BK225 BK232 HI0 HK HB hHeld ⊢
   refine ZU 0 19 #[T,F,F,F,F,F,F,F] ?_
   refine ZU 2 21 #[T,F,T,F,F,F,F,F] ?_
   refine ZTK 1 20 #[T,T,T,F,F,F,F,F] hHeld ?_
   refine one_ (i := 3) (N := some 22) #[T,T,T,T,F,F,F,F] rfl rfl (one_of HT_.out (by kernel_rfl)) (by decide) (fun K hK => ?_)
   refine ZGO Try.func62 #[.pointer (some ⟨g, 0, none⟩)] ?_
   with_reducible refine (spec_l71Label.calls k2 g s0_0 x1001_2 t235 t236 t237 w0 _ ?side1 ?side2 A14.out).mono ?_
   (case side1 => exact ZI)
   (case side2 => exact ZBI)
   rintro e w17 ⟨rfl, hi, hb, hk⟩
   refine ZV1 ?_
   replace HO_233000 := AM (Kd.R_mono (Kd.R_keep (IsS64.apart (show IsS64 w0 _ g s0_0 x1001_2 from ZI) (ZR HO_233000.out) (by decide)) hk (fun _ h => h.2)) (fun _ h => h.1))
   replace BK225 := ZL hk BK225 NB225_0
   replace BK232 := ZL hk BK232 NB232_0
   replace HK := ZKT HK hk
   replace HB := AM (hb)
   replace HI0 := AM (hi)
   (try clear hb)
   (try clear hb2)
   (try clear hk)
   (try clear hi)
   refine hK.out _ _ ⟨ZA BK232 0, ZA BK232 1⟩ (fun hHeld => ?_)
   clear hK K
   refine ZNO 22 ?_
   refine one_ (i := 4) (N := some 23) #[T,T,T,T,T,F,F,F] rfl rfl (one_of HT_.out (by kernel_rfl)) (by decide) (fun K hK => ?_)
   refine value_ (w1 := ?_) (v := ?_) (by rfl) rfl ?_ ?_
   rotate_left 2
   ·(
   go_simp
   constructor
   ·rfl
   ·rfl)
   refine hK.out _ _ ⟨(blk_cell (blk_alloc BK232.out _) 0).trans rfl, (blk_cell (blk_alloc BK232.out _) 1).trans rfl⟩ (fun hHeld => ?_)
   clear hK K
   refine ZNO 23 ?_
   refine one_ (i := 5) (N := some 24) #[T,T,T,T,T,T,F,F] rfl rfl (one_of HT_.out (by kernel_rfl)) (by decide) (fun K hK => ?_)
   refine Kd.R_append_step k35 w.heap.size (by rfl) (.tmp 20) (.tmp 23) 23 35 (.agg #[(.int .i64 0), (.int .i64 0)]) 16 rfl Try.underlying23 info35 rfl (by decide) (by omega) u233000 x233000_2 (⟨t235, t236⟩ : S35) [.int .i64 t235, .int .i64 t236] (fun _ => True) (fun _ => False) rfl rfl ?aP (fun _ hk => hk.elim) ?aF ?aO (Below.refl _ _) ?aS ?aL ?_
   (case aP => exact k35_mkM _ _ _ (⟨t235, t236⟩ : S35))
   (case aF => exact (fun _ _ => trivial))
   (case aO => exact (ZR HO_233000.out))
   (case aS => exact (keep_size (w := w) (g := g) (row := none) (ZJ)))
   (case aL => have := LMc15.out; omega)
   intro v239 w18 ho hb hg hat
   rw [← Ny238.out] at ho
   have n0_ := AM (blk_grown (g := gb225) (o := .cells #[.slice none 0 0, .slice none 0 0] 26 (0, 0)) (ZK BK225.out) hg (Kd.R_ne HO_233000.out BK225.out (by decide)))
   have n1_ := AM (blk_grown (g := gb232) (o := .cells #[u233000, .slice none 0 0] 26 (0, 0)) (ZK BK232.out) hg (Kd.R_ne HO_233000.out BK232.out (by decide)))
   have n2_ := AM (IsS64.grown (ZI) hg (IsS64.own_ne HI0.out HO_233000.out (by decide)))
   have n3_ := AM (below_weaken (ZBI) HL.out hb)
   have n4_ := AM (KeepBut.trans (ZJ) (KeepBut.of_grown hg g) (Kd.R_base2 HO_233000.out))
   have n5_ := AM (ho)
   clear BK225 BK232 HI0 HB HK HO_233000
   have BK225 := n0_
   have BK232 := n1_
   have HI0 := n2_
   have HB := n3_
   have HK := n4_
   have HO240 := n5_
   clear n0_ n1_ n2_ n3_ n4_ n5_ ho hb hg hat
   obtain ⟨Ao19, co19, eo19⟩ := Kd.R_slice HO240.out
   (first | subst eo19 | (injection eo19 with f1_ f2_ f3_; have f4_ := f1_.symm; have f5_ := f3_.symm; clear f1_ f2_ f3_; subst f4_; subst f5_))
   refine hK.out _ _ ⟨ZA BK232 0, ZA BK232 1⟩ (fun hHeld => ?_)
   clear hK K
   refine ZNO 24 ?_
   refine ZU 6 25 #[T,T,T,T,T,T,T,F] ?_
   refine last_ (i := 7) (N := none) #[T,T,T,T,T,T,T,T] rfl rfl (one_of HT_.out (by kernel_rfl)) (by decide) (fun K hK => ?_)
   have hs20 : w18.cell? ⟨gb232, 0, none⟩ = some (u233000) := ZA BK232 0
   have hfs20 := blk_frozen BK232.out 0
   have hns20_0 := NB225_232.out
   have hms20_0 := NB232_225.out
   refine skip_ (w1 := ?_) (by rfl) rfl ?_ ?_
   rotate_left
   ·(
   go_simp
   rfl)
   refine hK.out _ _ ?_
   clear hK K
   refine done_ (done_of HT_.out (by kernel_rfl)) ?_
   try go_wp2
   go_roundg k2
   case measure => have := HK1.out; have := HK2.out; omega
   case rel => exact ⟨(wrap64 (x5_2 - 1)), (t237), (y238), (.slice Ao19 y238.length co19), ZSM, H', ⟨by have := HK1.out; have := HK2.out; omega⟩, ⟨ZR (Kd.R_mono (Kd.R_far (p := ⟨gb232, 0, none⟩) (Kd.R_types HO240.out BK232.out (by decide)) (fun _ hk => hk.2) (.slice Ao19 y238.length co19)) (fun _ hk => trivial))⟩, ⟨ZZ BK225.out⟩, ⟨ZZ BK232.out⟩, ⟨ZI⟩, ⟨ZJ⟩, ⟨ZBI⟩⟩)
   ·(
   rw [if_neg c15] at H
   exact absurd H (by simp)))
   ·(
   rw [if_neg c13] at H
   have c13b0 := decide_eq_false c13
   clear c13
   obtain ⟨⟨t241, t244⟩, A21, H⟩ := ZOB H; try dsimp only at H
   obtain ⟨t245, A22, H⟩ := ZOB H; try dsimp only at H
   by_cases c23 : t245 = true
   ·(
   subst c23
   have H1 := H; rw [if_pos rfl] at H1
   clear H
   have H := H1
   clear H1
   simp only [Option.some.injEq, Prod.mk.injEq] at H
   obtain ⟨rfl, rfl, rfl⟩ := H
   have hnb24 := NB232_225.out
   have hnc24 := NB225_232.out
   have hnb25 := NB232_0.out
   have hnc25 := NB0_232.out
   have hcz26 := ZC2 wr BK232
   obtain ⟨Ao27, co27, eo27⟩ := Kd.R_slice HO_233000.out
   subst eo27
   go_wp2_with (first | ((with_reducible refine gate_callee (f := 63) rfl ?_); refine ZGL (some 30) Try.func63 #[.pointer (some ⟨g, 0, none⟩), .int .i64 4, .int .i64 3, .int .i64 (x233000_2.length : Int)] ?_; (with_reducible refine (spec_l71Steps.calls k2 g s0_0 x1001_2 4 3 (x233000_2.length : Int) t241 t244 w0 _ ?side1 ?side2 A21.out).mono ?_); (case side1 => exact ZI); (case side2 => exact ZBI); rintro e w28 ⟨v242, rfl, ho0, hi, hb, hk⟩; refine ZV1 ?_; have HO243 := AM (Kd.R_lower ho0 (keep_size (w := w) (g := g) (row := none) (ZJ))); replace HO_233000 := AM (Kd.R_mono (Kd.R_keep (IsS64.apart (show IsS64 w0 _ g s0_0 x1001_2 from ZI) (ZR HO_233000.out) (by decide)) hk (fun _ h => h.2)) (fun _ h => h.1)); replace BK225 := ZL hk BK225 NB225_0; replace BK232 := ZL hk BK232 NB232_0; replace HK := ZKT HK hk; replace HB := AM (hb); replace HI0 := AM (hi); clear hb hk hi; (try clear ho0); obtain ⟨Ao29, co29, eo29⟩ := Kd.R_slice HO243.out; subst eo29; have hcz30 := ZC2 w28 BK232) | ((with_reducible refine gate_callee (f := 16) rfl ?_); refine ZGL (some 33) Try.func16 #[.agg #[.slice Ao27 x233000_2.length co27, .slice Ao29 t241.length co29]] ?_; (with_reducible refine (spec_ProgOk.calls k2 _ _ x233000_2 _ _ t241 true _ ?side1 ?side2 ?side3 ?side4 A22.out).mono ?_); (case side1 => refine (Kd.R_reads' (e := 35) (base := w.heap.size) (ok := fun k_ => True) (n := x233000_2.length) (c := co27) ?_).2.2; exact (ZR ((Kd.R_mono (Kd.R_far (p := ⟨gb232, 1, none⟩) (Kd.R_types HO_233000.out BK232.out (by decide)) (fun _ hk => hk.2) (.slice Ao29 t241.length co29)) (fun _ h_ => h_.1))))); (case side2 => exact (Kd.R_reads' HO_233000.out).2.1); (case side3 => refine (Kd.R_reads' (e := 40) (base := w.heap.size) (ok := fun k_ => True) (n := t241.length) (c := co29) ?_).2.2; exact (ZR ((Kd.R_mono (Kd.R_far (p := ⟨gb232, 1, none⟩) (Kd.R_types HO243.out BK232.out (by decide)) (fun _ hk => hk.2) (.slice Ao29 t241.length co29)) (fun _ h_ => h_.1))))); (case side4 => exact (Kd.R_reads' HO243.out).2.1); rintro e w31 ⟨rfl, hb⟩; refine ZV1 ?_; replace HO_233000 := AM (Kd.R_below (ZR ((Kd.R_mono (Kd.R_far (p := ⟨gb232, 1, none⟩) (Kd.R_types HO_233000.out BK232.out (by decide)) (fun _ hk => hk.2) (.slice Ao29 t241.length co29)) (fun _ h_ => h_.1)))) hb); replace HO243 := AM (Kd.R_below (ZR ((Kd.R_mono (Kd.R_far (p := ⟨gb232, 1, none⟩) (Kd.R_types HO243.out BK232.out (by decide)) (fun _ hk => hk.2) (.slice Ao29 t241.length co29)) (fun _ h_ => h_.1)))) hb); replace BK225 := ZV #[.slice none 0 0, .slice none 0 0] BK225 hb; replace BK232 := ZV #[.slice Ao27 x233000_2.length co27, .slice Ao29 t241.length co29] BK232 hb; replace HK := ZKT HK (KeepBut.of_below hb g none); replace HB := ZTI HB hb; replace HI0 := AM (IsS64.below (show IsS64 w0 (w28.setCell ⟨gb232, 1, none⟩ (.slice Ao29 t241.length co29)) g s0_0 t244 from ZI) hb); clear hb; have hcz32 := ZC2 w31 BK232; have hnb33 := NB225_0.out; have hnc33 := NB0_225.out; have hcz34 := ZC2 w31 BK225))
   refine bodyPost_ret (results_cell_row rfl _ _ gb225 26 #[.slice Ao27 x233000_2.length co27, .slice Ao29 t241.length co29] (0, 0) _ rfl (ZZ BK225.out) Try.underlying26 rfl (by kernel_rfl)) rfl ?_
   exact ⟨_, _, ZE, ZRf (Kd.R_types HO_233000.out BK225.out (by decide)) (fun _ hk => ⟨hk.2, trivial⟩), ZRf (Kd.R_types HO243.out BK225.out (by decide)) (fun _ hk => ⟨hk.2, trivial⟩), ZI, ZBI, ZJ⟩)
   ·(
   replace c23 := Bool.eq_false_iff.mpr c23
   subst c23
   have H1 := H; rw [if_neg ZFT] at H1
   clear H
   have H := H1
   clear H1
   have H' := AM H
   clear H
   have hnb35 := NB232_225.out
   have hnc35 := NB225_232.out
   have hnb36 := NB232_0.out
   have hnc36 := NB0_232.out
   have hcz37 := ZC2 wr BK232
   obtain ⟨Ao38, co38, eo38⟩ := Kd.R_slice HO_233000.out
   subst eo38
   go_wp2_with (first | ((with_reducible refine gate_callee (f := 63) rfl ?_); refine ZGL (some 30) Try.func63 #[.pointer (some ⟨g, 0, none⟩), .int .i64 4, .int .i64 3, .int .i64 (x233000_2.length : Int)] ?_; (with_reducible refine (spec_l71Steps.calls k2 g s0_0 x1001_2 4 3 (x233000_2.length : Int) t241 t244 w0 _ ?side1 ?side2 A21.out).mono ?_); (case side1 => exact ZI); (case side2 => exact ZBI); rintro e w39 ⟨v242, rfl, ho0, hi, hb, hk⟩; refine ZV1 ?_; have HO243 := AM (Kd.R_lower ho0 (keep_size (w := w) (g := g) (row := none) (ZJ))); replace HO_233000 := AM (Kd.R_mono (Kd.R_keep (IsS64.apart (show IsS64 w0 _ g s0_0 x1001_2 from ZI) (ZR HO_233000.out) (by decide)) hk (fun _ h => h.2)) (fun _ h => h.1)); replace BK225 := ZL hk BK225 NB225_0; replace BK232 := ZL hk BK232 NB232_0; replace HK := ZKT HK hk; replace HB := AM (hb); replace HI0 := AM (hi); clear hb hk hi; (try clear ho0); obtain ⟨Ao40, co40, eo40⟩ := Kd.R_slice HO243.out; subst eo40; have hcz41 := ZC2 w39 BK232) | ((with_reducible refine gate_callee (f := 16) rfl ?_); refine ZGL (some 33) Try.func16 #[.agg #[.slice Ao38 x233000_2.length co38, .slice Ao40 t241.length co40]] ?_; (with_reducible refine (spec_ProgOk.calls k2 _ _ x233000_2 _ _ t241 false _ ?side1 ?side2 ?side3 ?side4 A22.out).mono ?_); (case side1 => refine (Kd.R_reads' (e := 35) (base := w.heap.size) (ok := fun k_ => True) (n := x233000_2.length) (c := co38) ?_).2.2; exact (ZR ((Kd.R_mono (Kd.R_far (p := ⟨gb232, 1, none⟩) (Kd.R_types HO_233000.out BK232.out (by decide)) (fun _ hk => hk.2) (.slice Ao40 t241.length co40)) (fun _ h_ => h_.1))))); (case side2 => exact (Kd.R_reads' HO_233000.out).2.1); (case side3 => refine (Kd.R_reads' (e := 40) (base := w.heap.size) (ok := fun k_ => True) (n := t241.length) (c := co40) ?_).2.2; exact (ZR ((Kd.R_mono (Kd.R_far (p := ⟨gb232, 1, none⟩) (Kd.R_types HO243.out BK232.out (by decide)) (fun _ hk => hk.2) (.slice Ao40 t241.length co40)) (fun _ h_ => h_.1))))); (case side4 => exact (Kd.R_reads' HO243.out).2.1); rintro e w42 ⟨rfl, hb⟩; refine ZV1 ?_; replace HO_233000 := AM (Kd.R_below (ZR ((Kd.R_mono (Kd.R_far (p := ⟨gb232, 1, none⟩) (Kd.R_types HO_233000.out BK232.out (by decide)) (fun _ hk => hk.2) (.slice Ao40 t241.length co40)) (fun _ h_ => h_.1)))) hb); replace HO243 := AM (Kd.R_below (ZR ((Kd.R_mono (Kd.R_far (p := ⟨gb232, 1, none⟩) (Kd.R_types HO243.out BK232.out (by decide)) (fun _ hk => hk.2) (.slice Ao40 t241.length co40)) (fun _ h_ => h_.1)))) hb); replace BK225 := ZV #[.slice none 0 0, .slice none 0 0] BK225 hb; replace BK232 := ZV #[.slice Ao38 x233000_2.length co38, .slice Ao40 t241.length co40] BK232 hb; replace HK := ZKT HK (KeepBut.of_below hb g none); replace HB := ZTI HB hb; replace HI0 := AM (IsS64.below (show IsS64 w0 (w39.setCell ⟨gb232, 1, none⟩ (.slice Ao40 t241.length co40)) g s0_0 t244 from ZI) hb); clear hb))
   go_roundg k2
   case measure => have := HK1.out; have := HK2.out; omega
   case rel => exact ⟨(wrap64 (x3_1 + 1)), (t244), ZSM, H', ⟨by have := HK1.out; have := HK2.out; omega⟩, ⟨ZK BK225.out⟩, ⟨ZI⟩, ⟨ZJ⟩, ⟨ZBI⟩⟩))))
  ·(
  rw [if_neg c3] at H
  have c3b0 := decide_eq_false c3
  clear c3
  obtain ⟨y226, hy226⟩ : ∃ y_ : List (S35), y_ = (([(⟨7, 0⟩ : S35)] : List (S35))) := ⟨_, rfl⟩
  replace H : (some (y226, ([] : List (S40)), x1001_1)) = some (r1, r2, r3) := by rw [hy226]; exact H
  have Ny226 := AM hy226
  clear hy226
  simp only [Option.some.injEq, Prod.mk.injEq] at H
  obtain ⟨rfl, rfl, rfl⟩ := H
  go_wp2_with (first | ((with_reducible refine gate_dst (N := 36) rfl ?_); refine Kd.R_lit k35 _ 35 ?hg (N := 36) ?hd (xs := ([(⟨7, 0⟩ : S35)] : List (S35))) (inner := [.int .i64 7, .int .i64 0]) (ok := fun _ => True) (okp := fun _ => True) ?hr ?hp (fun _ hk => hk) trivial (Below.refl _ _) (Nat.le_refl _) (by simp) ?_; (case hd => rfl); (case hg => rfl); (case hr => first | (go_simp; done) | (go_simp; rfl)); (case hp => exact (Reps.c2 (show Kd.M k35 _ _ _ (⟨7, 0⟩ : S35) [.int .i64 7, .int .i64 0] from (k35_mkM _ _ _ (⟨7, 0⟩ : S35) )) (Reps.none _ _))); intro v227 w43 ho44 hb hg_ hnew_; clear hg_ hnew_; (first | rw [← Ny226.out] at ho44 | (simp only [Int.reduceToNat] at ho44; rw [← Ny226.out] at ho44)); have HO228 := AM (Kd.R_lower ho44 (keep_size (w := w) (g := g) (row := none) (ZJ))); replace BK225 := ZW BK225 hb; replace HK := ZKT HK (KeepBut.of_below hb g none); replace HB := ZTI HB hb; replace HI0 := AM (IsS64.below (ZI) hb); clear hb ho44; obtain ⟨Ao45, co45, eo45⟩ := Kd.R_slice HO228.out; subst eo45; have hnb46 := NB225_0.out; have hnc46 := NB0_225.out; have hcz47 := ZC2 w43 BK225))
  refine bodyPost_ret (results_cell_row rfl _ _ gb225 26 #[.slice Ao45 y226.length co45, .slice none 0 0] (0, 0) _ rfl (ZZ BK225.out) Try.underlying26 rfl (by kernel_rfl)) rfl ?_
  exact ⟨_, _, ZE, ZRf (Kd.R_types HO228.out BK225.out (by decide)) (fun _ hk => ⟨hk.2, trivial⟩), by first | exact Kd.R_nil _ _ _ _ _ | exact Kd.N_nil _ _ _ _ _ | exact Kd.V_nil _ _ _ _ _ | exact Kd.Q_nil _ _ _ _ _ | exact Kd.S_nil _ _ _ _ _, ZI, ZBI, ZJ⟩))

end Go.Proofs.Ytkkdeojbkfjlpaa.B
