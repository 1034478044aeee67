/- Go functions as Lean functions, and for each its contract; written by wip/tools/pr.py over the kit's print. -/
import Derived.Test.YtfcmckomagaiiaaDoorAx0
import Derived.Test.YtfcmckomagaiiaaDoorAx1
import Derived.Test.YtfcmckomagaiiaaDoorAx2
namespace Go.Proofs.YtfcmckomagaiiaaDoor.A
open Go.RowKit Go.Proofs.YtfcmckomagaiiaaDoorW.PrintWords Go.Proofs.YtfcmckomagaiiaaDoorW.PrintLast Go.Proofs.YtfcmckomagaiiaaDoorW.PrintMore
attribute [local go_sem] max2_int min2_int max_two min_two max_three min_three max_four min_four
set_option linter.unusedVariables false
set_option linter.unusedSimpArgs false
set_option maxHeartbeats 8000000
set_option maxRecDepth 100000

attribute [local go_sem high] eqA43
/-! ### laws.lcSteps: two rows of steps are compared, with all in them -/
mutual
def laws_lcSteps.l0 : Nat → List S71 → List S71 → Int → Option Bool
 | 0, _, _, _ => none
 | k + 1, x0, x1, x5 => if x5 < (x0.length : Int) then (if 0 ≤ x5 then (if x5 < (x1.length : Int) then (if (D71 x0 x5).f0 = (D71 x1 x5).f0 then (if (D71 x0 x5).f1 = (D71 x1 x5).f1 then (if (!((D71 x0 x5).f2.f0 == (D71 x1 x5).f2.f0) || (!((D71 x0 x5).f2.f1 == (D71 x1 x5).f2.f1) || !((D71 x0 x5).f2.f2 == (D71 x1 x5).f2.f2))) = true then some false else (if (D71 x0 x5).f3 = (D71 x1 x5).f3 then ((laws_lcSteps.f k (D71 x0 x5).f4 (D71 x1 x5).f4).bind fun t => (if t = true then ((laws_lcSteps.f k (D71 x0 x5).f5 (D71 x1 x5).f5).bind fun u => (if u = true then (laws_lcSteps.l0 k x0 x1 (wrap64 (x5 + 1))) else some false)) else some false)) else some false)) else some false) else some false) else none) else none) else some true
def laws_lcSteps.f : Nat → List S71 → List S71 → Option Bool
 | 0, _, _ => none
 | k + 1, l0, l1 => if (l0.length : Int) = (l1.length : Int) then laws_lcSteps.l0 k l0 l1 0 else some false
end
def laws_lcSteps.T6 : Bool × List (List Nat × List Nat) := (true, [([], []), ([], []), ([0, 1], [0, 1]), ([2], [2]), ([3], [3]), ([], []), ([], []), ([5, 6], [5, 6]), ([7], [7]), ([8], [8]), ([4, 9], [4, 9]), ([10], [10]), ([11], [11]), ([11], [11]), ([12, 13, 11], [11, 12, 13]), ([14, 11], [11, 14]), ([15, 11], [11, 15]), ([11], [11]), ([11], [11]), ([17, 18, 11], [11, 17, 18]), ([19, 11], [11, 19]), ([20, 11], [11, 20]), ([16, 21, 11], [11, 16, 21]), ([11, 22], [11, 22]), ([23, 11], [23]), ([24], [24]), ([24], [24]), ([25, 26, 24], [24, 25, 26]), ([27, 24], [24, 27]), ([28, 24], [24, 28]), ([24], [24]), ([24], [24]), ([30, 31, 24], [24, 30, 31]), ([32, 24], [24, 32]), ([33, 24], [24, 33]), ([29, 34, 24], [24, 29, 34]), ([24, 35], [24, 35]), ([36, 24], [36]), ([37], [37]), ([37], [37]), ([38, 39, 37], [37, 38, 39]), ([40, 37], [37, 40]), ([41, 37], [37, 41]), ([37], [37]), ([37], [37]), ([43, 44, 37], [37, 43, 44]), ([45, 37], [37, 45]), ([46, 37], [37, 46]), ([42, 47, 37], [37, 42, 47]), ([37, 48], [37, 48]), ([49, 37], [49]), ([50], [50]), ([50], [50]), ([51, 52, 50], [50, 51, 52]), ([53, 50], [50, 53]), ([54, 50], [50, 54]), ([50], [50]), ([50], [50]), ([56, 57, 50], [50, 56, 57]), ([58, 50], [50, 58]), ([59, 50], [50, 59]), ([55, 60, 50, 50], [50, 55, 60]), ([61, 50], [50, 61]), ([50, 62], [50, 62]), ([63, 61], [63]), ([64], [64]), ([64], [64]), ([65, 66, 64], [64, 65, 66]), ([67, 64], [64, 67]), ([68, 64], [64, 68]), ([64], [64]), ([64], [64]), ([70, 71, 64], [64, 70, 71]), ([72, 64], [64, 72]), ([73, 64], [64, 73]), ([69, 74, 64, 64], [64, 69, 74]), ([75, 64], [64, 75]), ([64, 76], [64, 76])])
theorem laws_lcSteps.tab6 : rtab .any (opsOf Tryd.f31 6) = laws_lcSteps.T6 := by kernel_rfl
/-- An element's cells. -/
def laws_lcSteps.E (a : Addr) (x : S71) (A B : Option Addr) (c d : Nat) (w : World) : Prop :=
 w.cell? a = some (.int .i64 x.f0) ∧ w.cell? ⟨a.block, a.off + 1, none⟩ = some (.int .i64 x.f1) ∧ w.cell? ⟨a.block, a.off + 2, none⟩ = some (.int .i64 x.f2.f0) ∧ w.cell? ⟨a.block, a.off + 3, none⟩ = some (.int .i64 x.f2.f1) ∧ w.cell? ⟨a.block, a.off + 4, none⟩ = some (.int .i64 x.f2.f2) ∧ w.cell? ⟨a.block, a.off + 5, none⟩ = some (.int .i64 x.f3) ∧ w.cell? ⟨a.block, a.off + 6, none⟩ = some (.slice A x.f4.length c) ∧ w.cell? ⟨a.block, a.off + 7, none⟩ = some (.slice B x.f5.length d)
theorem laws_lcSteps.E.to {a : Addr} {x : S71} {A B : Option Addr} {c d : Nat} {w w' : World} (h : laws_lcSteps.E a x A B c d w) (HB : Za (Below w.heap.size w w')) : laws_lcSteps.E a x A B c d w' :=
 ⟨ZHX HB h.1, ZHX HB h.2.1, ZHX HB h.2.2.1, ZHX HB h.2.2.2.1, ZHX HB h.2.2.2.2.1, ZHX HB h.2.2.2.2.2.1, ZHX HB h.2.2.2.2.2.2.1, ZHX HB h.2.2.2.2.2.2.2⟩
/-- The first i operations are done. -/
def laws_lcSteps.up (i : Nat) : Array Bool := ((List.range 78).map fun j => Nat.blt j i).toArray
section
variable {P : Program} {ops : Array Oper} {a a' : Act} {Q : Exit → Act → World → Prop} {S : World → Prop} {fuel i : Nat} {v : Value} {w : World} {oi : Oper}
theorem laws_lcSteps.U (h : wpAnyLast P .any ops Q S [] fuel (laws_lcSteps.up (i + 1)) a' w) (HT_ : Za (rtab .any ops = laws_lcSteps.T6))
  (hi : ops[i]? = some oi := by rfl) (hN : oi.dst = some (i + 17) := by rfl) (hc : anyB .any ops (laws_lcSteps.up i) (laws_lcSteps.up (i + 1)) i = true := by exact any_of HT_.out (by kernel_rfl)) (hQ : ∀ c a w, Q (.panic c) (a.put oi.dst v) w → Q (.panic c) a w := by exact fun _ _ _ h => h)
  (hy : Yields P ops oi v a := by (refine Or.inl ⟨by rfl, ?_⟩; intro w'; go_simp; with_reducible rfl)) (ha : a.put (some (i + 17)) v = a' := by simp only [Act.put, Nat.reduceAdd, List.setIfInBounds_toArray, List.set_cons_zero, List.set_cons_succ, i64_w, i32_w]; rfl) : wpAnyLast P .any ops Q S [] (fuel + 1) (laws_lcSteps.up i) a w := pure_ _ hi hN hc hQ hy ha h
theorem laws_lcSteps.W {a : Act} {w : World} {n : Nat} {l : Array Bool} (hT : rtab .any ops = laws_lcSteps.T6) (h : Za (rtab .any ops = laws_lcSteps.T6) → wpAnyLast P .any ops Q S [] n l a w) : wpAnyLast P .any ops Q S [] n l a w := h ⟨hT⟩
theorem laws_lcSteps.V (h : wpAnyLast P .any ops Q S [] fuel (laws_lcSteps.up (i + 1)) a' w) (HT_ : Za (rtab .any ops = laws_lcSteps.T6))
  (hi : ops[i]? = some oi := by rfl) (hy : Yields P ops oi undef a := by exact Or.inr ⟨by rfl, rfl⟩) (hN : oi.dst = some (i + 17) := by rfl) (hc : anyB .any ops (laws_lcSteps.up i) (laws_lcSteps.up (i + 1)) i = true := by exact any_of HT_.out (by kernel_rfl)) (hQ : ∀ c a w, Q (.panic c) (a.put oi.dst undef) w → Q (.panic c) a w := by exact fun _ _ _ h => h)
  (ha : a.put (some (i + 17)) undef = a' := by simp only [Act.put, Nat.reduceAdd, List.setIfInBounds_toArray, List.set_cons_zero, List.set_cons_succ]; rfl) : wpAnyLast P .any ops Q S [] (fuel + 1) (laws_lcSteps.up i) a w := pure_ _ hi hN hc hQ hy ha h
theorem laws_lcSteps.L (hS : S w) (h : wpAnyLast P .any ops Q S [] fuel (laws_lcSteps.up (i + 1)) a' w) (HT_ : Za (rtab .any ops = laws_lcSteps.T6))
  (hi : ops[i]? = some oi := by rfl) (hN : oi.dst = some (i + 17) := by rfl) (hc : takeB .any ops [] (laws_lcSteps.up i) (laws_lcSteps.up (i + 1)) i = true := by exact take_of HT_.out (by kernel_rfl)) (hQ : ∀ c a w, Q (.panic c) (a.put oi.dst v) w → Q (.panic c) a w := by exact fun _ _ _ h => h)
  (hy : YieldsIf P ops S oi v a := by (refine Or.inl ⟨by rfl, ?_⟩; intro w' h_; obtain ⟨h2_, h_⟩ := h_; repeat (obtain ⟨h1_, h2_⟩ := h2_); repeat (obtain ⟨h1_, h_⟩ := h_); go_simp; with_reducible rfl)) (ha : a.put (some (i + 17)) v = a' := by simp only [Act.put, Nat.reduceAdd, List.setIfInBounds_toArray, List.set_cons_zero, List.set_cons_succ, i64_w, i32_w]; rfl) : wpAnyLast P .any ops Q S [] (fuel + 1) (laws_lcSteps.up i) a w := take_ _ hi hN hc hQ hy hS ha h
end
attribute [local go_sem high] eqA69
open laws_lcSteps in
set_option maxRecDepth 100000 in
theorem laws_lcSteps.calls (k : Nat) : ∀ (A0 : Option Addr) (c0 : Nat) (l0 : List (S71)) (A1 : Option Addr) (c1 : Nat) (l1 : List (S71)) (r : Bool) (w : World) (hr0 : Kd.C k71 w A0 l0.length l0) (hc0 : l0.length ≤ c0) (hr1 : Kd.C k71 w A1 l1.length l1) (hc1 : l1.length ≤ c1) (h : laws_lcSteps.f k l0 l1 = some r),
  Calls Tryd.prog 31 #[.slice A0 l0.length c0, .slice A1 l1.length c1] w fun e w' => e = .returned (.bool r) ∧ Below w.heap.size w w' := by
 induction k using Nat.strongRecOn with
 | _ k ih =>
 intro A0 c0 l0 A1 c1 l1 r w HR0 HC0 HR1 HC1 h
 cases k with
 | zero => exact absurd h (by simp [laws_lcSteps.f])
 | succ k =>
 have hu := Tryd.underlying69
 replace HR0 := AM HR0
 replace HC0 := AM HC0
 replace HR1 := AM HR1
 replace HC1 := AM HC1
 replace ih := AM ih
 have HB := AM (Below.refl w.heap.size w)
 rw [laws_lcSteps.f] at h
 by_cases c3 : (l0.length : Int) = (l1.length : Int)
 case neg => (
  rw [if_neg c3] at h
  have e1 := beq_eq_false_iff_ne.mpr c3
  have e2 := bne_iff_ne.mpr c3
  have e3 : (l0.length == l1.length) = false := by simp at c3 ⊢; omega
  obtain rfl := Option.some.inj h
  go_enter Tryd.func31, Tryd.ntmps31
  go_wp2
  go_ret
  exact ⟨ZE, ZB⟩)
 rw [if_pos c3] at h
 have e1 := beq_iff_eq.mpr c3
 have e2 := bne_eq_false_iff_eq.mpr c3
 have e3 : (l0.length == l1.length) = true := by simp at c3 ⊢; omega
 have H' := AM h
 clear h c3
 go_enter Tryd.func31, Tryd.ntmps31
 go_wp2
 go_loopg [5] k (fun kq v5 w' => ∃ (x : Int), v5 = .int .i64 x ∧ Za (laws_lcSteps.l0 kq l0 l1 x = some r) ∧ Za (kq ≤ k) ∧ Za (Below w.heap.size w w'))
 case atStart => exact ⟨(0), ZSM, H', ⟨Nat.le_refl _⟩, ⟨ZB⟩⟩
 case round => (
  clear H' e1 e2 e3
  obtain ⟨x, rfl, HA, HK1, HB⟩ := hrel
  cases gk with
  | zero => exact absurd HA.out (by simp [laws_lcSteps.l0])
  | succ k1 =>
  have H := HA.out
  clear HA
  simp only [laws_lcSteps.l0] at H
  by_cases c4 : x < (l0.length : Int)
  case neg => (
   rw [if_neg c4] at H
   replace c4 := decide_eq_false c4
   obtain rfl := Option.some.inj H
   clear H
   go_wp2
   go_ret
   exact ⟨ZE, ZB⟩)
  rw [if_pos c4] at H
  by_cases c5 : 0 ≤ x
  case neg => exact ZNE H c5
  rw [if_pos c5] at H
  by_cases c6 : x < (l1.length : Int)
  case neg => exact ZNE H c6
  rw [if_pos c6] at H
  have d4 := decide_eq_true c4
  obtain ⟨a, A6, c6_, A7, c7_, e0, h0, h1, h2, h3, h4, h5, h6, h7, l6, i6, l7, i7⟩ := at_T71 HR0.out x c5 c4
  obtain ⟨b, B6, d6, B7, d7, e1, g0, g1, g2, g3, g4, g5, g6, g7, m6, j6, m7, j7⟩ := at_T71 HR1.out x c5 c6
  cases e0
  cases e1
  have hE := AM (⟨h0, h1, h2, h3, h4, h5, h6, h7⟩ : E _ _ _ _ _ _ _)
  have gE := AM (⟨g0, g1, g2, g3, g4, g5, g6, g7⟩ : E _ _ _ _ _ _ _)
  replace l6 := AM l6
  replace l7 := AM l7
  replace m6 := AM m6
  replace m7 := AM m7
  replace i6 := AM i6
  replace i7 := AM i7
  replace j6 := AM j6
  replace j7 := AM j7
  clear h0 h1 h2 h3 h4 h5 h6 h7 g0 g1 g2 g3 g4 g5 g6 g7
  replace H := AM H
  go_wp2
  replace HB := AM (below_drew1 HB.out)
  replace c4 := eq_true c4
  replace c5 := eq_true c5
  replace c6 := eq_true c6
  refine start_ (n := 78) (S := fun w' => E (a.add (x.toNat * 8)) (D71 l0 x) A6 A7 c6_ c7_ w' ∧ E (b.add (x.toNat * 8)) (D71 l1 x) B6 B7 d6 d7 w') (ds := []) (up 0) (by kernel_rfl) rfl rfl ⟨E.to hE.out HB, E.to gE.out HB⟩ (fun hHeld => ?_)
  refine laws_lcSteps.W laws_lcSteps.tab6 (fun HT_ => ?_)
  replace hHeld := AM hHeld
  iterate 10 first | refine L hHeld.out ?_ HT_ | refine U ?_ HT_
  replace H := H.out
  by_cases c7 : (D71 l0 x).f0 = (D71 l1 x).f0
  case neg => (
   rw [if_neg c7] at H
   have f1 := beq_eq_false_iff_ne.mpr c7
   have f2 := bne_iff_ne.mpr c7
   clear c7
   obtain rfl := Option.some.inj H
   clear H
   iterate 68 first | refine V ?_ HT_ | refine U ?_ HT_
   refine done_ (done_of HT_.out (by kernel_rfl)) ?_
   go_wp2
   go_ret
   exact ⟨ZE, ZB⟩)
  rw [if_pos c7] at H
  have c71 := beq_iff_eq.mpr c7
  have c72 := bne_eq_false_iff_eq.mpr c7
  clear c7
  iterate 12 first | refine L hHeld.out ?_ HT_ | refine U ?_ HT_
  by_cases c8 : (D71 l0 x).f1 = (D71 l1 x).f1
  case neg => (
   rw [if_neg c8] at H
   have f1 := beq_eq_false_iff_ne.mpr c8
   have f2 := bne_iff_ne.mpr c8
   clear c8
   obtain rfl := Option.some.inj H
   clear H
   iterate 56 first | refine V ?_ HT_ | refine U ?_ HT_
   refine done_ (done_of HT_.out (by kernel_rfl)) ?_
   go_wp2
   go_ret
   exact ⟨ZE, ZB⟩)
  rw [if_pos c8] at H
  have c81 := beq_iff_eq.mpr c8
  have c82 := bne_eq_false_iff_eq.mpr c8
  clear c8
  iterate 13 first | refine L hHeld.out ?_ HT_ | refine U ?_ HT_
  by_cases c9 : (!((D71 l0 x).f2.f0 == (D71 l1 x).f2.f0) || (!((D71 l0 x).f2.f1 == (D71 l1 x).f2.f1) || !((D71 l0 x).f2.f2 == (D71 l1 x).f2.f2))) = true
  case pos => (
   rw [if_pos c9] at H
   obtain rfl := Option.some.inj H
   clear H
   iterate 43 first | refine V ?_ HT_ | refine U ?_ HT_
   refine done_ (done_of HT_.out (by kernel_rfl)) ?_
   go_wp2
   go_ret
   exact ⟨ZE, ZB⟩)
  rw [if_neg c9] at H
  replace c9 := Bool.eq_false_iff.mpr c9
  iterate 13 first | refine L hHeld.out ?_ HT_ | refine U ?_ HT_
  by_cases c10 : (D71 l0 x).f3 = (D71 l1 x).f3
  case neg => (
   rw [if_neg c10] at H
   have f1 := beq_eq_false_iff_ne.mpr c10
   have f2 := bne_iff_ne.mpr c10
   clear c10
   obtain rfl := Option.some.inj H
   clear H
   iterate 30 first | refine V ?_ HT_ | refine U ?_ HT_
   refine done_ (done_of HT_.out (by kernel_rfl)) ?_
   go_wp2
   go_ret
   exact ⟨ZE, ZB⟩)
  rw [if_pos c10] at H
  have c101 := beq_iff_eq.mpr c10
  have c102 := bne_eq_false_iff_eq.mpr c10
  clear c10
  iterate 13 first | refine L hHeld.out ?_ HT_ | refine U ?_ HT_
  obtain ⟨t, A61, H⟩ := ZOB H
  refine one_ (i := 61) (N := some 78) (up 62) rfl rfl (one_of HT_.out (by kernel_rfl)) (by decide) (fun K hK => ?_)
  refine ZGO Tryd.func31 #[.slice A6 (D71 l0 x).f4.length c6_, .slice B6 (D71 l1 x).f4.length d6] ?_
  refine (ih.out k1 (by have := HK1.out; omega) _ _ (D71 l0 x).f4 _ _ (D71 l1 x).f4 t _ (Kd.C_below i6.out HB.out) l6.out (Kd.C_below j6.out HB.out) m6.out A61.out).mono ?_
  rintro e_ w61 ⟨rfl, hb⟩
  refine ZV1 ?_
  replace HB := ZT HB hb
  clear hb
  refine hK.out _ _ ⟨E.to hE.out HB, E.to gE.out HB⟩ (fun hHeld => ?_)
  replace hHeld := AM hHeld
  clear hK K
  refine ZNO 78 ?_
  cases t
  case false => (
   rw [if_neg ZFT] at H
   obtain rfl := Option.some.inj H
   clear H
   iterate 16 first | refine V ?_ HT_ | refine U ?_ HT_
   refine done_ (done_of HT_.out (by kernel_rfl)) ?_
   go_wp2
   go_ret
   exact ⟨ZE, ZB⟩)
  rw [if_pos rfl] at H
  iterate 13 first | refine L hHeld.out ?_ HT_ | refine U ?_ HT_
  obtain ⟨u, A75, H⟩ := ZOB H
  refine one_ (i := 75) (N := some 92) (up 76) rfl rfl (one_of HT_.out (by kernel_rfl)) (by decide) (fun K hK => ?_)
  refine ZGO Tryd.func31 #[.slice A7 (D71 l0 x).f5.length c7_, .slice B7 (D71 l1 x).f5.length d7] ?_
  refine (ih.out k1 (by have := HK1.out; omega) _ _ (D71 l0 x).f5 _ _ (D71 l1 x).f5 u _ (Kd.C_below i7.out HB.out) l7.out (Kd.C_below j7.out HB.out) m7.out A75.out).mono ?_
  rintro e_ w75 ⟨rfl, hb⟩
  refine ZV1 ?_
  replace HB := ZT HB hb
  clear hb
  refine hK.out _ _ ⟨E.to hE.out HB, E.to gE.out HB⟩ (fun hHeld => ?_)
  replace hHeld := AM hHeld
  clear hK K
  refine ZNO 92 ?_
  cases u
  case false => (
   rw [if_neg ZFT] at H
   obtain rfl := Option.some.inj H
   clear H
   iterate 2 first | refine V ?_ HT_ | refine U ?_ HT_
   refine done_ (done_of HT_.out (by kernel_rfl)) ?_
   go_wp2
   go_ret
   exact ⟨ZE, ZB⟩)
  rw [if_pos rfl] at H
  replace H := AM H
  iterate 2 first | refine L hHeld.out ?_ HT_ | refine U ?_ HT_
  refine done_ (done_of HT_.out (by kernel_rfl)) ?_
  go_wp2
  go_roundg k1
  case measure => have := HK1.out; omega
  case rel => exact ⟨wrap64 (x + 1), ZSM, H, ⟨by have := HK1.out; omega⟩, ⟨ZB⟩⟩)

/-! ### laws_lcProg: function 12 -/
def laws_lcProg.l0 : Nat → Int → List (S43) → List (S71) → List (S43) → List (S71) → Option (Bool)
 | 0, _, _, _, _, _ => none
 | k + 1, x5, x615000, x615001, x616000, x616001 => if x5 < (x615000.length : Int) then (if 0 ≤ x5 then (if x5 < (x616000.length : Int) then (if (!(((D43 x615000 x5).f0) == ((D43 x616000 x5).f0)) || (!(((D43 x615000 x5).f1) == ((D43 x616000 x5).f1)))) = true then (some false) else (laws_lcProg.l0 k (wrap64 (x5 + 1)) x615000 x615001 x616000 x616001)) else (none)) else (none)) else ((laws_lcSteps.f k x615001 x616001).bind fun t618 => (some t618))
def laws_lcProg.f (k : Nat) (l0_0 : List (S43)) (l0_1 : List (S71)) (l1_0 : List (S43)) (l1_1 : List (S71)) : Option (Bool) := if (l0_0.length : Int) = (l1_0.length : Int) then (laws_lcProg.l0 k 0 l0_0 l0_1 l1_0 l1_1) else (some false)
theorem laws_lcProg.calls (k : Nat) (A0_0 : Option Addr) (c0_0 : Nat) (l0_0 : List (S43)) (A0_1 : Option Addr) (c0_1 : Nat) (l0_1 : List (S71)) (A1_0 : Option Addr) (c1_0 : Nat) (l1_0 : List (S43)) (A1_1 : Option Addr) (c1_1 : Nat) (l1_1 : List (S71)) (r : Bool) (w : World) (hr0_0 : Kd.C k43 w A0_0 l0_0.length l0_0) (hc0_0 : l0_0.length ≤ c0_0) (hr0_1 : Kd.C k71 w A0_1 l0_1.length l0_1) (hc0_1 : l0_1.length ≤ c0_1) (hr1_0 : Kd.C k43 w A1_0 l1_0.length l1_0) (hc1_0 : l1_0.length ≤ c1_0) (hr1_1 : Kd.C k71 w A1_1 l1_1.length l1_1) (hc1_1 : l1_1.length ≤ c1_1) (h : laws_lcProg.f k l0_0 l0_1 l1_0 l1_1 = some r) :
  Calls Tryd.prog 12 #[.agg #[.slice A0_0 l0_0.length c0_0, .slice A0_1 l0_1.length c0_1], .agg #[.slice A1_0 l1_0.length c1_0, .slice A1_1 l1_1.length c1_1]] w fun e w' => e = .returned (.bool r) ∧ Below w.heap.size w w' := by
 have hu31 := Tryd.underlying31
 have hu43 := Tryd.underlying43
 have HR0_0 := AM hr0_0
 have HC0_0 := AM hc0_0
 clear hr0_0 hc0_0
 have HR0_1 := AM hr0_1
 have HC0_1 := AM hc0_1
 clear hr0_1 hc0_1
 have HR1_0 := AM hr1_0
 have HC1_0 := AM hc1_0
 clear hr1_0 hc1_0
 have HR1_1 := AM hr1_1
 have HC1_1 := AM hc1_1
 clear hr1_1 hc1_1
 have HB := AM (Below.refl w.heap.size w)
 have H := h
 unfold laws_lcProg.f at H
 clear h
 by_cases c3 : (l0_0.length : Int) = (l1_0.length : Int)
 focus (
 rw [if_pos c3] at H
 have c3b0 := beq_iff_eq.mpr c3
 have c3b1 := bne_eq_false_iff_eq.mpr c3
 have c3b2 : (l0_0.length == l1_0.length) = true := by first | simpa using c3 | (simp at c3 ⊢; omega)
 clear c3
 have H' := AM H
 clear H
 have tag0_ : Za True := ⟨trivial⟩)
 rotate_left
 focus (
 rw [if_neg c3] at H
 have c3b0 := beq_eq_false_iff_ne.mpr c3
 have c3b1 := bne_iff_ne.mpr c3
 have c3b2 : (l0_0.length == l1_0.length) = false := by first | simpa using c3 | (simp at c3 ⊢; omega)
 obtain rfl := Option.some.inj H
 have tag1_ : Za True := ⟨trivial⟩)
 rotate_left
 all_goals (
 go_enter Tryd.func12, Tryd.ntmps12
 go_wp2_with (first | ((with_reducible refine gate_dst (N := 2) rfl ?_); refine ZXW w (N := 2) (cs := #[.slice A0_0 l0_0.length c0_0, .slice A0_1 l0_1.length c0_1]) (t := 31) ?_; intro gbq0 hg wq0 BKq0 GWq0 hb; replace HB := ZT HB hb; clear hb hg) | ((with_reducible refine gate_dst (N := 3) rfl ?_); refine ZXW w (N := 3) (cs := #[.slice A1_0 l1_0.length c1_0, .slice A1_1 l1_1.length c1_1]) (t := 31) ?_; intro gbq1 hg wq1 BKq1 GWq1 hb; have NBq0_615 : Za (gbq0 ≠ gbq1) := ZN hg BKq0; have NBq1_614 : Za (gbq1 ≠ gbq0) := ZM hg BKq0; replace BKq0 := ZW BKq0 hb; replace HB := ZT HB hb; clear hb hg; have hnbq0 := NBq0_615.out; have hncq0 := NBq1_614.out; have hczq0 := ZC2 wq1 BKq0; have hczq1 := ZC2 wq1 BKq1))
 repeat (go_quiet (first | ((with_reducible refine gate_dst (N := 2) rfl ?_); refine ZXW w (N := 2) (cs := #[.slice A0_0 l0_0.length c0_0, .slice A0_1 l0_1.length c0_1]) (t := 31) ?_; intro gbq0 hg wq0 BKq0 GWq0 hb; replace HB := ZT HB hb; clear hb hg) | ((with_reducible refine gate_dst (N := 3) rfl ?_); refine ZXW w (N := 3) (cs := #[.slice A1_0 l1_0.length c1_0, .slice A1_1 l1_1.length c1_1]) (t := 31) ?_; intro gbq1 hg wq1 BKq1 GWq1 hb; have NBq0_615 : Za (gbq0 ≠ gbq1) := ZN hg BKq0; have NBq1_614 : Za (gbq1 ≠ gbq0) := ZM hg BKq0; replace BKq0 := ZW BKq0 hb; replace HB := ZT HB hb; clear hb hg; have hnbq0 := NBq0_615.out; have hncq0 := NBq1_614.out; have hczq0 := ZC2 wq1 BKq0; have hczq1 := ZC2 wq1 BKq1)); try go_wp2_with (first | ((with_reducible refine gate_dst (N := 2) rfl ?_); refine ZXW w (N := 2) (cs := #[.slice A0_0 l0_0.length c0_0, .slice A0_1 l0_1.length c0_1]) (t := 31) ?_; intro gbq0 hg wq0 BKq0 GWq0 hb; replace HB := ZT HB hb; clear hb hg) | ((with_reducible refine gate_dst (N := 3) rfl ?_); refine ZXW w (N := 3) (cs := #[.slice A1_0 l1_0.length c1_0, .slice A1_1 l1_1.length c1_1]) (t := 31) ?_; intro gbq1 hg wq1 BKq1 GWq1 hb; have NBq0_615 : Za (gbq0 ≠ gbq1) := ZN hg BKq0; have NBq1_614 : Za (gbq1 ≠ gbq0) := ZM hg BKq0; replace BKq0 := ZW BKq0 hb; replace HB := ZT HB hb; clear hb hg; have hnbq0 := NBq0_615.out; have hncq0 := NBq1_614.out; have hczq0 := ZC2 wq1 BKq0; have hczq1 := ZC2 wq1 BKq1)))
 first
 | (
 (have z_ := tag0_; clear z_)
 go_loopg [5] k (fun kq v5 w' => ∃ (xq0_1 : Int), v5 = .int .i64 xq0_1 ∧ Za (laws_lcProg.l0 kq xq0_1 l0_0 l0_1 l1_0 l1_1 = some r) ∧ Za (kq ≤ k) ∧ Za (w'.heap[gbq0]? = some (.cells #[(.slice A0_0 l0_0.length c0_0), (.slice A0_1 l0_1.length c0_1)] 31 (0, 0))) ∧ Za (w'.heap[gbq1]? = some (.cells #[(.slice A1_0 l1_0.length c1_0), (.slice A1_1 l1_1.length c1_1)] 31 (0, 0))) ∧ Za (Below w.heap.size w w'))
 case atStart => exact ⟨(0), ZSM, H', ⟨Nat.le_refl _⟩, ⟨ZK BKq0.out⟩, ⟨ZK BKq1.out⟩, ⟨ZB⟩⟩
 case round => (
 clear H'
 try clear c1
 try clear p2
 try clear c3
 try clear c3b0
 try clear c3b1
 try clear c3b2
 try clear c6
 try clear hczq0
 try clear hczq1
 obtain ⟨xq0_1, rfl, HA, HKq0, BKq0, BKq1, HB⟩ := hrel
 cases gk with
 | zero => exact absurd HA.out (by simp [laws_lcProg.l0])
 | succ k1 =>
  have H := HA.out
  clear HA
  simp only [laws_lcProg.l0] at H
  by_cases c9 : xq0_1 < (l0_0.length : Int)
  ·(
  rw [if_pos c9] at H
  have cq0b0 : decide (xq0_1 < (l0_0.length : Int)) = true := decide_eq_true c9
  clear c9
  by_cases c10 : 0 ≤ xq0_1
  ·(
  rw [if_pos c10] at H
  have cq1b0 : decide (0 ≤ xq0_1) = true := decide_eq_true c10
  clear c10
  by_cases c11 : xq0_1 < (l1_0.length : Int)
  ·(
  rw [if_pos c11] at H
  have cq2b0 : decide (xq0_1 < (l1_0.length : Int)) = true := decide_eq_true c11
  clear c11
  by_cases c12 : (!(((D43 l0_0 xq0_1).f0) == ((D43 l1_0 xq0_1).f0)) || (!(((D43 l0_0 xq0_1).f1) == ((D43 l1_0 xq0_1).f1)))) = true
  ·(
  rw [if_pos c12] at H
  have cq3b0 : (!(((D43 l0_0 xq0_1).f0) == ((D43 l1_0 xq0_1).f0)) || (!(((D43 l0_0 xq0_1).f1) == ((D43 l1_0 xq0_1).f1)))) = true := c12
  clear c12
  obtain rfl := Option.some.inj H
  have hnbq1 := NBq0_615.out
  have hncq1 := NBq1_614.out
  have hczq2 := ZC2 wr BKq0
  have pq0 : 0 ≤ (xq0_1 : Int) := ZD
  have qq0 : xq0_1 < (l0_0.length : Int) := ZD
  obtain ⟨adq0, eq0, hxq0_0, hxq0_1⟩ := at_T43 HR0_0.out xq0_1 pq0 qq0
  cases eq0
  replace hxq0_0 := ZHX HB hxq0_0
  replace hxq0_1 := ZHX HB hxq0_1
  replace pq0 := eq_true pq0
  replace qq0 := eq_true qq0
  have hczq3 := ZC2 wr BKq1
  have pq1 : 0 ≤ (xq0_1 : Int) := ZD
  have qq1 : xq0_1 < (l1_0.length : Int) := ZD
  obtain ⟨adq1, eq1, hxq1_0, hxq1_1⟩ := at_T43 HR1_0.out xq0_1 pq1 qq1
  cases eq1
  replace hxq1_0 := ZHX HB hxq1_0
  replace hxq1_1 := ZHX HB hxq1_1
  replace pq1 := eq_true pq1
  replace qq1 := eq_true qq1
  go_wp2
  repeat (go_quiet (fail); try go_wp2)
  go_ret
  exact ⟨ZE, ZB⟩)
  ·(
  rw [if_neg c12] at H
  have cq3b0 : (!(((D43 l0_0 xq0_1).f0) == ((D43 l1_0 xq0_1).f0)) || (!(((D43 l0_0 xq0_1).f1) == ((D43 l1_0 xq0_1).f1)))) = false := by simpa using c12
  clear c12
  have H' := AM H
  clear H
  have hnbq2 := NBq0_615.out
  have hncq2 := NBq1_614.out
  have hczq4 := ZC2 wr BKq0
  have pq0 : 0 ≤ (xq0_1 : Int) := ZD
  have qq0 : xq0_1 < (l0_0.length : Int) := ZD
  obtain ⟨adq0, eq0, hxq0_0, hxq0_1⟩ := at_T43 HR0_0.out xq0_1 pq0 qq0
  cases eq0
  replace hxq0_0 := ZHX HB hxq0_0
  replace hxq0_1 := ZHX HB hxq0_1
  replace pq0 := eq_true pq0
  replace qq0 := eq_true qq0
  have hczq5 := ZC2 wr BKq1
  have pq1 : 0 ≤ (xq0_1 : Int) := ZD
  have qq1 : xq0_1 < (l1_0.length : Int) := ZD
  obtain ⟨adq1, eq1, hxq1_0, hxq1_1⟩ := at_T43 HR1_0.out xq0_1 pq1 qq1
  cases eq1
  replace hxq1_0 := ZHX HB hxq1_0
  replace hxq1_1 := ZHX HB hxq1_1
  replace pq1 := eq_true pq1
  replace qq1 := eq_true qq1
  go_wp2
  repeat (go_quiet (fail); try go_wp2)
  go_roundg k1
  case measure => have := HKq0.out; omega
  case rel => exact ⟨(wrap64 (xq0_1 + 1)), ZSM, H', ⟨by have := HKq0.out; omega⟩, ⟨ZK BKq0.out⟩, ⟨ZK BKq1.out⟩, ⟨ZB⟩⟩))
  ·(
  rw [if_neg c11] at H
  exact absurd H (by simp)))
  ·(
  rw [if_neg c10] at H
  exact absurd H (by simp)))
  ·(
  rw [if_neg c9] at H
  have cq0b0 : decide (xq0_1 < (l0_0.length : Int)) = false := decide_eq_false c9
  clear c9
  replace H := Option.bind_eq_some_iff.mp H
  obtain ⟨tq0, Aq0, H⟩ := H
  replace H : (some tq0) = some r := H
  have Aq1 := AM Aq0
  clear Aq0
  obtain rfl := Option.some.inj H
  have hnbq3 := NBq0_615.out
  have hncq3 := NBq1_614.out
  have hczq6 := ZC2 wr BKq0
  have hczq7 := ZC2 wr BKq1
  go_wp2_with (first | (go_at_call 31; (with_reducible refine (laws_lcSteps.calls k1 _ _ l0_1 _ _ l1_1 tq0 _ (ZQ (Kd.C_below HR0_1.out HB.out)) HC0_1.out (ZQ (Kd.C_below HR1_1.out HB.out)) HC1_1.out Aq1.out).mono ?_); rintro e wq2 ⟨rfl, hb⟩; replace BKq0 := ZW BKq0 hb; replace BKq1 := ZW BKq1 hb; replace HB := ZT HB hb; clear hb))
  repeat (go_quiet (first | (go_at_call 31; (with_reducible refine (laws_lcSteps.calls k1 _ _ l0_1 _ _ l1_1 tq0 _ (ZQ (Kd.C_below HR0_1.out HB.out)) HC0_1.out (ZQ (Kd.C_below HR1_1.out HB.out)) HC1_1.out Aq1.out).mono ?_); rintro e wq2 ⟨rfl, hb⟩; replace BKq0 := ZW BKq0 hb; replace BKq1 := ZW BKq1 hb; replace HB := ZT HB hb; clear hb)); try go_wp2_with (first | (go_at_call 31; (with_reducible refine (laws_lcSteps.calls k1 _ _ l0_1 _ _ l1_1 tq0 _ (ZQ (Kd.C_below HR0_1.out HB.out)) HC0_1.out (ZQ (Kd.C_below HR1_1.out HB.out)) HC1_1.out Aq1.out).mono ?_); rintro e wq2 ⟨rfl, hb⟩; replace BKq0 := ZW BKq0 hb; replace BKq1 := ZW BKq1 hb; replace HB := ZT HB hb; clear hb)))
  go_ret
  exact ⟨ZE, ZB⟩)))
 | (
 (have z_ := tag1_; clear z_)
 go_ret
 exact ⟨ZE, ZB⟩))

end Go.Proofs.YtfcmckomagaiiaaDoor.A
