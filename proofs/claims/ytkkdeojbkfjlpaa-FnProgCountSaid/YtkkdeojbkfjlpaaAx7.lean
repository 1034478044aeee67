/- Go functions as Lean functions, and for each its contract; written by wip/tools/pr.py over the kit's print. -/
import Derived.Test.YtkkdeojbkfjlpaaAx0
import Derived.Test.YtkkdeojbkfjlpaaAx5
import Derived.Test.YtkkdeojbkfjlpaaAx6
namespace Go.Proofs.Ytkkdeojbkfjlpaa.A
open Go.RowKit Go.Proofs.YtkkdeojbkfjlpaaW.PrintWords Go.Proofs.YtkkdeojbkfjlpaaW.PrintLast Go.Proofs.YtkkdeojbkfjlpaaW.PrintMore
attribute [local go_sem] max2_int min2_int max_two min_two max_three min_three max_four min_four
set_option linter.unusedVariables false
set_option linter.unusedSimpArgs false
set_option maxHeartbeats 8000000
set_option maxRecDepth 100000

/-! ### impl_TypeSets: function 8 -/
def impl_TypeSets.l0 : Nat → List Int → List (S40) → Int → Int → List (S35) → List (S40) → Option (List Int)
 | 0, _, _, _, _, _, _ => none
 | k + 1, x3, x11, x12, x13, x164000, x164001 => if x13 < x12 then (if 0 ≤ x13 then (if x13 < (x11.length : Int) then ((impl_Prog_sets.f k x164000 x164001 (([(⟨(D40 x11 x13).f0, (D40 x11 x13).f1, (⟨(D40 x11 x13).f2.f0, (D40 x11 x13).f2.f1, (D40 x11 x13).f2.f2⟩ : S38), (D40 x11 x13).f3, (D40 x11 x13).f4, (D40 x11 x13).f5⟩ : S40)] : List (S40)))).bind fun t173 => (if x3.length < 17592186044416 then (impl_TypeSets.l0 k (x3 ++ [t173]) x11 x12 (wrap64 (x13 + 1)) x164000 x164001) else (none))) else (none)) else (none)) else (some x3)
def impl_TypeSets.f (k : Nat) (l0_0 : List (S35)) (l0_1 : List (S40)) : Option (List Int) := (impl_ProgOk.f k l0_0 l0_1).bind fun t164 => (if t164 = true then ((impl_all.f k l0_1).bind fun t165 => (impl_TypeSets.l0 k ([] : List Int) t165 (t165.length : Int) 0 l0_0 l0_1)) else (some ([] : List Int)))
theorem impl_TypeSets.calls (k : Nat) (A0_0 : Option Addr) (c0_0 : Nat) (l0_0 : List (S35)) (A0_1 : Option Addr) (c0_1 : Nat) (l0_1 : List (S40)) (r : List Int) (w : World) (hr0_0 : Kd.C k35 w A0_0 l0_0.length l0_0) (hc0_0 : l0_0.length ≤ c0_0) (hr0_1 : Kd.C k40 w A0_1 l0_1.length l0_1) (hc0_1 : l0_1.length ≤ c0_1) (h : impl_TypeSets.f k l0_0 l0_1 = some r) :
  Calls Try.prog 8 #[.agg #[.slice A0_0 l0_0.length c0_0, .slice A0_1 l0_1.length c0_1]] w fun e w' => ∃ v0_ : Value, e = .returned (v0_) ∧ Kd.R (Kd.int .i64) 3 w' w.heap.size (fun _ => True) v0_ r ∧ Below w.heap.size w w' := by
 have hu26 := Try.underlying26
 have hu40 := Try.underlying40
 have HR0_0 := AM hr0_0
 have HC0_0 := AM hc0_0
 clear hr0_0 hc0_0
 have HR0_1 := AM hr0_1
 have HC0_1 := AM hc0_1
 clear hr0_1 hc0_1
 have HB := AM (Below.refl w.heap.size w)
 have H := h
 unfold impl_TypeSets.f at H
 clear h
 obtain ⟨t164, A2, H⟩ := ZOB H; try dsimp only at H
 by_cases c3 : t164 = true
 ·(
 subst c3
 have H1 := H; rw [if_pos rfl] at H1
 clear H
 have H := H1
 clear H1
 obtain ⟨t165, A4, H⟩ := ZOB H; try dsimp only at H
 have H' := AM H
 clear H
 go_enter Try.func8, Try.ntmps8
 go_wp2_with (first | ((with_reducible refine gate_dst (N := 1) rfl ?_); refine ZXW w (N := 1) (cs := #[.slice A0_0 l0_0.length c0_0, .slice A0_1 l0_1.length c0_1]) (t := 26) ?_; intro gb163 hg w5 BK163 GW163 hb; replace HB := ZT HB hb; clear hb hg; have hcz6 := ZC2 w5 BK163) | ((with_reducible refine gate_callee (f := 25) rfl ?_); refine ZGL (some 7) Try.func25 #[.agg #[.slice A0_0 l0_0.length c0_0, .slice A0_1 l0_1.length c0_1]] ?_; (with_reducible refine (impl_ProgOk.calls k _ _ l0_0 _ _ l0_1 true _ (ZQ (Kd.C_below HR0_0.out HB.out)) HC0_0.out (ZQ (Kd.C_below HR0_1.out HB.out)) HC0_1.out A2.out).mono ?_); rintro e w7 ⟨rfl, hb⟩; refine ZV1 ?_; replace BK163 := ZW BK163 hb; replace HB := ZT HB hb; clear hb; have hcz8 := ZC2 w7 BK163) | ((with_reducible refine gate_callee (f := 26) rfl ?_); refine ZGL (some 11) Try.func26 #[.slice A0_1 l0_1.length c0_1] ?_; (with_reducible refine (impl_all.calls k (fun k_ => k_ < w.heap.size) _ _ l0_1 t165 _ ?side1 A4.out).mono ?_); (case side1 => exact Kd.V_mk HC0_1.out (Kd.F_below (Kd.C_F k40_heap HR0_1.out) (ZB))); rintro e w9 ⟨v166, rfl, ho0, hb⟩; refine ZV1 ?_; have HO167 := AM (Kd.N_lower (Kd.N_mono (ok' := fun k_ => k_ ≠ gb163) ho0 (fun k_ hk_ => Or.elim hk_ (fun hs_ => fun e_ => Nat.not_le.2 hs_ (by rw [e_]; exact GW163.out)) (fun hn_ => (Kd.freshB (g := gb163) (o := .cells #[.slice A0_0 l0_0.length c0_0, .slice A0_1 l0_1.length c0_1] 26 (0, 0)) (ZK BK163.out) k_ hn_)))) (below_size (ZB))); replace BK163 := ZW BK163 hb; replace HB := ZT HB hb; clear hb; (try clear ho0); obtain ⟨Ao10, co10, eo10⟩ := Kd.N_slice HO167.out; subst eo10))
 go_loopg [3, 13] k (fun kq v3 v13 w' => ∃ (x3_1 : List Int) (x13_1 : Int), v13 = .int .i64 x13_1 ∧ Za (impl_TypeSets.l0 kq x3_1 t165 (t165.length : Int) x13_1 l0_0 l0_1 = some r) ∧ Za (kq ≤ k) ∧ Za (Kd.R (Kd.int .i64) 3 w' w.heap.size (fun _ => True) v3 x3_1) ∧ Za (Kd.N k40 40 w' w.heap.size (fun k_ => some k_ ≠ (v3 : Value).ownBlock ∧ k_ ≠ gb163) (.slice Ao10 t165.length co10) t165) ∧ Za (w'.heap[gb163]? = some (.cells #[(.slice A0_0 l0_0.length c0_0), (.slice A0_1 l0_1.length c0_1)] 26 (0, 0))) ∧ Za (Below w.heap.size w w'))
 case atStart => exact ⟨(([] : List Int)), (0), ZSM, H', ⟨Nat.le_refl _⟩, ⟨by first | exact Kd.R_nil _ _ _ _ _ | exact Kd.N_nil _ _ _ _ _ | exact Kd.V_nil _ _ _ _ _ | exact Kd.Q_nil _ _ _ _ _ | exact Kd.S_nil _ _ _ _ _⟩, ⟨ZNm HO167.out (fun _ hk => ⟨(by simp [Value.ownBlock]), hk⟩)⟩, ⟨ZK BK163.out⟩, ⟨ZB⟩⟩
 case round => (
 clear H'
 try clear c2
 try clear p2
 try clear c3
 try clear c8
 try clear hcz6
 try clear hcz8
 obtain ⟨x3_1, x13_1, rfl, HA, HK1, HO_3, HO_11, BK163, HB⟩ := hrel
 cases gk with
 | zero => exact absurd HA.out (by simp [impl_TypeSets.l0])
 | succ k1 =>
  have H := HA.out
  clear HA
  simp only [impl_TypeSets.l0] at H
  by_cases c11 : x13_1 < (t165.length : Int)
  ·(
  rw [if_pos c11] at H
  have c11b0 := decide_eq_true c11
  clear c11
  by_cases c12 : 0 ≤ x13_1
  ·(
  rw [if_pos c12] at H
  have c12b0 := decide_eq_true c12
  clear c12
  by_cases c13 : x13_1 < (t165.length : Int)
  ·(
  rw [if_pos c13] at H
  have c13b0 := decide_eq_true c13
  clear c13
  obtain ⟨y170, hy170⟩ : ∃ y_ : List (S40), y_ = (([(⟨(D40 t165 x13_1).f0, (D40 t165 x13_1).f1, (⟨(D40 t165 x13_1).f2.f0, (D40 t165 x13_1).f2.f1, (D40 t165 x13_1).f2.f2⟩ : S38), (D40 t165 x13_1).f3, (D40 t165 x13_1).f4, (D40 t165 x13_1).f5⟩ : S40)] : List (S40))) := ⟨_, rfl⟩
  replace H : ((impl_Prog_sets.f k1 l0_0 l0_1 y170).bind fun t173 => (if x3_1.length < 17592186044416 then (impl_TypeSets.l0 k1 (x3_1 ++ [t173]) t165 (t165.length : Int) (wrap64 (x13_1 + 1)) l0_0 l0_1) else (none))) = some r := by rw [hy170]; exact H
  have Ny170 := AM hy170
  clear hy170
  obtain ⟨t173, A14, H⟩ := ZOB H; try dsimp only at H
  by_cases c15 : x3_1.length < 17592186044416
  ·(
  rw [if_pos c15] at H
  have LMc15 := AM c15
  clear c15
  obtain ⟨y174, hy174⟩ : ∃ y_ : List Int, y_ = (x3_1 ++ [t173]) := ⟨_, rfl⟩
  replace H : (impl_TypeSets.l0 k1 y174 t165 (t165.length : Int) (wrap64 (x13_1 + 1)) l0_0 l0_1) = some r := by rw [hy174]; exact H
  have Ny174 := AM hy174
  clear hy174
  have H' := AM H
  clear H
  have p168 : 0 ≤ (x13_1 : Int) := ZD
  have q168 : x13_1 < (t165.length : Int) := ZD
  obtain ⟨ad168, A168_6, c168_6, A168_7, c168_7, e168, hx168_0, hx168_1, hx168_2, hx168_3, hx168_4, hx168_5, hx168_6, hx168_7, hl168_6, hi168_6, hl168_7, hi168_7⟩ := at_T40 (Kd.N_reads' HO_11.out).2.2 x13_1 p168 q168
  cases e168
  obtain ⟨ce168, hce168, hMe168, hcc168⟩ := Kd.N_get HO_11.out z40 x13_1 p168 (by first | exact q168 | exact ZD | (have e_ := (Kd.N_reads' HO_11.out).1; omega))
  obtain ⟨ua168_6, uc168_6, ua168_7, uc168_7, rfl, ul168_6, ge168_6, ul168_7, ge168_7⟩ := k40_openF hMe168
  have hv168_6 := hcc168 6 _ rfl
  rw [add_field _ _ 6 (by omega)] at hv168_6
  replace hv168_6 := Option.some.inj (hv168_6.symm.trans hx168_6)
  injection hv168_6 with hva_ hvn_ hvc_
  rw [hva_] at ge168_6
  rw [hvc_] at ul168_6
  have HL168_6 := AM (show Kd.V k40 40 _ w.heap.size _ _ ((D40 t165 x13_1).f4) from Kd.V_mk ul168_6 ge168_6)
  clear hva_ hvn_ hvc_ ge168_6 ul168_6
  have hv168_7 := hcc168 7 _ rfl
  rw [add_field _ _ 7 (by omega)] at hv168_7
  replace hv168_7 := Option.some.inj (hv168_7.symm.trans hx168_7)
  injection hv168_7 with hva_ hvn_ hvc_
  rw [hva_] at ge168_7
  rw [hvc_] at ul168_7
  have HL168_7 := AM (show Kd.V k40 40 _ w.heap.size _ _ ((D40 t165 x13_1).f5) from Kd.V_mk ul168_7 ge168_7)
  clear hva_ hvn_ hvc_ ge168_7 ul168_7 hcc168 hce168
  have HR168_6 := AM hi168_6
  have HC168_6 := AM hl168_6
  clear hi168_6 hl168_6
  have HR168_7 := AM hi168_7
  have HC168_7 := AM hl168_7
  clear hi168_7 hl168_7
  replace p168 := eq_true p168
  replace q168 := eq_true q168
  go_wp2_with (first | ((with_reducible refine gate_dst (N := 5) rfl ?_); refine ZXW w (N := 5) (cs := #[.int .i64 0, .int .i64 0, .int .i64 0, .int .i64 0, .int .i64 0, .int .i64 0, .slice none 0 0, .slice none 0 0]) (t := 40) ?_; intro gb169 hg w16 BK169 GW169 hb; have NB163_169 : Za (gb163 ≠ gb169) := ZN hg BK163; have NB169_163 : Za (gb169 ≠ gb163) := ZM hg BK163; replace HO_3 := AM (Kd.R_below (ZR HO_3.out) hb); replace HO_11 := AM (Kd.N_below (Kd.N_elderB (ZRN HO_11.out) gb169 (Nat.le_of_eq hg.symm)) hb); replace HL168_6 := AM (Kd.V_below (Kd.V_elderB (ZRV HL168_6.out) gb169 (Nat.le_of_eq hg.symm)) hb); replace HL168_7 := AM (Kd.V_below (Kd.V_elderB (ZRV HL168_7.out) gb169 (Nat.le_of_eq hg.symm)) hb); replace BK163 := ZW BK163 hb; replace HR168_6 := AM (Kd.C_below (ZQ HR168_6.out) hb); replace HR168_7 := AM (Kd.C_below (ZQ HR168_7.out) hb); replace HB := ZT HB hb; clear hb hg; have hnb17 := NB169_163.out; have hnc17 := NB163_169.out; have hcz18 := ZC8 w16 BK169) | ((with_reducible refine gate_store (t := 40) (p := 5) rfl ?_); refine store_event (t := 40) (p := 5) (v := ?vo_w19) (w1 := ((((((((w16.setCell ⟨gb169, 0, none⟩ (.int .i64 ((D40 t165 x13_1).f0))).setCell ⟨gb169, 1, none⟩ (.int .i64 ((D40 t165 x13_1).f1))).setCell ⟨gb169, 2, none⟩ (.int .i64 ((D40 t165 x13_1).f2.f0))).setCell ⟨gb169, 3, none⟩ (.int .i64 ((D40 t165 x13_1).f2.f1))).setCell ⟨gb169, 4, none⟩ (.int .i64 ((D40 t165 x13_1).f2.f2))).setCell ⟨gb169, 5, none⟩ (.int .i64 ((D40 t165 x13_1).f3))).setCell ⟨gb169, 6, none⟩ (.slice A168_6 ((D40 t165 x13_1).f4).length c168_6)).setCell ⟨gb169, 7, none⟩ (.slice A168_7 ((D40 t165 x13_1).f5).length c168_7))) ?hg ?ho ?hn ?hr ?_; (case ho => rfl); (case hg => rfl); (case hn => rfl); (case hr => first | (go_simp; done) | (go_simp; rfl)); intro w19 hw; have n0_ : Za (Kd.R (Kd.int .i64) 3 w19 w.heap.size (fun _ => True) u3 x3_1) := ⟨(by rw [hw]; exact (ZRf (Kd.R_types HO_3.out BK169.out (by decide)) (fun _ hk => ⟨hk.2, trivial⟩)))⟩; have n1_ : Za (Kd.N k40 40 w19 w.heap.size (fun k_ => some k_ ≠ (u3 : Value).ownBlock ∧ k_ ≠ gb163 ∧ k_ ≠ gb169) (.slice (some ad168) t165.length co10) t165) := ⟨(by rw [hw]; exact (ZNf (Kd.N_mono HO_11.out (fun k_ hk => (⟨hk, hk.2⟩ : _ ∧ k_ ≠ gb169))) (fun _ hk => ⟨hk.2, ⟨hk.1.1.1, ⟨hk.1.1.2, hk.1.2⟩⟩⟩)))⟩; have n2_ : Za (Kd.V k40 40 w19 w.heap.size (fun k_ => some k_ ≠ (u3 : Value).ownBlock ∧ some k_ ≠ (.slice (some ad168) t165.length co10 : Value).ownBlock ∧ k_ ≠ gb163 ∧ k_ ≠ gb169) (.slice A168_6 ((D40 t165 x13_1).f4).length c168_6) ((D40 t165 x13_1).f4)) := ⟨(by rw [hw]; exact (ZVf (Kd.V_mono HL168_6.out (fun k_ hk => (⟨hk, hk.2⟩ : _ ∧ k_ ≠ gb169))) (fun _ hk => ⟨hk.2, ⟨hk.1.1.1.1, ⟨hk.1.1.2, ⟨hk.1.1.1.2, hk.1.2⟩⟩⟩⟩)))⟩; have n3_ : Za (Kd.V k40 40 w19 w.heap.size (fun k_ => some k_ ≠ (u3 : Value).ownBlock ∧ some k_ ≠ (.slice (some ad168) t165.length co10 : Value).ownBlock ∧ k_ ≠ gb163 ∧ k_ ≠ gb169) (.slice A168_7 ((D40 t165 x13_1).f5).length c168_7) ((D40 t165 x13_1).f5)) := ⟨(by rw [hw]; exact (ZVf (Kd.V_mono HL168_7.out (fun k_ hk => (⟨hk, hk.2⟩ : _ ∧ k_ ≠ gb169))) (fun _ hk => ⟨hk.2, ⟨hk.1.1.1.1, ⟨hk.1.1.2, ⟨hk.1.1.1.2, hk.1.2⟩⟩⟩⟩)))⟩; have n4_ : Za (w19.heap[gb163]? = some (.cells #[.slice A0_0 l0_0.length c0_0, .slice A0_1 l0_1.length c0_1] 26 (0, 0))) := ⟨(by rw [hw]; exact (ZZ BK163.out))⟩; have n5_ : Za (w19.heap[gb169]? = some (.cells #[.int .i64 ((D40 t165 x13_1).f0), .int .i64 ((D40 t165 x13_1).f1), .int .i64 ((D40 t165 x13_1).f2.f0), .int .i64 ((D40 t165 x13_1).f2.f1), .int .i64 ((D40 t165 x13_1).f2.f2), .int .i64 ((D40 t165 x13_1).f3), .slice A168_6 ((D40 t165 x13_1).f4).length c168_6, .slice A168_7 ((D40 t165 x13_1).f5).length c168_7] 40 (0, 0))) := ⟨(by rw [hw]; exact (ZZ BK169.out))⟩; have n6_ : Za (Below w.heap.size w w19) := ⟨(by rw [hw]; exact (ZB))⟩; clear hw HO_3 HO_11 HL168_6 HL168_7 BK163 BK169 HB; have HO_3 := n0_; have HO_11 := n1_; have HL168_6 := n2_; have HL168_7 := n3_; have BK163 := n4_; have BK169 := n5_; have HB := n6_; clear n0_ n1_ n2_ n3_ n4_ n5_ n6_; have hcz20 := ZC2 w19 BK163; have hcz21 := ZC8 w19 BK169) | ((with_reducible refine gate_dst (N := 20) rfl ?_); refine Kd.N_lit k40 _ 40 ?hg (N' := 20) ?hd (xs := ([(⟨(D40 t165 x13_1).f0, (D40 t165 x13_1).f1, (⟨(D40 t165 x13_1).f2.f0, (D40 t165 x13_1).f2.f1, (D40 t165 x13_1).f2.f2⟩ : S38), (D40 t165 x13_1).f3, (D40 t165 x13_1).f4, (D40 t165 x13_1).f5⟩ : S40)] : List (S40))) (inner := [.int .i64 ((D40 t165 x13_1).f0), .int .i64 ((D40 t165 x13_1).f1), .int .i64 ((D40 t165 x13_1).f2.f0), .int .i64 ((D40 t165 x13_1).f2.f1), .int .i64 ((D40 t165 x13_1).f2.f2), .int .i64 ((D40 t165 x13_1).f3), .slice A168_6 ((D40 t165 x13_1).f4).length c168_6, .slice A168_7 ((D40 t165 x13_1).f5).length c168_7]) (ok := (fun k_ => some k_ ≠ (u3 : Value).ownBlock ∧ some k_ ≠ (.slice (some ad168) t165.length co10 : Value).ownBlock ∧ k_ ≠ gb163 ∧ k_ ≠ gb169)) (okp := (fun k_ => some k_ ≠ (u3 : Value).ownBlock ∧ some k_ ≠ (.slice (some ad168) t165.length co10 : Value).ownBlock ∧ k_ ≠ gb163 ∧ k_ ≠ gb169)) ?hr ?hp (fun _ hk => hk) ((show ∀ k_, w19.heap.size ≤ k_ → (fun k_ => some k_ ≠ (u3 : Value).ownBlock ∧ some k_ ≠ (.slice (some ad168) t165.length co10 : Value).ownBlock ∧ k_ ≠ gb163 ∧ k_ ≠ gb169) k_ from fun k_ hk => ⟨Kd.fresh' (Kd.R_lt (ZR HO_3.out)) k_ hk, Kd.fresh' (Kd.N_lt (ZRN HO_11.out)) k_ hk, Kd.freshB (g := gb163) (o := .cells #[.slice A0_0 l0_0.length c0_0, .slice A0_1 l0_1.length c0_1] 26 (0, 0)) (ZK BK163.out) k_ hk, Kd.freshB (g := gb169) (o := .cells #[.int .i64 ((D40 t165 x13_1).f0), .int .i64 ((D40 t165 x13_1).f1), .int .i64 ((D40 t165 x13_1).f2.f0), .int .i64 ((D40 t165 x13_1).f2.f1), .int .i64 ((D40 t165 x13_1).f2.f2), .int .i64 ((D40 t165 x13_1).f3), .slice A168_6 ((D40 t165 x13_1).f4).length c168_6, .slice A168_7 ((D40 t165 x13_1).f5).length c168_7] 40 (0, 0)) (ZK BK169.out) k_ hk⟩) _ (Nat.le_refl _)) (Below.refl _ _) (Nat.le_refl _) (by simp) ?_; (case hd => rfl); (case hg => rfl); (case hr => first | (go_simp; done) | (go_simp; rfl)); (case hp => exact (Reps.c8 (show Kd.FK k40 _ _ (⟨(D40 t165 x13_1).f0, (D40 t165 x13_1).f1, (⟨(D40 t165 x13_1).f2.f0, (D40 t165 x13_1).f2.f1, (D40 t165 x13_1).f2.f2⟩ : S38), (D40 t165 x13_1).f3, (D40 t165 x13_1).f4, (D40 t165 x13_1).f5⟩ : S40) [.int .i64 ((D40 t165 x13_1).f0), .int .i64 ((D40 t165 x13_1).f1), .int .i64 ((D40 t165 x13_1).f2.f0), .int .i64 ((D40 t165 x13_1).f2.f1), .int .i64 ((D40 t165 x13_1).f2.f2), .int .i64 ((D40 t165 x13_1).f3), .slice A168_6 ((D40 t165 x13_1).f4).length c168_6, .slice A168_7 ((D40 t165 x13_1).f5).length c168_7] from (k40_mkF _ _ (⟨(D40 t165 x13_1).f0, (D40 t165 x13_1).f1, (⟨(D40 t165 x13_1).f2.f0, (D40 t165 x13_1).f2.f1, (D40 t165 x13_1).f2.f2⟩ : S38), (D40 t165 x13_1).f3, (D40 t165 x13_1).f4, (D40 t165 x13_1).f5⟩ : S40) (Kd.V_reads' (Kd.V_mono (ok' := (fun k_ => some k_ ≠ (u3 : Value).ownBlock ∧ some k_ ≠ (.slice (some ad168) t165.length co10 : Value).ownBlock ∧ k_ ≠ gb163 ∧ k_ ≠ gb169)) (HL168_6.out) (fun k_ hk => ⟨hk.1, ⟨hk.2.1, ⟨hk.2.2.1, hk.2.2.2⟩⟩⟩))).2.1 (Kd.V_F (Kd.V_mono (ok' := (fun k_ => some k_ ≠ (u3 : Value).ownBlock ∧ some k_ ≠ (.slice (some ad168) t165.length co10 : Value).ownBlock ∧ k_ ≠ gb163 ∧ k_ ≠ gb169)) (HL168_6.out) (fun k_ hk => ⟨hk.1, ⟨hk.2.1, ⟨hk.2.2.1, hk.2.2.2⟩⟩⟩))) (Kd.V_reads' (Kd.V_mono (ok' := (fun k_ => some k_ ≠ (u3 : Value).ownBlock ∧ some k_ ≠ (.slice (some ad168) t165.length co10 : Value).ownBlock ∧ k_ ≠ gb163 ∧ k_ ≠ gb169)) (HL168_7.out) (fun k_ hk => ⟨hk.1, ⟨hk.2.1, ⟨hk.2.2.1, hk.2.2.2⟩⟩⟩))).2.1 (Kd.V_F (Kd.V_mono (ok' := (fun k_ => some k_ ≠ (u3 : Value).ownBlock ∧ some k_ ≠ (.slice (some ad168) t165.length co10 : Value).ownBlock ∧ k_ ≠ gb163 ∧ k_ ≠ gb169)) (HL168_7.out) (fun k_ hk => ⟨hk.1, ⟨hk.2.1, ⟨hk.2.2.1, hk.2.2.2⟩⟩⟩))))) (Reps.none _ _))); intro v171 w22 ho23 hb hg_ hnew_; clear hg_ hnew_; (first | rw [← Ny170.out] at ho23 | (simp only [Int.reduceToNat] at ho23; rw [← Ny170.out] at ho23)); have HO172 := AM (Kd.N_lower ho23 (below_size (ZB))); replace HO_3 := AM (Kd.R_below (ZR HO_3.out) hb); replace HO_11 := AM (Kd.N_elder' (ZRN HO_11.out) (Kd.N_base ho23) hb); replace HL168_6 := AM (Kd.V_elder' (ZRV HL168_6.out) (Kd.N_base ho23) hb); replace HL168_7 := AM (Kd.V_elder' (ZRV HL168_7.out) (Kd.N_base ho23) hb); replace BK163 := ZW BK163 hb; replace BK169 := ZW BK169 hb; replace HB := ZT HB hb; clear hb ho23; obtain ⟨Ao24, co24, eo24⟩ := Kd.N_slice HO172.out; subst eo24) | ((with_reducible refine gate_callee (f := 27) rfl ?_); refine ZGL (some 21) Try.func27 #[.agg #[.slice A0_0 l0_0.length c0_0, .slice A0_1 l0_1.length c0_1], .slice Ao24 y170.length co24] ?_; (with_reducible refine (impl_Prog_sets.calls k1 _ _ l0_0 _ _ l0_1 _ _ y170 t173 _ (ZQ (Kd.C_below HR0_0.out HB.out)) HC0_0.out (ZQ (Kd.C_below HR0_1.out HB.out)) HC0_1.out ?side5 ?side6 A14.out).mono ?_); (case side5 => exact ZQ ((Kd.N_reads' HO172.out).2.2)); (case side6 => exact (Kd.N_reads' HO172.out).2.1); rintro e w25 ⟨rfl, hb⟩; refine ZV1 ?_; replace HO_3 := AM (Kd.R_below (ZR HO_3.out) hb); replace HO_11 := AM (Kd.N_below (ZRN HO_11.out) hb); replace HL168_6 := AM (Kd.V_below (ZRV HL168_6.out) hb); replace HL168_7 := AM (Kd.V_below (ZRV HL168_7.out) hb); replace HO172 := AM (Kd.N_below (ZRN HO172.out) hb); replace BK163 := ZW BK163 hb; replace BK169 := ZW BK169 hb; replace HB := ZT HB hb; clear hb) | ((with_reducible refine gate_builtin (b := .append) (xs := #[.tmp 17, .tmp 22]) rfl ?_); at_builtin; refine Kd.R_append (Kd.int .i64) (w0 := w) w.heap.size rfl (.tmp 17) (.tmp 22) 28 3 (.int .i64 0) 8 rfl Try.underlying28 info3 rfl (by decide) (by omega) u3 x3_1 t173 [.int .i64 t173] (fun _ => True) (fun _ => False) rfl rfl ?aP (fun _ hk => hk.elim) ?aF ?aO ?aB ?aS ?aL ?_; (case aP => exact rfl); (case aB => exact (ZB)); (case aF => exact (fun _ _ => trivial)); (case aO => exact (ZR HO_3.out)); (case aS => exact (below_size (ZB))); (case aL => have := LMc15.out; omega); intro v175 w26 ho hb hg hat; rw [← Ny174.out] at ho; have n0_ := AM (Kd.N_afterv (ok := (fun k_ => some k_ ≠ (.slice Ao24 y170.length co24 : Value).ownBlock ∧ k_ ≠ gb163 ∧ k_ ≠ gb169)) (ZNm HO_11.out (fun _ hk => ⟨⟨hk.2, ⟨hk.1.2.1, hk.1.2.2⟩⟩, hk.1.1⟩)) hg hat); have n1_ := AM (blk_grown (g := gb163) (o := .cells #[.slice A0_0 l0_0.length c0_0, .slice A0_1 l0_1.length c0_1] 26 (0, 0)) (ZK BK163.out) hg (Kd.R_ne HO_3.out BK163.out (by decide))); have n2_ := AM (Kd.V_afterv (ok := (fun k_ => some k_ ≠ (.slice (some ad168) t165.length co10 : Value).ownBlock ∧ some k_ ≠ (.slice Ao24 y170.length co24 : Value).ownBlock ∧ k_ ≠ gb163 ∧ k_ ≠ gb169)) (ZVm HL168_6.out (fun _ hk => ⟨⟨hk.1.2.1, ⟨hk.2, ⟨hk.1.2.2.1, hk.1.2.2.2⟩⟩⟩, hk.1.1⟩)) hg hat); have n3_ := AM (Kd.V_afterv (ok := (fun k_ => some k_ ≠ (.slice (some ad168) t165.length co10 : Value).ownBlock ∧ some k_ ≠ (.slice Ao24 y170.length co24 : Value).ownBlock ∧ k_ ≠ gb163 ∧ k_ ≠ gb169)) (ZVm HL168_7.out (fun _ hk => ⟨⟨hk.1.2.1, ⟨hk.2, ⟨hk.1.2.2.1, hk.1.2.2.2⟩⟩⟩, hk.1.1⟩)) hg hat); have n4_ := AM (blk_grown (g := gb169) (o := .cells #[.int .i64 ((D40 t165 x13_1).f0), .int .i64 ((D40 t165 x13_1).f1), .int .i64 ((D40 t165 x13_1).f2.f0), .int .i64 ((D40 t165 x13_1).f2.f1), .int .i64 ((D40 t165 x13_1).f2.f2), .int .i64 ((D40 t165 x13_1).f3), .slice A168_6 ((D40 t165 x13_1).f4).length c168_6, .slice A168_7 ((D40 t165 x13_1).f5).length c168_7] 40 (0, 0)) (ZK BK169.out) hg (Kd.R_ne HO_3.out BK169.out (by decide))); have n5_ := AM (Kd.N_afterv (ok := (fun k_ => some k_ ≠ (.slice (some ad168) t165.length co10 : Value).ownBlock ∧ k_ ≠ gb163 ∧ k_ ≠ gb169)) (ZNm HO172.out (fun _ hk => ⟨⟨hk.2.1, ⟨hk.2.2.1, hk.2.2.2⟩⟩, hk.1⟩)) hg hat); have n6_ := AM (hb); have n7_ := AM (ho); clear HO_11 BK163 HL168_6 HL168_7 BK169 HO172 HB HO_3; have HO_11 := n0_; have BK163 := n1_; have HL168_6 := n2_; have HL168_7 := n3_; have BK169 := n4_; have HO172 := n5_; have HB := n6_; have HO176 := n7_; clear n0_ n1_ n2_ n3_ n4_ n5_ n6_ n7_ ho hb hg hat))
  go_roundg k1
  case measure => have := HK1.out; omega
  case rel => exact ⟨(y174), (wrap64 (x13_1 + 1)), ZSM, H', ⟨by have := HK1.out; omega⟩, ⟨ZR HO176.out⟩, ⟨ZNm HO_11.out (fun _ hk => ⟨hk.2, hk.1.2.1⟩)⟩, ⟨ZK BK163.out⟩, ⟨ZB⟩⟩)
  ·(
  rw [if_neg c15] at H
  exact absurd H (by simp)))
  ·(
  rw [if_neg c13] at H
  exact absurd H (by simp)))
  ·(
  rw [if_neg c12] at H
  exact absurd H (by simp)))
  ·(
  rw [if_neg c11] at H
  have c11b0 := decide_eq_false c11
  clear c11
  obtain rfl := Option.some.inj H
  go_wp2
  go_ret
  exact ⟨_, ZE, by (with_reducible repeat (first | apply Kd.R_alloc | apply Kd.R_drewN | apply Kd.R_drew)); exact HO_3.out, ZB⟩)))
 ·(
 replace c3 := Bool.eq_false_iff.mpr c3
 subst c3
 have H1 := H; rw [if_neg ZFT] at H1
 clear H
 have H := H1
 clear H1
 obtain rfl := Option.some.inj H
 go_enter Try.func8, Try.ntmps8
 go_wp2_with (first | ((with_reducible refine gate_dst (N := 1) rfl ?_); refine ZXW w (N := 1) (cs := #[.slice A0_0 l0_0.length c0_0, .slice A0_1 l0_1.length c0_1]) (t := 26) ?_; intro gb163 hg w27 BK163 GW163 hb; replace HB := ZT HB hb; clear hb hg; have hcz28 := ZC2 w27 BK163) | ((with_reducible refine gate_callee (f := 25) rfl ?_); refine ZGL (some 7) Try.func25 #[.agg #[.slice A0_0 l0_0.length c0_0, .slice A0_1 l0_1.length c0_1]] ?_; (with_reducible refine (impl_ProgOk.calls k _ _ l0_0 _ _ l0_1 false _ (ZQ (Kd.C_below HR0_0.out HB.out)) HC0_0.out (ZQ (Kd.C_below HR0_1.out HB.out)) HC0_1.out A2.out).mono ?_); rintro e w29 ⟨rfl, hb⟩; refine ZV1 ?_; replace BK163 := ZW BK163 hb; replace HB := ZT HB hb; clear hb))
 go_ret
 exact ⟨_, ZE, by first | exact Kd.R_nil _ _ _ _ _ | exact Kd.N_nil _ _ _ _ _ | exact Kd.V_nil _ _ _ _ _ | exact Kd.Q_nil _ _ _ _ _ | exact Kd.S_nil _ _ _ _ _, ZB⟩)

/-! ### impl_Label_both: function 76 -/
def impl_Label_both.f (a0_0 : Int) (a0_1 : Int) (a1_0 : Int) (a1_1 : Int) : Option (Int × Int) := some (Go.bits .and .i64 a0_0 a1_0, Go.bits .and .i64 a0_1 a1_1)
theorem impl_Label_both.calls (a0_0 : Int) (a0_1 : Int) (a1_0 : Int) (a1_1 : Int) (r1 : Int) (r2 : Int) (w : World) (h : impl_Label_both.f a0_0 a0_1 a1_0 a1_1 = some (r1, r2)) :
  Calls Try.prog 76 #[.agg #[.int .i64 a0_0, .int .i64 a0_1], .agg #[.int .i64 a1_0, .int .i64 a1_1]] w fun e w' => e = .returned (.agg #[.int .i64 r1, .int .i64 r2]) ∧ Below w.heap.size w w' := by
 have hu35 := Try.underlying35
 have HB := AM (Below.refl w.heap.size w)
 have H := h
 unfold impl_Label_both.f at H
 clear h
 simp only [Option.some.injEq, Prod.mk.injEq] at H
 obtain ⟨rfl, rfl⟩ := H
 go_enter Try.func76, Try.ntmps76
 go_wp2_with (first | ((with_reducible refine gate_dst (N := 2) rfl ?_); refine ZXW w (N := 2) (cs := #[.int .i64 a0_0, .int .i64 a0_1]) (t := 35) ?_; intro gb177 hg w3 BK177 GW177 hb; replace HB := ZT HB hb; clear hb hg) | ((with_reducible refine gate_dst (N := 3) rfl ?_); refine ZXW w (N := 3) (cs := #[.int .i64 a1_0, .int .i64 a1_1]) (t := 35) ?_; intro gb178 hg w4 BK178 GW178 hb; have NB177_178 : Za (gb177 ≠ gb178) := ZN hg BK177; have NB178_177 : Za (gb178 ≠ gb177) := ZM hg BK177; replace BK177 := ZW BK177 hb; replace HB := ZT HB hb; clear hb hg) | ((with_reducible refine gate_dst (N := 4) rfl ?_); refine ZXW w (N := 4) (cs := #[.int .i64 0, .int .i64 0]) (t := 35) ?_; intro gb179 hg w5 BK179 GW179 hb; have NB177_179 : Za (gb177 ≠ gb179) := ZN hg BK177; have NB179_177 : Za (gb179 ≠ gb177) := ZM hg BK177; have NB178_179 : Za (gb178 ≠ gb179) := ZN hg BK178; have NB179_178 : Za (gb179 ≠ gb178) := ZM hg BK178; replace BK177 := ZW BK177 hb; replace BK178 := ZW BK178 hb; replace HB := ZT HB hb; clear hb hg; have hnb6 := NB177_178.out; have hnc6 := NB178_177.out; have hnb7 := NB177_179.out; have hnc7 := NB179_177.out; have hcz8 := ZC2 w5 BK177; have hnb9 := NB178_179.out; have hnc9 := NB179_178.out; have hcz10 := ZC2 w5 BK178; have hcz11 := ZC2 w5 BK179))
 refine bodyPost_ret (results_cell_row rfl _ _ gb179 35 #[.int .i64 (Go.bits .and .i64 a0_0 a1_0), .int .i64 (Go.bits .and .i64 a0_1 a1_1)] (0, 0) _ rfl (ZZ BK179.out) Try.underlying35 rfl (by kernel_rfl)) rfl ?_
 exact ⟨ZE, ZB⟩

end Go.Proofs.Ytkkdeojbkfjlpaa.A
