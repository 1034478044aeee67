/- Go functions as Lean functions, and for each its contract; written by wip/tools/pr.py over the kit's print. -/
import Derived.Test.YtaflodibibbakaaBx0
import Derived.Test.YtaflodibibbakaaBx2
import Derived.Test.YtaflodibibbakaaBx3
import Derived.Test.YtaflodibibbakaaBx5
import Derived.Test.YtaflodibibbakaaBx6
import Derived.Test.YtaflodibibbakaaBx7
import Derived.Test.YtaflodibibbakaaBx11
import Derived.Test.YtaflodibibbakaaBx17
import Derived.Test.YtaflodibibbakaaBx18
import Derived.Test.YtaflodibibbakaaBx19
namespace Go.Proofs.Ytaflodibibbakaa.B
open Go.RowKit Go.Proofs.YtaflodibibbakaaW.PrintWords Go.Proofs.YtaflodibibbakaaW.PrintLast Go.Proofs.YtaflodibibbakaaW.PrintMore
attribute [local go_sem] max2_int min2_int max_two min_two max_three min_three max_four min_four
set_option linter.unusedVariables false
set_option linter.unusedSimpArgs false
set_option maxHeartbeats 8000000
set_option maxRecDepth 100000

/-! ### laws_FnExactProgAt: function 7 -/
mutual
def laws_FnExactProgAt.j0 : Nat → Int → Bool → Bool → Bool → List (S83) → List (S79) → Int → Int → Int → Int → Int → Int → List (S50) → List (S50) → List (S60) → List (S50) → Int → Int → Int → Int → Int → Int → List (S50) → List (S50) → Option (Bool)
 | 0, _, _, _, _, _, _, _, _, _, _, _, _, _, _, _, _, _, _, _, _, _, _, _, _ => none
 | k + 1, x1, x7, x10, x44, x332000, x332001, x353000, x353001, x353002, x353003, x353004, x353005, x353006, x353007, x360000, x360001, x374000, x374001, x374002, x374003, x374004, x374005, x374006, x374007 => if x44 = true then (none) else ((laws_toProg.f k x332000 x332001).bind fun bt375 => ((laws_eqProg.f k x360000 x360001 bt375.1 bt375.2).bind fun t381 => (if t381 = true then ((laws_markProg.f k x360000 x360001 1).bind fun bt382 => (if bt382.1 < 0 then (laws_FnExactProgAt.j1 k x1 x7 true x332000 x332001 x353000 x353001 x353002 x353003 x353004 x353005 x353006 x353007 x374000 x374001 x374002 x374003 x374004 x374005 x374006 x374007) else ((laws_eqStep.f k x374000 x374001 x374002 x374003 x374004 x374005 x374006 x374007 x353000 x353001 x353002 x353003 x353004 x353005 x353006 x353007).bind fun t384 => (if t384 = true then (laws_FnExactProgAt.j1 k x1 x7 (x10 != x7) x332000 x332001 x353000 x353001 x353002 x353003 x353004 x353005 x353006 x353007 x374000 x374001 x374002 x374003 x374004 x374005 x374006 x374007) else (laws_FnExactProgAt.j1 k x1 x7 true x332000 x332001 x353000 x353001 x353002 x353003 x353004 x353005 x353006 x353007 x374000 x374001 x374002 x374003 x374004 x374005 x374006 x374007))))) else (none))))
def laws_FnExactProgAt.j1 : Nat → Int → Bool → Bool → List (S83) → List (S79) → Int → Int → Int → Int → Int → Int → List (S50) → List (S50) → Int → Int → Int → Int → Int → Int → List (S50) → List (S50) → Option (Bool)
 | 0, _, _, _, _, _, _, _, _, _, _, _, _, _, _, _, _, _, _, _, _, _ => none
 | k + 1, x1, x7, x65, x332000, x332001, x353000, x353001, x353002, x353003, x353004, x353005, x353006, x353007, x374000, x374001, x374002, x374003, x374004, x374005, x374006, x374007 => if x65 = true then (none) else ((laws_markStep.f x374000 x374001 x374002 x374003 x374004 x374005 x374006 x374007 1).bind fun bt385 => ((laws_heldStep.f k x374000 x374001 x374002 x374003 x374004 x374005 bt385.2.1 bt385.2.2 1).bind fun t388 => (if t388 < 0 then (none) else (if t388 = bt385.1 then ((laws_toProg.f k x332000 x332001).bind fun bt389 => ((impl_ProgAt.f k bt389.1 bt389.2 x1).bind fun bt395 => ((laws_eqStep.f k bt395.1 bt395.2.1 bt395.2.2.1 bt395.2.2.2.1 bt395.2.2.2.2.1 bt395.2.2.2.2.2.1 bt395.2.2.2.2.2.2.1 bt395.2.2.2.2.2.2.2.1 x353000 x353001 x353002 x353003 x353004 x353005 x353006 x353007).bind fun t409 => (if t409 = true then (laws_FnExactProgAt.j2 k bt385.1 (bt395.2.2.2.2.2.2.2.2 != x7) x374000 x374001 x374002 x374003 x374004 x374005 bt385.2.1 bt385.2.2) else (laws_FnExactProgAt.j2 k bt385.1 true x374000 x374001 x374002 x374003 x374004 x374005 bt385.2.1 bt385.2.2))))) else (none)))))
def laws_FnExactProgAt.j2 : Nat → Int → Bool → Int → Int → Int → Int → Int → Int → List (S50) → List (S50) → Option (Bool)
 | 0, _, _, _, _, _, _, _, _, _, _ => none
 | k + 1, x12, x92, x374000, x374001, x374002, x374003, x374004, x374005, x374006, x374007 => if x92 = true then (none) else ((laws_heldStep.f k x374000 x374001 x374002 x374003 x374004 x374005 x374006 x374007 1).bind fun t410 => (if t410 < 0 then (none) else (if t410 = x12 then (some true) else (none))))
end
def laws_FnExactProgAt.f (k : Nat) (l0_0 : List (S83)) (l0_1 : List (S79)) (a1 : Int) : Option (Bool) := (laws_szProg.f k l0_0 l0_1 1048576).bind fun t332 => (if t332 < 0 then (some true) else ((laws_toProg.f k l0_0 l0_1).bind fun bt333 => ((spec_ProgAt.f k bt333.1 bt333.2 a1).bind fun bt339 => ((laws_toProg.f k l0_0 l0_1).bind fun bt353 => ((impl_ProgAt.f k bt353.1 bt353.2 a1).bind fun bt360 => ((laws_eqStep.f k bt360.1 bt360.2.1 bt360.2.2.1 bt360.2.2.2.1 bt360.2.2.2.2.1 bt360.2.2.2.2.2.1 bt360.2.2.2.2.2.2.1 bt360.2.2.2.2.2.2.2.1 bt339.1 bt339.2.1 bt339.2.2.1 bt339.2.2.2.1 bt339.2.2.2.2.1 bt339.2.2.2.2.2.1 bt339.2.2.2.2.2.2.1 bt339.2.2.2.2.2.2.2.1).bind fun t374 => (if t374 = true then (laws_FnExactProgAt.j0 k a1 bt339.2.2.2.2.2.2.2.2 bt360.2.2.2.2.2.2.2.2 (bt360.2.2.2.2.2.2.2.2 != bt339.2.2.2.2.2.2.2.2) l0_0 l0_1 bt339.1 bt339.2.1 bt339.2.2.1 bt339.2.2.2.1 bt339.2.2.2.2.1 bt339.2.2.2.2.2.1 bt339.2.2.2.2.2.2.1 bt339.2.2.2.2.2.2.2.1 bt353.1 bt353.2 bt360.1 bt360.2.1 bt360.2.2.1 bt360.2.2.2.1 bt360.2.2.2.2.1 bt360.2.2.2.2.2.1 bt360.2.2.2.2.2.2.1 bt360.2.2.2.2.2.2.2.1) else (laws_FnExactProgAt.j0 k a1 bt339.2.2.2.2.2.2.2.2 bt360.2.2.2.2.2.2.2.2 true l0_0 l0_1 bt339.1 bt339.2.1 bt339.2.2.1 bt339.2.2.2.1 bt339.2.2.2.2.1 bt339.2.2.2.2.2.1 bt339.2.2.2.2.2.2.1 bt339.2.2.2.2.2.2.2.1 bt353.1 bt353.2 bt360.1 bt360.2.1 bt360.2.2.1 bt360.2.2.2.1 bt360.2.2.2.2.1 bt360.2.2.2.2.2.1 bt360.2.2.2.2.2.2.1 bt360.2.2.2.2.2.2.2.1))))))))
theorem laws_FnExactProgAt.calls (k : Nat) (A0_0 : Option Addr) (c0_0 : Nat) (l0_0 : List (S83)) (A0_1 : Option Addr) (c0_1 : Nat) (l0_1 : List (S79)) (a1 : Int) (r : Bool) (w : World) (hr0_0 : Kd.C k83 w A0_0 l0_0.length l0_0) (hc0_0 : l0_0.length ≤ c0_0) (hr0_1 : Kd.C k79 w A0_1 l0_1.length l0_1) (hc0_1 : l0_1.length ≤ c0_1) (h : laws_FnExactProgAt.f k l0_0 l0_1 a1 = some r) :
  Calls Try.prog 7 #[.agg #[.slice A0_0 l0_0.length c0_0, .slice A0_1 l0_1.length c0_1], .int .i64 a1] w fun e w' => e = .returned (.bool r) ∧ Below w.heap.size w w' := by
 have hu25 := Try.underlying25
 have hu50 := Try.underlying50
 have hu32 := Try.underlying32
 have HR0_0 := AM hr0_0
 have HC0_0 := AM hc0_0
 clear hr0_0 hc0_0
 have HR0_1 := AM hr0_1
 have HC0_1 := AM hc0_1
 clear hr0_1 hc0_1
 have HB := AM (Below.refl w.heap.size w)
 have H := h
 unfold laws_FnExactProgAt.f at H
 clear h
 obtain ⟨t332, A3, H⟩ := ZOB H; try dsimp only at H
 by_cases c4 : t332 < 0
 ·(
 rw [if_pos c4] at H
 have c4b0 := decide_eq_true c4
 clear c4
 obtain rfl := Option.some.inj H
 go_enter Try.func7, Try.ntmps7
 go_wp2_with (first | ((with_reducible refine gate_dst (N := 2) rfl ?_); refine ZX (N := 2) (cs := #[.slice A0_0 l0_0.length c0_0, .slice A0_1 l0_1.length c0_1]) (t := 25) ?_; intro gb331 hg w5 hbox hb; have BK331 := AM (hbox); have GW331 : Aside0 (w.heap.size ≤ gb331) := ZS hg; have GE331 : Aside0 (w.heap.size ≤ gb331) := ZS hg; replace HB := ZT HB hb; clear hb hbox hg; have hcz6 := ZC2 w5 BK331; have hfz6 := ZF2 BK331) | ((with_reducible refine gate_callee (f := 8) rfl ?_); refine ZGL (some 18) Try.func8 #[.agg #[.slice A0_0 l0_0.length c0_0, .slice A0_1 l0_1.length c0_1], .int .i64 1048576] ?_; (with_reducible refine (laws_szProg.calls k _ _ l0_0 _ _ l0_1 1048576 t332 _ ?side1 ?side2 ?side3 ?side4 A3.out).mono ?_); (case side1 => exact ZQ (Kd.C_below HR0_0.out HB.out)); (case side2 => exact HC0_0.out); (case side3 => exact ZQ (Kd.C_below HR0_1.out HB.out)); (case side4 => exact HC0_1.out); rintro e w7 ⟨rfl, hb⟩; refine ⟨_, rfl, ?_⟩; replace BK331 := ZW BK331 hb; replace HB := ZT HB hb; clear hb))
 go_ret
 exact ⟨ZE, ZB⟩)
 ·(
 rw [if_neg c4] at H
 have c4b0 := decide_eq_false c4
 clear c4
 obtain ⟨⟨t333, t336⟩, A8, H⟩ := ZOB H; try dsimp only at H
 obtain ⟨⟨t339, t340, t341, t342, t343, t344, t345, t348, t351⟩, A9, H⟩ := ZOB H; try dsimp only at H
 obtain ⟨⟨t353, t356⟩, A10, H⟩ := ZOB H; try dsimp only at H
 obtain ⟨⟨t360, t361, t362, t363, t364, t365, t366, t369, t372⟩, A11, H⟩ := ZOB H; try dsimp only at H
 have HC12 := AM H
 clear H
 go_enter Try.func7, Try.ntmps7
 go_upto_region 8 with (first | ((with_reducible refine gate_dst (N := 2) rfl ?_); refine ZX (N := 2) (cs := #[.slice A0_0 l0_0.length c0_0, .slice A0_1 l0_1.length c0_1]) (t := 25) ?_; intro gb331 hg w13 hbox hb; have BK331 := AM (hbox); have GW331 : Aside0 (w.heap.size ≤ gb331) := ZS hg; have GE331 : Aside0 (w.heap.size ≤ gb331) := ZS hg; replace HB := ZT HB hb; clear hb hbox hg; have hcz14 := ZC2 w13 BK331; have hfz14 := ZF2 BK331) | ((with_reducible refine gate_callee (f := 8) rfl ?_); refine ZGL (some 18) Try.func8 #[.agg #[.slice A0_0 l0_0.length c0_0, .slice A0_1 l0_1.length c0_1], .int .i64 1048576] ?_; (with_reducible refine (laws_szProg.calls k _ _ l0_0 _ _ l0_1 1048576 t332 _ ?side1 ?side2 ?side3 ?side4 A3.out).mono ?_); (case side1 => exact ZQ (Kd.C_below HR0_0.out HB.out)); (case side2 => exact HC0_0.out); (case side3 => exact ZQ (Kd.C_below HR0_1.out HB.out)); (case side4 => exact HC0_1.out); rintro e w15 ⟨rfl, hb⟩; refine ⟨_, rfl, ?_⟩; replace BK331 := ZW BK331 hb; replace HB := ZT HB hb; clear hb; have hcz16 := ZC2 w15 BK331; have hfz16 := ZF2 BK331) | ((with_reducible refine gate_callee (f := 10) rfl ?_); refine ZGL (some 23) Try.func10 #[.agg #[.slice A0_0 l0_0.length c0_0, .slice A0_1 l0_1.length c0_1]] ?_; (with_reducible refine (laws_toProg.calls k _ _ l0_0 _ _ l0_1 t333 t336 _ ?side1 ?side2 ?side3 ?side4 A8.out).mono ?_); (case side1 => exact ZQ (Kd.C_below HR0_0.out HB.out)); (case side2 => exact HC0_0.out); (case side3 => exact ZQ (Kd.C_below HR0_1.out HB.out)); (case side4 => exact HC0_1.out); rintro e w17 ⟨v334, v337, rfl, ho0, ho1, hb⟩; refine ⟨_, rfl, ?_⟩; have HO335 := AM (Kd.R_lower ho0 (below_size (ZB))); have HO338 := AM (Kd.R_lower ho1 (below_size (ZB))); replace BK331 := ZW BK331 hb; replace HB := ZT HB hb; clear hb; (try clear ho0); (try clear ho1); obtain ⟨Ao18, co18, eo18⟩ := Kd.R_slice HO335.out; subst eo18; obtain ⟨Ao19, co19, eo19⟩ := Kd.R_slice HO338.out; subst eo19) | ((with_reducible refine gate_callee (f := 29) rfl ?_); refine ZGL (some 25) Try.func29 #[.agg #[.slice Ao18 t333.length co18, .slice Ao19 t336.length co19], .int .i64 a1] ?_; (with_reducible refine (spec_ProgAt.calls k _ _ t333 (fun k_ => ((True ∧ some k_ ≠ (.slice Ao18 t333.length co18 : Value).ownBlock) ∧ k_ ≠ gb331)) _ _ t336 a1 t339 t340 t341 t342 t343 t344 t345 t348 t351 _ ?side1 ?side2 ?side3 A9.out).mono ?_); (case side1 => exact ZQ ((Kd.R_reads' HO335.out).2.2)); (case side2 => exact (Kd.R_reads' HO335.out).2.1); (case side3 => exact Kd.R_V (Kd.R_types (Kd.R_apart' (HO338.out) (Kd.R_typed HO335.out) (by decide)) BK331.out (by decide))); rintro e w20 ⟨v346, v349, rfl, ho0, ho1, hb⟩; refine ⟨_, rfl, ?_⟩; have HO347 := AM (Kd.V_lower (Kd.V_mono (ok' := fun k_ => some k_ ≠ (.slice Ao18 t333.length co18 : Value).ownBlock ∧ k_ ≠ gb331) ho0 (fun k_ hk_ => ⟨Or.elim hk_ (fun hs_ => hs_.1.2) (fun hn_ => (Kd.fresh' (Kd.R_lt (ZR HO335.out)) k_ hn_)), Or.elim hk_ (fun hs_ => hs_.2) (fun hn_ => (Kd.freshB (g := gb331) (o := .cells #[.slice A0_0 l0_0.length c0_0, .slice A0_1 l0_1.length c0_1] 25 (0, 0)) (ZK BK331.out) k_ hn_))⟩)) (below_size (ZB))); have HO350 := AM (Kd.V_lower (Kd.V_mono (ok' := fun k_ => some k_ ≠ (.slice Ao18 t333.length co18 : Value).ownBlock ∧ k_ ≠ gb331) ho1 (fun k_ hk_ => ⟨Or.elim hk_ (fun hs_ => hs_.1.2) (fun hn_ => (Kd.fresh' (Kd.R_lt (ZR HO335.out)) k_ hn_)), Or.elim hk_ (fun hs_ => hs_.2) (fun hn_ => (Kd.freshB (g := gb331) (o := .cells #[.slice A0_0 l0_0.length c0_0, .slice A0_1 l0_1.length c0_1] 25 (0, 0)) (ZK BK331.out) k_ hn_))⟩)) (below_size (ZB))); replace HO335 := AM (Kd.R_below (ZR HO335.out) hb); replace HO338 := AM (Kd.R_below (ZR HO338.out) hb); replace BK331 := ZW BK331 hb; replace HB := ZT HB hb; have SV6 := AM (Kd.V_bound HO347.out); have SV7 := AM (Kd.V_bound HO350.out); have G331 : Aside0 (gb331 < w20.heap.size) := ⟨blk_lt BK331.out⟩; have HZ := AM (Below.refl w20.heap.size w20); clear hb; (try clear ho0); (try clear ho1)) | ((with_reducible refine gate_dst (N := 6) rfl ?_); refine ZX (N := 6) (cs := #[.int .i64 0, .int .i64 0, .int .i64 0, .int .i64 0, .int .i64 0, .int .i64 0, .slice none 0 0, .slice none 0 0]) (t := 50) ?_; intro gb352 hg w21 hbox hb; have BK352 := AM (hbox); have GW352 : Aside0 (w.heap.size ≤ gb352) := ZS hg; have GZ352 : Aside0 (w20.heap.size ≤ gb352) := ⟨by rw [hg]; exact HZ.out.size⟩; have GE352 : Aside0 (w.heap.size ≤ gb352) := ZS hg; have NB331_352 : Aside0 (gb331 ≠ gb352) := ZN hg BK331; have NB352_331 : Aside0 (gb352 ≠ gb331) := ZM hg BK331; replace HO335 := AM (Kd.R_below (ZR HO335.out) hb); replace HO338 := AM (Kd.R_below (Kd.R_elderB (ZR HO338.out) gb352 (Nat.le_of_eq hg.symm)) hb); replace HO347 := AM (Kd.V_below (Kd.V_elderB (ZRV HO347.out) gb352 (Nat.le_of_eq hg.symm)) hb); replace HO350 := AM (Kd.V_below (Kd.V_elderB (ZRV HO350.out) gb352 (Nat.le_of_eq hg.symm)) hb); replace BK331 := ZW BK331 hb; replace HB := ZT HB hb; replace HZ := ZT HZ hb; clear hb hbox hg; have hnb22 := NB352_331.out; have hnc22 := NB331_352.out; have hcz23 := ZC8 w21 BK352; have hfz23 := ZF8 BK352; obtain ⟨Ao24, co24, eo24⟩ := Kd.V_slice HO347.out; subst eo24; obtain ⟨Ao25, co25, eo25⟩ := Kd.V_slice HO350.out; subst eo25; have hcz26 := ZC2 w21 BK331; have hfz26 := ZF2 BK331) | ((with_reducible refine gate_callee (f := 10) rfl ?_); refine ZGL (some 29) Try.func10 #[.agg #[.slice A0_0 l0_0.length c0_0, .slice A0_1 l0_1.length c0_1]] ?_; (with_reducible refine (laws_toProg.calls k _ _ l0_0 _ _ l0_1 t353 t356 _ ?side1 ?side2 ?side3 ?side4 A10.out).mono ?_); (case side1 => exact Kd.C_below HR0_0.out (ZB)); (case side2 => exact HC0_0.out); (case side3 => exact Kd.C_below HR0_1.out (ZB)); (case side4 => exact HC0_1.out); rintro e w27 ⟨v354, v357, rfl, ho0, ho1, hb⟩; refine ⟨_, rfl, ?_⟩; have SX := AM (Kd.R_lower (Kd.R_mono (ok' := fun k_ => gb352 < k_ ∧ k_ < w27.heap.size) (Kd.R_bound ho1) (fun k_ hk_ => ⟨Nat.lt_of_lt_of_le (blk_lt BK352.out) (Nat.le_trans (Nat.le_of_eq (by first | (simp [World.setCell]; done) | (simp [World.setCell, World.drew]; done) | rfl)) hk_.2.1), hk_.2.2.1⟩)) (below_size (ZB))); have S29 : Aside0 (∀ k_, v354.ownBlock = some k_ → gb352 < k_ ∧ k_ < w27.heap.size) := ⟨fun k_ hk_ => ⟨Nat.lt_of_lt_of_le (blk_lt BK352.out) (Nat.le_trans (Nat.le_of_eq (by first | (simp [World.setCell]; done) | (simp [World.setCell, World.drew]; done) | rfl)) (Kd.R_base ho0 k_ hk_)), Kd.R_lt ho0 k_ hk_⟩⟩; have HO355 := AM (Kd.R_lower (Kd.R_new' ho0 (Kd.R_lt (ZR ((Kd.R_mono (Kd.R_far (p := ⟨gb352, 7, none⟩) (Kd.R_far (p := ⟨gb352, 6, none⟩) (Kd.R_far (p := ⟨gb352, 5, none⟩) (Kd.R_far (p := ⟨gb352, 4, none⟩) (Kd.R_far (p := ⟨gb352, 3, none⟩) (Kd.R_far (p := ⟨gb352, 2, none⟩) (Kd.R_far (p := ⟨gb352, 1, none⟩) (Kd.R_far (p := ⟨gb352, 0, none⟩) (Kd.R_types HO335.out BK352.out (by decide)) (fun _ hk => hk.2) (.int .i64 t339)) (fun _ hk => hk.2) (.int .i64 t340)) (fun _ hk => hk.2) (.int .i64 t341)) (fun _ hk => hk.2) (.int .i64 t342)) (fun _ hk => hk.2) (.int .i64 t343)) (fun _ hk => hk.2) (.int .i64 t344)) (fun _ hk => hk.2) (.slice Ao24 t345.length co24)) (fun _ hk => hk.2) (.slice Ao25 t348.length co25)) (fun _ h_ => h_.1)))))) (below_size (ZB))); have HO358 := AM (Kd.R_lower (Kd.R_newB (Kd.R_new' ho1 (Kd.R_lt (by (with_reducible repeat (first | apply Kd.R_alloc | apply Kd.R_drewN | apply Kd.R_drew)); exact (Kd.R_mono (Kd.R_far (p := ⟨gb352, 7, none⟩) (Kd.R_far (p := ⟨gb352, 6, none⟩) (Kd.R_far (p := ⟨gb352, 5, none⟩) (Kd.R_far (p := ⟨gb352, 4, none⟩) (Kd.R_far (p := ⟨gb352, 3, none⟩) (Kd.R_far (p := ⟨gb352, 2, none⟩) (Kd.R_far (p := ⟨gb352, 1, none⟩) (Kd.R_far (p := ⟨gb352, 0, none⟩) (Kd.R_mono HO338.out (fun k_ hk => (⟨hk, hk.2⟩ : _ ∧ k_ ≠ gb352))) (fun _ hk => hk.2) (.int .i64 t339)) (fun _ hk => hk.2) (.int .i64 t340)) (fun _ hk => hk.2) (.int .i64 t341)) (fun _ hk => hk.2) (.int .i64 t342)) (fun _ hk => hk.2) (.int .i64 t343)) (fun _ hk => hk.2) (.int .i64 t344)) (fun _ hk => hk.2) (.slice Ao24 t345.length co24)) (fun _ hk => hk.2) (.slice Ao25 t348.length co25)) (fun _ h_ => h_.1))))) (g := gb352) (o := .cells #[.int .i64 t339, .int .i64 t340, .int .i64 t341, .int .i64 t342, .int .i64 t343, .int .i64 t344, .slice Ao24 t345.length co24, .slice Ao25 t348.length co25] 50 (0, 0)) (ZZ BK352.out)) (below_size (ZB))); replace HO335 := AM (Kd.R_elder' (ZR ((Kd.R_mono (Kd.R_far (p := ⟨gb352, 7, none⟩) (Kd.R_far (p := ⟨gb352, 6, none⟩) (Kd.R_far (p := ⟨gb352, 5, none⟩) (Kd.R_far (p := ⟨gb352, 4, none⟩) (Kd.R_far (p := ⟨gb352, 3, none⟩) (Kd.R_far (p := ⟨gb352, 2, none⟩) (Kd.R_far (p := ⟨gb352, 1, none⟩) (Kd.R_far (p := ⟨gb352, 0, none⟩) (Kd.R_types HO335.out BK352.out (by decide)) (fun _ hk => hk.2) (.int .i64 t339)) (fun _ hk => hk.2) (.int .i64 t340)) (fun _ hk => hk.2) (.int .i64 t341)) (fun _ hk => hk.2) (.int .i64 t342)) (fun _ hk => hk.2) (.int .i64 t343)) (fun _ hk => hk.2) (.int .i64 t344)) (fun _ hk => hk.2) (.slice Ao24 t345.length co24)) (fun _ hk => hk.2) (.slice Ao25 t348.length co25)) (fun _ h_ => h_.1)))) (Kd.R_base ho0) hb); replace HO338 := AM (Kd.R_elder' (by (with_reducible repeat (first | apply Kd.R_alloc | apply Kd.R_drewN | apply Kd.R_drew)); exact (Kd.R_mono (Kd.R_far (p := ⟨gb352, 7, none⟩) (Kd.R_far (p := ⟨gb352, 6, none⟩) (Kd.R_far (p := ⟨gb352, 5, none⟩) (Kd.R_far (p := ⟨gb352, 4, none⟩) (Kd.R_far (p := ⟨gb352, 3, none⟩) (Kd.R_far (p := ⟨gb352, 2, none⟩) (Kd.R_far (p := ⟨gb352, 1, none⟩) (Kd.R_far (p := ⟨gb352, 0, none⟩) (Kd.R_mono HO338.out (fun k_ hk => (⟨hk, hk.2⟩ : _ ∧ k_ ≠ gb352))) (fun _ hk => hk.2) (.int .i64 t339)) (fun _ hk => hk.2) (.int .i64 t340)) (fun _ hk => hk.2) (.int .i64 t341)) (fun _ hk => hk.2) (.int .i64 t342)) (fun _ hk => hk.2) (.int .i64 t343)) (fun _ hk => hk.2) (.int .i64 t344)) (fun _ hk => hk.2) (.slice Ao24 t345.length co24)) (fun _ hk => hk.2) (.slice Ao25 t348.length co25)) (fun _ h_ => h_.1))) (Kd.R_base ho1) hb); replace HO347 := AM (Kd.V_mono (Kd.V_told (Kd.V_told (Kd.V_old (by (with_reducible repeat (first | apply Kd.V_alloc | apply Kd.V_drewN | apply Kd.V_drew)); exact (Kd.V_mono (Kd.V_far (p := ⟨gb352, 7, none⟩) (Kd.V_far (p := ⟨gb352, 6, none⟩) (Kd.V_far (p := ⟨gb352, 5, none⟩) (Kd.V_far (p := ⟨gb352, 4, none⟩) (Kd.V_far (p := ⟨gb352, 3, none⟩) (Kd.V_far (p := ⟨gb352, 2, none⟩) (Kd.V_far (p := ⟨gb352, 1, none⟩) (Kd.V_far (p := ⟨gb352, 0, none⟩) (Kd.V_mono HO347.out (fun k_ hk => (⟨hk, hk.2⟩ : _ ∧ k_ ≠ gb352))) (fun _ hk => hk.2) (.int .i64 t339)) (fun _ hk => hk.2) (.int .i64 t340)) (fun _ hk => hk.2) (.int .i64 t341)) (fun _ hk => hk.2) (.int .i64 t342)) (fun _ hk => hk.2) (.int .i64 t343)) (fun _ hk => hk.2) (.int .i64 t344)) (fun _ hk => hk.2) (.slice Ao24 t345.length co24)) (fun _ hk => hk.2) (.slice Ao25 t348.length co25)) (fun _ h_ => h_.1))) hb) (Kd.R_base ho0)) (Kd.R_base ho1)) (fun _ h_ => h_.1)); replace HO350 := AM (Kd.V_mono (Kd.V_told (Kd.V_told (Kd.V_old (by (with_reducible repeat (first | apply Kd.V_alloc | apply Kd.V_drewN | apply Kd.V_drew)); exact (Kd.V_mono (Kd.V_far (p := ⟨gb352, 7, none⟩) (Kd.V_far (p := ⟨gb352, 6, none⟩) (Kd.V_far (p := ⟨gb352, 5, none⟩) (Kd.V_far (p := ⟨gb352, 4, none⟩) (Kd.V_far (p := ⟨gb352, 3, none⟩) (Kd.V_far (p := ⟨gb352, 2, none⟩) (Kd.V_far (p := ⟨gb352, 1, none⟩) (Kd.V_far (p := ⟨gb352, 0, none⟩) (Kd.V_mono HO350.out (fun k_ hk => (⟨hk, hk.2⟩ : _ ∧ k_ ≠ gb352))) (fun _ hk => hk.2) (.int .i64 t339)) (fun _ hk => hk.2) (.int .i64 t340)) (fun _ hk => hk.2) (.int .i64 t341)) (fun _ hk => hk.2) (.int .i64 t342)) (fun _ hk => hk.2) (.int .i64 t343)) (fun _ hk => hk.2) (.int .i64 t344)) (fun _ hk => hk.2) (.slice Ao24 t345.length co24)) (fun _ hk => hk.2) (.slice Ao25 t348.length co25)) (fun _ h_ => h_.1))) hb) (Kd.R_base ho0)) (Kd.R_base ho1)) (fun _ h_ => h_.1)); replace BK331 := ZV #[.slice A0_0 l0_0.length c0_0, .slice A0_1 l0_1.length c0_1] BK331 hb; replace BK352 := ZV #[.int .i64 t339, .int .i64 t340, .int .i64 t341, .int .i64 t342, .int .i64 t343, .int .i64 t344, .slice Ao24 t345.length co24, .slice Ao25 t348.length co25] BK352 hb; replace HB := ZT HB hb; replace HZ := ZT HZ hb; have HY := AM (Below.refl w27.heap.size w27); have G352 : Aside0 (gb352 < w27.heap.size) := ⟨blk_lt BK352.out⟩; clear hb; (try clear ho0); (try clear ho1)) | ((with_reducible refine gate_dst (N := 8) rfl ?_); refine ZX (N := 8) (cs := #[.slice none 0 0, .slice none 0 0]) (t := 32) ?_; intro gb359 hg w28 hbox hb; have BK359 := AM (hbox); have GW359 : Aside0 (w.heap.size ≤ gb359) := ZS hg; have GZ359 : Aside0 (w20.heap.size ≤ gb359) := ⟨by rw [hg]; exact HZ.out.size⟩; have GY359 : Aside0 (w27.heap.size ≤ gb359) := ⟨by rw [hg]; exact HY.out.size⟩; have GE359 : Aside0 (w.heap.size ≤ gb359) := ZS hg; have NB331_359 : Aside0 (gb331 ≠ gb359) := ZN hg BK331; have NB359_331 : Aside0 (gb359 ≠ gb331) := ZM hg BK331; have NB352_359 : Aside0 (gb352 ≠ gb359) := ZN hg BK352; have NB359_352 : Aside0 (gb359 ≠ gb352) := ZM hg BK352; replace HO335 := AM (Kd.R_below (ZR HO335.out) hb); replace HO338 := AM (Kd.R_below (ZR HO338.out) hb); replace HO347 := AM (Kd.V_below (Kd.V_elderB (ZRV HO347.out) gb359 (Nat.le_of_eq hg.symm)) hb); replace HO350 := AM (Kd.V_below (Kd.V_elderB (ZRV HO350.out) gb359 (Nat.le_of_eq hg.symm)) hb); replace HO355 := AM (Kd.R_below (ZR HO355.out) hb); replace HO358 := AM (Kd.R_below (ZR HO358.out) hb); replace BK331 := ZW BK331 hb; replace BK352 := ZW BK352 hb; replace HB := ZT HB hb; replace HZ := ZT HZ hb; replace HY := ZT HY hb; clear hb hbox hg; obtain ⟨Ao29, co29, eo29⟩ := Kd.R_slice HO355.out; subst eo29; have hnb30 := NB359_331.out; have hnc30 := NB331_359.out; have hnb31 := NB359_352.out; have hnc31 := NB352_359.out; have hcz32 := ZC2 w28 BK359; have hfz32 := ZF2 BK359; obtain ⟨Ao33, co33, eo33⟩ := Kd.R_slice HO358.out; subst eo33) | ((with_reducible refine gate_callee (f := 30) rfl ?_); refine ZGL (some 33) Try.func30 #[.agg #[.slice Ao29 t353.length co29, .slice Ao33 t356.length co33], .int .i64 a1] ?_; (with_reducible refine (impl_ProgAt.deep k _ _ t353 _ _ t356 a1 t360 t361 t362 t363 t364 t365 t366 t369 t372 _ ?side1 ?side2 ?side3 ?side4 A11.out).mono ?_); (case side1 => refine (Kd.R_reads' (e := 60) (base := w.heap.size) (ok := fun k_ => (True ∧ some k_ ≠ (.slice Ao18 t333.length co18 : Value).ownBlock)) (n := t353.length) (c := co29) ?_).2.2; exact (ZR ((Kd.R_mono (Kd.R_far (p := ⟨gb359, 1, none⟩) (Kd.R_far (p := ⟨gb359, 0, none⟩) (Kd.R_types HO355.out BK359.out (by decide)) (fun _ hk => hk.2) (.slice Ao29 t353.length co29)) (fun _ hk => hk.2) (.slice Ao33 t356.length co33)) (fun _ h_ => h_.1))))); (case side2 => exact (Kd.R_reads' HO355.out).2.1); (case side3 => refine (Kd.R_reads' (e := 50) (base := w.heap.size) (ok := fun k_ => ((True ∧ some k_ ≠ (.slice Ao19 t336.length co19 : Value).ownBlock) ∧ k_ ≠ gb352)) (n := t356.length) (c := co33) ?_).2.2; exact (ZR ((Kd.R_mono (Kd.R_far (p := ⟨gb359, 1, none⟩) (Kd.R_far (p := ⟨gb359, 0, none⟩) (Kd.R_types HO358.out BK359.out (by decide)) (fun _ hk => hk.2) (.slice Ao29 t353.length co29)) (fun _ hk => hk.2) (.slice Ao33 t356.length co33)) (fun _ h_ => h_.1))))); (case side4 => exact (Kd.R_reads' HO358.out).2.1); rintro e w34 ⟨v367, v370, rfl, z6_, z7_, hz6_, hz7_, hn_, hd6_, hd7_, hb⟩; refine ⟨_, rfl, ?_⟩; obtain ⟨ho0, ho1⟩ := Deep.R_two hd6_ hd7_ hz6_ hz7_ hn_; have SB : Aside0 (∀ k_ ∈ Deep.bl v367 z6_ ++ Deep.bl v370 z7_, w27.heap.size ≤ k_ ∧ k_ < w34.heap.size) := ⟨fun k_ hk_ => (List.mem_append.1 hk_).elim (fun hk_ => ⟨Nat.le_trans HY.out.size (Nat.le_trans (Nat.le_of_eq (by first | (simp [World.setCell]; done) | (simp [World.setCell, World.drew]; done) | rfl)) (Deep.bl_of hd6_ k_ hk_).1), (Deep.bl_of hd6_ k_ hk_).2.1⟩) (fun hk_ => ⟨Nat.le_trans HY.out.size (Nat.le_trans (Nat.le_of_eq (by first | (simp [World.setCell]; done) | (simp [World.setCell, World.drew]; done) | rfl)) (Deep.bl_of hd7_ k_ hk_).1), (Deep.bl_of hd7_ k_ hk_).2.1⟩)⟩; have SG6 := AM (show Deep.TR w34 t366 (Deep.bl v367 z6_) v367 from hz6_ ▸ Deep.TR_of hd6_); have SG7 := AM (show Deep.TR w34 t369 (Deep.bl v370 z7_) v370 from hz7_ ▸ Deep.TR_of hd7_); have SN := AM hn_; have S40 : Aside0 (∀ k_, v367.ownBlock = some k_ → k_ ∈ Deep.bl v367 z6_) := ⟨fun k_ hk_ => List.mem_append_left _ (Deep.own_mem.2 hk_)⟩; have S41 : Aside0 (∀ k_, v370.ownBlock = some k_ → k_ ∈ Deep.bl v370 z7_) := ⟨fun k_ hk_ => List.mem_append_left _ (Deep.own_mem.2 hk_)⟩; clear hz6_ hz7_ hn_ hd6_ hd7_; generalize Deep.bl v367 z6_ = b6_ at SB SG6 SN S40; generalize Deep.bl v370 z7_ = b7_ at SB SG7 SN S41; have HO368 := AM (Kd.R_lower (Kd.R_newB (Kd.R_new' (Kd.R_new' ho0 (Kd.R_lt (ZR ((Kd.R_mono (Kd.R_far (p := ⟨gb359, 1, none⟩) (Kd.R_far (p := ⟨gb359, 0, none⟩) (Kd.R_types HO338.out BK359.out (by decide)) (fun _ hk => hk.2) (.slice Ao29 t353.length co29)) (fun _ hk => hk.2) (.slice Ao33 t356.length co33)) (fun _ h_ => h_.1)))))) (Kd.R_lt (ZR ((Kd.R_mono (Kd.R_far (p := ⟨gb359, 1, none⟩) (Kd.R_far (p := ⟨gb359, 0, none⟩) (Kd.R_types HO358.out BK359.out (by decide)) (fun _ hk => hk.2) (.slice Ao29 t353.length co29)) (fun _ hk => hk.2) (.slice Ao33 t356.length co33)) (fun _ h_ => h_.1)))))) (g := gb352) (o := .cells #[.int .i64 t339, .int .i64 t340, .int .i64 t341, .int .i64 t342, .int .i64 t343, .int .i64 t344, .slice Ao24 t345.length co24, .slice Ao25 t348.length co25] 50 (0, 0)) (ZZ BK352.out)) (below_size (ZB))); have HO371 := AM (Kd.R_lower (Kd.R_newB (Kd.R_new' (Kd.R_new' ho1 (Kd.R_lt (ZR ((Kd.R_mono (Kd.R_far (p := ⟨gb359, 1, none⟩) (Kd.R_far (p := ⟨gb359, 0, none⟩) (Kd.R_types HO338.out BK359.out (by decide)) (fun _ hk => hk.2) (.slice Ao29 t353.length co29)) (fun _ hk => hk.2) (.slice Ao33 t356.length co33)) (fun _ h_ => h_.1)))))) (Kd.R_lt (ZR ((Kd.R_mono (Kd.R_far (p := ⟨gb359, 1, none⟩) (Kd.R_far (p := ⟨gb359, 0, none⟩) (Kd.R_types HO358.out BK359.out (by decide)) (fun _ hk => hk.2) (.slice Ao29 t353.length co29)) (fun _ hk => hk.2) (.slice Ao33 t356.length co33)) (fun _ h_ => h_.1)))))) (g := gb352) (o := .cells #[.int .i64 t339, .int .i64 t340, .int .i64 t341, .int .i64 t342, .int .i64 t343, .int .i64 t344, .slice Ao24 t345.length co24, .slice Ao25 t348.length co25] 50 (0, 0)) (ZZ BK352.out)) (below_size (ZB))); replace HO335 := AM (Kd.R_below (ZR ((Kd.R_mono (Kd.R_far (p := ⟨gb359, 1, none⟩) (Kd.R_far (p := ⟨gb359, 0, none⟩) (Kd.R_types HO335.out BK359.out (by decide)) (fun _ hk => hk.2) (.slice Ao29 t353.length co29)) (fun _ hk => hk.2) (.slice Ao33 t356.length co33)) (fun _ h_ => h_.1)))) hb); replace HO338 := AM (Kd.R_mono (Kd.R_told (Kd.R_told (Kd.R_old (ZR ((Kd.R_mono (Kd.R_far (p := ⟨gb359, 1, none⟩) (Kd.R_far (p := ⟨gb359, 0, none⟩) (Kd.R_types HO338.out BK359.out (by decide)) (fun _ hk => hk.2) (.slice Ao29 t353.length co29)) (fun _ hk => hk.2) (.slice Ao33 t356.length co33)) (fun _ h_ => h_.1)))) hb) (Kd.R_base ho0)) (Kd.R_base ho1)) (fun _ h_ => h_.1)); replace HO347 := AM (Kd.V_mono (Kd.V_told (Kd.V_told (Kd.V_old (by (with_reducible repeat (first | apply Kd.V_alloc | apply Kd.V_drewN | apply Kd.V_drew)); exact (Kd.V_mono (Kd.V_far (p := ⟨gb359, 1, none⟩) (Kd.V_far (p := ⟨gb359, 0, none⟩) (Kd.V_mono HO347.out (fun k_ hk => (⟨hk, hk.2⟩ : _ ∧ k_ ≠ gb359))) (fun _ hk => hk.2) (.slice Ao29 t353.length co29)) (fun _ hk => hk.2) (.slice Ao33 t356.length co33)) (fun _ h_ => h_.1))) hb) (Kd.R_base ho0)) (Kd.R_base ho1)) (fun _ h_ => h_.1)); replace HO350 := AM (Kd.V_mono (Kd.V_told (Kd.V_told (Kd.V_old (by (with_reducible repeat (first | apply Kd.V_alloc | apply Kd.V_drewN | apply Kd.V_drew)); exact (Kd.V_mono (Kd.V_far (p := ⟨gb359, 1, none⟩) (Kd.V_far (p := ⟨gb359, 0, none⟩) (Kd.V_mono HO350.out (fun k_ hk => (⟨hk, hk.2⟩ : _ ∧ k_ ≠ gb359))) (fun _ hk => hk.2) (.slice Ao29 t353.length co29)) (fun _ hk => hk.2) (.slice Ao33 t356.length co33)) (fun _ h_ => h_.1))) hb) (Kd.R_base ho0)) (Kd.R_base ho1)) (fun _ h_ => h_.1)); replace HO355 := AM (Kd.R_below (ZR ((Kd.R_mono (Kd.R_far (p := ⟨gb359, 1, none⟩) (Kd.R_far (p := ⟨gb359, 0, none⟩) (Kd.R_types HO355.out BK359.out (by decide)) (fun _ hk => hk.2) (.slice Ao29 t353.length co29)) (fun _ hk => hk.2) (.slice Ao33 t356.length co33)) (fun _ h_ => h_.1)))) hb); replace HO358 := AM (Kd.R_mono (Kd.R_told (Kd.R_told (Kd.R_old (ZR ((Kd.R_mono (Kd.R_far (p := ⟨gb359, 1, none⟩) (Kd.R_far (p := ⟨gb359, 0, none⟩) (Kd.R_types HO358.out BK359.out (by decide)) (fun _ hk => hk.2) (.slice Ao29 t353.length co29)) (fun _ hk => hk.2) (.slice Ao33 t356.length co33)) (fun _ h_ => h_.1)))) hb) (Kd.R_base ho0)) (Kd.R_base ho1)) (fun _ h_ => h_.1)); replace BK331 := ZV #[.slice A0_0 l0_0.length c0_0, .slice A0_1 l0_1.length c0_1] BK331 hb; replace BK352 := ZV #[.int .i64 t339, .int .i64 t340, .int .i64 t341, .int .i64 t342, .int .i64 t343, .int .i64 t344, .slice Ao24 t345.length co24, .slice Ao25 t348.length co25] BK352 hb; replace BK359 := ZV #[.slice Ao29 t353.length co29, .slice Ao33 t356.length co33] BK359 hb; replace HB := ZT HB hb; replace HZ := ZT HZ hb; replace HY := ZT HY hb; replace SV6 := AM (Kd.V_below SV6.out HZ.out); replace SV7 := AM (Kd.V_below SV7.out HZ.out); replace SX := AM (Kd.R_below SX.out HY.out); have S27 : Aside0 (w27.heap.size ≤ w34.heap.size) := ⟨HY.out.size⟩; clear HZ HY; have HX := AM (Below.refl w34.heap.size w34); clear hb; (try clear ho0); (try clear ho1)) | ((with_reducible refine gate_dst (N := 9) rfl ?_); refine ZX (N := 9) (cs := #[.int .i64 0, .int .i64 0, .int .i64 0, .int .i64 0, .int .i64 0, .int .i64 0, .slice none 0 0, .slice none 0 0]) (t := 50) ?_; intro gb373 hg w35 hbox hb; have BK373 := AM (hbox); have GW373 : Aside0 (w.heap.size ≤ gb373) := ZS hg; have GX373 : Aside0 (w34.heap.size ≤ gb373) := ⟨by rw [hg]; exact HX.out.size⟩; have GE373 : Aside0 (w.heap.size ≤ gb373) := ZS hg; have NB331_373 : Aside0 (gb331 ≠ gb373) := ZN hg BK331; have NB373_331 : Aside0 (gb373 ≠ gb331) := ZM hg BK331; have NB352_373 : Aside0 (gb352 ≠ gb373) := ZN hg BK352; have NB373_352 : Aside0 (gb373 ≠ gb352) := ZM hg BK352; have NB359_373 : Aside0 (gb359 ≠ gb373) := ZN hg BK359; have NB373_359 : Aside0 (gb373 ≠ gb359) := ZM hg BK359; replace HO335 := AM (Kd.R_below (ZR HO335.out) hb); replace HO338 := AM (Kd.R_below (Kd.R_elderB (ZR HO338.out) gb373 (Nat.le_of_eq hg.symm)) hb); replace HO347 := AM (Kd.V_below (Kd.V_elderB (ZRV HO347.out) gb373 (Nat.le_of_eq hg.symm)) hb); replace HO350 := AM (Kd.V_below (Kd.V_elderB (ZRV HO350.out) gb373 (Nat.le_of_eq hg.symm)) hb); replace HO355 := AM (Kd.R_below (ZR HO355.out) hb); replace HO358 := AM (Kd.R_below (Kd.R_elderB (ZR HO358.out) gb373 (Nat.le_of_eq hg.symm)) hb); replace HO368 := AM (Kd.R_below (Kd.R_elderB (ZR HO368.out) gb373 (Nat.le_of_eq hg.symm)) hb); replace HO371 := AM (Kd.R_below (Kd.R_elderB (ZR HO371.out) gb373 (Nat.le_of_eq hg.symm)) hb); replace BK331 := ZW BK331 hb; replace BK352 := ZW BK352 hb; replace BK359 := ZW BK359 hb; replace HB := ZT HB hb; replace HX := ZT HX hb; clear hb hbox hg; have hnb36 := NB373_331.out; have hnc36 := NB331_373.out; have hnb37 := NB373_352.out; have hnc37 := NB352_373.out; have hnb38 := NB373_359.out; have hnc38 := NB359_373.out; have hcz39 := ZC8 w35 BK373; have hfz39 := ZF8 BK373; obtain ⟨Ao40, co40, eo40⟩ := Kd.R_slice HO368.out; subst eo40; obtain ⟨Ao41, co41, eo41⟩ := Kd.R_slice HO371.out; subst eo41))
 (try simp only [Act.put, List.setIfInBounds_toArray, List.set_cons_zero, List.set_cons_succ])
 go_cut [44] (fun v44 wc => ∃ (kq : Nat) (x44_11 : Bool), v44 = .bool x44_11 ∧ Aside0 (laws_FnExactProgAt.j0 kq a1 t351 t372 x44_11 l0_0 l0_1 t339 t340 t341 t342 t343 t344 t345 t348 t353 t356 t360 t361 t362 t363 t364 t365 t366 t369 = some r) ∧ Aside0 (kq ≤ k) ∧ Aside0 (Kd.V k50 50 wc w.heap.size (fun k_ => some k_ ≠ ((.slice Ao29 t353.length co29) : Value).ownBlock ∧ some k_ ≠ ((.slice Ao33 t356.length co33) : Value).ownBlock ∧ some k_ ≠ ((.slice Ao40 t366.length co40) : Value).ownBlock ∧ some k_ ≠ ((.slice Ao41 t369.length co41) : Value).ownBlock ∧ k_ ≠ gb331 ∧ k_ ≠ gb352 ∧ k_ ≠ gb359 ∧ k_ ≠ gb373) (.slice Ao24 t345.length co24) t345) ∧ Aside0 (Kd.V k50 50 wc w.heap.size (fun k_ => some k_ ≠ ((.slice Ao29 t353.length co29) : Value).ownBlock ∧ some k_ ≠ ((.slice Ao33 t356.length co33) : Value).ownBlock ∧ some k_ ≠ ((.slice Ao40 t366.length co40) : Value).ownBlock ∧ some k_ ≠ ((.slice Ao41 t369.length co41) : Value).ownBlock ∧ k_ ≠ gb331 ∧ k_ ≠ gb352 ∧ k_ ≠ gb359 ∧ k_ ≠ gb373) (.slice Ao25 t348.length co25) t348) ∧ Aside0 (Kd.R k60 60 wc w.heap.size (fun _ => True) (.slice Ao29 t353.length co29) t353) ∧ Aside0 (Kd.R k50 50 wc w.heap.size (fun k_ => some k_ ≠ ((.slice Ao40 t366.length co40) : Value).ownBlock ∧ some k_ ≠ ((.slice Ao41 t369.length co41) : Value).ownBlock ∧ k_ ≠ gb352 ∧ k_ ≠ gb373) (.slice Ao33 t356.length co33) t356) ∧ Aside0 (Kd.R k50 50 wc w.heap.size (fun k_ => some k_ ≠ ((.slice Ao33 t356.length co33) : Value).ownBlock ∧ some k_ ≠ ((.slice Ao41 t369.length co41) : Value).ownBlock ∧ k_ ≠ gb352 ∧ k_ ≠ gb373) (.slice Ao40 t366.length co40) t366) ∧ Aside0 (Kd.R k50 50 wc w.heap.size (fun k_ => some k_ ≠ ((.slice Ao33 t356.length co33) : Value).ownBlock ∧ some k_ ≠ ((.slice Ao40 t366.length co40) : Value).ownBlock ∧ k_ ≠ gb352 ∧ k_ ≠ gb373) (.slice Ao41 t369.length co41) t369) ∧ Aside0 (wc.heap[gb331]? = some (.cells #[(.slice A0_0 l0_0.length c0_0), (.slice A0_1 l0_1.length c0_1)] 25 (0, 0))) ∧ Aside0 (wc.heap[gb352]? = some (.cells #[.int .i64 t339, .int .i64 t340, .int .i64 t341, .int .i64 t342, .int .i64 t343, .int .i64 t344, (.slice Ao24 t345.length co24), (.slice Ao25 t348.length co25)] 50 (0, 0))) ∧ Aside0 (wc.heap[gb359]? = some (.cells #[(.slice Ao29 t353.length co29), (.slice Ao33 t356.length co33)] 32 (0, 0))) ∧ Aside0 (wc.heap[gb373]? = some (.cells #[.int .i64 t360, .int .i64 t361, .int .i64 t362, .int .i64 t363, .int .i64 t364, .int .i64 t365, (.slice Ao40 t366.length co40), (.slice Ao41 t369.length co41)] 50 (0, 0))) ∧ Aside0 (Below w.heap.size w wc) ∧ Aside0 (Below w34.heap.size w34 wc))
 case first => (
 have H := HC12.out
 clear HC12
 obtain ⟨t374, A42, H⟩ := ZOB H; try dsimp only at H
 by_cases c43 : t374 = true
 ·(
 subst c43
 have H1 := H; rw [if_pos rfl] at H1
 clear H
 have H := H1
 clear H1
 have H' := AM H
 clear H
 have hnb44 := NB373_331.out
 have hnc44 := NB331_373.out
 have hnb45 := NB373_352.out
 have hnc45 := NB352_373.out
 have hnb46 := NB373_359.out
 have hnc46 := NB359_373.out
 have hcz47 := ZC8 w35 BK373
 have hfz47 := ZF8 BK373
 have hnb48 := NB352_331.out
 have hnc48 := NB331_352.out
 have hnb49 := NB352_359.out
 have hnc49 := NB359_352.out
 have hcz50 := ZC8 w35 BK352
 have hfz50 := ZF8 BK352
 go_wp2_with (first | ((with_reducible refine gate_callee (f := 31) rfl ?_); refine ZGL (some 38) Try.func31 #[.agg #[.int .i64 t360, .int .i64 t361, .int .i64 t362, .int .i64 t363, .int .i64 t364, .int .i64 t365, .slice Ao40 t366.length co40, .slice Ao41 t369.length co41], .agg #[.int .i64 t339, .int .i64 t340, .int .i64 t341, .int .i64 t342, .int .i64 t343, .int .i64 t344, .slice Ao24 t345.length co24, .slice Ao25 t348.length co25]] ?_; (with_reducible refine (laws_eqStep.calls k t360 t361 t362 t363 t364 t365 _ _ t366 _ _ t369 t339 t340 t341 t342 t343 t344 _ _ t345 _ _ t348 true _ ?side1 ?side2 ?side3 ?side4 ?side5 ?side6 ?side7 ?side8 A42.out).mono ?_); (case side1 => refine (Kd.R_reads' (e := 50) (base := w.heap.size) (ok := fun k_ => ((((some k_ ≠ (.slice Ao41 t369.length co41 : Value).ownBlock ∧ some k_ ≠ (.slice Ao19 t336.length co19 : Value).ownBlock) ∧ some k_ ≠ (.slice Ao33 t356.length co33 : Value).ownBlock) ∧ k_ ≠ gb352) ∧ k_ ≠ gb373)) (n := t366.length) (c := co40) ?_).2.2; exact (by (with_reducible repeat (first | apply Kd.R_alloc | apply Kd.R_drewN | apply Kd.R_drew)); exact (Kd.R_mono (Kd.R_far (p := ⟨gb373, 7, none⟩) (Kd.R_far (p := ⟨gb373, 6, none⟩) (Kd.R_far (p := ⟨gb373, 5, none⟩) (Kd.R_far (p := ⟨gb373, 4, none⟩) (Kd.R_far (p := ⟨gb373, 3, none⟩) (Kd.R_far (p := ⟨gb373, 2, none⟩) (Kd.R_far (p := ⟨gb373, 1, none⟩) (Kd.R_far (p := ⟨gb373, 0, none⟩) (Kd.R_mono HO368.out (fun k_ hk => (⟨hk, hk.2⟩ : _ ∧ k_ ≠ gb373))) (fun _ hk => hk.2) (.int .i64 t360)) (fun _ hk => hk.2) (.int .i64 t361)) (fun _ hk => hk.2) (.int .i64 t362)) (fun _ hk => hk.2) (.int .i64 t363)) (fun _ hk => hk.2) (.int .i64 t364)) (fun _ hk => hk.2) (.int .i64 t365)) (fun _ hk => hk.2) (.slice Ao40 t366.length co40)) (fun _ hk => hk.2) (.slice Ao41 t369.length co41)) (fun _ h_ => h_.1)))); (case side2 => exact (Kd.R_reads' HO368.out).2.1); (case side3 => refine (Kd.R_reads' (e := 50) (base := w.heap.size) (ok := fun k_ => ((((some k_ ≠ (.slice Ao40 t366.length co40 : Value).ownBlock ∧ some k_ ≠ (.slice Ao19 t336.length co19 : Value).ownBlock) ∧ some k_ ≠ (.slice Ao33 t356.length co33 : Value).ownBlock) ∧ k_ ≠ gb352) ∧ k_ ≠ gb373)) (n := t369.length) (c := co41) ?_).2.2; exact (by (with_reducible repeat (first | apply Kd.R_alloc | apply Kd.R_drewN | apply Kd.R_drew)); exact (Kd.R_mono (Kd.R_far (p := ⟨gb373, 7, none⟩) (Kd.R_far (p := ⟨gb373, 6, none⟩) (Kd.R_far (p := ⟨gb373, 5, none⟩) (Kd.R_far (p := ⟨gb373, 4, none⟩) (Kd.R_far (p := ⟨gb373, 3, none⟩) (Kd.R_far (p := ⟨gb373, 2, none⟩) (Kd.R_far (p := ⟨gb373, 1, none⟩) (Kd.R_far (p := ⟨gb373, 0, none⟩) (Kd.R_mono HO371.out (fun k_ hk => (⟨hk, hk.2⟩ : _ ∧ k_ ≠ gb373))) (fun _ hk => hk.2) (.int .i64 t360)) (fun _ hk => hk.2) (.int .i64 t361)) (fun _ hk => hk.2) (.int .i64 t362)) (fun _ hk => hk.2) (.int .i64 t363)) (fun _ hk => hk.2) (.int .i64 t364)) (fun _ hk => hk.2) (.int .i64 t365)) (fun _ hk => hk.2) (.slice Ao40 t366.length co40)) (fun _ hk => hk.2) (.slice Ao41 t369.length co41)) (fun _ h_ => h_.1)))); (case side4 => exact (Kd.R_reads' HO371.out).2.1); (case side5 => refine (Kd.V_reads' (e := 50) (base := w.heap.size) (ok := fun k_ => ((((((((some k_ ≠ (.slice Ao18 t333.length co18 : Value).ownBlock ∧ k_ ≠ gb331) ∧ k_ ≠ gb352) ∧ some k_ ≠ (.slice Ao29 t353.length co29 : Value).ownBlock) ∧ some k_ ≠ (.slice Ao33 t356.length co33 : Value).ownBlock) ∧ k_ ≠ gb359) ∧ some k_ ≠ (.slice Ao40 t366.length co40 : Value).ownBlock) ∧ some k_ ≠ (.slice Ao41 t369.length co41 : Value).ownBlock) ∧ k_ ≠ gb373)) (n := t345.length) (c := co24) ?_).2.2; exact (by (with_reducible repeat (first | apply Kd.V_alloc | apply Kd.V_drewN | apply Kd.V_drew)); exact (Kd.V_mono (Kd.V_far (p := ⟨gb373, 7, none⟩) (Kd.V_far (p := ⟨gb373, 6, none⟩) (Kd.V_far (p := ⟨gb373, 5, none⟩) (Kd.V_far (p := ⟨gb373, 4, none⟩) (Kd.V_far (p := ⟨gb373, 3, none⟩) (Kd.V_far (p := ⟨gb373, 2, none⟩) (Kd.V_far (p := ⟨gb373, 1, none⟩) (Kd.V_far (p := ⟨gb373, 0, none⟩) (Kd.V_mono HO347.out (fun k_ hk => (⟨hk, hk.2⟩ : _ ∧ k_ ≠ gb373))) (fun _ hk => hk.2) (.int .i64 t360)) (fun _ hk => hk.2) (.int .i64 t361)) (fun _ hk => hk.2) (.int .i64 t362)) (fun _ hk => hk.2) (.int .i64 t363)) (fun _ hk => hk.2) (.int .i64 t364)) (fun _ hk => hk.2) (.int .i64 t365)) (fun _ hk => hk.2) (.slice Ao40 t366.length co40)) (fun _ hk => hk.2) (.slice Ao41 t369.length co41)) (fun _ h_ => h_.1)))); (case side6 => exact (Kd.V_reads' HO347.out).2.1); (case side7 => refine (Kd.V_reads' (e := 50) (base := w.heap.size) (ok := fun k_ => ((((((((some k_ ≠ (.slice Ao18 t333.length co18 : Value).ownBlock ∧ k_ ≠ gb331) ∧ k_ ≠ gb352) ∧ some k_ ≠ (.slice Ao29 t353.length co29 : Value).ownBlock) ∧ some k_ ≠ (.slice Ao33 t356.length co33 : Value).ownBlock) ∧ k_ ≠ gb359) ∧ some k_ ≠ (.slice Ao40 t366.length co40 : Value).ownBlock) ∧ some k_ ≠ (.slice Ao41 t369.length co41 : Value).ownBlock) ∧ k_ ≠ gb373)) (n := t348.length) (c := co25) ?_).2.2; exact (by (with_reducible repeat (first | apply Kd.V_alloc | apply Kd.V_drewN | apply Kd.V_drew)); exact (Kd.V_mono (Kd.V_far (p := ⟨gb373, 7, none⟩) (Kd.V_far (p := ⟨gb373, 6, none⟩) (Kd.V_far (p := ⟨gb373, 5, none⟩) (Kd.V_far (p := ⟨gb373, 4, none⟩) (Kd.V_far (p := ⟨gb373, 3, none⟩) (Kd.V_far (p := ⟨gb373, 2, none⟩) (Kd.V_far (p := ⟨gb373, 1, none⟩) (Kd.V_far (p := ⟨gb373, 0, none⟩) (Kd.V_mono HO350.out (fun k_ hk => (⟨hk, hk.2⟩ : _ ∧ k_ ≠ gb373))) (fun _ hk => hk.2) (.int .i64 t360)) (fun _ hk => hk.2) (.int .i64 t361)) (fun _ hk => hk.2) (.int .i64 t362)) (fun _ hk => hk.2) (.int .i64 t363)) (fun _ hk => hk.2) (.int .i64 t364)) (fun _ hk => hk.2) (.int .i64 t365)) (fun _ hk => hk.2) (.slice Ao40 t366.length co40)) (fun _ hk => hk.2) (.slice Ao41 t369.length co41)) (fun _ h_ => h_.1)))); (case side8 => exact (Kd.V_reads' HO350.out).2.1); rintro e w51 ⟨rfl, hb⟩; refine ⟨_, rfl, ?_⟩; replace HO335 := AM (Kd.R_below (ZR ((Kd.R_mono (Kd.R_far (p := ⟨gb373, 7, none⟩) (Kd.R_far (p := ⟨gb373, 6, none⟩) (Kd.R_far (p := ⟨gb373, 5, none⟩) (Kd.R_far (p := ⟨gb373, 4, none⟩) (Kd.R_far (p := ⟨gb373, 3, none⟩) (Kd.R_far (p := ⟨gb373, 2, none⟩) (Kd.R_far (p := ⟨gb373, 1, none⟩) (Kd.R_far (p := ⟨gb373, 0, none⟩) (Kd.R_types HO335.out BK373.out (by decide)) (fun _ hk => hk.2) (.int .i64 t360)) (fun _ hk => hk.2) (.int .i64 t361)) (fun _ hk => hk.2) (.int .i64 t362)) (fun _ hk => hk.2) (.int .i64 t363)) (fun _ hk => hk.2) (.int .i64 t364)) (fun _ hk => hk.2) (.int .i64 t365)) (fun _ hk => hk.2) (.slice Ao40 t366.length co40)) (fun _ hk => hk.2) (.slice Ao41 t369.length co41)) (fun _ h_ => h_.1)))) hb); replace HO338 := AM (Kd.R_below (by (with_reducible repeat (first | apply Kd.R_alloc | apply Kd.R_drewN | apply Kd.R_drew)); exact (Kd.R_mono (Kd.R_far (p := ⟨gb373, 7, none⟩) (Kd.R_far (p := ⟨gb373, 6, none⟩) (Kd.R_far (p := ⟨gb373, 5, none⟩) (Kd.R_far (p := ⟨gb373, 4, none⟩) (Kd.R_far (p := ⟨gb373, 3, none⟩) (Kd.R_far (p := ⟨gb373, 2, none⟩) (Kd.R_far (p := ⟨gb373, 1, none⟩) (Kd.R_far (p := ⟨gb373, 0, none⟩) (Kd.R_mono HO338.out (fun k_ hk => (⟨hk, hk.2⟩ : _ ∧ k_ ≠ gb373))) (fun _ hk => hk.2) (.int .i64 t360)) (fun _ hk => hk.2) (.int .i64 t361)) (fun _ hk => hk.2) (.int .i64 t362)) (fun _ hk => hk.2) (.int .i64 t363)) (fun _ hk => hk.2) (.int .i64 t364)) (fun _ hk => hk.2) (.int .i64 t365)) (fun _ hk => hk.2) (.slice Ao40 t366.length co40)) (fun _ hk => hk.2) (.slice Ao41 t369.length co41)) (fun _ h_ => h_.1))) hb); replace HO347 := AM (Kd.V_below (by (with_reducible repeat (first | apply Kd.V_alloc | apply Kd.V_drewN | apply Kd.V_drew)); exact (Kd.V_mono (Kd.V_far (p := ⟨gb373, 7, none⟩) (Kd.V_far (p := ⟨gb373, 6, none⟩) (Kd.V_far (p := ⟨gb373, 5, none⟩) (Kd.V_far (p := ⟨gb373, 4, none⟩) (Kd.V_far (p := ⟨gb373, 3, none⟩) (Kd.V_far (p := ⟨gb373, 2, none⟩) (Kd.V_far (p := ⟨gb373, 1, none⟩) (Kd.V_far (p := ⟨gb373, 0, none⟩) (Kd.V_mono HO347.out (fun k_ hk => (⟨hk, hk.2⟩ : _ ∧ k_ ≠ gb373))) (fun _ hk => hk.2) (.int .i64 t360)) (fun _ hk => hk.2) (.int .i64 t361)) (fun _ hk => hk.2) (.int .i64 t362)) (fun _ hk => hk.2) (.int .i64 t363)) (fun _ hk => hk.2) (.int .i64 t364)) (fun _ hk => hk.2) (.int .i64 t365)) (fun _ hk => hk.2) (.slice Ao40 t366.length co40)) (fun _ hk => hk.2) (.slice Ao41 t369.length co41)) (fun _ h_ => h_.1))) hb); replace HO350 := AM (Kd.V_below (by (with_reducible repeat (first | apply Kd.V_alloc | apply Kd.V_drewN | apply Kd.V_drew)); exact (Kd.V_mono (Kd.V_far (p := ⟨gb373, 7, none⟩) (Kd.V_far (p := ⟨gb373, 6, none⟩) (Kd.V_far (p := ⟨gb373, 5, none⟩) (Kd.V_far (p := ⟨gb373, 4, none⟩) (Kd.V_far (p := ⟨gb373, 3, none⟩) (Kd.V_far (p := ⟨gb373, 2, none⟩) (Kd.V_far (p := ⟨gb373, 1, none⟩) (Kd.V_far (p := ⟨gb373, 0, none⟩) (Kd.V_mono HO350.out (fun k_ hk => (⟨hk, hk.2⟩ : _ ∧ k_ ≠ gb373))) (fun _ hk => hk.2) (.int .i64 t360)) (fun _ hk => hk.2) (.int .i64 t361)) (fun _ hk => hk.2) (.int .i64 t362)) (fun _ hk => hk.2) (.int .i64 t363)) (fun _ hk => hk.2) (.int .i64 t364)) (fun _ hk => hk.2) (.int .i64 t365)) (fun _ hk => hk.2) (.slice Ao40 t366.length co40)) (fun _ hk => hk.2) (.slice Ao41 t369.length co41)) (fun _ h_ => h_.1))) hb); replace HO355 := AM (Kd.R_below (ZR ((Kd.R_mono (Kd.R_far (p := ⟨gb373, 7, none⟩) (Kd.R_far (p := ⟨gb373, 6, none⟩) (Kd.R_far (p := ⟨gb373, 5, none⟩) (Kd.R_far (p := ⟨gb373, 4, none⟩) (Kd.R_far (p := ⟨gb373, 3, none⟩) (Kd.R_far (p := ⟨gb373, 2, none⟩) (Kd.R_far (p := ⟨gb373, 1, none⟩) (Kd.R_far (p := ⟨gb373, 0, none⟩) (Kd.R_types HO355.out BK373.out (by decide)) (fun _ hk => hk.2) (.int .i64 t360)) (fun _ hk => hk.2) (.int .i64 t361)) (fun _ hk => hk.2) (.int .i64 t362)) (fun _ hk => hk.2) (.int .i64 t363)) (fun _ hk => hk.2) (.int .i64 t364)) (fun _ hk => hk.2) (.int .i64 t365)) (fun _ hk => hk.2) (.slice Ao40 t366.length co40)) (fun _ hk => hk.2) (.slice Ao41 t369.length co41)) (fun _ h_ => h_.1)))) hb); replace HO358 := AM (Kd.R_below (by (with_reducible repeat (first | apply Kd.R_alloc | apply Kd.R_drewN | apply Kd.R_drew)); exact (Kd.R_mono (Kd.R_far (p := ⟨gb373, 7, none⟩) (Kd.R_far (p := ⟨gb373, 6, none⟩) (Kd.R_far (p := ⟨gb373, 5, none⟩) (Kd.R_far (p := ⟨gb373, 4, none⟩) (Kd.R_far (p := ⟨gb373, 3, none⟩) (Kd.R_far (p := ⟨gb373, 2, none⟩) (Kd.R_far (p := ⟨gb373, 1, none⟩) (Kd.R_far (p := ⟨gb373, 0, none⟩) (Kd.R_mono HO358.out (fun k_ hk => (⟨hk, hk.2⟩ : _ ∧ k_ ≠ gb373))) (fun _ hk => hk.2) (.int .i64 t360)) (fun _ hk => hk.2) (.int .i64 t361)) (fun _ hk => hk.2) (.int .i64 t362)) (fun _ hk => hk.2) (.int .i64 t363)) (fun _ hk => hk.2) (.int .i64 t364)) (fun _ hk => hk.2) (.int .i64 t365)) (fun _ hk => hk.2) (.slice Ao40 t366.length co40)) (fun _ hk => hk.2) (.slice Ao41 t369.length co41)) (fun _ h_ => h_.1))) hb); replace HO368 := AM (Kd.R_below (by (with_reducible repeat (first | apply Kd.R_alloc | apply Kd.R_drewN | apply Kd.R_drew)); exact (Kd.R_mono (Kd.R_far (p := ⟨gb373, 7, none⟩) (Kd.R_far (p := ⟨gb373, 6, none⟩) (Kd.R_far (p := ⟨gb373, 5, none⟩) (Kd.R_far (p := ⟨gb373, 4, none⟩) (Kd.R_far (p := ⟨gb373, 3, none⟩) (Kd.R_far (p := ⟨gb373, 2, none⟩) (Kd.R_far (p := ⟨gb373, 1, none⟩) (Kd.R_far (p := ⟨gb373, 0, none⟩) (Kd.R_mono HO368.out (fun k_ hk => (⟨hk, hk.2⟩ : _ ∧ k_ ≠ gb373))) (fun _ hk => hk.2) (.int .i64 t360)) (fun _ hk => hk.2) (.int .i64 t361)) (fun _ hk => hk.2) (.int .i64 t362)) (fun _ hk => hk.2) (.int .i64 t363)) (fun _ hk => hk.2) (.int .i64 t364)) (fun _ hk => hk.2) (.int .i64 t365)) (fun _ hk => hk.2) (.slice Ao40 t366.length co40)) (fun _ hk => hk.2) (.slice Ao41 t369.length co41)) (fun _ h_ => h_.1))) hb); replace HO371 := AM (Kd.R_below (by (with_reducible repeat (first | apply Kd.R_alloc | apply Kd.R_drewN | apply Kd.R_drew)); exact (Kd.R_mono (Kd.R_far (p := ⟨gb373, 7, none⟩) (Kd.R_far (p := ⟨gb373, 6, none⟩) (Kd.R_far (p := ⟨gb373, 5, none⟩) (Kd.R_far (p := ⟨gb373, 4, none⟩) (Kd.R_far (p := ⟨gb373, 3, none⟩) (Kd.R_far (p := ⟨gb373, 2, none⟩) (Kd.R_far (p := ⟨gb373, 1, none⟩) (Kd.R_far (p := ⟨gb373, 0, none⟩) (Kd.R_mono HO371.out (fun k_ hk => (⟨hk, hk.2⟩ : _ ∧ k_ ≠ gb373))) (fun _ hk => hk.2) (.int .i64 t360)) (fun _ hk => hk.2) (.int .i64 t361)) (fun _ hk => hk.2) (.int .i64 t362)) (fun _ hk => hk.2) (.int .i64 t363)) (fun _ hk => hk.2) (.int .i64 t364)) (fun _ hk => hk.2) (.int .i64 t365)) (fun _ hk => hk.2) (.slice Ao40 t366.length co40)) (fun _ hk => hk.2) (.slice Ao41 t369.length co41)) (fun _ h_ => h_.1))) hb); replace BK331 := ZV #[.slice A0_0 l0_0.length c0_0, .slice A0_1 l0_1.length c0_1] BK331 hb; replace BK352 := ZV #[.int .i64 t339, .int .i64 t340, .int .i64 t341, .int .i64 t342, .int .i64 t343, .int .i64 t344, .slice Ao24 t345.length co24, .slice Ao25 t348.length co25] BK352 hb; replace BK359 := ZV #[.slice Ao29 t353.length co29, .slice Ao33 t356.length co33] BK359 hb; replace BK373 := ZV #[.int .i64 t360, .int .i64 t361, .int .i64 t362, .int .i64 t363, .int .i64 t364, .int .i64 t365, .slice Ao40 t366.length co40, .slice Ao41 t369.length co41] BK373 hb; replace HB := ZT HB hb; replace HX := ZT HX hb; clear hb))
 go_meet
 case rel => exact ⟨_, ((t372 != t351)), (by first | rfl | (simp; done) | (simp [*]; done)), H', ⟨by first | omega | exact Nat.le_refl _⟩, ⟨by (with_reducible repeat (first | apply Kd.V_alloc | apply Kd.V_drewN | apply Kd.V_drew)); exact Kd.V_mono HO347.out (fun _ hk => ⟨hk.1.1.1.1.1.2, ⟨hk.1.1.1.1.2, ⟨hk.1.1.2, ⟨hk.1.2, ⟨hk.1.1.1.1.1.1.1.2, ⟨hk.1.1.1.1.1.1.2, ⟨hk.1.1.1.2, hk.2⟩⟩⟩⟩⟩⟩⟩)⟩, ⟨by (with_reducible repeat (first | apply Kd.V_alloc | apply Kd.V_drewN | apply Kd.V_drew)); exact Kd.V_mono HO350.out (fun _ hk => ⟨hk.1.1.1.1.1.2, ⟨hk.1.1.1.1.2, ⟨hk.1.1.2, ⟨hk.1.2, ⟨hk.1.1.1.1.1.1.1.2, ⟨hk.1.1.1.1.1.1.2, ⟨hk.1.1.1.2, hk.2⟩⟩⟩⟩⟩⟩⟩)⟩, ⟨ZR (Kd.R_mono HO355.out (fun _ hk => trivial))⟩, ⟨by (with_reducible repeat (first | apply Kd.R_alloc | apply Kd.R_drewN | apply Kd.R_drew)); exact Kd.R_mono HO358.out (fun _ hk => ⟨hk.1.1.2, ⟨hk.1.2, ⟨hk.1.1.1.2, hk.2⟩⟩⟩)⟩, ⟨by (with_reducible repeat (first | apply Kd.R_alloc | apply Kd.R_drewN | apply Kd.R_drew)); exact Kd.R_mono HO368.out (fun _ hk => ⟨hk.1.1.2, ⟨hk.1.1.1.1, ⟨hk.1.2, hk.2⟩⟩⟩)⟩, ⟨by (with_reducible repeat (first | apply Kd.R_alloc | apply Kd.R_drewN | apply Kd.R_drew)); exact Kd.R_mono HO371.out (fun _ hk => ⟨hk.1.1.2, ⟨hk.1.1.1.1, ⟨hk.1.2, hk.2⟩⟩⟩)⟩, ⟨ZK BK331.out⟩, ⟨ZK BK352.out⟩, ⟨ZK BK359.out⟩, ⟨ZK BK373.out⟩, ⟨ZB⟩, ⟨by repeat (first | (with_reducible first | exact HX.out | apply below_alloc | apply pw_below_drewN | apply below_drew1 | refine below_set ?_ (Aside0.out (by with_reducible assumption))) | exact HX.out)⟩⟩)
 ·(
 replace c43 := Bool.eq_false_iff.mpr c43
 subst c43
 have H1 := H; rw [if_neg ZFT] at H1
 clear H
 have H := H1
 clear H1
 have H' := AM H
 clear H
 have hnb52 := NB373_331.out
 have hnc52 := NB331_373.out
 have hnb53 := NB373_352.out
 have hnc53 := NB352_373.out
 have hnb54 := NB373_359.out
 have hnc54 := NB359_373.out
 have hcz55 := ZC8 w35 BK373
 have hfz55 := ZF8 BK373
 have hnb56 := NB352_331.out
 have hnc56 := NB331_352.out
 have hnb57 := NB352_359.out
 have hnc57 := NB359_352.out
 have hcz58 := ZC8 w35 BK352
 have hfz58 := ZF8 BK352
 go_wp2_with (first | ((with_reducible refine gate_callee (f := 31) rfl ?_); refine ZGL (some 38) Try.func31 #[.agg #[.int .i64 t360, .int .i64 t361, .int .i64 t362, .int .i64 t363, .int .i64 t364, .int .i64 t365, .slice Ao40 t366.length co40, .slice Ao41 t369.length co41], .agg #[.int .i64 t339, .int .i64 t340, .int .i64 t341, .int .i64 t342, .int .i64 t343, .int .i64 t344, .slice Ao24 t345.length co24, .slice Ao25 t348.length co25]] ?_; (with_reducible refine (laws_eqStep.calls k t360 t361 t362 t363 t364 t365 _ _ t366 _ _ t369 t339 t340 t341 t342 t343 t344 _ _ t345 _ _ t348 false _ ?side1 ?side2 ?side3 ?side4 ?side5 ?side6 ?side7 ?side8 A42.out).mono ?_); (case side1 => refine (Kd.R_reads' (e := 50) (base := w.heap.size) (ok := fun k_ => ((((some k_ ≠ (.slice Ao41 t369.length co41 : Value).ownBlock ∧ some k_ ≠ (.slice Ao19 t336.length co19 : Value).ownBlock) ∧ some k_ ≠ (.slice Ao33 t356.length co33 : Value).ownBlock) ∧ k_ ≠ gb352) ∧ k_ ≠ gb373)) (n := t366.length) (c := co40) ?_).2.2; exact (by (with_reducible repeat (first | apply Kd.R_alloc | apply Kd.R_drewN | apply Kd.R_drew)); exact (Kd.R_mono (Kd.R_far (p := ⟨gb373, 7, none⟩) (Kd.R_far (p := ⟨gb373, 6, none⟩) (Kd.R_far (p := ⟨gb373, 5, none⟩) (Kd.R_far (p := ⟨gb373, 4, none⟩) (Kd.R_far (p := ⟨gb373, 3, none⟩) (Kd.R_far (p := ⟨gb373, 2, none⟩) (Kd.R_far (p := ⟨gb373, 1, none⟩) (Kd.R_far (p := ⟨gb373, 0, none⟩) (Kd.R_mono HO368.out (fun k_ hk => (⟨hk, hk.2⟩ : _ ∧ k_ ≠ gb373))) (fun _ hk => hk.2) (.int .i64 t360)) (fun _ hk => hk.2) (.int .i64 t361)) (fun _ hk => hk.2) (.int .i64 t362)) (fun _ hk => hk.2) (.int .i64 t363)) (fun _ hk => hk.2) (.int .i64 t364)) (fun _ hk => hk.2) (.int .i64 t365)) (fun _ hk => hk.2) (.slice Ao40 t366.length co40)) (fun _ hk => hk.2) (.slice Ao41 t369.length co41)) (fun _ h_ => h_.1)))); (case side2 => exact (Kd.R_reads' HO368.out).2.1); (case side3 => refine (Kd.R_reads' (e := 50) (base := w.heap.size) (ok := fun k_ => ((((some k_ ≠ (.slice Ao40 t366.length co40 : Value).ownBlock ∧ some k_ ≠ (.slice Ao19 t336.length co19 : Value).ownBlock) ∧ some k_ ≠ (.slice Ao33 t356.length co33 : Value).ownBlock) ∧ k_ ≠ gb352) ∧ k_ ≠ gb373)) (n := t369.length) (c := co41) ?_).2.2; exact (by (with_reducible repeat (first | apply Kd.R_alloc | apply Kd.R_drewN | apply Kd.R_drew)); exact (Kd.R_mono (Kd.R_far (p := ⟨gb373, 7, none⟩) (Kd.R_far (p := ⟨gb373, 6, none⟩) (Kd.R_far (p := ⟨gb373, 5, none⟩) (Kd.R_far (p := ⟨gb373, 4, none⟩) (Kd.R_far (p := ⟨gb373, 3, none⟩) (Kd.R_far (p := ⟨gb373, 2, none⟩) (Kd.R_far (p := ⟨gb373, 1, none⟩) (Kd.R_far (p := ⟨gb373, 0, none⟩) (Kd.R_mono HO371.out (fun k_ hk => (⟨hk, hk.2⟩ : _ ∧ k_ ≠ gb373))) (fun _ hk => hk.2) (.int .i64 t360)) (fun _ hk => hk.2) (.int .i64 t361)) (fun _ hk => hk.2) (.int .i64 t362)) (fun _ hk => hk.2) (.int .i64 t363)) (fun _ hk => hk.2) (.int .i64 t364)) (fun _ hk => hk.2) (.int .i64 t365)) (fun _ hk => hk.2) (.slice Ao40 t366.length co40)) (fun _ hk => hk.2) (.slice Ao41 t369.length co41)) (fun _ h_ => h_.1)))); (case side4 => exact (Kd.R_reads' HO371.out).2.1); (case side5 => refine (Kd.V_reads' (e := 50) (base := w.heap.size) (ok := fun k_ => ((((((((some k_ ≠ (.slice Ao18 t333.length co18 : Value).ownBlock ∧ k_ ≠ gb331) ∧ k_ ≠ gb352) ∧ some k_ ≠ (.slice Ao29 t353.length co29 : Value).ownBlock) ∧ some k_ ≠ (.slice Ao33 t356.length co33 : Value).ownBlock) ∧ k_ ≠ gb359) ∧ some k_ ≠ (.slice Ao40 t366.length co40 : Value).ownBlock) ∧ some k_ ≠ (.slice Ao41 t369.length co41 : Value).ownBlock) ∧ k_ ≠ gb373)) (n := t345.length) (c := co24) ?_).2.2; exact (by (with_reducible repeat (first | apply Kd.V_alloc | apply Kd.V_drewN | apply Kd.V_drew)); exact (Kd.V_mono (Kd.V_far (p := ⟨gb373, 7, none⟩) (Kd.V_far (p := ⟨gb373, 6, none⟩) (Kd.V_far (p := ⟨gb373, 5, none⟩) (Kd.V_far (p := ⟨gb373, 4, none⟩) (Kd.V_far (p := ⟨gb373, 3, none⟩) (Kd.V_far (p := ⟨gb373, 2, none⟩) (Kd.V_far (p := ⟨gb373, 1, none⟩) (Kd.V_far (p := ⟨gb373, 0, none⟩) (Kd.V_mono HO347.out (fun k_ hk => (⟨hk, hk.2⟩ : _ ∧ k_ ≠ gb373))) (fun _ hk => hk.2) (.int .i64 t360)) (fun _ hk => hk.2) (.int .i64 t361)) (fun _ hk => hk.2) (.int .i64 t362)) (fun _ hk => hk.2) (.int .i64 t363)) (fun _ hk => hk.2) (.int .i64 t364)) (fun _ hk => hk.2) (.int .i64 t365)) (fun _ hk => hk.2) (.slice Ao40 t366.length co40)) (fun _ hk => hk.2) (.slice Ao41 t369.length co41)) (fun _ h_ => h_.1)))); (case side6 => exact (Kd.V_reads' HO347.out).2.1); (case side7 => refine (Kd.V_reads' (e := 50) (base := w.heap.size) (ok := fun k_ => ((((((((some k_ ≠ (.slice Ao18 t333.length co18 : Value).ownBlock ∧ k_ ≠ gb331) ∧ k_ ≠ gb352) ∧ some k_ ≠ (.slice Ao29 t353.length co29 : Value).ownBlock) ∧ some k_ ≠ (.slice Ao33 t356.length co33 : Value).ownBlock) ∧ k_ ≠ gb359) ∧ some k_ ≠ (.slice Ao40 t366.length co40 : Value).ownBlock) ∧ some k_ ≠ (.slice Ao41 t369.length co41 : Value).ownBlock) ∧ k_ ≠ gb373)) (n := t348.length) (c := co25) ?_).2.2; exact (by (with_reducible repeat (first | apply Kd.V_alloc | apply Kd.V_drewN | apply Kd.V_drew)); exact (Kd.V_mono (Kd.V_far (p := ⟨gb373, 7, none⟩) (Kd.V_far (p := ⟨gb373, 6, none⟩) (Kd.V_far (p := ⟨gb373, 5, none⟩) (Kd.V_far (p := ⟨gb373, 4, none⟩) (Kd.V_far (p := ⟨gb373, 3, none⟩) (Kd.V_far (p := ⟨gb373, 2, none⟩) (Kd.V_far (p := ⟨gb373, 1, none⟩) (Kd.V_far (p := ⟨gb373, 0, none⟩) (Kd.V_mono HO350.out (fun k_ hk => (⟨hk, hk.2⟩ : _ ∧ k_ ≠ gb373))) (fun _ hk => hk.2) (.int .i64 t360)) (fun _ hk => hk.2) (.int .i64 t361)) (fun _ hk => hk.2) (.int .i64 t362)) (fun _ hk => hk.2) (.int .i64 t363)) (fun _ hk => hk.2) (.int .i64 t364)) (fun _ hk => hk.2) (.int .i64 t365)) (fun _ hk => hk.2) (.slice Ao40 t366.length co40)) (fun _ hk => hk.2) (.slice Ao41 t369.length co41)) (fun _ h_ => h_.1)))); (case side8 => exact (Kd.V_reads' HO350.out).2.1); rintro e w59 ⟨rfl, hb⟩; refine ⟨_, rfl, ?_⟩; replace HO335 := AM (Kd.R_below (ZR ((Kd.R_mono (Kd.R_far (p := ⟨gb373, 7, none⟩) (Kd.R_far (p := ⟨gb373, 6, none⟩) (Kd.R_far (p := ⟨gb373, 5, none⟩) (Kd.R_far (p := ⟨gb373, 4, none⟩) (Kd.R_far (p := ⟨gb373, 3, none⟩) (Kd.R_far (p := ⟨gb373, 2, none⟩) (Kd.R_far (p := ⟨gb373, 1, none⟩) (Kd.R_far (p := ⟨gb373, 0, none⟩) (Kd.R_types HO335.out BK373.out (by decide)) (fun _ hk => hk.2) (.int .i64 t360)) (fun _ hk => hk.2) (.int .i64 t361)) (fun _ hk => hk.2) (.int .i64 t362)) (fun _ hk => hk.2) (.int .i64 t363)) (fun _ hk => hk.2) (.int .i64 t364)) (fun _ hk => hk.2) (.int .i64 t365)) (fun _ hk => hk.2) (.slice Ao40 t366.length co40)) (fun _ hk => hk.2) (.slice Ao41 t369.length co41)) (fun _ h_ => h_.1)))) hb); replace HO338 := AM (Kd.R_below (by (with_reducible repeat (first | apply Kd.R_alloc | apply Kd.R_drewN | apply Kd.R_drew)); exact (Kd.R_mono (Kd.R_far (p := ⟨gb373, 7, none⟩) (Kd.R_far (p := ⟨gb373, 6, none⟩) (Kd.R_far (p := ⟨gb373, 5, none⟩) (Kd.R_far (p := ⟨gb373, 4, none⟩) (Kd.R_far (p := ⟨gb373, 3, none⟩) (Kd.R_far (p := ⟨gb373, 2, none⟩) (Kd.R_far (p := ⟨gb373, 1, none⟩) (Kd.R_far (p := ⟨gb373, 0, none⟩) (Kd.R_mono HO338.out (fun k_ hk => (⟨hk, hk.2⟩ : _ ∧ k_ ≠ gb373))) (fun _ hk => hk.2) (.int .i64 t360)) (fun _ hk => hk.2) (.int .i64 t361)) (fun _ hk => hk.2) (.int .i64 t362)) (fun _ hk => hk.2) (.int .i64 t363)) (fun _ hk => hk.2) (.int .i64 t364)) (fun _ hk => hk.2) (.int .i64 t365)) (fun _ hk => hk.2) (.slice Ao40 t366.length co40)) (fun _ hk => hk.2) (.slice Ao41 t369.length co41)) (fun _ h_ => h_.1))) hb); replace HO347 := AM (Kd.V_below (by (with_reducible repeat (first | apply Kd.V_alloc | apply Kd.V_drewN | apply Kd.V_drew)); exact (Kd.V_mono (Kd.V_far (p := ⟨gb373, 7, none⟩) (Kd.V_far (p := ⟨gb373, 6, none⟩) (Kd.V_far (p := ⟨gb373, 5, none⟩) (Kd.V_far (p := ⟨gb373, 4, none⟩) (Kd.V_far (p := ⟨gb373, 3, none⟩) (Kd.V_far (p := ⟨gb373, 2, none⟩) (Kd.V_far (p := ⟨gb373, 1, none⟩) (Kd.V_far (p := ⟨gb373, 0, none⟩) (Kd.V_mono HO347.out (fun k_ hk => (⟨hk, hk.2⟩ : _ ∧ k_ ≠ gb373))) (fun _ hk => hk.2) (.int .i64 t360)) (fun _ hk => hk.2) (.int .i64 t361)) (fun _ hk => hk.2) (.int .i64 t362)) (fun _ hk => hk.2) (.int .i64 t363)) (fun _ hk => hk.2) (.int .i64 t364)) (fun _ hk => hk.2) (.int .i64 t365)) (fun _ hk => hk.2) (.slice Ao40 t366.length co40)) (fun _ hk => hk.2) (.slice Ao41 t369.length co41)) (fun _ h_ => h_.1))) hb); replace HO350 := AM (Kd.V_below (by (with_reducible repeat (first | apply Kd.V_alloc | apply Kd.V_drewN | apply Kd.V_drew)); exact (Kd.V_mono (Kd.V_far (p := ⟨gb373, 7, none⟩) (Kd.V_far (p := ⟨gb373, 6, none⟩) (Kd.V_far (p := ⟨gb373, 5, none⟩) (Kd.V_far (p := ⟨gb373, 4, none⟩) (Kd.V_far (p := ⟨gb373, 3, none⟩) (Kd.V_far (p := ⟨gb373, 2, none⟩) (Kd.V_far (p := ⟨gb373, 1, none⟩) (Kd.V_far (p := ⟨gb373, 0, none⟩) (Kd.V_mono HO350.out (fun k_ hk => (⟨hk, hk.2⟩ : _ ∧ k_ ≠ gb373))) (fun _ hk => hk.2) (.int .i64 t360)) (fun _ hk => hk.2) (.int .i64 t361)) (fun _ hk => hk.2) (.int .i64 t362)) (fun _ hk => hk.2) (.int .i64 t363)) (fun _ hk => hk.2) (.int .i64 t364)) (fun _ hk => hk.2) (.int .i64 t365)) (fun _ hk => hk.2) (.slice Ao40 t366.length co40)) (fun _ hk => hk.2) (.slice Ao41 t369.length co41)) (fun _ h_ => h_.1))) hb); replace HO355 := AM (Kd.R_below (ZR ((Kd.R_mono (Kd.R_far (p := ⟨gb373, 7, none⟩) (Kd.R_far (p := ⟨gb373, 6, none⟩) (Kd.R_far (p := ⟨gb373, 5, none⟩) (Kd.R_far (p := ⟨gb373, 4, none⟩) (Kd.R_far (p := ⟨gb373, 3, none⟩) (Kd.R_far (p := ⟨gb373, 2, none⟩) (Kd.R_far (p := ⟨gb373, 1, none⟩) (Kd.R_far (p := ⟨gb373, 0, none⟩) (Kd.R_types HO355.out BK373.out (by decide)) (fun _ hk => hk.2) (.int .i64 t360)) (fun _ hk => hk.2) (.int .i64 t361)) (fun _ hk => hk.2) (.int .i64 t362)) (fun _ hk => hk.2) (.int .i64 t363)) (fun _ hk => hk.2) (.int .i64 t364)) (fun _ hk => hk.2) (.int .i64 t365)) (fun _ hk => hk.2) (.slice Ao40 t366.length co40)) (fun _ hk => hk.2) (.slice Ao41 t369.length co41)) (fun _ h_ => h_.1)))) hb); replace HO358 := AM (Kd.R_below (by (with_reducible repeat (first | apply Kd.R_alloc | apply Kd.R_drewN | apply Kd.R_drew)); exact (Kd.R_mono (Kd.R_far (p := ⟨gb373, 7, none⟩) (Kd.R_far (p := ⟨gb373, 6, none⟩) (Kd.R_far (p := ⟨gb373, 5, none⟩) (Kd.R_far (p := ⟨gb373, 4, none⟩) (Kd.R_far (p := ⟨gb373, 3, none⟩) (Kd.R_far (p := ⟨gb373, 2, none⟩) (Kd.R_far (p := ⟨gb373, 1, none⟩) (Kd.R_far (p := ⟨gb373, 0, none⟩) (Kd.R_mono HO358.out (fun k_ hk => (⟨hk, hk.2⟩ : _ ∧ k_ ≠ gb373))) (fun _ hk => hk.2) (.int .i64 t360)) (fun _ hk => hk.2) (.int .i64 t361)) (fun _ hk => hk.2) (.int .i64 t362)) (fun _ hk => hk.2) (.int .i64 t363)) (fun _ hk => hk.2) (.int .i64 t364)) (fun _ hk => hk.2) (.int .i64 t365)) (fun _ hk => hk.2) (.slice Ao40 t366.length co40)) (fun _ hk => hk.2) (.slice Ao41 t369.length co41)) (fun _ h_ => h_.1))) hb); replace HO368 := AM (Kd.R_below (by (with_reducible repeat (first | apply Kd.R_alloc | apply Kd.R_drewN | apply Kd.R_drew)); exact (Kd.R_mono (Kd.R_far (p := ⟨gb373, 7, none⟩) (Kd.R_far (p := ⟨gb373, 6, none⟩) (Kd.R_far (p := ⟨gb373, 5, none⟩) (Kd.R_far (p := ⟨gb373, 4, none⟩) (Kd.R_far (p := ⟨gb373, 3, none⟩) (Kd.R_far (p := ⟨gb373, 2, none⟩) (Kd.R_far (p := ⟨gb373, 1, none⟩) (Kd.R_far (p := ⟨gb373, 0, none⟩) (Kd.R_mono HO368.out (fun k_ hk => (⟨hk, hk.2⟩ : _ ∧ k_ ≠ gb373))) (fun _ hk => hk.2) (.int .i64 t360)) (fun _ hk => hk.2) (.int .i64 t361)) (fun _ hk => hk.2) (.int .i64 t362)) (fun _ hk => hk.2) (.int .i64 t363)) (fun _ hk => hk.2) (.int .i64 t364)) (fun _ hk => hk.2) (.int .i64 t365)) (fun _ hk => hk.2) (.slice Ao40 t366.length co40)) (fun _ hk => hk.2) (.slice Ao41 t369.length co41)) (fun _ h_ => h_.1))) hb); replace HO371 := AM (Kd.R_below (by (with_reducible repeat (first | apply Kd.R_alloc | apply Kd.R_drewN | apply Kd.R_drew)); exact (Kd.R_mono (Kd.R_far (p := ⟨gb373, 7, none⟩) (Kd.R_far (p := ⟨gb373, 6, none⟩) (Kd.R_far (p := ⟨gb373, 5, none⟩) (Kd.R_far (p := ⟨gb373, 4, none⟩) (Kd.R_far (p := ⟨gb373, 3, none⟩) (Kd.R_far (p := ⟨gb373, 2, none⟩) (Kd.R_far (p := ⟨gb373, 1, none⟩) (Kd.R_far (p := ⟨gb373, 0, none⟩) (Kd.R_mono HO371.out (fun k_ hk => (⟨hk, hk.2⟩ : _ ∧ k_ ≠ gb373))) (fun _ hk => hk.2) (.int .i64 t360)) (fun _ hk => hk.2) (.int .i64 t361)) (fun _ hk => hk.2) (.int .i64 t362)) (fun _ hk => hk.2) (.int .i64 t363)) (fun _ hk => hk.2) (.int .i64 t364)) (fun _ hk => hk.2) (.int .i64 t365)) (fun _ hk => hk.2) (.slice Ao40 t366.length co40)) (fun _ hk => hk.2) (.slice Ao41 t369.length co41)) (fun _ h_ => h_.1))) hb); replace BK331 := ZV #[.slice A0_0 l0_0.length c0_0, .slice A0_1 l0_1.length c0_1] BK331 hb; replace BK352 := ZV #[.int .i64 t339, .int .i64 t340, .int .i64 t341, .int .i64 t342, .int .i64 t343, .int .i64 t344, .slice Ao24 t345.length co24, .slice Ao25 t348.length co25] BK352 hb; replace BK359 := ZV #[.slice Ao29 t353.length co29, .slice Ao33 t356.length co33] BK359 hb; replace BK373 := ZV #[.int .i64 t360, .int .i64 t361, .int .i64 t362, .int .i64 t363, .int .i64 t364, .int .i64 t365, .slice Ao40 t366.length co40, .slice Ao41 t369.length co41] BK373 hb; replace HB := ZT HB hb; replace HX := ZT HX hb; clear hb))
 go_meet
 case rel => exact ⟨_, (true), (by first | rfl | (simp; done) | (simp [*]; done)), H', ⟨by first | omega | exact Nat.le_refl _⟩, ⟨by (with_reducible repeat (first | apply Kd.V_alloc | apply Kd.V_drewN | apply Kd.V_drew)); exact Kd.V_mono HO347.out (fun _ hk => ⟨hk.1.1.1.1.1.2, ⟨hk.1.1.1.1.2, ⟨hk.1.1.2, ⟨hk.1.2, ⟨hk.1.1.1.1.1.1.1.2, ⟨hk.1.1.1.1.1.1.2, ⟨hk.1.1.1.2, hk.2⟩⟩⟩⟩⟩⟩⟩)⟩, ⟨by (with_reducible repeat (first | apply Kd.V_alloc | apply Kd.V_drewN | apply Kd.V_drew)); exact Kd.V_mono HO350.out (fun _ hk => ⟨hk.1.1.1.1.1.2, ⟨hk.1.1.1.1.2, ⟨hk.1.1.2, ⟨hk.1.2, ⟨hk.1.1.1.1.1.1.1.2, ⟨hk.1.1.1.1.1.1.2, ⟨hk.1.1.1.2, hk.2⟩⟩⟩⟩⟩⟩⟩)⟩, ⟨ZR (Kd.R_mono HO355.out (fun _ hk => trivial))⟩, ⟨by (with_reducible repeat (first | apply Kd.R_alloc | apply Kd.R_drewN | apply Kd.R_drew)); exact Kd.R_mono HO358.out (fun _ hk => ⟨hk.1.1.2, ⟨hk.1.2, ⟨hk.1.1.1.2, hk.2⟩⟩⟩)⟩, ⟨by (with_reducible repeat (first | apply Kd.R_alloc | apply Kd.R_drewN | apply Kd.R_drew)); exact Kd.R_mono HO368.out (fun _ hk => ⟨hk.1.1.2, ⟨hk.1.1.1.1, ⟨hk.1.2, hk.2⟩⟩⟩)⟩, ⟨by (with_reducible repeat (first | apply Kd.R_alloc | apply Kd.R_drewN | apply Kd.R_drew)); exact Kd.R_mono HO371.out (fun _ hk => ⟨hk.1.1.2, ⟨hk.1.1.1.1, ⟨hk.1.2, hk.2⟩⟩⟩)⟩, ⟨ZK BK331.out⟩, ⟨ZK BK352.out⟩, ⟨ZK BK359.out⟩, ⟨ZK BK373.out⟩, ⟨ZB⟩, ⟨by repeat (first | (with_reducible first | exact HX.out | apply below_alloc | apply pw_below_drewN | apply below_drew1 | refine below_set ?_ (Aside0.out (by with_reducible assumption))) | exact HX.out)⟩⟩))
 case rest => (
 clear HC12
 try clear c1
 try clear c2
 try clear p2
 try clear c3
 try clear c4
 try clear c4b0
 try clear c5
 try clear c7
 try clear c8
 try clear c10
 try clear c22
 try clear c29
 try clear c30
 try clear c31
 try clear c36
 try clear c37
 try clear c38
 try clear c43
 try clear c44
 try clear c45
 try clear c46
 try clear c48
 try clear c49
 try clear c52
 try clear c53
 try clear c54
 try clear c56
 try clear c57
 try clear hcz14
 try clear hcz16
 try clear hcz23
 try clear hcz26
 try clear hcz32
 try clear hcz39
 try clear hcz47
 try clear hcz50
 try clear hcz55
 try clear hcz58
 try clear hcz6
 try clear hfz14
 try clear hfz16
 try clear hfz23
 try clear hfz26
 try clear hfz32
 try clear hfz39
 try clear hfz47
 try clear hfz50
 try clear hfz55
 try clear hfz58
 try clear hfz6
 obtain ⟨kq, x44_11, rfl, HA, HJ11, HO_353006, HO_353007, HO_360000, HO_360001, HO_374006, HO_374007, BK331, BK352, BK359, BK373, HB, HX⟩ := hcut
 cases kq with
 | zero => exact absurd HA.out (by simp [laws_FnExactProgAt.j0])
 | succ kj11 =>
  have H := HA.out
  clear HA
  simp only [laws_FnExactProgAt.j0] at H
  by_cases c60 : x44_11 = true
  ·(
  subst c60
  have H1 := H; rw [if_pos rfl] at H1
  clear H
  have H := H1
  clear H1
  exact absurd H (by simp))
  ·(
  replace c60 := Bool.eq_false_iff.mpr c60
  subst c60
  have H1 := H; rw [if_neg ZFT] at H1
  clear H
  have H := H1
  clear H1
  obtain ⟨⟨t375, t378⟩, A61, H⟩ := ZOB H; try dsimp only at H
  obtain ⟨t381, A62, H⟩ := ZOB H; try dsimp only at H
  by_cases c63 : t381 = true
  ·(
  subst c63
  have H1 := H; rw [if_pos rfl] at H1
  clear H
  have H := H1
  clear H1
  obtain ⟨⟨t382, t383⟩, A64, H⟩ := ZOB H; try dsimp only at H
  have HC65 := AM H
  clear H
  try go_wp2
  replace HO_353006 := AM (Kd.V_drew HO_353006.out)
  replace HO_353007 := AM (Kd.V_drew HO_353007.out)
  replace HO_360000 := AM (Kd.R_drew HO_360000.out)
  replace HO_360001 := AM (Kd.R_drew HO_360001.out)
  replace HO_374006 := AM (Kd.R_drew HO_374006.out)
  replace HO_374007 := AM (Kd.R_drew HO_374007.out)
  replace BK331 := AM (blk_drew BK331.out)
  replace BK352 := AM (blk_drew BK352.out)
  replace BK359 := AM (blk_drew BK359.out)
  replace BK373 := AM (blk_drew BK373.out)
  replace HB := AM (below_drew1 HB.out); replace HX := AM (below_drew1 HX.out)
  refine start_ (n := 5) (S := fun w' => w'.cell? ⟨gb359, 0, none⟩ = some (.slice Ao29 t353.length co29) ∧ w'.cell? ⟨gb359, 1, none⟩ = some (.slice Ao33 t356.length co33) ∧ w'.cell? ⟨gb331, 0, none⟩ = some (.slice A0_0 l0_0.length c0_0) ∧ w'.cell? ⟨gb331, 1, none⟩ = some (.slice A0_1 l0_1.length c0_1)) (ds := []) #[F,F,F,F,F] (by kernel_rfl) rfl rfl ⟨ZA BK359 0, ZA BK359 1, ZA BK331 0, ZA BK331 1⟩ (fun hHeld => ?_)
  generalize wc.drew = w66 at HX HO_353006 HO_353007 HO_360000 HO_360001 HO_374006 HO_374007 BK331 BK352 BK359 BK373 HB hHeld ⊢
  refine take_ (i := 0) (N := some 45) (v := ?_) (a' := ?_) #[T,F,F,F,F] rfl rfl (by kernel_rfl) (fun _ _ _ h => h) (Or.inl ⟨by rfl, ?_⟩) hHeld ?_ ?_
  rotate_left
  ·(
  rintro w' ⟨s0, s1, s2, s3⟩
  go_simp
  with_reducible rfl)
  rotate_left
  ·(
  simp only [Act.put, List.setIfInBounds_toArray, List.set_cons_zero, List.set_cons_succ, i64_w, i32_w]
  rfl)
  refine take_ (i := 1) (N := some 46) (v := ?_) (a' := ?_) #[T,T,F,F,F] rfl rfl (by kernel_rfl) (fun _ _ _ h => h) (Or.inl ⟨by rfl, ?_⟩) hHeld ?_ ?_
  rotate_left
  ·(
  rintro w' ⟨s0, s1, s2, s3⟩
  go_simp
  with_reducible rfl)
  rotate_left
  ·(
  simp only [Act.put, List.setIfInBounds_toArray, List.set_cons_zero, List.set_cons_succ, i64_w, i32_w]
  rfl)
  refine one_ (i := 2) (N := some 47) #[T,T,T,F,F] rfl rfl (by kernel_rfl) (by decide) (fun K hK => ?_)
  refine ZGO Try.func10 #[.agg #[.slice A0_0 l0_0.length c0_0, .slice A0_1 l0_1.length c0_1]] ?_
  with_reducible refine (laws_toProg.calls kj11 _ _ l0_0 _ _ l0_1 t375 t378 _ ?side1 ?side2 ?side3 ?side4 A61.out).mono ?_
  (case side1 => exact ZQ (Kd.C_below HR0_0.out HB.out))
  (case side2 => exact HC0_0.out)
  (case side3 => exact ZQ (Kd.C_below HR0_1.out HB.out))
  (case side4 => exact HC0_1.out)
  rintro e w67 ⟨v376, v379, rfl, ho0, ho1, hb⟩
  refine ⟨_, rfl, ?_⟩
  have HO377 := AM (Kd.R_lower (Kd.R_new' ho0 (Kd.R_lt (ZR HO_360000.out))) (below_size (ZB)))
  have HO380 := AM (Kd.R_lower (Kd.R_newB (Kd.R_newB (Kd.R_new' (Kd.R_new' (Kd.R_new' ho1 (Kd.R_lt (ZR HO_360001.out))) (Kd.R_lt (ZR HO_374006.out))) (Kd.R_lt (ZR HO_374007.out))) (g := gb352) (o := .cells #[.int .i64 t339, .int .i64 t340, .int .i64 t341, .int .i64 t342, .int .i64 t343, .int .i64 t344, .slice Ao24 t345.length co24, .slice Ao25 t348.length co25] 50 (0, 0)) (ZK BK352.out)) (g := gb373) (o := .cells #[.int .i64 t360, .int .i64 t361, .int .i64 t362, .int .i64 t363, .int .i64 t364, .int .i64 t365, .slice Ao40 t366.length co40, .slice Ao41 t369.length co41] 50 (0, 0)) (ZK BK373.out)) (below_size (ZB)))
  replace HO_353006 := AM (Kd.V_mono (Kd.V_told (Kd.V_told (Kd.V_old (ZRV HO_353006.out) hb) (Kd.R_base ho0)) (Kd.R_base ho1)) (fun _ h_ => h_.1))
  replace HO_353007 := AM (Kd.V_mono (Kd.V_told (Kd.V_told (Kd.V_old (ZRV HO_353007.out) hb) (Kd.R_base ho0)) (Kd.R_base ho1)) (fun _ h_ => h_.1))
  replace HO_360000 := AM (Kd.R_elder' (ZR HO_360000.out) (Kd.R_base ho0) hb)
  replace HO_360001 := AM (Kd.R_elder' (ZR HO_360001.out) (Kd.R_base ho1) hb)
  replace HO_374006 := AM (Kd.R_elder' (ZR HO_374006.out) (Kd.R_base ho1) hb)
  replace HO_374007 := AM (Kd.R_elder' (ZR HO_374007.out) (Kd.R_base ho1) hb)
  replace BK331 := ZW BK331 hb
  replace BK352 := ZW BK352 hb
  replace BK359 := ZW BK359 hb
  replace BK373 := ZW BK373 hb
  replace HB := ZT HB hb; replace HX := ZT HX hb
  (try clear hb)
  (try clear hb2)
  (try clear hk)
  (try clear hi)
  (try clear ho0)
  (try clear ho1)
  obtain ⟨Ao68, co68, eo68⟩ := Kd.R_slice HO377.out
  (first | subst eo68 | (injection eo68 with f1_ f2_ f3_; have f4_ := f1_.symm; have f5_ := f3_.symm; clear f1_ f2_ f3_; subst f4_; subst f5_))
  obtain ⟨Ao69, co69, eo69⟩ := Kd.R_slice HO380.out
  (first | subst eo69 | (injection eo69 with f1_ f2_ f3_; have f4_ := f1_.symm; have f5_ := f3_.symm; clear f1_ f2_ f3_; subst f4_; subst f5_))
  refine hK.out _ _ ⟨ZA BK359 0, ZA BK359 1, ZA BK331 0, ZA BK331 1⟩ (fun hHeld => ?_)
  clear hK K
  refine ZNO 47 ?_
  refine one_ (i := 3) (N := some 48) #[T,T,T,T,F] rfl rfl (by kernel_rfl) (by decide) (fun K hK => ?_)
  refine ZGO Try.func13 #[.agg #[.slice Ao29 t353.length co29, .slice Ao33 t356.length co33], .agg #[.slice Ao68 t375.length co68, .slice Ao69 t378.length co69]] ?_
  with_reducible refine (laws_eqProg.calls kj11 _ _ t353 _ _ t356 _ _ t375 _ _ t378 true _ ?side1 ?side2 ?side3 ?side4 ?side5 ?side6 ?side7 ?side8 A62.out).mono ?_
  (case side1 => exact ZQ ((Kd.R_reads' HO_360000.out).2.2))
  (case side2 => exact (Kd.R_reads' HO_360000.out).2.1)
  (case side3 => exact ZQ ((Kd.R_reads' HO_360001.out).2.2))
  (case side4 => exact (Kd.R_reads' HO_360001.out).2.1)
  (case side5 => exact ZQ ((Kd.R_reads' HO377.out).2.2))
  (case side6 => exact (Kd.R_reads' HO377.out).2.1)
  (case side7 => exact ZQ ((Kd.R_reads' HO380.out).2.2))
  (case side8 => exact (Kd.R_reads' HO380.out).2.1)
  rintro e w70 ⟨rfl, hb⟩
  refine ⟨_, rfl, ?_⟩
  replace HO_353006 := AM (Kd.V_below (ZRV HO_353006.out) hb)
  replace HO_353007 := AM (Kd.V_below (ZRV HO_353007.out) hb)
  replace HO_360000 := AM (Kd.R_below (ZR HO_360000.out) hb)
  replace HO_360001 := AM (Kd.R_below (ZR HO_360001.out) hb)
  replace HO_374006 := AM (Kd.R_below (ZR HO_374006.out) hb)
  replace HO_374007 := AM (Kd.R_below (ZR HO_374007.out) hb)
  replace HO377 := AM (Kd.R_below (ZR HO377.out) hb)
  replace HO380 := AM (Kd.R_below (ZR HO380.out) hb)
  replace BK331 := ZW BK331 hb
  replace BK352 := ZW BK352 hb
  replace BK359 := ZW BK359 hb
  replace BK373 := ZW BK373 hb
  replace HB := ZT HB hb; replace HX := ZT HX hb
  (try clear hb)
  (try clear hb2)
  (try clear hk)
  (try clear hi)
  refine hK.out _ _ ⟨ZA BK359 0, ZA BK359 1, ZA BK331 0, ZA BK331 1⟩ (fun hHeld => ?_)
  clear hK K
  refine ZNO 48 ?_
  refine pure_ (i := 4) (N := some 49) (v := ?_) (a' := ?_) #[T,T,T,T,T] rfl rfl (by kernel_rfl) (fun _ _ _ h => h) (Or.inl ⟨by rfl, ?_⟩) ?_ ?_
  rotate_left
  ·(
  intro w'
  go_simp
  with_reducible rfl)
  rotate_left
  ·(
  simp only [Act.put, List.setIfInBounds_toArray, List.set_cons_zero, List.set_cons_succ, i64_w, i32_w]
  rfl)
  refine done_ (by kernel_rfl) ?_
  have hnb71 := NB359_331.out
  have hnc71 := NB331_359.out
  have hnb72 := NB359_352.out
  have hnc72 := NB352_359.out
  have hnb73 := NB359_373.out
  have hnc73 := NB373_359.out
  have hcz74 := ZC2 w70 BK359
  have hfz74 := ZF2 BK359
  go_upto_region 14 with (first | ((with_reducible refine gate_callee (f := 14) rfl ?_); refine ZGL (some 52) Try.func14 #[.agg #[.slice Ao29 t353.length co29, .slice Ao33 t356.length co33], .int .i64 1] ?_; (with_reducible refine (laws_markProg.calls kj11 (fun k_ => some k_ = (.slice Ao29 t353.length co29 : Value).ownBlock) (.slice Ao29 t353.length co29) t353 (fun k_ => gb352 < k_ ∧ k_ < w27.heap.size) (.slice Ao33 t356.length co33) t356 1 t382 t383 w _ ?side1 ?side2 ?side3 A64.out).mono ?_); (case side1 => repeat (first | (with_reducible first | exact HB.out | apply below_alloc | apply pw_below_drewN | apply below_drew1 | refine below_set ?_ GE331.out | refine below_set ?_ GE352.out | refine below_set ?_ GE359.out | refine below_set ?_ GE373.out) | exact HB.out)); (case side2 => exact Kd.R_tight rfl HO_360000.out); (case side3 => exact Kd.R_below SX.out HX.out); rintro e w75 ⟨rfl, hy0, hb, hkp⟩; refine ⟨_, rfl, ?_⟩; have SW34 : Aside0 (w34.heap.size ≤ w75.heap.size) := ⟨Nat.le_trans HX.out.size hkp.1⟩; have TV6 := AM (Kd.V_keptB (Kd.V_below SV6.out HX.out) hkp (fun k_ hk_ hs_ => Or.elim hs_ (fun e_ => by have h1 := (S29.out k_ e_.symm).1; have h2 := hk_.2; have h3 := GZ352.out; omega) (fun e_ => by have h1 := e_.1; have h2 := hk_.2; have h3 := GZ352.out; omega))); have TV7 := AM (Kd.V_keptB (Kd.V_below SV7.out HX.out) hkp (fun k_ hk_ hs_ => Or.elim hs_ (fun e_ => by have h1 := (S29.out k_ e_.symm).1; have h2 := hk_.2; have h3 := GZ352.out; omega) (fun e_ => by have h1 := e_.1; have h2 := hk_.2; have h3 := GZ352.out; omega))); have TG6 := AM (Deep.TR_move (Deep.TR_below SG6.out HX.out) (fun k_ hk_ => hkp.2 k_ (Deep.TR_lt (Deep.TR_below SG6.out HX.out) k_ hk_) (fun hs_ => Or.elim hs_ (fun e_ => by have h1 := (S29.out k_ e_.symm).2; have h2 := (SB.out k_ (List.mem_append_left _ hk_)).1; have h3 := GZ352.out; omega) (fun e_ => by have h1 := e_.2; have h2 := (SB.out k_ (List.mem_append_left _ hk_)).1; have h3 := GZ352.out; omega)))); have TG7 := AM (Deep.TR_move (Deep.TR_below SG7.out HX.out) (fun k_ hk_ => hkp.2 k_ (Deep.TR_lt (Deep.TR_below SG7.out HX.out) k_ hk_) (fun hs_ => Or.elim hs_ (fun e_ => by have h1 := (S29.out k_ e_.symm).2; have h2 := (SB.out k_ (List.mem_append_right _ hk_)).1; have h3 := GZ352.out; omega) (fun e_ => by have h1 := e_.2; have h2 := (SB.out k_ (List.mem_append_right _ hk_)).1; have h3 := GZ352.out; omega)))); have n0_ := AM (Kd.V_mono (ok' := fun k_ => some k_ ≠ (.slice Ao29 t353.length co29 : Value).ownBlock ∧ some k_ ≠ (.slice Ao40 t366.length co40 : Value).ownBlock ∧ some k_ ≠ (.slice Ao41 t369.length co41 : Value).ownBlock ∧ True ∧ True ∧ k_ ≠ gb331 ∧ k_ ≠ gb352 ∧ k_ ≠ gb359 ∧ k_ ≠ gb373) TV6.out (fun k_ hk_ => ⟨(fun e_ => by have h1 := (S29.out k_ e_.symm).1; have h2 := hk_.1.2; have h3 := GZ352.out; omega), (fun e_ => by have h1 := (SB.out k_ (List.mem_append_left _ (S40.out k_ e_.symm))).1; have h2 := hk_.1.2; have h3 := GZ352.out; have h4 := G352.out; omega), (fun e_ => by have h1 := (SB.out k_ (List.mem_append_right _ (S41.out k_ e_.symm))).1; have h2 := hk_.1.2; have h3 := GZ352.out; have h4 := G352.out; omega), True.intro, True.intro, hk_.1.1.2, (fun e_ => by have h2 := hk_.1.2; have h3 := GZ352.out; omega), (fun e_ => by have h2 := hk_.1.2; have h3 := GZ352.out; have h4 := G352.out; have h5 := GY359.out; omega), (fun e_ => by have h2 := hk_.1.2; have h3 := GZ352.out; have h4 := G352.out; have h5 := GX373.out; have h6 := S27.out; omega)⟩)); have n1_ := AM (Kd.V_mono (ok' := fun k_ => some k_ ≠ (.slice Ao29 t353.length co29 : Value).ownBlock ∧ some k_ ≠ (.slice Ao40 t366.length co40 : Value).ownBlock ∧ some k_ ≠ (.slice Ao41 t369.length co41 : Value).ownBlock ∧ True ∧ True ∧ k_ ≠ gb331 ∧ k_ ≠ gb352 ∧ k_ ≠ gb359 ∧ k_ ≠ gb373) TV7.out (fun k_ hk_ => ⟨(fun e_ => by have h1 := (S29.out k_ e_.symm).1; have h2 := hk_.1.2; have h3 := GZ352.out; omega), (fun e_ => by have h1 := (SB.out k_ (List.mem_append_left _ (S40.out k_ e_.symm))).1; have h2 := hk_.1.2; have h3 := GZ352.out; have h4 := G352.out; omega), (fun e_ => by have h1 := (SB.out k_ (List.mem_append_right _ (S41.out k_ e_.symm))).1; have h2 := hk_.1.2; have h3 := GZ352.out; have h4 := G352.out; omega), True.intro, True.intro, hk_.1.1.2, (fun e_ => by have h2 := hk_.1.2; have h3 := GZ352.out; omega), (fun e_ => by have h2 := hk_.1.2; have h3 := GZ352.out; have h4 := G352.out; have h5 := GY359.out; omega), (fun e_ => by have h2 := hk_.1.2; have h3 := GZ352.out; have h4 := G352.out; have h5 := GX373.out; have h6 := S27.out; omega)⟩)); have n2_ := AM (Kd.R_reok rfl hy0 (fun k_ e_ => HO_360000.out.1 k_ e_)); have n3_ := AM (Deep.R_of_TR (base := w.heap.size) _ _ _ (fun k_ => some k_ ≠ (.slice Ao41 t369.length co41 : Value).ownBlock ∧ True ∧ k_ ≠ gb352 ∧ k_ ≠ gb373) TG6.out (List.nodup_append.1 SN.out).1 (fun k_ hk_ => ⟨by have h1 := (SB.out k_ (List.mem_append_left _ hk_)).1; have h2 := G352.out; have h3 := GE352.out; omega, (fun e_ => (List.nodup_append.1 SN.out).2.2 k_ hk_ k_ (S41.out k_ e_.symm) rfl), True.intro, (fun e_ => by have h1 := (SB.out k_ (List.mem_append_left _ hk_)).1; have h2 := G352.out; omega), (fun e_ => by have h1 := (SB.out k_ (List.mem_append_left _ hk_)).2; have h2 := GX373.out; omega)⟩)); have n4_ := AM (Deep.R_of_TR (base := w.heap.size) _ _ _ (fun k_ => some k_ ≠ (.slice Ao40 t366.length co40 : Value).ownBlock ∧ True ∧ k_ ≠ gb352 ∧ k_ ≠ gb373) TG7.out (List.nodup_append.1 SN.out).2.1 (fun k_ hk_ => ⟨by have h1 := (SB.out k_ (List.mem_append_right _ hk_)).1; have h2 := G352.out; have h3 := GE352.out; omega, (fun e_ => (List.nodup_append.1 SN.out).2.2 k_ (S40.out k_ e_.symm) k_ hk_ rfl), True.intro, (fun e_ => by have h1 := (SB.out k_ (List.mem_append_right _ hk_)).1; have h2 := G352.out; omega), (fun e_ => by have h1 := (SB.out k_ (List.mem_append_right _ hk_)).2; have h2 := GX373.out; omega)⟩)); have n5_ := AM (blk_kept (ZK BK331.out) hkp (fun hs_ => Or.elim hs_ (fun e_ => (fun e_ => (Kd.R_ne HO_360000.out BK331.out (by decide)) e_) e_) (fun e_ => by have h1 := G331.out; have h2 := GZ352.out; have h3 := e_.1; omega))); have n6_ := AM (blk_kept (ZK BK352.out) hkp (fun hs_ => Or.elim hs_ (fun e_ => (fun e_ => (Kd.R_ne HO_360000.out BK352.out (by decide)) e_) e_) (fun e_ => by have h3 := e_.1; omega))); have n7_ := AM (blk_kept (ZK BK359.out) hkp (fun hs_ => Or.elim hs_ (fun e_ => (fun e_ => (Kd.R_ne HO_360000.out BK359.out (by decide)) e_) e_) (fun e_ => by have h1 := GY359.out; have h3 := e_.2; omega))); have n8_ := AM (blk_kept (ZK BK373.out) hkp (fun hs_ => Or.elim hs_ (fun e_ => (fun e_ => (Kd.R_ne HO_360000.out BK373.out (by decide)) e_) e_) (fun e_ => by have h1 := GX373.out; have h2 := S27.out; have h3 := e_.2; omega))); have n9_ : Aside0 True := ⟨trivial⟩; have n10_ : Aside0 True := ⟨trivial⟩; have n11_ := AM (hb); clear HO_353006 HO_353007 HO_360000 HO_374006 HO_374007 BK331 BK352 BK359 BK373 HO377 HO380 HB HO_360001; have HO_353006 := n0_; have HO_353007 := n1_; have HO_360000 := n2_; have HO_374006 := n3_; have HO_374007 := n4_; have BK331 := n5_; have BK352 := n6_; have BK359 := n7_; have BK373 := n8_; have HO377 := n9_; have HO380 := n10_; have HB := n11_; clear n0_ n1_ n2_ n3_ n4_ n5_ n6_ n7_ n8_ n9_ n10_ n11_; have HX := AM (Below.refl w75.heap.size w75); have S75 : Aside0 (w34.heap.size ≤ w75.heap.size) := ⟨SW34.out⟩; clear SV6 SV7 SG6 SG7 SX; (try clear hb); (try clear hkp); (try clear hy0)))
  (try simp only [Act.put, List.setIfInBounds_toArray, List.set_cons_zero, List.set_cons_succ])
  go_cut [65] (fun v65 wc => ∃ (kq : Nat) (x65_64 : Bool), v65 = .bool x65_64 ∧ Aside0 (laws_FnExactProgAt.j1 kq a1 t351 x65_64 l0_0 l0_1 t339 t340 t341 t342 t343 t344 t345 t348 t360 t361 t362 t363 t364 t365 t366 t369 = some r) ∧ Aside0 (kq ≤ kj11) ∧ Aside0 (Kd.V k50 50 wc w.heap.size (fun k_ => some k_ ≠ ((.slice Ao40 t366.length co40) : Value).ownBlock ∧ some k_ ≠ ((.slice Ao41 t369.length co41) : Value).ownBlock ∧ k_ ≠ gb331 ∧ k_ ≠ gb352 ∧ k_ ≠ gb373) (.slice Ao24 t345.length co24) t345) ∧ Aside0 (Kd.V k50 50 wc w.heap.size (fun k_ => some k_ ≠ ((.slice Ao40 t366.length co40) : Value).ownBlock ∧ some k_ ≠ ((.slice Ao41 t369.length co41) : Value).ownBlock ∧ k_ ≠ gb331 ∧ k_ ≠ gb352 ∧ k_ ≠ gb373) (.slice Ao25 t348.length co25) t348) ∧ Aside0 (Kd.R k50 50 wc w.heap.size (fun k_ => some k_ ≠ ((.slice Ao41 t369.length co41) : Value).ownBlock ∧ k_ ≠ gb352 ∧ k_ ≠ gb373) (.slice Ao40 t366.length co40) t366) ∧ Aside0 (Kd.R k50 50 wc w.heap.size (fun k_ => some k_ ≠ ((.slice Ao40 t366.length co40) : Value).ownBlock ∧ k_ ≠ gb352 ∧ k_ ≠ gb373) (.slice Ao41 t369.length co41) t369) ∧ Aside0 (wc.heap[gb331]? = some (.cells #[(.slice A0_0 l0_0.length c0_0), (.slice A0_1 l0_1.length c0_1)] 25 (0, 0))) ∧ Aside0 (wc.heap[gb352]? = some (.cells #[.int .i64 t339, .int .i64 t340, .int .i64 t341, .int .i64 t342, .int .i64 t343, .int .i64 t344, (.slice Ao24 t345.length co24), (.slice Ao25 t348.length co25)] 50 (0, 0))) ∧ Aside0 (wc.heap[gb373]? = some (.cells #[.int .i64 t360, .int .i64 t361, .int .i64 t362, .int .i64 t363, .int .i64 t364, .int .i64 t365, (.slice Ao40 t366.length co40), (.slice Ao41 t369.length co41)] 50 (0, 0))) ∧ Aside0 (Below w.heap.size w wc) ∧ Aside0 (Below w75.heap.size w75 wc))
  case first => (
  have H := HC65.out
  clear HC65
  by_cases c76 : t382 < 0
  ·(
  rw [if_pos c76] at H
  have c76b0 := decide_eq_true c76
  clear c76
  (first | rw [c76b0] | (simp only [i64_w, i32_w]; rw [c76b0]) | skip)
  have H' := AM H
  clear H
  go_wp2
  go_meet
  case rel => exact ⟨_, (true), (by first | rfl | (simp; done) | (simp [*]; done)), H', ⟨by have := HJ11.out; first | omega | exact Nat.le_refl _⟩, ⟨by (with_reducible repeat (first | apply Kd.V_alloc | apply Kd.V_drewN | apply Kd.V_drew)); exact Kd.V_mono HO_353006.out (fun _ hk => ⟨hk.2.1, ⟨hk.2.2.1, ⟨hk.2.2.2.2.2.1, ⟨hk.2.2.2.2.2.2.1, hk.2.2.2.2.2.2.2.2⟩⟩⟩⟩)⟩, ⟨by (with_reducible repeat (first | apply Kd.V_alloc | apply Kd.V_drewN | apply Kd.V_drew)); exact Kd.V_mono HO_353007.out (fun _ hk => ⟨hk.2.1, ⟨hk.2.2.1, ⟨hk.2.2.2.2.2.1, ⟨hk.2.2.2.2.2.2.1, hk.2.2.2.2.2.2.2.2⟩⟩⟩⟩)⟩, ⟨by (with_reducible repeat (first | apply Kd.R_alloc | apply Kd.R_drewN | apply Kd.R_drew)); exact Kd.R_mono HO_374006.out (fun _ hk => ⟨hk.1, ⟨hk.2.2.1, hk.2.2.2⟩⟩)⟩, ⟨by (with_reducible repeat (first | apply Kd.R_alloc | apply Kd.R_drewN | apply Kd.R_drew)); exact Kd.R_mono HO_374007.out (fun _ hk => ⟨hk.1, ⟨hk.2.2.1, hk.2.2.2⟩⟩)⟩, ⟨ZK BK331.out⟩, ⟨ZK BK352.out⟩, ⟨ZK BK373.out⟩, ⟨ZB⟩, ⟨by repeat (first | (with_reducible first | exact HX.out | apply below_alloc | apply pw_below_drewN | apply below_drew1 | refine below_set ?_ (Aside0.out (by with_reducible assumption))) | exact HX.out)⟩⟩)
  ·(
  rw [if_neg c76] at H
  have c76b0 := decide_eq_false c76
  clear c76
  (first | rw [c76b0] | (simp only [i64_w, i32_w]; rw [c76b0]) | skip)
  obtain ⟨t384, A77, H⟩ := ZOB H; try dsimp only at H
  by_cases c78 : t384 = true
  ·(
  subst c78
  have H1 := H; rw [if_pos rfl] at H1
  clear H
  have H := H1
  clear H1
  have H' := AM H
  clear H
  have hnb79 := NB373_331.out
  have hnc79 := NB331_373.out
  have hnb80 := NB373_352.out
  have hnc80 := NB352_373.out
  have hnb81 := NB373_359.out
  have hnc81 := NB359_373.out
  have hcz82 := ZC8 w75 BK373
  have hfz82 := ZF8 BK373
  have hnb83 := NB352_331.out
  have hnc83 := NB331_352.out
  have hnb84 := NB352_359.out
  have hnc84 := NB359_352.out
  have hcz85 := ZC8 w75 BK352
  have hfz85 := ZF8 BK352
  go_wp2_with (first | (go_at_call 31; (with_reducible refine (laws_eqStep.calls kj11 t360 t361 t362 t363 t364 t365 _ _ t366 _ _ t369 t339 t340 t341 t342 t343 t344 _ _ t345 _ _ t348 true _ ?side1 ?side2 ?side3 ?side4 ?side5 ?side6 ?side7 ?side8 A77.out).mono ?_); (case side1 => exact ZQ ((Kd.R_reads' HO_374006.out).2.2)); (case side2 => exact (Kd.R_reads' HO_374006.out).2.1); (case side3 => exact ZQ ((Kd.R_reads' HO_374007.out).2.2)); (case side4 => exact (Kd.R_reads' HO_374007.out).2.1); (case side5 => exact ZQ ((Kd.V_reads' HO_353006.out).2.2)); (case side6 => exact (Kd.V_reads' HO_353006.out).2.1); (case side7 => exact ZQ ((Kd.V_reads' HO_353007.out).2.2)); (case side8 => exact (Kd.V_reads' HO_353007.out).2.1); rintro e w86 ⟨rfl, hb⟩; replace HO_353006 := AM (Kd.V_below (ZRV HO_353006.out) hb); replace HO_353007 := AM (Kd.V_below (ZRV HO_353007.out) hb); replace HO_360000 := AM (Kd.R_below (ZR HO_360000.out) hb); replace HO_374006 := AM (Kd.R_below (ZR HO_374006.out) hb); replace HO_374007 := AM (Kd.R_below (ZR HO_374007.out) hb); replace BK331 := ZW BK331 hb; replace BK352 := ZW BK352 hb; replace BK359 := ZW BK359 hb; replace BK373 := ZW BK373 hb; replace HB := ZT HB hb; replace HX := ZT HX hb; clear hb))
  go_meet
  case rel => exact ⟨_, ((t372 != t351)), (by first | rfl | (simp; done) | (simp [*]; done)), H', ⟨by have := HJ11.out; first | omega | exact Nat.le_refl _⟩, ⟨by (with_reducible repeat (first | apply Kd.V_alloc | apply Kd.V_drewN | apply Kd.V_drew)); exact Kd.V_mono HO_353006.out (fun _ hk => ⟨hk.2.1, ⟨hk.2.2.1, ⟨hk.2.2.2.2.2.1, ⟨hk.2.2.2.2.2.2.1, hk.2.2.2.2.2.2.2.2⟩⟩⟩⟩)⟩, ⟨by (with_reducible repeat (first | apply Kd.V_alloc | apply Kd.V_drewN | apply Kd.V_drew)); exact Kd.V_mono HO_353007.out (fun _ hk => ⟨hk.2.1, ⟨hk.2.2.1, ⟨hk.2.2.2.2.2.1, ⟨hk.2.2.2.2.2.2.1, hk.2.2.2.2.2.2.2.2⟩⟩⟩⟩)⟩, ⟨by (with_reducible repeat (first | apply Kd.R_alloc | apply Kd.R_drewN | apply Kd.R_drew)); exact Kd.R_mono HO_374006.out (fun _ hk => ⟨hk.1, ⟨hk.2.2.1, hk.2.2.2⟩⟩)⟩, ⟨by (with_reducible repeat (first | apply Kd.R_alloc | apply Kd.R_drewN | apply Kd.R_drew)); exact Kd.R_mono HO_374007.out (fun _ hk => ⟨hk.1, ⟨hk.2.2.1, hk.2.2.2⟩⟩)⟩, ⟨ZK BK331.out⟩, ⟨ZK BK352.out⟩, ⟨ZK BK373.out⟩, ⟨ZB⟩, ⟨by repeat (first | (with_reducible first | exact HX.out | apply below_alloc | apply pw_below_drewN | apply below_drew1 | refine below_set ?_ (Aside0.out (by with_reducible assumption))) | exact HX.out)⟩⟩)
  ·(
  replace c78 := Bool.eq_false_iff.mpr c78
  subst c78
  have H1 := H; rw [if_neg ZFT] at H1
  clear H
  have H := H1
  clear H1
  have H' := AM H
  clear H
  have hnb87 := NB373_331.out
  have hnc87 := NB331_373.out
  have hnb88 := NB373_352.out
  have hnc88 := NB352_373.out
  have hnb89 := NB373_359.out
  have hnc89 := NB359_373.out
  have hcz90 := ZC8 w75 BK373
  have hfz90 := ZF8 BK373
  have hnb91 := NB352_331.out
  have hnc91 := NB331_352.out
  have hnb92 := NB352_359.out
  have hnc92 := NB359_352.out
  have hcz93 := ZC8 w75 BK352
  have hfz93 := ZF8 BK352
  go_wp2_with (first | (go_at_call 31; (with_reducible refine (laws_eqStep.calls kj11 t360 t361 t362 t363 t364 t365 _ _ t366 _ _ t369 t339 t340 t341 t342 t343 t344 _ _ t345 _ _ t348 false _ ?side1 ?side2 ?side3 ?side4 ?side5 ?side6 ?side7 ?side8 A77.out).mono ?_); (case side1 => exact ZQ ((Kd.R_reads' HO_374006.out).2.2)); (case side2 => exact (Kd.R_reads' HO_374006.out).2.1); (case side3 => exact ZQ ((Kd.R_reads' HO_374007.out).2.2)); (case side4 => exact (Kd.R_reads' HO_374007.out).2.1); (case side5 => exact ZQ ((Kd.V_reads' HO_353006.out).2.2)); (case side6 => exact (Kd.V_reads' HO_353006.out).2.1); (case side7 => exact ZQ ((Kd.V_reads' HO_353007.out).2.2)); (case side8 => exact (Kd.V_reads' HO_353007.out).2.1); rintro e w94 ⟨rfl, hb⟩; replace HO_353006 := AM (Kd.V_below (ZRV HO_353006.out) hb); replace HO_353007 := AM (Kd.V_below (ZRV HO_353007.out) hb); replace HO_360000 := AM (Kd.R_below (ZR HO_360000.out) hb); replace HO_374006 := AM (Kd.R_below (ZR HO_374006.out) hb); replace HO_374007 := AM (Kd.R_below (ZR HO_374007.out) hb); replace BK331 := ZW BK331 hb; replace BK352 := ZW BK352 hb; replace BK359 := ZW BK359 hb; replace BK373 := ZW BK373 hb; replace HB := ZT HB hb; replace HX := ZT HX hb; clear hb))
  go_meet
  case rel => exact ⟨_, (true), (by first | rfl | (simp; done) | (simp [*]; done)), H', ⟨by have := HJ11.out; first | omega | exact Nat.le_refl _⟩, ⟨by (with_reducible repeat (first | apply Kd.V_alloc | apply Kd.V_drewN | apply Kd.V_drew)); exact Kd.V_mono HO_353006.out (fun _ hk => ⟨hk.2.1, ⟨hk.2.2.1, ⟨hk.2.2.2.2.2.1, ⟨hk.2.2.2.2.2.2.1, hk.2.2.2.2.2.2.2.2⟩⟩⟩⟩)⟩, ⟨by (with_reducible repeat (first | apply Kd.V_alloc | apply Kd.V_drewN | apply Kd.V_drew)); exact Kd.V_mono HO_353007.out (fun _ hk => ⟨hk.2.1, ⟨hk.2.2.1, ⟨hk.2.2.2.2.2.1, ⟨hk.2.2.2.2.2.2.1, hk.2.2.2.2.2.2.2.2⟩⟩⟩⟩)⟩, ⟨by (with_reducible repeat (first | apply Kd.R_alloc | apply Kd.R_drewN | apply Kd.R_drew)); exact Kd.R_mono HO_374006.out (fun _ hk => ⟨hk.1, ⟨hk.2.2.1, hk.2.2.2⟩⟩)⟩, ⟨by (with_reducible repeat (first | apply Kd.R_alloc | apply Kd.R_drewN | apply Kd.R_drew)); exact Kd.R_mono HO_374007.out (fun _ hk => ⟨hk.1, ⟨hk.2.2.1, hk.2.2.2⟩⟩)⟩, ⟨ZK BK331.out⟩, ⟨ZK BK352.out⟩, ⟨ZK BK373.out⟩, ⟨ZB⟩, ⟨by repeat (first | (with_reducible first | exact HX.out | apply below_alloc | apply pw_below_drewN | apply below_drew1 | refine below_set ?_ (Aside0.out (by with_reducible assumption))) | exact HX.out)⟩⟩)))
  case rest => (
  clear HC65
  try clear c1
  try clear c2
  try clear p2
  try clear c3
  try clear c4
  try clear c4b0
  try clear c5
  try clear c6
  try clear c7
  try clear c8
  try clear c9
  try clear c10
  try clear c13
  try clear c14
  try clear c22
  try clear c29
  try clear c30
  try clear c31
  try clear c36
  try clear c37
  try clear c38
  try clear c43
  try clear c44
  try clear c45
  try clear c46
  try clear c48
  try clear c49
  try clear c52
  try clear c53
  try clear c54
  try clear c56
  try clear c57
  try clear c60
  try clear c63
  try clear c71
  try clear c72
  try clear c73
  try clear c76
  try clear c76b0
  try clear c78
  try clear c79
  try clear c80
  try clear c81
  try clear c83
  try clear c84
  try clear c87
  try clear c88
  try clear c89
  try clear c91
  try clear c92
  try clear hcz14
  try clear hcz16
  try clear hcz23
  try clear hcz26
  try clear hcz32
  try clear hcz39
  try clear hcz47
  try clear hcz50
  try clear hcz55
  try clear hcz58
  try clear hcz6
  try clear hcz74
  try clear hcz82
  try clear hcz85
  try clear hcz90
  try clear hcz93
  try clear hfz14
  try clear hfz16
  try clear hfz23
  try clear hfz26
  try clear hfz32
  try clear hfz39
  try clear hfz47
  try clear hfz50
  try clear hfz55
  try clear hfz58
  try clear hfz6
  try clear hfz74
  try clear hfz82
  try clear hfz85
  try clear hfz90
  try clear hfz93
  try clear p2
  obtain ⟨kq, x65_64, rfl, HA, HJ64, HO_353006, HO_353007, HO_374006, HO_374007, BK331, BK352, BK373, HB, HX⟩ := hcut
  cases kq with
  | zero => exact absurd HA.out (by simp [laws_FnExactProgAt.j1])
  | succ kj64 =>
   have H := HA.out
   clear HA
   simp only [laws_FnExactProgAt.j1] at H
   by_cases c95 : x65_64 = true
   ·(
   subst c95
   have H1 := H; rw [if_pos rfl] at H1
   clear H
   have H := H1
   clear H1
   exact absurd H (by simp))
   ·(
   replace c95 := Bool.eq_false_iff.mpr c95
   subst c95
   have H1 := H; rw [if_neg ZFT] at H1
   clear H
   have H := H1
   clear H1
   obtain ⟨⟨t385, t386, t387⟩, A96, H⟩ := ZOB H; try dsimp only at H
   obtain ⟨t388, A97, H⟩ := ZOB H; try dsimp only at H
   by_cases c98 : t388 < 0
   ·(
   rw [if_pos c98] at H
   exact absurd H (by simp))
   ·(
   rw [if_neg c98] at H
   have c98b0 := decide_eq_false c98
   clear c98
   by_cases c99 : t388 = t385
   ·(
   rw [if_pos c99] at H
   have c99b0 := beq_iff_eq.mpr c99
   have c99b1 := bne_eq_false_iff_eq.mpr c99
   clear c99
   obtain ⟨⟨t389, t392⟩, A100, H⟩ := ZOB H; try dsimp only at H
   obtain ⟨⟨t395, t396, t397, t398, t399, t400, t401, t404, t407⟩, A101, H⟩ := ZOB H; try dsimp only at H
   have HC102 := AM H
   clear H
   have hnb103 := NB373_331.out
   have hnc103 := NB331_373.out
   have hnb104 := NB373_352.out
   have hnc104 := NB352_373.out
   have hcz105 := ZC8 wc BK373
   have hfz105 := ZF8 BK373
   go_upto_region 25 with (first | ((with_reducible refine gate_callee (f := 32) rfl ?_); refine ZGL (some 68) Try.func32 #[.agg #[.int .i64 t360, .int .i64 t361, .int .i64 t362, .int .i64 t363, .int .i64 t364, .int .i64 t365, .slice Ao40 t366.length co40, .slice Ao41 t369.length co41], .int .i64 1] ?_; (with_reducible refine (laws_markStep.deep t360 t361 t362 t363 t364 t365 b6_ b7_ (.slice Ao40 t366.length co40) (.slice Ao41 t369.length co41) t366 t369 1 t385 t386 t387 w _ ?side1 ?side2 ?side3 ?side4 ?side5 A96.out).mono ?_); (case side1 => repeat (first | (with_reducible first | exact HB.out | apply below_alloc | apply pw_below_drewN | apply below_drew1 | refine below_set ?_ GE331.out | refine below_set ?_ GE352.out | refine below_set ?_ GE373.out) | exact HB.out)); (case side2 => exact Deep.TR_below TG6.out HX.out); (case side3 => exact Deep.TR_below TG7.out HX.out); (case side4 => exact SN.out); (case side5 => exact fun k_ hk_ => by have h1 := (SB.out k_ hk_).1; have h2 := G352.out; have h3 := GE352.out; omega); rintro e w106 ⟨rfl, hb, hy0, hy1, hkp1, hkp2⟩; refine ⟨_, rfl, ?_⟩; have hkp : Kept _ w106 (fun k_ => k_ ∈ b6_ ++ b7_) := ⟨hkp1, hkp2⟩; have NB_ : Aside0 (∀ k_, (k_ < w27.heap.size ∨ w34.heap.size ≤ k_) → k_ ∉ b6_ ++ b7_) := ⟨fun k_ h_ e_ => by have h1 := SB.out k_ e_; omega⟩; have UV6 := AM (Kd.V_kept (Kd.V_below TV6.out HX.out) hkp (fun k_ hk_ => NB_.out k_ (.inl (by have h2 := hk_.1.2; have h3 := GZ352.out; have h4 := G352.out; omega)))); have UV7 := AM (Kd.V_kept (Kd.V_below TV7.out HX.out) hkp (fun k_ hk_ => NB_.out k_ (.inl (by have h2 := hk_.1.2; have h3 := GZ352.out; have h4 := G352.out; omega)))); replace HO_353006 := AM (Kd.V_mono (ok' := fun k_ => some k_ ≠ (.slice Ao40 t366.length co40 : Value).ownBlock ∧ some k_ ≠ (.slice Ao41 t369.length co41 : Value).ownBlock ∧ k_ ≠ gb331 ∧ k_ ≠ gb352 ∧ k_ ≠ gb373) UV6.out (fun k_ hk_ => ⟨(fun e_ => by have h1 := (SB.out k_ (List.mem_append_left _ (S40.out k_ e_.symm))).1; have h2 := hk_.1.2; have h3 := GZ352.out; have h4 := G352.out; omega), (fun e_ => by have h1 := (SB.out k_ (List.mem_append_right _ (S41.out k_ e_.symm))).1; have h2 := hk_.1.2; have h3 := GZ352.out; have h4 := G352.out; omega), hk_.1.1.2, (fun e_ => by have h2 := hk_.1.2; have h3 := GZ352.out; omega), (fun e_ => by have h2 := hk_.1.2; have h3 := GZ352.out; have h4 := G352.out; have h5 := GX373.out; have h6 := S27.out; omega)⟩)); replace HO_353007 := AM (Kd.V_mono (ok' := fun k_ => some k_ ≠ (.slice Ao40 t366.length co40 : Value).ownBlock ∧ some k_ ≠ (.slice Ao41 t369.length co41 : Value).ownBlock ∧ k_ ≠ gb331 ∧ k_ ≠ gb352 ∧ k_ ≠ gb373) UV7.out (fun k_ hk_ => ⟨(fun e_ => by have h1 := (SB.out k_ (List.mem_append_left _ (S40.out k_ e_.symm))).1; have h2 := hk_.1.2; have h3 := GZ352.out; have h4 := G352.out; omega), (fun e_ => by have h1 := (SB.out k_ (List.mem_append_right _ (S41.out k_ e_.symm))).1; have h2 := hk_.1.2; have h3 := GZ352.out; have h4 := G352.out; omega), hk_.1.1.2, (fun e_ => by have h2 := hk_.1.2; have h3 := GZ352.out; omega), (fun e_ => by have h2 := hk_.1.2; have h3 := GZ352.out; have h4 := G352.out; have h5 := GX373.out; have h6 := S27.out; omega)⟩)); replace BK331 := AM (blk_kept (ZK BK331.out) hkp (fun hs_ => NB_.out _ (.inl (by have h1 := G331.out; have h2 := GZ352.out; have h3 := G352.out; omega)) hs_)); replace BK352 := AM (blk_kept (ZK BK352.out) hkp (fun hs_ => NB_.out _ (.inl G352.out) hs_)); replace BK373 := AM (blk_kept (ZK BK373.out) hkp (fun hs_ => NB_.out _ (.inr GX373.out) hs_)); replace HO_374006 := AM (Deep.R_of_TR (base := w.heap.size) _ _ _ (fun k_ => some k_ ≠ (.slice Ao41 t369.length co41 : Value).ownBlock ∧ k_ ≠ gb352 ∧ k_ ≠ gb373) hy0 (List.nodup_append.1 SN.out).1 (fun k_ hk_ => ⟨by have h1 := (SB.out k_ (List.mem_append_left _ hk_)).1; have h2 := G352.out; have h3 := GE352.out; omega, (fun e_ => (List.nodup_append.1 SN.out).2.2 k_ hk_ k_ (S41.out k_ e_.symm) rfl), (fun e_ => by have h1 := (SB.out k_ (List.mem_append_left _ hk_)).1; have h2 := G352.out; omega), (fun e_ => by have h1 := (SB.out k_ (List.mem_append_left _ hk_)).2; have h2 := GX373.out; omega)⟩)); replace HO_374007 := AM (Deep.R_of_TR (base := w.heap.size) _ _ _ (fun k_ => some k_ ≠ (.slice Ao40 t366.length co40 : Value).ownBlock ∧ k_ ≠ gb352 ∧ k_ ≠ gb373) hy1 (List.nodup_append.1 SN.out).2.1 (fun k_ hk_ => ⟨by have h1 := (SB.out k_ (List.mem_append_right _ hk_)).1; have h2 := G352.out; have h3 := GE352.out; omega, (fun e_ => (List.nodup_append.1 SN.out).2.2 k_ (S40.out k_ e_.symm) k_ hk_ rfl), (fun e_ => by have h1 := (SB.out k_ (List.mem_append_right _ hk_)).1; have h2 := G352.out; omega), (fun e_ => by have h1 := (SB.out k_ (List.mem_append_right _ hk_)).2; have h2 := GX373.out; omega)⟩)); replace HB := AM (hb); (try clear hb); (try clear hkp); clear hkp1 hkp2; (try clear hy0); (try clear hy1); have hcz107 := ZC8 w106 BK373; have hfz107 := ZF8 BK373) | ((with_reducible refine gate_callee (f := 33) rfl ?_); refine goesL_ (some 71) rfl rfl Try.func33 (by kernel_rfl) rfl #[.agg #[.int .i64 t360, .int .i64 t361, .int .i64 t362, .int .i64 t363, .int .i64 t364, .int .i64 t365, .slice Ao40 t386.length co40, .slice Ao41 t387.length co41], .int .i64 1] rfl (by (try simp only [List.map_toArray, List.map_cons, List.map_nil]); first | done | (rw [show t386.length = t366.length from (Kd.R_reads' HO_374006.out).1.symm, show t387.length = t369.length from (Kd.R_reads' HO_374007.out).1.symm] <;> rfl) | rfl | (simp only [List.length_drop, List.length_take]; rfl)) ?_; (with_reducible refine (laws_heldStep.calls kj64 t360 t361 t362 t363 t364 t365 _ _ t386 _ _ t387 1 t388 _ ?side1 ?side2 ?side3 ?side4 A97.out).mono ?_); (case side1 => exact ZQ ((Kd.R_reads' HO_374006.out).2.2)); (case side2 => rw [show t386.length = t366.length from (Kd.R_reads' HO_374006.out).1.symm]; exact (Kd.R_reads' HO_374006.out).2.1); (case side3 => exact ZQ ((Kd.R_reads' HO_374007.out).2.2)); (case side4 => rw [show t387.length = t369.length from (Kd.R_reads' HO_374007.out).1.symm]; exact (Kd.R_reads' HO_374007.out).2.1); rintro e w108 ⟨rfl, hb⟩; refine ⟨_, rfl, ?_⟩; replace HO_353006 := AM (Kd.V_below (ZRV HO_353006.out) hb); replace HO_353007 := AM (Kd.V_below (ZRV HO_353007.out) hb); replace HO_374006 := AM (Kd.R_below (ZR HO_374006.out) hb); replace HO_374007 := AM (Kd.R_below (ZR HO_374007.out) hb); replace BK331 := ZW BK331 hb; replace BK352 := ZW BK352 hb; replace BK373 := ZW BK373 hb; replace HB := ZT HB hb; clear hb; have hnb109 := NB331_352.out; have hnc109 := NB352_331.out; have hcz110 := ZC2 w108 BK331; have hfz110 := ZF2 BK331) | ((with_reducible refine gate_callee (f := 10) rfl ?_); refine ZGL (some 79) Try.func10 #[.agg #[.slice A0_0 l0_0.length c0_0, .slice A0_1 l0_1.length c0_1]] ?_; (with_reducible refine (laws_toProg.calls kj64 _ _ l0_0 _ _ l0_1 t389 t392 _ ?side1 ?side2 ?side3 ?side4 A100.out).mono ?_); (case side1 => exact ZQ (Kd.C_below HR0_0.out HB.out)); (case side2 => exact HC0_0.out); (case side3 => exact ZQ (Kd.C_below HR0_1.out HB.out)); (case side4 => exact HC0_1.out); rintro e w111 ⟨v390, v393, rfl, ho0, ho1, hb⟩; refine ⟨_, rfl, ?_⟩; have HO391 := AM (Kd.R_lower ho0 (below_size (ZB))); have HO394 := AM (Kd.R_lower (Kd.R_newB (Kd.R_newB (Kd.R_new' (Kd.R_new' ho1 (Kd.R_lt (ZR HO_374006.out))) (Kd.R_lt (ZR HO_374007.out))) (g := gb352) (o := .cells #[.int .i64 t339, .int .i64 t340, .int .i64 t341, .int .i64 t342, .int .i64 t343, .int .i64 t344, .slice Ao24 t345.length co24, .slice Ao25 t348.length co25] 50 (0, 0)) (ZK BK352.out)) (g := gb373) (o := .cells #[.int .i64 t360, .int .i64 t361, .int .i64 t362, .int .i64 t363, .int .i64 t364, .int .i64 t365, .slice Ao40 t366.length co40, .slice Ao41 t369.length co41] 50 (0, 0)) (ZK BK373.out)) (below_size (ZB))); replace HO_353006 := AM (Kd.V_mono (Kd.V_told (Kd.V_told (Kd.V_old (ZRV HO_353006.out) hb) (Kd.R_base ho0)) (Kd.R_base ho1)) (fun _ h_ => h_.1)); replace HO_353007 := AM (Kd.V_mono (Kd.V_told (Kd.V_told (Kd.V_old (ZRV HO_353007.out) hb) (Kd.R_base ho0)) (Kd.R_base ho1)) (fun _ h_ => h_.1)); replace HO_374006 := AM (Kd.R_elder' (ZR HO_374006.out) (Kd.R_base ho1) hb); replace HO_374007 := AM (Kd.R_elder' (ZR HO_374007.out) (Kd.R_base ho1) hb); replace BK331 := ZW BK331 hb; replace BK352 := ZW BK352 hb; replace BK373 := ZW BK373 hb; replace HB := ZT HB hb; clear hb; (try clear ho0); (try clear ho1); obtain ⟨Ao112, co112, eo112⟩ := Kd.R_slice HO391.out; subst eo112; obtain ⟨Ao113, co113, eo113⟩ := Kd.R_slice HO394.out; subst eo113) | ((with_reducible refine gate_callee (f := 30) rfl ?_); refine ZGL (some 81) Try.func30 #[.agg #[.slice Ao112 t389.length co112, .slice Ao113 t392.length co113], .int .i64 a1] ?_; (with_reducible refine (impl_ProgAt.calls kj64 _ _ t389 _ _ t392 a1 t395 t396 t397 t398 t399 t400 t401 t404 t407 _ ?side1 ?side2 ?side3 ?side4 A101.out).mono ?_); (case side1 => exact ZQ ((Kd.R_reads' HO391.out).2.2)); (case side2 => exact (Kd.R_reads' HO391.out).2.1); (case side3 => exact ZQ ((Kd.R_reads' HO394.out).2.2)); (case side4 => exact (Kd.R_reads' HO394.out).2.1); rintro e w114 ⟨v402, v405, rfl, ho0, ho1, hb⟩; refine ⟨_, rfl, ?_⟩; have HO403 := AM (Kd.R_lower (Kd.R_newB (Kd.R_newB (Kd.R_new' (Kd.R_new' (Kd.R_new' ho0 (Kd.R_lt (ZR HO_374006.out))) (Kd.R_lt (ZR HO_374007.out))) (Kd.R_lt (ZR HO394.out))) (g := gb352) (o := .cells #[.int .i64 t339, .int .i64 t340, .int .i64 t341, .int .i64 t342, .int .i64 t343, .int .i64 t344, .slice Ao24 t345.length co24, .slice Ao25 t348.length co25] 50 (0, 0)) (ZK BK352.out)) (g := gb373) (o := .cells #[.int .i64 t360, .int .i64 t361, .int .i64 t362, .int .i64 t363, .int .i64 t364, .int .i64 t365, .slice Ao40 t366.length co40, .slice Ao41 t369.length co41] 50 (0, 0)) (ZK BK373.out)) (below_size (ZB))); have HO406 := AM (Kd.R_lower (Kd.R_newB (Kd.R_newB (Kd.R_new' (Kd.R_new' (Kd.R_new' ho1 (Kd.R_lt (ZR HO_374006.out))) (Kd.R_lt (ZR HO_374007.out))) (Kd.R_lt (ZR HO394.out))) (g := gb352) (o := .cells #[.int .i64 t339, .int .i64 t340, .int .i64 t341, .int .i64 t342, .int .i64 t343, .int .i64 t344, .slice Ao24 t345.length co24, .slice Ao25 t348.length co25] 50 (0, 0)) (ZK BK352.out)) (g := gb373) (o := .cells #[.int .i64 t360, .int .i64 t361, .int .i64 t362, .int .i64 t363, .int .i64 t364, .int .i64 t365, .slice Ao40 t366.length co40, .slice Ao41 t369.length co41] 50 (0, 0)) (ZK BK373.out)) (below_size (ZB))); replace HO_353006 := AM (Kd.V_mono (Kd.V_told (Kd.V_told (Kd.V_old (ZRV HO_353006.out) hb) (Kd.R_base ho0)) (Kd.R_base ho1)) (fun _ h_ => h_.1)); replace HO_353007 := AM (Kd.V_mono (Kd.V_told (Kd.V_told (Kd.V_old (ZRV HO_353007.out) hb) (Kd.R_base ho0)) (Kd.R_base ho1)) (fun _ h_ => h_.1)); replace HO_374006 := AM (Kd.R_mono (Kd.R_told (Kd.R_told (Kd.R_old (ZR HO_374006.out) hb) (Kd.R_base ho0)) (Kd.R_base ho1)) (fun _ h_ => h_.1)); replace HO_374007 := AM (Kd.R_mono (Kd.R_told (Kd.R_told (Kd.R_old (ZR HO_374007.out) hb) (Kd.R_base ho0)) (Kd.R_base ho1)) (fun _ h_ => h_.1)); replace HO391 := AM (Kd.R_below (ZR HO391.out) hb); replace HO394 := AM (Kd.R_mono (Kd.R_told (Kd.R_told (Kd.R_old (ZR HO394.out) hb) (Kd.R_base ho0)) (Kd.R_base ho1)) (fun _ h_ => h_.1)); replace BK331 := ZW BK331 hb; replace BK352 := ZW BK352 hb; replace BK373 := ZW BK373 hb; replace HB := ZT HB hb; clear hb; (try clear ho0); (try clear ho1)) | ((with_reducible refine gate_dst (N := 14) rfl ?_); refine ZX (N := 14) (cs := #[.int .i64 0, .int .i64 0, .int .i64 0, .int .i64 0, .int .i64 0, .int .i64 0, .slice none 0 0, .slice none 0 0]) (t := 50) ?_; intro gb408 hg w115 hbox hb; have BK408 := AM (hbox); have GW408 : Aside0 (w.heap.size ≤ gb408) := ZS hg; have GE408 : Aside0 (w.heap.size ≤ gb408) := ZS hg; have NB331_408 : Aside0 (gb331 ≠ gb408) := ZN hg BK331; have NB408_331 : Aside0 (gb408 ≠ gb331) := ZM hg BK331; have NB352_408 : Aside0 (gb352 ≠ gb408) := ZN hg BK352; have NB408_352 : Aside0 (gb408 ≠ gb352) := ZM hg BK352; have NB373_408 : Aside0 (gb373 ≠ gb408) := ZN hg BK373; have NB408_373 : Aside0 (gb408 ≠ gb373) := ZM hg BK373; replace HO_353006 := AM (Kd.V_below (Kd.V_elderB (ZRV HO_353006.out) gb408 (Nat.le_of_eq hg.symm)) hb); replace HO_353007 := AM (Kd.V_below (Kd.V_elderB (ZRV HO_353007.out) gb408 (Nat.le_of_eq hg.symm)) hb); replace HO_374006 := AM (Kd.R_below (Kd.R_elderB (ZR HO_374006.out) gb408 (Nat.le_of_eq hg.symm)) hb); replace HO_374007 := AM (Kd.R_below (Kd.R_elderB (ZR HO_374007.out) gb408 (Nat.le_of_eq hg.symm)) hb); replace HO391 := AM (Kd.R_below (ZR HO391.out) hb); replace HO394 := AM (Kd.R_below (Kd.R_elderB (ZR HO394.out) gb408 (Nat.le_of_eq hg.symm)) hb); replace HO403 := AM (Kd.R_below (Kd.R_elderB (ZR HO403.out) gb408 (Nat.le_of_eq hg.symm)) hb); replace HO406 := AM (Kd.R_below (Kd.R_elderB (ZR HO406.out) gb408 (Nat.le_of_eq hg.symm)) hb); replace BK331 := ZW BK331 hb; replace BK352 := ZW BK352 hb; replace BK373 := ZW BK373 hb; replace HB := ZT HB hb; clear hb hbox hg; have hnb116 := NB408_331.out; have hnc116 := NB331_408.out; have hnb117 := NB408_352.out; have hnc117 := NB352_408.out; have hnb118 := NB408_373.out; have hnc118 := NB373_408.out; have hcz119 := ZC8 w115 BK408; have hfz119 := ZF8 BK408; obtain ⟨Ao120, co120, eo120⟩ := Kd.R_slice HO403.out; subst eo120; obtain ⟨Ao121, co121, eo121⟩ := Kd.R_slice HO406.out; subst eo121))
   (try simp only [Act.put, List.setIfInBounds_toArray, List.set_cons_zero, List.set_cons_succ])
   go_cut [92] (fun v92 wc => ∃ (kq : Nat) (x92_101 : Bool), v92 = .bool x92_101 ∧ Aside0 (laws_FnExactProgAt.j2 kq t385 x92_101 t360 t361 t362 t363 t364 t365 t386 t387 = some r) ∧ Aside0 (kq ≤ kj64) ∧ Aside0 (Kd.V k50 50 wc w.heap.size (fun k_ => some k_ ≠ ((.slice Ao40 t366.length co40) : Value).ownBlock ∧ some k_ ≠ ((.slice Ao41 t369.length co41) : Value).ownBlock ∧ some k_ ≠ ((.slice Ao120 t401.length co120) : Value).ownBlock ∧ some k_ ≠ ((.slice Ao121 t404.length co121) : Value).ownBlock ∧ k_ ≠ gb331 ∧ k_ ≠ gb352 ∧ k_ ≠ gb373 ∧ k_ ≠ gb408) (.slice Ao24 t345.length co24) t345) ∧ Aside0 (Kd.V k50 50 wc w.heap.size (fun k_ => some k_ ≠ ((.slice Ao40 t366.length co40) : Value).ownBlock ∧ some k_ ≠ ((.slice Ao41 t369.length co41) : Value).ownBlock ∧ some k_ ≠ ((.slice Ao120 t401.length co120) : Value).ownBlock ∧ some k_ ≠ ((.slice Ao121 t404.length co121) : Value).ownBlock ∧ k_ ≠ gb331 ∧ k_ ≠ gb352 ∧ k_ ≠ gb373 ∧ k_ ≠ gb408) (.slice Ao25 t348.length co25) t348) ∧ Aside0 (Kd.R k50 50 wc w.heap.size (fun k_ => some k_ ≠ ((.slice Ao41 t369.length co41) : Value).ownBlock ∧ some k_ ≠ ((.slice Ao120 t401.length co120) : Value).ownBlock ∧ some k_ ≠ ((.slice Ao121 t404.length co121) : Value).ownBlock ∧ k_ ≠ gb352 ∧ k_ ≠ gb373 ∧ k_ ≠ gb408) (.slice Ao40 t366.length co40) t386) ∧ Aside0 (Kd.R k50 50 wc w.heap.size (fun k_ => some k_ ≠ ((.slice Ao40 t366.length co40) : Value).ownBlock ∧ some k_ ≠ ((.slice Ao120 t401.length co120) : Value).ownBlock ∧ some k_ ≠ ((.slice Ao121 t404.length co121) : Value).ownBlock ∧ k_ ≠ gb352 ∧ k_ ≠ gb373 ∧ k_ ≠ gb408) (.slice Ao41 t369.length co41) t387) ∧ Aside0 (Kd.R k50 50 wc w.heap.size (fun k_ => some k_ ≠ ((.slice Ao40 t366.length co40) : Value).ownBlock ∧ some k_ ≠ ((.slice Ao41 t369.length co41) : Value).ownBlock ∧ some k_ ≠ ((.slice Ao121 t404.length co121) : Value).ownBlock ∧ k_ ≠ gb352 ∧ k_ ≠ gb373 ∧ k_ ≠ gb408) (.slice Ao120 t401.length co120) t401) ∧ Aside0 (Kd.R k50 50 wc w.heap.size (fun k_ => some k_ ≠ ((.slice Ao40 t366.length co40) : Value).ownBlock ∧ some k_ ≠ ((.slice Ao41 t369.length co41) : Value).ownBlock ∧ some k_ ≠ ((.slice Ao120 t401.length co120) : Value).ownBlock ∧ k_ ≠ gb352 ∧ k_ ≠ gb373 ∧ k_ ≠ gb408) (.slice Ao121 t404.length co121) t404) ∧ Aside0 (wc.heap[gb331]? = some (.cells #[(.slice A0_0 l0_0.length c0_0), (.slice A0_1 l0_1.length c0_1)] 25 (0, 0))) ∧ Aside0 (wc.heap[gb352]? = some (.cells #[.int .i64 t339, .int .i64 t340, .int .i64 t341, .int .i64 t342, .int .i64 t343, .int .i64 t344, (.slice Ao24 t345.length co24), (.slice Ao25 t348.length co25)] 50 (0, 0))) ∧ Aside0 (wc.heap[gb373]? = some (.cells #[.int .i64 t360, .int .i64 t361, .int .i64 t362, .int .i64 t363, .int .i64 t364, .int .i64 t365, (.slice Ao40 t366.length co40), (.slice Ao41 t369.length co41)] 50 (0, 0))) ∧ Aside0 (wc.heap[gb408]? = some (.cells #[.int .i64 t395, .int .i64 t396, .int .i64 t397, .int .i64 t398, .int .i64 t399, .int .i64 t400, (.slice Ao120 t401.length co120), (.slice Ao121 t404.length co121)] 50 (0, 0))) ∧ Aside0 (Below w.heap.size w wc))
   case first => (
   have H := HC102.out
   clear HC102
   obtain ⟨t409, A122, H⟩ := ZOB H; try dsimp only at H
   by_cases c123 : t409 = true
   ·(
   subst c123
   have H1 := H; rw [if_pos rfl] at H1
   clear H
   have H := H1
   clear H1
   have H' := AM H
   clear H
   have hnb124 := NB408_331.out
   have hnc124 := NB331_408.out
   have hnb125 := NB408_352.out
   have hnc125 := NB352_408.out
   have hnb126 := NB408_373.out
   have hnc126 := NB373_408.out
   have hcz127 := ZC8 w115 BK408
   have hfz127 := ZF8 BK408
   have hnb128 := NB352_331.out
   have hnc128 := NB331_352.out
   have hnb129 := NB352_373.out
   have hnc129 := NB373_352.out
   have hcz130 := ZC8 w115 BK352
   have hfz130 := ZF8 BK352
   go_wp2_with (first | ((with_reducible refine gate_callee (f := 31) rfl ?_); refine ZGL (some 86) Try.func31 #[.agg #[.int .i64 t395, .int .i64 t396, .int .i64 t397, .int .i64 t398, .int .i64 t399, .int .i64 t400, .slice Ao120 t401.length co120, .slice Ao121 t404.length co121], .agg #[.int .i64 t339, .int .i64 t340, .int .i64 t341, .int .i64 t342, .int .i64 t343, .int .i64 t344, .slice Ao24 t345.length co24, .slice Ao25 t348.length co25]] ?_; (with_reducible refine (laws_eqStep.calls kj64 t395 t396 t397 t398 t399 t400 _ _ t401 _ _ t404 t339 t340 t341 t342 t343 t344 _ _ t345 _ _ t348 true _ ?side1 ?side2 ?side3 ?side4 ?side5 ?side6 ?side7 ?side8 A122.out).mono ?_); (case side1 => refine (Kd.R_reads' (e := 50) (base := w.heap.size) (ok := fun k_ => ((((((some k_ ≠ (.slice Ao121 t404.length co121 : Value).ownBlock ∧ some k_ ≠ (.slice Ao40 t366.length co40 : Value).ownBlock) ∧ some k_ ≠ (.slice Ao41 t369.length co41 : Value).ownBlock) ∧ some k_ ≠ (.slice Ao113 t392.length co113 : Value).ownBlock) ∧ k_ ≠ gb352) ∧ k_ ≠ gb373) ∧ k_ ≠ gb408)) (n := t401.length) (c := co120) ?_).2.2; exact (by (with_reducible repeat (first | apply Kd.R_alloc | apply Kd.R_drewN | apply Kd.R_drew)); exact (Kd.R_mono (Kd.R_far (p := ⟨gb408, 7, none⟩) (Kd.R_far (p := ⟨gb408, 6, none⟩) (Kd.R_far (p := ⟨gb408, 5, none⟩) (Kd.R_far (p := ⟨gb408, 4, none⟩) (Kd.R_far (p := ⟨gb408, 3, none⟩) (Kd.R_far (p := ⟨gb408, 2, none⟩) (Kd.R_far (p := ⟨gb408, 1, none⟩) (Kd.R_far (p := ⟨gb408, 0, none⟩) (Kd.R_mono HO403.out (fun k_ hk => (⟨hk, hk.2⟩ : _ ∧ k_ ≠ gb408))) (fun _ hk => hk.2) (.int .i64 t395)) (fun _ hk => hk.2) (.int .i64 t396)) (fun _ hk => hk.2) (.int .i64 t397)) (fun _ hk => hk.2) (.int .i64 t398)) (fun _ hk => hk.2) (.int .i64 t399)) (fun _ hk => hk.2) (.int .i64 t400)) (fun _ hk => hk.2) (.slice Ao120 t401.length co120)) (fun _ hk => hk.2) (.slice Ao121 t404.length co121)) (fun _ h_ => h_.1)))); (case side2 => exact (Kd.R_reads' HO403.out).2.1); (case side3 => refine (Kd.R_reads' (e := 50) (base := w.heap.size) (ok := fun k_ => ((((((some k_ ≠ (.slice Ao120 t401.length co120 : Value).ownBlock ∧ some k_ ≠ (.slice Ao40 t366.length co40 : Value).ownBlock) ∧ some k_ ≠ (.slice Ao41 t369.length co41 : Value).ownBlock) ∧ some k_ ≠ (.slice Ao113 t392.length co113 : Value).ownBlock) ∧ k_ ≠ gb352) ∧ k_ ≠ gb373) ∧ k_ ≠ gb408)) (n := t404.length) (c := co121) ?_).2.2; exact (by (with_reducible repeat (first | apply Kd.R_alloc | apply Kd.R_drewN | apply Kd.R_drew)); exact (Kd.R_mono (Kd.R_far (p := ⟨gb408, 7, none⟩) (Kd.R_far (p := ⟨gb408, 6, none⟩) (Kd.R_far (p := ⟨gb408, 5, none⟩) (Kd.R_far (p := ⟨gb408, 4, none⟩) (Kd.R_far (p := ⟨gb408, 3, none⟩) (Kd.R_far (p := ⟨gb408, 2, none⟩) (Kd.R_far (p := ⟨gb408, 1, none⟩) (Kd.R_far (p := ⟨gb408, 0, none⟩) (Kd.R_mono HO406.out (fun k_ hk => (⟨hk, hk.2⟩ : _ ∧ k_ ≠ gb408))) (fun _ hk => hk.2) (.int .i64 t395)) (fun _ hk => hk.2) (.int .i64 t396)) (fun _ hk => hk.2) (.int .i64 t397)) (fun _ hk => hk.2) (.int .i64 t398)) (fun _ hk => hk.2) (.int .i64 t399)) (fun _ hk => hk.2) (.int .i64 t400)) (fun _ hk => hk.2) (.slice Ao120 t401.length co120)) (fun _ hk => hk.2) (.slice Ao121 t404.length co121)) (fun _ h_ => h_.1)))); (case side4 => exact (Kd.R_reads' HO406.out).2.1); (case side5 => refine (Kd.V_reads' (e := 50) (base := w.heap.size) (ok := fun k_ => ((((((some k_ ≠ (.slice Ao40 t366.length co40 : Value).ownBlock ∧ (some k_ ≠ (.slice Ao41 t369.length co41 : Value).ownBlock ∧ (k_ ≠ gb331 ∧ (k_ ≠ gb352 ∧ k_ ≠ gb373)))) ∧ some k_ ≠ (.slice Ao112 t389.length co112 : Value).ownBlock) ∧ some k_ ≠ (.slice Ao113 t392.length co113 : Value).ownBlock) ∧ some k_ ≠ (.slice Ao120 t401.length co120 : Value).ownBlock) ∧ some k_ ≠ (.slice Ao121 t404.length co121 : Value).ownBlock) ∧ k_ ≠ gb408)) (n := t345.length) (c := co24) ?_).2.2; exact (by (with_reducible repeat (first | apply Kd.V_alloc | apply Kd.V_drewN | apply Kd.V_drew)); exact (Kd.V_mono (Kd.V_far (p := ⟨gb408, 7, none⟩) (Kd.V_far (p := ⟨gb408, 6, none⟩) (Kd.V_far (p := ⟨gb408, 5, none⟩) (Kd.V_far (p := ⟨gb408, 4, none⟩) (Kd.V_far (p := ⟨gb408, 3, none⟩) (Kd.V_far (p := ⟨gb408, 2, none⟩) (Kd.V_far (p := ⟨gb408, 1, none⟩) (Kd.V_far (p := ⟨gb408, 0, none⟩) (Kd.V_mono HO_353006.out (fun k_ hk => (⟨hk, hk.2⟩ : _ ∧ k_ ≠ gb408))) (fun _ hk => hk.2) (.int .i64 t395)) (fun _ hk => hk.2) (.int .i64 t396)) (fun _ hk => hk.2) (.int .i64 t397)) (fun _ hk => hk.2) (.int .i64 t398)) (fun _ hk => hk.2) (.int .i64 t399)) (fun _ hk => hk.2) (.int .i64 t400)) (fun _ hk => hk.2) (.slice Ao120 t401.length co120)) (fun _ hk => hk.2) (.slice Ao121 t404.length co121)) (fun _ h_ => h_.1)))); (case side6 => exact (Kd.V_reads' HO_353006.out).2.1); (case side7 => refine (Kd.V_reads' (e := 50) (base := w.heap.size) (ok := fun k_ => ((((((some k_ ≠ (.slice Ao40 t366.length co40 : Value).ownBlock ∧ (some k_ ≠ (.slice Ao41 t369.length co41 : Value).ownBlock ∧ (k_ ≠ gb331 ∧ (k_ ≠ gb352 ∧ k_ ≠ gb373)))) ∧ some k_ ≠ (.slice Ao112 t389.length co112 : Value).ownBlock) ∧ some k_ ≠ (.slice Ao113 t392.length co113 : Value).ownBlock) ∧ some k_ ≠ (.slice Ao120 t401.length co120 : Value).ownBlock) ∧ some k_ ≠ (.slice Ao121 t404.length co121 : Value).ownBlock) ∧ k_ ≠ gb408)) (n := t348.length) (c := co25) ?_).2.2; exact (by (with_reducible repeat (first | apply Kd.V_alloc | apply Kd.V_drewN | apply Kd.V_drew)); exact (Kd.V_mono (Kd.V_far (p := ⟨gb408, 7, none⟩) (Kd.V_far (p := ⟨gb408, 6, none⟩) (Kd.V_far (p := ⟨gb408, 5, none⟩) (Kd.V_far (p := ⟨gb408, 4, none⟩) (Kd.V_far (p := ⟨gb408, 3, none⟩) (Kd.V_far (p := ⟨gb408, 2, none⟩) (Kd.V_far (p := ⟨gb408, 1, none⟩) (Kd.V_far (p := ⟨gb408, 0, none⟩) (Kd.V_mono HO_353007.out (fun k_ hk => (⟨hk, hk.2⟩ : _ ∧ k_ ≠ gb408))) (fun _ hk => hk.2) (.int .i64 t395)) (fun _ hk => hk.2) (.int .i64 t396)) (fun _ hk => hk.2) (.int .i64 t397)) (fun _ hk => hk.2) (.int .i64 t398)) (fun _ hk => hk.2) (.int .i64 t399)) (fun _ hk => hk.2) (.int .i64 t400)) (fun _ hk => hk.2) (.slice Ao120 t401.length co120)) (fun _ hk => hk.2) (.slice Ao121 t404.length co121)) (fun _ h_ => h_.1)))); (case side8 => exact (Kd.V_reads' HO_353007.out).2.1); rintro e w131 ⟨rfl, hb⟩; refine ⟨_, rfl, ?_⟩; replace HO_353006 := AM (Kd.V_below (by (with_reducible repeat (first | apply Kd.V_alloc | apply Kd.V_drewN | apply Kd.V_drew)); exact (Kd.V_mono (Kd.V_far (p := ⟨gb408, 7, none⟩) (Kd.V_far (p := ⟨gb408, 6, none⟩) (Kd.V_far (p := ⟨gb408, 5, none⟩) (Kd.V_far (p := ⟨gb408, 4, none⟩) (Kd.V_far (p := ⟨gb408, 3, none⟩) (Kd.V_far (p := ⟨gb408, 2, none⟩) (Kd.V_far (p := ⟨gb408, 1, none⟩) (Kd.V_far (p := ⟨gb408, 0, none⟩) (Kd.V_mono HO_353006.out (fun k_ hk => (⟨hk, hk.2⟩ : _ ∧ k_ ≠ gb408))) (fun _ hk => hk.2) (.int .i64 t395)) (fun _ hk => hk.2) (.int .i64 t396)) (fun _ hk => hk.2) (.int .i64 t397)) (fun _ hk => hk.2) (.int .i64 t398)) (fun _ hk => hk.2) (.int .i64 t399)) (fun _ hk => hk.2) (.int .i64 t400)) (fun _ hk => hk.2) (.slice Ao120 t401.length co120)) (fun _ hk => hk.2) (.slice Ao121 t404.length co121)) (fun _ h_ => h_.1))) hb); replace HO_353007 := AM (Kd.V_below (by (with_reducible repeat (first | apply Kd.V_alloc | apply Kd.V_drewN | apply Kd.V_drew)); exact (Kd.V_mono (Kd.V_far (p := ⟨gb408, 7, none⟩) (Kd.V_far (p := ⟨gb408, 6, none⟩) (Kd.V_far (p := ⟨gb408, 5, none⟩) (Kd.V_far (p := ⟨gb408, 4, none⟩) (Kd.V_far (p := ⟨gb408, 3, none⟩) (Kd.V_far (p := ⟨gb408, 2, none⟩) (Kd.V_far (p := ⟨gb408, 1, none⟩) (Kd.V_far (p := ⟨gb408, 0, none⟩) (Kd.V_mono HO_353007.out (fun k_ hk => (⟨hk, hk.2⟩ : _ ∧ k_ ≠ gb408))) (fun _ hk => hk.2) (.int .i64 t395)) (fun _ hk => hk.2) (.int .i64 t396)) (fun _ hk => hk.2) (.int .i64 t397)) (fun _ hk => hk.2) (.int .i64 t398)) (fun _ hk => hk.2) (.int .i64 t399)) (fun _ hk => hk.2) (.int .i64 t400)) (fun _ hk => hk.2) (.slice Ao120 t401.length co120)) (fun _ hk => hk.2) (.slice Ao121 t404.length co121)) (fun _ h_ => h_.1))) hb); replace HO_374006 := AM (Kd.R_below (by (with_reducible repeat (first | apply Kd.R_alloc | apply Kd.R_drewN | apply Kd.R_drew)); exact (Kd.R_mono (Kd.R_far (p := ⟨gb408, 7, none⟩) (Kd.R_far (p := ⟨gb408, 6, none⟩) (Kd.R_far (p := ⟨gb408, 5, none⟩) (Kd.R_far (p := ⟨gb408, 4, none⟩) (Kd.R_far (p := ⟨gb408, 3, none⟩) (Kd.R_far (p := ⟨gb408, 2, none⟩) (Kd.R_far (p := ⟨gb408, 1, none⟩) (Kd.R_far (p := ⟨gb408, 0, none⟩) (Kd.R_mono HO_374006.out (fun k_ hk => (⟨hk, hk.2⟩ : _ ∧ k_ ≠ gb408))) (fun _ hk => hk.2) (.int .i64 t395)) (fun _ hk => hk.2) (.int .i64 t396)) (fun _ hk => hk.2) (.int .i64 t397)) (fun _ hk => hk.2) (.int .i64 t398)) (fun _ hk => hk.2) (.int .i64 t399)) (fun _ hk => hk.2) (.int .i64 t400)) (fun _ hk => hk.2) (.slice Ao120 t401.length co120)) (fun _ hk => hk.2) (.slice Ao121 t404.length co121)) (fun _ h_ => h_.1))) hb); replace HO_374007 := AM (Kd.R_below (by (with_reducible repeat (first | apply Kd.R_alloc | apply Kd.R_drewN | apply Kd.R_drew)); exact (Kd.R_mono (Kd.R_far (p := ⟨gb408, 7, none⟩) (Kd.R_far (p := ⟨gb408, 6, none⟩) (Kd.R_far (p := ⟨gb408, 5, none⟩) (Kd.R_far (p := ⟨gb408, 4, none⟩) (Kd.R_far (p := ⟨gb408, 3, none⟩) (Kd.R_far (p := ⟨gb408, 2, none⟩) (Kd.R_far (p := ⟨gb408, 1, none⟩) (Kd.R_far (p := ⟨gb408, 0, none⟩) (Kd.R_mono HO_374007.out (fun k_ hk => (⟨hk, hk.2⟩ : _ ∧ k_ ≠ gb408))) (fun _ hk => hk.2) (.int .i64 t395)) (fun _ hk => hk.2) (.int .i64 t396)) (fun _ hk => hk.2) (.int .i64 t397)) (fun _ hk => hk.2) (.int .i64 t398)) (fun _ hk => hk.2) (.int .i64 t399)) (fun _ hk => hk.2) (.int .i64 t400)) (fun _ hk => hk.2) (.slice Ao120 t401.length co120)) (fun _ hk => hk.2) (.slice Ao121 t404.length co121)) (fun _ h_ => h_.1))) hb); replace HO391 := AM (Kd.R_below (ZR ((Kd.R_mono (Kd.R_far (p := ⟨gb408, 7, none⟩) (Kd.R_far (p := ⟨gb408, 6, none⟩) (Kd.R_far (p := ⟨gb408, 5, none⟩) (Kd.R_far (p := ⟨gb408, 4, none⟩) (Kd.R_far (p := ⟨gb408, 3, none⟩) (Kd.R_far (p := ⟨gb408, 2, none⟩) (Kd.R_far (p := ⟨gb408, 1, none⟩) (Kd.R_far (p := ⟨gb408, 0, none⟩) (Kd.R_types HO391.out BK408.out (by decide)) (fun _ hk => hk.2) (.int .i64 t395)) (fun _ hk => hk.2) (.int .i64 t396)) (fun _ hk => hk.2) (.int .i64 t397)) (fun _ hk => hk.2) (.int .i64 t398)) (fun _ hk => hk.2) (.int .i64 t399)) (fun _ hk => hk.2) (.int .i64 t400)) (fun _ hk => hk.2) (.slice Ao120 t401.length co120)) (fun _ hk => hk.2) (.slice Ao121 t404.length co121)) (fun _ h_ => h_.1)))) hb); replace HO394 := AM (Kd.R_below (by (with_reducible repeat (first | apply Kd.R_alloc | apply Kd.R_drewN | apply Kd.R_drew)); exact (Kd.R_mono (Kd.R_far (p := ⟨gb408, 7, none⟩) (Kd.R_far (p := ⟨gb408, 6, none⟩) (Kd.R_far (p := ⟨gb408, 5, none⟩) (Kd.R_far (p := ⟨gb408, 4, none⟩) (Kd.R_far (p := ⟨gb408, 3, none⟩) (Kd.R_far (p := ⟨gb408, 2, none⟩) (Kd.R_far (p := ⟨gb408, 1, none⟩) (Kd.R_far (p := ⟨gb408, 0, none⟩) (Kd.R_mono HO394.out (fun k_ hk => (⟨hk, hk.2⟩ : _ ∧ k_ ≠ gb408))) (fun _ hk => hk.2) (.int .i64 t395)) (fun _ hk => hk.2) (.int .i64 t396)) (fun _ hk => hk.2) (.int .i64 t397)) (fun _ hk => hk.2) (.int .i64 t398)) (fun _ hk => hk.2) (.int .i64 t399)) (fun _ hk => hk.2) (.int .i64 t400)) (fun _ hk => hk.2) (.slice Ao120 t401.length co120)) (fun _ hk => hk.2) (.slice Ao121 t404.length co121)) (fun _ h_ => h_.1))) hb); replace HO403 := AM (Kd.R_below (by (with_reducible repeat (first | apply Kd.R_alloc | apply Kd.R_drewN | apply Kd.R_drew)); exact (Kd.R_mono (Kd.R_far (p := ⟨gb408, 7, none⟩) (Kd.R_far (p := ⟨gb408, 6, none⟩) (Kd.R_far (p := ⟨gb408, 5, none⟩) (Kd.R_far (p := ⟨gb408, 4, none⟩) (Kd.R_far (p := ⟨gb408, 3, none⟩) (Kd.R_far (p := ⟨gb408, 2, none⟩) (Kd.R_far (p := ⟨gb408, 1, none⟩) (Kd.R_far (p := ⟨gb408, 0, none⟩) (Kd.R_mono HO403.out (fun k_ hk => (⟨hk, hk.2⟩ : _ ∧ k_ ≠ gb408))) (fun _ hk => hk.2) (.int .i64 t395)) (fun _ hk => hk.2) (.int .i64 t396)) (fun _ hk => hk.2) (.int .i64 t397)) (fun _ hk => hk.2) (.int .i64 t398)) (fun _ hk => hk.2) (.int .i64 t399)) (fun _ hk => hk.2) (.int .i64 t400)) (fun _ hk => hk.2) (.slice Ao120 t401.length co120)) (fun _ hk => hk.2) (.slice Ao121 t404.length co121)) (fun _ h_ => h_.1))) hb); replace HO406 := AM (Kd.R_below (by (with_reducible repeat (first | apply Kd.R_alloc | apply Kd.R_drewN | apply Kd.R_drew)); exact (Kd.R_mono (Kd.R_far (p := ⟨gb408, 7, none⟩) (Kd.R_far (p := ⟨gb408, 6, none⟩) (Kd.R_far (p := ⟨gb408, 5, none⟩) (Kd.R_far (p := ⟨gb408, 4, none⟩) (Kd.R_far (p := ⟨gb408, 3, none⟩) (Kd.R_far (p := ⟨gb408, 2, none⟩) (Kd.R_far (p := ⟨gb408, 1, none⟩) (Kd.R_far (p := ⟨gb408, 0, none⟩) (Kd.R_mono HO406.out (fun k_ hk => (⟨hk, hk.2⟩ : _ ∧ k_ ≠ gb408))) (fun _ hk => hk.2) (.int .i64 t395)) (fun _ hk => hk.2) (.int .i64 t396)) (fun _ hk => hk.2) (.int .i64 t397)) (fun _ hk => hk.2) (.int .i64 t398)) (fun _ hk => hk.2) (.int .i64 t399)) (fun _ hk => hk.2) (.int .i64 t400)) (fun _ hk => hk.2) (.slice Ao120 t401.length co120)) (fun _ hk => hk.2) (.slice Ao121 t404.length co121)) (fun _ h_ => h_.1))) hb); replace BK331 := ZV #[.slice A0_0 l0_0.length c0_0, .slice A0_1 l0_1.length c0_1] BK331 hb; replace BK352 := ZV #[.int .i64 t339, .int .i64 t340, .int .i64 t341, .int .i64 t342, .int .i64 t343, .int .i64 t344, .slice Ao24 t345.length co24, .slice Ao25 t348.length co25] BK352 hb; replace BK373 := ZV #[.int .i64 t360, .int .i64 t361, .int .i64 t362, .int .i64 t363, .int .i64 t364, .int .i64 t365, .slice Ao40 t366.length co40, .slice Ao41 t369.length co41] BK373 hb; replace BK408 := ZV #[.int .i64 t395, .int .i64 t396, .int .i64 t397, .int .i64 t398, .int .i64 t399, .int .i64 t400, .slice Ao120 t401.length co120, .slice Ao121 t404.length co121] BK408 hb; replace HB := ZT HB hb; clear hb))
   go_meet
   case rel => exact ⟨_, ((t407 != t351)), (by first | rfl | (simp; done) | (simp [*]; done)), H', ⟨by have := HJ11.out; have := HJ64.out; first | omega | exact Nat.le_refl _⟩, ⟨by (with_reducible repeat (first | apply Kd.V_alloc | apply Kd.V_drewN | apply Kd.V_drew)); exact Kd.V_mono HO_353006.out (fun _ hk => ⟨hk.1.1.1.1.1.1, ⟨hk.1.1.1.1.1.2.1, ⟨hk.1.1.2, ⟨hk.1.2, ⟨hk.1.1.1.1.1.2.2.1, ⟨hk.1.1.1.1.1.2.2.2.1, ⟨hk.1.1.1.1.1.2.2.2.2, hk.2⟩⟩⟩⟩⟩⟩⟩)⟩, ⟨by (with_reducible repeat (first | apply Kd.V_alloc | apply Kd.V_drewN | apply Kd.V_drew)); exact Kd.V_mono HO_353007.out (fun _ hk => ⟨hk.1.1.1.1.1.1, ⟨hk.1.1.1.1.1.2.1, ⟨hk.1.1.2, ⟨hk.1.2, ⟨hk.1.1.1.1.1.2.2.1, ⟨hk.1.1.1.1.1.2.2.2.1, ⟨hk.1.1.1.1.1.2.2.2.2, hk.2⟩⟩⟩⟩⟩⟩⟩)⟩, ⟨by (with_reducible repeat (first | apply Kd.R_alloc | apply Kd.R_drewN | apply Kd.R_drew)); exact Kd.R_mono HO_374006.out (fun _ hk => ⟨hk.1.1.1.1.1, ⟨hk.1.1.2, ⟨hk.1.2, ⟨hk.1.1.1.1.2.1, ⟨hk.1.1.1.1.2.2, hk.2⟩⟩⟩⟩⟩)⟩, ⟨by (with_reducible repeat (first | apply Kd.R_alloc | apply Kd.R_drewN | apply Kd.R_drew)); exact Kd.R_mono HO_374007.out (fun _ hk => ⟨hk.1.1.1.1.1, ⟨hk.1.1.2, ⟨hk.1.2, ⟨hk.1.1.1.1.2.1, ⟨hk.1.1.1.1.2.2, hk.2⟩⟩⟩⟩⟩)⟩, ⟨by (with_reducible repeat (first | apply Kd.R_alloc | apply Kd.R_drewN | apply Kd.R_drew)); exact Kd.R_mono HO403.out (fun _ hk => ⟨hk.1.1.1.1.1.2, ⟨hk.1.1.1.1.2, ⟨hk.1.1.1.1.1.1, ⟨hk.1.1.2, ⟨hk.1.2, hk.2⟩⟩⟩⟩⟩)⟩, ⟨by (with_reducible repeat (first | apply Kd.R_alloc | apply Kd.R_drewN | apply Kd.R_drew)); exact Kd.R_mono HO406.out (fun _ hk => ⟨hk.1.1.1.1.1.2, ⟨hk.1.1.1.1.2, ⟨hk.1.1.1.1.1.1, ⟨hk.1.1.2, ⟨hk.1.2, hk.2⟩⟩⟩⟩⟩)⟩, ⟨ZK BK331.out⟩, ⟨ZK BK352.out⟩, ⟨ZK BK373.out⟩, ⟨ZK BK408.out⟩, ⟨ZB⟩⟩)
   ·(
   replace c123 := Bool.eq_false_iff.mpr c123
   subst c123
   have H1 := H; rw [if_neg ZFT] at H1
   clear H
   have H := H1
   clear H1
   have H' := AM H
   clear H
   have hnb132 := NB408_331.out
   have hnc132 := NB331_408.out
   have hnb133 := NB408_352.out
   have hnc133 := NB352_408.out
   have hnb134 := NB408_373.out
   have hnc134 := NB373_408.out
   have hcz135 := ZC8 w115 BK408
   have hfz135 := ZF8 BK408
   have hnb136 := NB352_331.out
   have hnc136 := NB331_352.out
   have hnb137 := NB352_373.out
   have hnc137 := NB373_352.out
   have hcz138 := ZC8 w115 BK352
   have hfz138 := ZF8 BK352
   go_wp2_with (first | ((with_reducible refine gate_callee (f := 31) rfl ?_); refine ZGL (some 86) Try.func31 #[.agg #[.int .i64 t395, .int .i64 t396, .int .i64 t397, .int .i64 t398, .int .i64 t399, .int .i64 t400, .slice Ao120 t401.length co120, .slice Ao121 t404.length co121], .agg #[.int .i64 t339, .int .i64 t340, .int .i64 t341, .int .i64 t342, .int .i64 t343, .int .i64 t344, .slice Ao24 t345.length co24, .slice Ao25 t348.length co25]] ?_; (with_reducible refine (laws_eqStep.calls kj64 t395 t396 t397 t398 t399 t400 _ _ t401 _ _ t404 t339 t340 t341 t342 t343 t344 _ _ t345 _ _ t348 false _ ?side1 ?side2 ?side3 ?side4 ?side5 ?side6 ?side7 ?side8 A122.out).mono ?_); (case side1 => refine (Kd.R_reads' (e := 50) (base := w.heap.size) (ok := fun k_ => ((((((some k_ ≠ (.slice Ao121 t404.length co121 : Value).ownBlock ∧ some k_ ≠ (.slice Ao40 t366.length co40 : Value).ownBlock) ∧ some k_ ≠ (.slice Ao41 t369.length co41 : Value).ownBlock) ∧ some k_ ≠ (.slice Ao113 t392.length co113 : Value).ownBlock) ∧ k_ ≠ gb352) ∧ k_ ≠ gb373) ∧ k_ ≠ gb408)) (n := t401.length) (c := co120) ?_).2.2; exact (by (with_reducible repeat (first | apply Kd.R_alloc | apply Kd.R_drewN | apply Kd.R_drew)); exact (Kd.R_mono (Kd.R_far (p := ⟨gb408, 7, none⟩) (Kd.R_far (p := ⟨gb408, 6, none⟩) (Kd.R_far (p := ⟨gb408, 5, none⟩) (Kd.R_far (p := ⟨gb408, 4, none⟩) (Kd.R_far (p := ⟨gb408, 3, none⟩) (Kd.R_far (p := ⟨gb408, 2, none⟩) (Kd.R_far (p := ⟨gb408, 1, none⟩) (Kd.R_far (p := ⟨gb408, 0, none⟩) (Kd.R_mono HO403.out (fun k_ hk => (⟨hk, hk.2⟩ : _ ∧ k_ ≠ gb408))) (fun _ hk => hk.2) (.int .i64 t395)) (fun _ hk => hk.2) (.int .i64 t396)) (fun _ hk => hk.2) (.int .i64 t397)) (fun _ hk => hk.2) (.int .i64 t398)) (fun _ hk => hk.2) (.int .i64 t399)) (fun _ hk => hk.2) (.int .i64 t400)) (fun _ hk => hk.2) (.slice Ao120 t401.length co120)) (fun _ hk => hk.2) (.slice Ao121 t404.length co121)) (fun _ h_ => h_.1)))); (case side2 => exact (Kd.R_reads' HO403.out).2.1); (case side3 => refine (Kd.R_reads' (e := 50) (base := w.heap.size) (ok := fun k_ => ((((((some k_ ≠ (.slice Ao120 t401.length co120 : Value).ownBlock ∧ some k_ ≠ (.slice Ao40 t366.length co40 : Value).ownBlock) ∧ some k_ ≠ (.slice Ao41 t369.length co41 : Value).ownBlock) ∧ some k_ ≠ (.slice Ao113 t392.length co113 : Value).ownBlock) ∧ k_ ≠ gb352) ∧ k_ ≠ gb373) ∧ k_ ≠ gb408)) (n := t404.length) (c := co121) ?_).2.2; exact (by (with_reducible repeat (first | apply Kd.R_alloc | apply Kd.R_drewN | apply Kd.R_drew)); exact (Kd.R_mono (Kd.R_far (p := ⟨gb408, 7, none⟩) (Kd.R_far (p := ⟨gb408, 6, none⟩) (Kd.R_far (p := ⟨gb408, 5, none⟩) (Kd.R_far (p := ⟨gb408, 4, none⟩) (Kd.R_far (p := ⟨gb408, 3, none⟩) (Kd.R_far (p := ⟨gb408, 2, none⟩) (Kd.R_far (p := ⟨gb408, 1, none⟩) (Kd.R_far (p := ⟨gb408, 0, none⟩) (Kd.R_mono HO406.out (fun k_ hk => (⟨hk, hk.2⟩ : _ ∧ k_ ≠ gb408))) (fun _ hk => hk.2) (.int .i64 t395)) (fun _ hk => hk.2) (.int .i64 t396)) (fun _ hk => hk.2) (.int .i64 t397)) (fun _ hk => hk.2) (.int .i64 t398)) (fun _ hk => hk.2) (.int .i64 t399)) (fun _ hk => hk.2) (.int .i64 t400)) (fun _ hk => hk.2) (.slice Ao120 t401.length co120)) (fun _ hk => hk.2) (.slice Ao121 t404.length co121)) (fun _ h_ => h_.1)))); (case side4 => exact (Kd.R_reads' HO406.out).2.1); (case side5 => refine (Kd.V_reads' (e := 50) (base := w.heap.size) (ok := fun k_ => ((((((some k_ ≠ (.slice Ao40 t366.length co40 : Value).ownBlock ∧ (some k_ ≠ (.slice Ao41 t369.length co41 : Value).ownBlock ∧ (k_ ≠ gb331 ∧ (k_ ≠ gb352 ∧ k_ ≠ gb373)))) ∧ some k_ ≠ (.slice Ao112 t389.length co112 : Value).ownBlock) ∧ some k_ ≠ (.slice Ao113 t392.length co113 : Value).ownBlock) ∧ some k_ ≠ (.slice Ao120 t401.length co120 : Value).ownBlock) ∧ some k_ ≠ (.slice Ao121 t404.length co121 : Value).ownBlock) ∧ k_ ≠ gb408)) (n := t345.length) (c := co24) ?_).2.2; exact (by (with_reducible repeat (first | apply Kd.V_alloc | apply Kd.V_drewN | apply Kd.V_drew)); exact (Kd.V_mono (Kd.V_far (p := ⟨gb408, 7, none⟩) (Kd.V_far (p := ⟨gb408, 6, none⟩) (Kd.V_far (p := ⟨gb408, 5, none⟩) (Kd.V_far (p := ⟨gb408, 4, none⟩) (Kd.V_far (p := ⟨gb408, 3, none⟩) (Kd.V_far (p := ⟨gb408, 2, none⟩) (Kd.V_far (p := ⟨gb408, 1, none⟩) (Kd.V_far (p := ⟨gb408, 0, none⟩) (Kd.V_mono HO_353006.out (fun k_ hk => (⟨hk, hk.2⟩ : _ ∧ k_ ≠ gb408))) (fun _ hk => hk.2) (.int .i64 t395)) (fun _ hk => hk.2) (.int .i64 t396)) (fun _ hk => hk.2) (.int .i64 t397)) (fun _ hk => hk.2) (.int .i64 t398)) (fun _ hk => hk.2) (.int .i64 t399)) (fun _ hk => hk.2) (.int .i64 t400)) (fun _ hk => hk.2) (.slice Ao120 t401.length co120)) (fun _ hk => hk.2) (.slice Ao121 t404.length co121)) (fun _ h_ => h_.1)))); (case side6 => exact (Kd.V_reads' HO_353006.out).2.1); (case side7 => refine (Kd.V_reads' (e := 50) (base := w.heap.size) (ok := fun k_ => ((((((some k_ ≠ (.slice Ao40 t366.length co40 : Value).ownBlock ∧ (some k_ ≠ (.slice Ao41 t369.length co41 : Value).ownBlock ∧ (k_ ≠ gb331 ∧ (k_ ≠ gb352 ∧ k_ ≠ gb373)))) ∧ some k_ ≠ (.slice Ao112 t389.length co112 : Value).ownBlock) ∧ some k_ ≠ (.slice Ao113 t392.length co113 : Value).ownBlock) ∧ some k_ ≠ (.slice Ao120 t401.length co120 : Value).ownBlock) ∧ some k_ ≠ (.slice Ao121 t404.length co121 : Value).ownBlock) ∧ k_ ≠ gb408)) (n := t348.length) (c := co25) ?_).2.2; exact (by (with_reducible repeat (first | apply Kd.V_alloc | apply Kd.V_drewN | apply Kd.V_drew)); exact (Kd.V_mono (Kd.V_far (p := ⟨gb408, 7, none⟩) (Kd.V_far (p := ⟨gb408, 6, none⟩) (Kd.V_far (p := ⟨gb408, 5, none⟩) (Kd.V_far (p := ⟨gb408, 4, none⟩) (Kd.V_far (p := ⟨gb408, 3, none⟩) (Kd.V_far (p := ⟨gb408, 2, none⟩) (Kd.V_far (p := ⟨gb408, 1, none⟩) (Kd.V_far (p := ⟨gb408, 0, none⟩) (Kd.V_mono HO_353007.out (fun k_ hk => (⟨hk, hk.2⟩ : _ ∧ k_ ≠ gb408))) (fun _ hk => hk.2) (.int .i64 t395)) (fun _ hk => hk.2) (.int .i64 t396)) (fun _ hk => hk.2) (.int .i64 t397)) (fun _ hk => hk.2) (.int .i64 t398)) (fun _ hk => hk.2) (.int .i64 t399)) (fun _ hk => hk.2) (.int .i64 t400)) (fun _ hk => hk.2) (.slice Ao120 t401.length co120)) (fun _ hk => hk.2) (.slice Ao121 t404.length co121)) (fun _ h_ => h_.1)))); (case side8 => exact (Kd.V_reads' HO_353007.out).2.1); rintro e w139 ⟨rfl, hb⟩; refine ⟨_, rfl, ?_⟩; replace HO_353006 := AM (Kd.V_below (by (with_reducible repeat (first | apply Kd.V_alloc | apply Kd.V_drewN | apply Kd.V_drew)); exact (Kd.V_mono (Kd.V_far (p := ⟨gb408, 7, none⟩) (Kd.V_far (p := ⟨gb408, 6, none⟩) (Kd.V_far (p := ⟨gb408, 5, none⟩) (Kd.V_far (p := ⟨gb408, 4, none⟩) (Kd.V_far (p := ⟨gb408, 3, none⟩) (Kd.V_far (p := ⟨gb408, 2, none⟩) (Kd.V_far (p := ⟨gb408, 1, none⟩) (Kd.V_far (p := ⟨gb408, 0, none⟩) (Kd.V_mono HO_353006.out (fun k_ hk => (⟨hk, hk.2⟩ : _ ∧ k_ ≠ gb408))) (fun _ hk => hk.2) (.int .i64 t395)) (fun _ hk => hk.2) (.int .i64 t396)) (fun _ hk => hk.2) (.int .i64 t397)) (fun _ hk => hk.2) (.int .i64 t398)) (fun _ hk => hk.2) (.int .i64 t399)) (fun _ hk => hk.2) (.int .i64 t400)) (fun _ hk => hk.2) (.slice Ao120 t401.length co120)) (fun _ hk => hk.2) (.slice Ao121 t404.length co121)) (fun _ h_ => h_.1))) hb); replace HO_353007 := AM (Kd.V_below (by (with_reducible repeat (first | apply Kd.V_alloc | apply Kd.V_drewN | apply Kd.V_drew)); exact (Kd.V_mono (Kd.V_far (p := ⟨gb408, 7, none⟩) (Kd.V_far (p := ⟨gb408, 6, none⟩) (Kd.V_far (p := ⟨gb408, 5, none⟩) (Kd.V_far (p := ⟨gb408, 4, none⟩) (Kd.V_far (p := ⟨gb408, 3, none⟩) (Kd.V_far (p := ⟨gb408, 2, none⟩) (Kd.V_far (p := ⟨gb408, 1, none⟩) (Kd.V_far (p := ⟨gb408, 0, none⟩) (Kd.V_mono HO_353007.out (fun k_ hk => (⟨hk, hk.2⟩ : _ ∧ k_ ≠ gb408))) (fun _ hk => hk.2) (.int .i64 t395)) (fun _ hk => hk.2) (.int .i64 t396)) (fun _ hk => hk.2) (.int .i64 t397)) (fun _ hk => hk.2) (.int .i64 t398)) (fun _ hk => hk.2) (.int .i64 t399)) (fun _ hk => hk.2) (.int .i64 t400)) (fun _ hk => hk.2) (.slice Ao120 t401.length co120)) (fun _ hk => hk.2) (.slice Ao121 t404.length co121)) (fun _ h_ => h_.1))) hb); replace HO_374006 := AM (Kd.R_below (by (with_reducible repeat (first | apply Kd.R_alloc | apply Kd.R_drewN | apply Kd.R_drew)); exact (Kd.R_mono (Kd.R_far (p := ⟨gb408, 7, none⟩) (Kd.R_far (p := ⟨gb408, 6, none⟩) (Kd.R_far (p := ⟨gb408, 5, none⟩) (Kd.R_far (p := ⟨gb408, 4, none⟩) (Kd.R_far (p := ⟨gb408, 3, none⟩) (Kd.R_far (p := ⟨gb408, 2, none⟩) (Kd.R_far (p := ⟨gb408, 1, none⟩) (Kd.R_far (p := ⟨gb408, 0, none⟩) (Kd.R_mono HO_374006.out (fun k_ hk => (⟨hk, hk.2⟩ : _ ∧ k_ ≠ gb408))) (fun _ hk => hk.2) (.int .i64 t395)) (fun _ hk => hk.2) (.int .i64 t396)) (fun _ hk => hk.2) (.int .i64 t397)) (fun _ hk => hk.2) (.int .i64 t398)) (fun _ hk => hk.2) (.int .i64 t399)) (fun _ hk => hk.2) (.int .i64 t400)) (fun _ hk => hk.2) (.slice Ao120 t401.length co120)) (fun _ hk => hk.2) (.slice Ao121 t404.length co121)) (fun _ h_ => h_.1))) hb); replace HO_374007 := AM (Kd.R_below (by (with_reducible repeat (first | apply Kd.R_alloc | apply Kd.R_drewN | apply Kd.R_drew)); exact (Kd.R_mono (Kd.R_far (p := ⟨gb408, 7, none⟩) (Kd.R_far (p := ⟨gb408, 6, none⟩) (Kd.R_far (p := ⟨gb408, 5, none⟩) (Kd.R_far (p := ⟨gb408, 4, none⟩) (Kd.R_far (p := ⟨gb408, 3, none⟩) (Kd.R_far (p := ⟨gb408, 2, none⟩) (Kd.R_far (p := ⟨gb408, 1, none⟩) (Kd.R_far (p := ⟨gb408, 0, none⟩) (Kd.R_mono HO_374007.out (fun k_ hk => (⟨hk, hk.2⟩ : _ ∧ k_ ≠ gb408))) (fun _ hk => hk.2) (.int .i64 t395)) (fun _ hk => hk.2) (.int .i64 t396)) (fun _ hk => hk.2) (.int .i64 t397)) (fun _ hk => hk.2) (.int .i64 t398)) (fun _ hk => hk.2) (.int .i64 t399)) (fun _ hk => hk.2) (.int .i64 t400)) (fun _ hk => hk.2) (.slice Ao120 t401.length co120)) (fun _ hk => hk.2) (.slice Ao121 t404.length co121)) (fun _ h_ => h_.1))) hb); replace HO391 := AM (Kd.R_below (ZR ((Kd.R_mono (Kd.R_far (p := ⟨gb408, 7, none⟩) (Kd.R_far (p := ⟨gb408, 6, none⟩) (Kd.R_far (p := ⟨gb408, 5, none⟩) (Kd.R_far (p := ⟨gb408, 4, none⟩) (Kd.R_far (p := ⟨gb408, 3, none⟩) (Kd.R_far (p := ⟨gb408, 2, none⟩) (Kd.R_far (p := ⟨gb408, 1, none⟩) (Kd.R_far (p := ⟨gb408, 0, none⟩) (Kd.R_types HO391.out BK408.out (by decide)) (fun _ hk => hk.2) (.int .i64 t395)) (fun _ hk => hk.2) (.int .i64 t396)) (fun _ hk => hk.2) (.int .i64 t397)) (fun _ hk => hk.2) (.int .i64 t398)) (fun _ hk => hk.2) (.int .i64 t399)) (fun _ hk => hk.2) (.int .i64 t400)) (fun _ hk => hk.2) (.slice Ao120 t401.length co120)) (fun _ hk => hk.2) (.slice Ao121 t404.length co121)) (fun _ h_ => h_.1)))) hb); replace HO394 := AM (Kd.R_below (by (with_reducible repeat (first | apply Kd.R_alloc | apply Kd.R_drewN | apply Kd.R_drew)); exact (Kd.R_mono (Kd.R_far (p := ⟨gb408, 7, none⟩) (Kd.R_far (p := ⟨gb408, 6, none⟩) (Kd.R_far (p := ⟨gb408, 5, none⟩) (Kd.R_far (p := ⟨gb408, 4, none⟩) (Kd.R_far (p := ⟨gb408, 3, none⟩) (Kd.R_far (p := ⟨gb408, 2, none⟩) (Kd.R_far (p := ⟨gb408, 1, none⟩) (Kd.R_far (p := ⟨gb408, 0, none⟩) (Kd.R_mono HO394.out (fun k_ hk => (⟨hk, hk.2⟩ : _ ∧ k_ ≠ gb408))) (fun _ hk => hk.2) (.int .i64 t395)) (fun _ hk => hk.2) (.int .i64 t396)) (fun _ hk => hk.2) (.int .i64 t397)) (fun _ hk => hk.2) (.int .i64 t398)) (fun _ hk => hk.2) (.int .i64 t399)) (fun _ hk => hk.2) (.int .i64 t400)) (fun _ hk => hk.2) (.slice Ao120 t401.length co120)) (fun _ hk => hk.2) (.slice Ao121 t404.length co121)) (fun _ h_ => h_.1))) hb); replace HO403 := AM (Kd.R_below (by (with_reducible repeat (first | apply Kd.R_alloc | apply Kd.R_drewN | apply Kd.R_drew)); exact (Kd.R_mono (Kd.R_far (p := ⟨gb408, 7, none⟩) (Kd.R_far (p := ⟨gb408, 6, none⟩) (Kd.R_far (p := ⟨gb408, 5, none⟩) (Kd.R_far (p := ⟨gb408, 4, none⟩) (Kd.R_far (p := ⟨gb408, 3, none⟩) (Kd.R_far (p := ⟨gb408, 2, none⟩) (Kd.R_far (p := ⟨gb408, 1, none⟩) (Kd.R_far (p := ⟨gb408, 0, none⟩) (Kd.R_mono HO403.out (fun k_ hk => (⟨hk, hk.2⟩ : _ ∧ k_ ≠ gb408))) (fun _ hk => hk.2) (.int .i64 t395)) (fun _ hk => hk.2) (.int .i64 t396)) (fun _ hk => hk.2) (.int .i64 t397)) (fun _ hk => hk.2) (.int .i64 t398)) (fun _ hk => hk.2) (.int .i64 t399)) (fun _ hk => hk.2) (.int .i64 t400)) (fun _ hk => hk.2) (.slice Ao120 t401.length co120)) (fun _ hk => hk.2) (.slice Ao121 t404.length co121)) (fun _ h_ => h_.1))) hb); replace HO406 := AM (Kd.R_below (by (with_reducible repeat (first | apply Kd.R_alloc | apply Kd.R_drewN | apply Kd.R_drew)); exact (Kd.R_mono (Kd.R_far (p := ⟨gb408, 7, none⟩) (Kd.R_far (p := ⟨gb408, 6, none⟩) (Kd.R_far (p := ⟨gb408, 5, none⟩) (Kd.R_far (p := ⟨gb408, 4, none⟩) (Kd.R_far (p := ⟨gb408, 3, none⟩) (Kd.R_far (p := ⟨gb408, 2, none⟩) (Kd.R_far (p := ⟨gb408, 1, none⟩) (Kd.R_far (p := ⟨gb408, 0, none⟩) (Kd.R_mono HO406.out (fun k_ hk => (⟨hk, hk.2⟩ : _ ∧ k_ ≠ gb408))) (fun _ hk => hk.2) (.int .i64 t395)) (fun _ hk => hk.2) (.int .i64 t396)) (fun _ hk => hk.2) (.int .i64 t397)) (fun _ hk => hk.2) (.int .i64 t398)) (fun _ hk => hk.2) (.int .i64 t399)) (fun _ hk => hk.2) (.int .i64 t400)) (fun _ hk => hk.2) (.slice Ao120 t401.length co120)) (fun _ hk => hk.2) (.slice Ao121 t404.length co121)) (fun _ h_ => h_.1))) hb); replace BK331 := ZV #[.slice A0_0 l0_0.length c0_0, .slice A0_1 l0_1.length c0_1] BK331 hb; replace BK352 := ZV #[.int .i64 t339, .int .i64 t340, .int .i64 t341, .int .i64 t342, .int .i64 t343, .int .i64 t344, .slice Ao24 t345.length co24, .slice Ao25 t348.length co25] BK352 hb; replace BK373 := ZV #[.int .i64 t360, .int .i64 t361, .int .i64 t362, .int .i64 t363, .int .i64 t364, .int .i64 t365, .slice Ao40 t366.length co40, .slice Ao41 t369.length co41] BK373 hb; replace BK408 := ZV #[.int .i64 t395, .int .i64 t396, .int .i64 t397, .int .i64 t398, .int .i64 t399, .int .i64 t400, .slice Ao120 t401.length co120, .slice Ao121 t404.length co121] BK408 hb; replace HB := ZT HB hb; clear hb))
   go_meet
   case rel => exact ⟨_, (true), (by first | rfl | (simp; done) | (simp [*]; done)), H', ⟨by have := HJ11.out; have := HJ64.out; first | omega | exact Nat.le_refl _⟩, ⟨by (with_reducible repeat (first | apply Kd.V_alloc | apply Kd.V_drewN | apply Kd.V_drew)); exact Kd.V_mono HO_353006.out (fun _ hk => ⟨hk.1.1.1.1.1.1, ⟨hk.1.1.1.1.1.2.1, ⟨hk.1.1.2, ⟨hk.1.2, ⟨hk.1.1.1.1.1.2.2.1, ⟨hk.1.1.1.1.1.2.2.2.1, ⟨hk.1.1.1.1.1.2.2.2.2, hk.2⟩⟩⟩⟩⟩⟩⟩)⟩, ⟨by (with_reducible repeat (first | apply Kd.V_alloc | apply Kd.V_drewN | apply Kd.V_drew)); exact Kd.V_mono HO_353007.out (fun _ hk => ⟨hk.1.1.1.1.1.1, ⟨hk.1.1.1.1.1.2.1, ⟨hk.1.1.2, ⟨hk.1.2, ⟨hk.1.1.1.1.1.2.2.1, ⟨hk.1.1.1.1.1.2.2.2.1, ⟨hk.1.1.1.1.1.2.2.2.2, hk.2⟩⟩⟩⟩⟩⟩⟩)⟩, ⟨by (with_reducible repeat (first | apply Kd.R_alloc | apply Kd.R_drewN | apply Kd.R_drew)); exact Kd.R_mono HO_374006.out (fun _ hk => ⟨hk.1.1.1.1.1, ⟨hk.1.1.2, ⟨hk.1.2, ⟨hk.1.1.1.1.2.1, ⟨hk.1.1.1.1.2.2, hk.2⟩⟩⟩⟩⟩)⟩, ⟨by (with_reducible repeat (first | apply Kd.R_alloc | apply Kd.R_drewN | apply Kd.R_drew)); exact Kd.R_mono HO_374007.out (fun _ hk => ⟨hk.1.1.1.1.1, ⟨hk.1.1.2, ⟨hk.1.2, ⟨hk.1.1.1.1.2.1, ⟨hk.1.1.1.1.2.2, hk.2⟩⟩⟩⟩⟩)⟩, ⟨by (with_reducible repeat (first | apply Kd.R_alloc | apply Kd.R_drewN | apply Kd.R_drew)); exact Kd.R_mono HO403.out (fun _ hk => ⟨hk.1.1.1.1.1.2, ⟨hk.1.1.1.1.2, ⟨hk.1.1.1.1.1.1, ⟨hk.1.1.2, ⟨hk.1.2, hk.2⟩⟩⟩⟩⟩)⟩, ⟨by (with_reducible repeat (first | apply Kd.R_alloc | apply Kd.R_drewN | apply Kd.R_drew)); exact Kd.R_mono HO406.out (fun _ hk => ⟨hk.1.1.1.1.1.2, ⟨hk.1.1.1.1.2, ⟨hk.1.1.1.1.1.1, ⟨hk.1.1.2, ⟨hk.1.2, hk.2⟩⟩⟩⟩⟩)⟩, ⟨ZK BK331.out⟩, ⟨ZK BK352.out⟩, ⟨ZK BK373.out⟩, ⟨ZK BK408.out⟩, ⟨ZB⟩⟩))
   case rest => (
   clear HC102
   try clear c1
   try clear c2
   try clear p2
   try clear c3
   try clear c4
   try clear c4b0
   try clear c5
   try clear c6
   try clear c7
   try clear c8
   try clear c9
   try clear c10
   try clear c11
   try clear c12
   try clear c13
   try clear c14
   try clear c22
   try clear c29
   try clear c30
   try clear c31
   try clear c32
   try clear c33
   try clear c36
   try clear c37
   try clear c38
   try clear c43
   try clear c44
   try clear c45
   try clear c46
   try clear c48
   try clear c49
   try clear c52
   try clear c53
   try clear c54
   try clear c56
   try clear c57
   try clear c60
   try clear c63
   try clear c71
   try clear c72
   try clear c73
   try clear c76
   try clear c76b0
   try clear c78
   try clear c79
   try clear c80
   try clear c81
   try clear c83
   try clear c84
   try clear c87
   try clear c88
   try clear c89
   try clear c91
   try clear c92
   try clear c95
   try clear c98
   try clear c98b0
   try clear c99
   try clear c99b0
   try clear c99b1
   try clear c103
   try clear c104
   try clear c109
   try clear c116
   try clear c117
   try clear c118
   try clear c123
   try clear c124
   try clear c125
   try clear c126
   try clear c128
   try clear c129
   try clear c132
   try clear c133
   try clear c134
   try clear c136
   try clear c137
   try clear hcz105
   try clear hcz107
   try clear hcz110
   try clear hcz119
   try clear hcz127
   try clear hcz130
   try clear hcz135
   try clear hcz138
   try clear hcz14
   try clear hcz16
   try clear hcz23
   try clear hcz26
   try clear hcz32
   try clear hcz39
   try clear hcz47
   try clear hcz50
   try clear hcz55
   try clear hcz58
   try clear hcz6
   try clear hcz74
   try clear hcz82
   try clear hcz85
   try clear hcz90
   try clear hcz93
   try clear hfz105
   try clear hfz107
   try clear hfz110
   try clear hfz119
   try clear hfz127
   try clear hfz130
   try clear hfz135
   try clear hfz138
   try clear hfz14
   try clear hfz16
   try clear hfz23
   try clear hfz26
   try clear hfz32
   try clear hfz39
   try clear hfz47
   try clear hfz50
   try clear hfz55
   try clear hfz58
   try clear hfz6
   try clear hfz74
   try clear hfz82
   try clear hfz85
   try clear hfz90
   try clear hfz93
   try clear p2
   obtain ⟨kq, x92_101, rfl, HA, HJ101, HO_353006, HO_353007, HO_374006, HO_374007, HO_409006, HO_409007, BK331, BK352, BK373, BK408, HB⟩ := hcut
   have hl374006_101 := (Kd.R_reads' HO_374006.out).1
   rw [hl374006_101] at HO_374006
   (try simp only [hl374006_101])
   (try simp only [hl374006_101] at BK331)
   (try simp only [hl374006_101] at BK352)
   (try simp only [hl374006_101] at BK373)
   (try simp only [hl374006_101] at BK408)
   (try simp only [hl374006_101] at HO_353006)
   (try simp only [hl374006_101] at HO_353007)
   (try simp only [hl374006_101] at HO_374007)
   (try simp only [hl374006_101] at HO_409006)
   (try simp only [hl374006_101] at HO_409007)
   have hl374007_101 := (Kd.R_reads' HO_374007.out).1
   rw [hl374007_101] at HO_374007
   (try simp only [hl374007_101])
   (try simp only [hl374007_101] at BK331)
   (try simp only [hl374007_101] at BK352)
   (try simp only [hl374007_101] at BK373)
   (try simp only [hl374007_101] at BK408)
   (try simp only [hl374007_101] at HO_353006)
   (try simp only [hl374007_101] at HO_353007)
   (try simp only [hl374007_101] at HO_374006)
   (try simp only [hl374007_101] at HO_409006)
   (try simp only [hl374007_101] at HO_409007)
   cases kq with
   | zero => exact absurd HA.out (by simp [laws_FnExactProgAt.j2])
   | succ kj101 =>
    have H := HA.out
    clear HA
    simp only [laws_FnExactProgAt.j2] at H
    by_cases c140 : x92_101 = true
    ·(
    subst c140
    have H1 := H; rw [if_pos rfl] at H1
    clear H
    have H := H1
    clear H1
    exact absurd H (by simp))
    ·(
    replace c140 := Bool.eq_false_iff.mpr c140
    subst c140
    have H1 := H; rw [if_neg ZFT] at H1
    clear H
    have H := H1
    clear H1
    obtain ⟨t410, A141, H⟩ := ZOB H; try dsimp only at H
    by_cases c142 : t410 < 0
    ·(
    rw [if_pos c142] at H
    exact absurd H (by simp))
    ·(
    rw [if_neg c142] at H
    have c142b0 := decide_eq_false c142
    clear c142
    by_cases c143 : t410 = t385
    ·(
    rw [if_pos c143] at H
    have c143b0 := beq_iff_eq.mpr c143
    have c143b1 := bne_eq_false_iff_eq.mpr c143
    clear c143
    obtain rfl := Option.some.inj H
    have hnb144 := NB373_331.out
    have hnc144 := NB331_373.out
    have hnb145 := NB373_352.out
    have hnc145 := NB352_373.out
    have hnb146 := NB373_408.out
    have hnc146 := NB408_373.out
    have hcz147 := ZC8 wc BK373
    have hfz147 := ZF8 BK373
    go_wp2_with (first | ((with_reducible refine gate_callee (f := 33) rfl ?_); refine ZGL (some 95) Try.func33 #[.agg #[.int .i64 t360, .int .i64 t361, .int .i64 t362, .int .i64 t363, .int .i64 t364, .int .i64 t365, .slice Ao40 t386.length co40, .slice Ao41 t387.length co41], .int .i64 1] ?_; (with_reducible refine (laws_heldStep.calls kj101 t360 t361 t362 t363 t364 t365 _ _ t386 _ _ t387 1 t410 _ ?side1 ?side2 ?side3 ?side4 A141.out).mono ?_); (case side1 => exact ZQ ((Kd.R_reads' HO_374006.out).2.2)); (case side2 => exact (Kd.R_reads' HO_374006.out).2.1); (case side3 => exact ZQ ((Kd.R_reads' HO_374007.out).2.2)); (case side4 => exact (Kd.R_reads' HO_374007.out).2.1); rintro e w148 ⟨rfl, hb⟩; refine ⟨_, rfl, ?_⟩; replace HO_353006 := AM (Kd.V_below (ZRV HO_353006.out) hb); replace HO_353007 := AM (Kd.V_below (ZRV HO_353007.out) hb); replace HO_374006 := AM (Kd.R_below (ZR HO_374006.out) hb); replace HO_374007 := AM (Kd.R_below (ZR HO_374007.out) hb); replace HO_409006 := AM (Kd.R_below (ZR HO_409006.out) hb); replace HO_409007 := AM (Kd.R_below (ZR HO_409007.out) hb); replace BK331 := ZW BK331 hb; replace BK352 := ZW BK352 hb; replace BK373 := ZW BK373 hb; replace BK408 := ZW BK408 hb; replace HB := ZT HB hb; clear hb))
    go_ret
    exact ⟨ZE, ZB⟩)
    ·(
    rw [if_neg c143] at H
    exact absurd H (by simp))))))
   ·(
   rw [if_neg c99] at H
   exact absurd H (by simp))))))
  ·(
  replace c63 := Bool.eq_false_iff.mpr c63
  subst c63
  have H1 := H; rw [if_neg ZFT] at H1
  clear H
  have H := H1
  clear H1
  exact absurd H (by simp)))))

end Go.Proofs.Ytaflodibibbakaa.B
