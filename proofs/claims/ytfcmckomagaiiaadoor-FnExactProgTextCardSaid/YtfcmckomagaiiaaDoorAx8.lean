/- Go functions as Lean functions, and for each its contract; written by wip/tools/pr.py over the kit's print. -/
import Derived.Test.YtfcmckomagaiiaaDoorAx0
namespace Go.Proofs.YtfcmckomagaiiaaDoor.A
open Go.RowKit Go.Proofs.YtfcmckomagaiiaaDoorW.PrintWords Go.Proofs.YtfcmckomagaiiaaDoorW.PrintLast Go.Proofs.YtfcmckomagaiiaaDoorW.PrintMore
attribute [local go_sem] max2_int min2_int max_two min_two max_three min_three max_four min_four
set_option linter.unusedVariables false
set_option linter.unusedSimpArgs false
set_option maxHeartbeats 8000000
set_option maxRecDepth 100000

/-! ### laws_toLabel: function 37 -/
def laws_toLabel.f (a0_0 : Int) (a0_1 : Int) : Option (Int × Int) := some (a0_0, a0_1)
theorem laws_toLabel.calls (a0_0 : Int) (a0_1 : Int) (r1 : Int) (r2 : Int) (w : World) (h : laws_toLabel.f a0_0 a0_1 = some (r1, r2)) :
  Calls Tryd.prog 37 #[.agg #[.int .i64 a0_0, .int .i64 a0_1]] w fun e w' => e = .returned (.agg #[.int .i64 r1, .int .i64 r2]) ∧ Below w.heap.size w w' := by
 have hu74 := Tryd.underlying74
 have hu43 := Tryd.underlying43
 have HB := AM (Below.refl w.heap.size w)
 have H := h
 unfold laws_toLabel.f at H
 clear h
 simp only [Option.some.injEq, Prod.mk.injEq] at H
 obtain ⟨rfl, rfl⟩ := H
 go_enter Tryd.func37, Tryd.ntmps37
 go_wp2_with (first | ((with_reducible refine gate_dst (N := 1) rfl ?_); refine ZX (N := 1) (cs := #[.int .i64 a0_0, .int .i64 a0_1]) (t := 74) ?_; intro gb179 hg w2 hbox hb; have BK179 := AM (hbox); have GW179 : Aside0 (w.heap.size ≤ gb179) := ZS hg; have GE179 : Aside0 (w.heap.size ≤ gb179) := ZS hg; replace HB := ZT HB hb; clear hb hbox hg) | ((with_reducible refine gate_dst (N := 2) rfl ?_); refine ZX (N := 2) (cs := #[.int .i64 0, .int .i64 0]) (t := 43) ?_; intro gb180 hg w3 hbox hb; have BK180 := AM (hbox); have GW180 : Aside0 (w.heap.size ≤ gb180) := ZS hg; have GE180 : Aside0 (w.heap.size ≤ gb180) := ZS hg; have NB179_180 : Aside0 (gb179 ≠ gb180) := ZN hg BK179; have NB180_179 : Aside0 (gb180 ≠ gb179) := ZM hg BK179; replace BK179 := ZW BK179 hb; replace HB := ZT HB hb; clear hb hbox hg) | ((with_reducible refine gate_dst (N := 3) rfl ?_); refine ZX (N := 3) (cs := #[.int .i64 0, .int .i64 0]) (t := 43) ?_; intro gb181 hg w4 hbox hb; have BK181 := AM (hbox); have GW181 : Aside0 (w.heap.size ≤ gb181) := ZS hg; have GE181 : Aside0 (w.heap.size ≤ gb181) := ZS hg; have NB179_181 : Aside0 (gb179 ≠ gb181) := ZN hg BK179; have NB181_179 : Aside0 (gb181 ≠ gb179) := ZM hg BK179; have NB180_181 : Aside0 (gb180 ≠ gb181) := ZN hg BK180; have NB181_180 : Aside0 (gb181 ≠ gb180) := ZM hg BK180; replace BK179 := ZW BK179 hb; replace BK180 := ZW BK180 hb; replace HB := ZT HB hb; clear hb hbox hg; have hnb5 := NB179_180.out; have hnc5 := NB180_179.out; have hnb6 := NB179_181.out; have hnc6 := NB181_179.out; have hcz7 := ZC2 w4 BK179; have hfz7 := ZF2 BK179; have hnb8 := NB181_180.out; have hnc8 := NB180_181.out; have hcz9 := ZC2 w4 BK181; have hfz9 := ZF2 BK181; have hcz10 := ZC2 w4 BK180; have hfz10 := ZF2 BK180))
 refine bodyPost_ret (results_cell_row rfl _ _ gb180 43 #[.int .i64 a0_0, .int .i64 a0_1] (0, 0) _ rfl (ZZ BK180.out) Tryd.underlying43 rfl (by kernel_rfl)) rfl ?_
 exact ⟨ZE, ZB⟩

/-! ### laws_toLabelS: function 17 -/
def laws_toLabelS.l0 : Nat → List (S74) → List (S43) → Int → Option ((List (S43)))
 | 0, _, _, _ => none
 | k + 1, x0, x3, x4 => if x4 < (x0.length : Int) then (if 0 ≤ x4 then ((laws_toLabel.f ((rd_T74 x0 x4).f0) ((rd_T74 x0 x4).f1)).bind fun bt186 => (if x4 < (x3.length : Int) then (laws_toLabelS.l0 k x0 (x3.set (x4 : Int).toNat (⟨bt186.1, bt186.2⟩ : S43)) (wrap64 (x4 + 1))) else (none))) else (none)) else (some x3)
def laws_toLabelS.f (k : Nat) (l0 : List (S74)) : Option ((List (S43))) := if 0 ≤ (l0.length : Int) then (if ((l0.length : Int) : Int).toNat ≤ 17592186044416 then (laws_toLabelS.l0 k l0 (List.replicate ((l0.length : Int) : Int).toNat z43) 0) else (none)) else (none)
theorem laws_toLabelS.calls (k : Nat) (A0 : Option Addr) (c0 : Nat) (l0 : List (S74)) (r : List (S43)) (w : World) (hr0 : Kd.C k74 w A0 l0.length l0) (hc0 : l0.length ≤ c0) (h : laws_toLabelS.f k l0 = some r) :
  Calls Tryd.prog 17 #[.slice A0 l0.length c0] w fun e w' => ∃ v0_ : Value, e = .returned (v0_) ∧ Kd.R k43 43 w' w.heap.size (fun _ => True) v0_ r ∧ Below w.heap.size w w' := by
 have hu74 := Tryd.underlying74
 have hu43 := Tryd.underlying43
 have HR0 := AM hr0
 have HC0 := AM hc0
 clear hr0 hc0
 have HB := AM (Below.refl w.heap.size w)
 have H := h
 unfold laws_toLabelS.f at H
 clear h
 by_cases c2 : 0 ≤ (l0.length : Int)
 ·(
 rw [if_pos c2] at H
 have c2b0 := eq_true c2
 have c2b1 := decide_eq_true c2
 clear c2
 by_cases c3 : ((l0.length : Int) : Int).toNat ≤ 17592186044416
 ·(
 rw [if_pos c3] at H
 have c3b0 := eq_true c3
 have c3b1 := decide_eq_true c3
 clear c3
 obtain ⟨y182, hy182⟩ : ∃ y_ : List (S43), y_ = (List.replicate ((l0.length : Int) : Int).toNat z43) := ⟨_, rfl⟩
 replace H : (laws_toLabelS.l0 k l0 y182 0) = some r := by first | (rw [hy182]; with_reducible exact H) | (have H2_ := (Option.bind_some _ _).symm.trans H; rw [hy182]; with_reducible exact H2_) | (have H2_ := (Option.bind_some _ _).symm.trans H; with_reducible exact H2_) | with_reducible exact H | (rw [hy182]; exact H) | exact H
 have Ny182 := AM hy182
 clear hy182
 have H' := AM H
 clear H
 go_enter Tryd.func17, Tryd.ntmps17
 go_wp2_with (first | ((with_reducible refine gate_dst (N := 7) rfl ?_); refine Kd.R_make k43 _ 43 rfl (N := 7) rfl 28 _ _ rfl (l0.length : Int) rfl rfl Tryd.underlying28 (.agg #[(.int .i64 0), (.int .i64 0)]) 16 info43 rfl (by decide) (by omega) z43 (ok := fun _ => True) (okp := fun _ => True) (k43_mkM _ _ _ z43 ) (fun _ hk => hk) trivial (ZD) (Nat.le_trans (Nat.mul_le_mul_right _ (ZD : (l0.length : Int).toNat ≤ 17592186044416)) (by omega)) (Below.refl _ _) (Nat.le_refl _) ?_; intro v183 w4 ho5 hb hg_ hnew_; clear hg_ hnew_; (first | rw [← Ny182.out] at ho5 | (simp only [Int.reduceToNat] at ho5; rw [← Ny182.out] at ho5)); have HO184 := AM (Kd.R_lower ho5 (below_size (ZB))); replace HB := ZT HB hb; clear hb ho5))
 go_loopg [4] k (fun kq v4 w' => ∃ (x3_1 : List (S43)) (x4_1 : Int), v4 = .int .i64 x4_1 ∧ Aside0 (laws_toLabelS.l0 kq l0 x3_1 x4_1 = some r) ∧ Aside0 (kq ≤ k) ∧ Aside0 (Kd.R k43 43 w' w.heap.size (fun _ => True) v183 x3_1) ∧ Aside0 (Below w.heap.size w w'))
 case atStart => exact ⟨(y182), (0), (by first | rfl | (simp; done) | (simp [*]; done)), H', ⟨Nat.le_refl _⟩, ⟨ZR HO184.out⟩, ⟨ZB⟩⟩
 case round => (
 clear H'
 try clear c1
 try clear c2
 try clear c2b0
 try clear c2b1
 try clear p2
 try clear c3
 try clear c3b0
 try clear c3b1
 obtain ⟨x3_1, x4_1, rfl, HA, HK1, HO_3, HB⟩ := hrel
 cases gk with
 | zero => exact absurd HA.out (by simp [laws_toLabelS.l0])
 | succ k1 =>
  have H := HA.out
  clear HA
  simp only [laws_toLabelS.l0] at H
  by_cases c6 : x4_1 < (l0.length : Int)
  ·(
  rw [if_pos c6] at H
  have c6b0 := decide_eq_true c6
  clear c6
  by_cases c7 : 0 ≤ x4_1
  ·(
  rw [if_pos c7] at H
  have c7b0 := decide_eq_true c7
  clear c7
  obtain ⟨⟨t186, t187⟩, A8, H⟩ := ZOB H; try dsimp only at H
  by_cases c9 : x4_1 < (x3_1.length : Int)
  ·(
  rw [if_pos c9] at H
  have c9b0 := decide_eq_true c9
  clear c9
  obtain ⟨y188, hy188⟩ : ∃ y_ : List (S43), y_ = (x3_1.set (x4_1 : Int).toNat (⟨t186, t187⟩ : S43)) := ⟨_, rfl⟩
  replace H : (laws_toLabelS.l0 k1 l0 y188 (wrap64 (x4_1 + 1))) = some r := by first | (rw [hy188]; with_reducible exact H) | (have H2_ := (Option.bind_some _ _).symm.trans H; rw [hy188]; with_reducible exact H2_) | (have H2_ := (Option.bind_some _ _).symm.trans H; with_reducible exact H2_) | with_reducible exact H | (rw [hy188]; exact H) | exact H
  have Ny188 := AM hy188
  clear hy188
  have H' := AM H
  clear H
  have p185 : 0 ≤ (x4_1 : Int) := ZD
  have q185 : x4_1 < (l0.length : Int) := ZD
  obtain ⟨ad185, e185, hx185_0, hx185_1⟩ := at_T74 HR0.out x4_1 p185 q185
  cases e185
  replace hx185_0 := ZHX HB hx185_0
  replace hx185_1 := ZHX HB hx185_1
  replace p185 := eq_true p185
  replace q185 := eq_true q185
  go_wp2_with (first | ((with_reducible refine gate_callee (f := 37) rfl ?_); refine ZGL (some 20) Tryd.func37 #[.agg #[.int .i64 ((rd_T74 l0 x4_1).f0), .int .i64 ((rd_T74 l0 x4_1).f1)]] ?_; (with_reducible refine (laws_toLabel.calls ((rd_T74 l0 x4_1).f0) ((rd_T74 l0 x4_1).f1) t186 t187 _ A8.out).mono ?_); rintro e w11 ⟨rfl, hb⟩; refine ⟨_, rfl, ?_⟩; replace HO_3 := AM (Kd.R_below (ZR HO_3.out) hb); replace HB := ZT HB hb; clear hb; have p10 : 0 ≤ (x4_1 : Int) := ZD; have q10 : (x4_1 : Int) < ((x3_1.length : Int) : Int) := ZD; obtain ⟨go10, co10, eo10, gb10, gl10, cl10, HG10⟩ := Kd.R_form HO_3.out (by omega); (first | cases eo10 | (injection eo10 with ea_ en_ ec_; (first | subst ea_ | (injection ea_ with ea_; subst ea_)); subst ec_; clear en_)); have GB10 := AM gb10; have GG10 := AM HG10; clear gb10 gl10 HG10; obtain ⟨ce10, hcl10, hM10, hcc10, hfr10⟩ := Kd.R_elem HO_3.out z43 (x4_1 : Int) p10 q10; obtain rfl := k43_openM hM10; have hx10_0 : w11.cell? ⟨go10, (x4_1 : Int).toNat * 2, none⟩ = some (.int .i64 ((rd_T43 x3_1 x4_1).f0)) := hcc10 0 _ rfl; have hx10_1 : w11.cell? ⟨go10, (x4_1 : Int).toNat * 2 + 1, none⟩ = some (.int .i64 ((rd_T43 x3_1 x4_1).f1)) := hcc10 1 _ rfl; have hf10_0 : w11.frozen? ⟨go10, (x4_1 : Int).toNat * 2, none⟩ = false := hfr10 0; have hf10_1 : w11.frozen? ⟨go10, (x4_1 : Int).toNat * 2 + 1, none⟩ = false := hfr10 1; clear hcl10 hcc10 hfr10 hM10; replace p10 := eq_true p10; replace q10 := eq_true q10; have HX12 := AM (show Kd.R k43 43 w11 w.heap.size (fun _ => True) (.slice (some ⟨go10, 0, none⟩) x3_1.length co10) x3_1 from (ZR HO_3.out)); obtain ⟨ce12, hcl12, hM12, hcc12, hfr12⟩ := Kd.R_elem HX12.out z43 (x4_1 : Int) (ZD) (by have h_ : (x4_1 : Int) < ((x3_1.length : Int) : Int) := ZD; first | exact h_ | (have e_ := (Kd.R_reads' HO_3.out).1; omega) | simpa using h_); obtain rfl := k43_openM hM12; have HP12 := Kd.R_seg HX12.out (x4_1 : Int) (ZD) (by have h_ : (x4_1 : Int) < ((x3_1.length : Int) : Int) := ZD; first | exact h_ | (have e_ := (Kd.R_reads' HO_3.out).1; omega) | simpa using h_) (seg := [.int .i64 t186, .int .i64 t187]) (j := 0) hcl12 hcc12 (show 2 ≤ 2 from by decide) (x' := (⟨t186, t187⟩ : S43)) (k43_mkM _ _ _ (⟨t186, t187⟩ : S43) ) (fun _ hk => hk); have hx12_0 := hcc12 0 _ rfl; (try simp only [show (k43).sz = 2 from rfl, Nat.mul_one, Nat.add_zero] at hx12_0); have hf12_0 := hfr12 0; (try simp only [show (k43).sz = 2 from rfl, Nat.mul_one, Nat.add_zero] at hf12_0); have hx12_1 := hcc12 1 _ rfl; (try simp only [show (k43).sz = 2 from rfl, Nat.mul_one, Nat.add_zero] at hx12_1); have hf12_1 := hfr12 1; (try simp only [show (k43).sz = 2 from rfl, Nat.mul_one, Nat.add_zero] at hf12_1); clear hcl12 hcc12 hfr12 hM12) | ((with_reducible refine gate_store (t := 43) (p := 21) rfl ?_); refine store_event (t := 43) (p := 21) (v := ?vo_w13) (w1 := ((w11.setCell ⟨go10, (x4_1 : Int).toNat * 2, none⟩ (.int .i64 t186)).setCell ⟨go10, (x4_1 : Int).toNat * 2 + 1, none⟩ (.int .i64 t187))) ?hg ?ho ?hn ?hr ?_; (case ho => rfl); (case hg => rfl); (case hn => rfl); (case hr => first | (go_simp; done) | (go_simp; rfl)); intro w13 hw; have hg : w11.grownBy w13 (some go10) := (by rw [hw]; exact HP12.2); have hp_ : Kd.R k43 43 w13 w.heap.size (fun _ => True) (.slice (some ⟨go10, 0, none⟩) x3_1.length co10) y188 := (by rw [hw, Ny188.out]; exact HP12.1); clear HP12; replace HO_3 := AM (hp_); replace HB := AM ((by rw [hw]; exact below_set (below_set (HB.out) GB10.out) GB10.out : Below w.heap.size w w13)); clear hg hw hp_))
  go_roundg k1
  case measure => have := HK1.out; omega
  case rel => exact ⟨(y188), (wrap64 (x4_1 + 1)), (by first | rfl | (simp; done) | (simp [*]; done)), H', ⟨by have := HK1.out; omega⟩, ⟨ZR HO_3.out⟩, ⟨ZB⟩⟩)
  ·(
  rw [if_neg c9] at H
  exact absurd H (by simp)))
  ·(
  rw [if_neg c7] at H
  exact absurd H (by simp)))
  ·(
  rw [if_neg c6] at H
  have c6b0 := decide_eq_false c6
  clear c6
  obtain rfl := Option.some.inj H
  go_wp2
  go_ret
  exact ⟨_, ZE, by (with_reducible repeat (first | apply Kd.R_alloc | apply Kd.R_drewN | apply Kd.R_drew)); exact HO_3.out, ZB⟩)))
 ·(
 rw [if_neg c3] at H
 exact absurd H (by simp)))
 ·(
 rw [if_neg c2] at H
 exact absurd H (by simp))

/-! ### laws_toVal: function 58 -/
def laws_toVal.f (a0_0 : Int) (a0_1 : Int) (a0_2 : Int) : Option (Int × Int × Int) := some (a0_0, a0_1, a0_2)
theorem laws_toVal.calls (a0_0 : Int) (a0_1 : Int) (a0_2 : Int) (r1 : Int) (r2 : Int) (r3 : Int) (w : World) (h : laws_toVal.f a0_0 a0_1 a0_2 = some (r1, r2, r3)) :
  Calls Tryd.prog 58 #[.agg #[.int .i64 a0_0, .int .i64 a0_1, .int .i64 a0_2]] w fun e w' => e = .returned (.agg #[.int .i64 r1, .int .i64 r2, .int .i64 r3]) ∧ Below w.heap.size w w' := by
 have hu65 := Tryd.underlying65
 have hu69 := Tryd.underlying69
 have HB := AM (Below.refl w.heap.size w)
 have H := h
 unfold laws_toVal.f at H
 clear h
 simp only [Option.some.injEq, Prod.mk.injEq] at H
 obtain ⟨rfl, rfl, rfl⟩ := H
 go_enter Tryd.func58, Tryd.ntmps58
 go_wp2_with (first | ((with_reducible refine gate_dst (N := 1) rfl ?_); refine ZX (N := 1) (cs := #[.int .i64 a0_0, .int .i64 a0_1, .int .i64 a0_2]) (t := 65) ?_; intro gb189 hg w2 hbox hb; have BK189 := AM (hbox); have GW189 : Aside0 (w.heap.size ≤ gb189) := ZS hg; have GE189 : Aside0 (w.heap.size ≤ gb189) := ZS hg; replace HB := ZT HB hb; clear hb hbox hg) | ((with_reducible refine gate_dst (N := 2) rfl ?_); refine ZX (N := 2) (cs := #[.int .i64 0, .int .i64 0, .int .i64 0]) (t := 69) ?_; intro gb190 hg w3 hbox hb; have BK190 := AM (hbox); have GW190 : Aside0 (w.heap.size ≤ gb190) := ZS hg; have GE190 : Aside0 (w.heap.size ≤ gb190) := ZS hg; have NB189_190 : Aside0 (gb189 ≠ gb190) := ZN hg BK189; have NB190_189 : Aside0 (gb190 ≠ gb189) := ZM hg BK189; replace BK189 := ZW BK189 hb; replace HB := ZT HB hb; clear hb hbox hg) | ((with_reducible refine gate_dst (N := 3) rfl ?_); refine ZX (N := 3) (cs := #[.int .i64 0, .int .i64 0, .int .i64 0]) (t := 69) ?_; intro gb191 hg w4 hbox hb; have BK191 := AM (hbox); have GW191 : Aside0 (w.heap.size ≤ gb191) := ZS hg; have GE191 : Aside0 (w.heap.size ≤ gb191) := ZS hg; have NB189_191 : Aside0 (gb189 ≠ gb191) := ZN hg BK189; have NB191_189 : Aside0 (gb191 ≠ gb189) := ZM hg BK189; have NB190_191 : Aside0 (gb190 ≠ gb191) := ZN hg BK190; have NB191_190 : Aside0 (gb191 ≠ gb190) := ZM hg BK190; replace BK189 := ZW BK189 hb; replace BK190 := ZW BK190 hb; replace HB := ZT HB hb; clear hb hbox hg; have hnb5 := NB189_190.out; have hnc5 := NB190_189.out; have hnb6 := NB189_191.out; have hnc6 := NB191_189.out; have hcz7 := ZC3 w4 BK189; have hfz7 := ZF3 BK189; have hnb8 := NB191_190.out; have hnc8 := NB190_191.out; have hcz9 := ZC3 w4 BK191; have hfz9 := ZF3 BK191; have hcz10 := ZC3 w4 BK190; have hfz10 := ZF3 BK190))
 refine bodyPost_ret (results_cell_row rfl _ _ gb190 69 #[.int .i64 a0_0, .int .i64 a0_1, .int .i64 a0_2] (0, 0) _ rfl (ZZ BK190.out) Tryd.underlying69 rfl (by kernel_rfl)) rfl ?_
 exact ⟨ZE, ZB⟩

-- (laws_toStep stands with its caller)

end Go.Proofs.YtfcmckomagaiiaaDoor.A
