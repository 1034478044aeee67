/- What Go functions compute, as Lean functions, and for each its contract: for every input at which the Lean function answers the call returns that; written by wip/tools/pr.py over the kit's print. -/
import Derived.Test.YtgcioalgjcaikaaDoorAx0
import Derived.Test.YtgcioalgjcaikaaDoorAx2
import Derived.Test.YtgcioalgjcaikaaDoorAx4
namespace Go.Proofs.YtgcioalgjcaikaaDoor.A
open Go.RowKit Go.Proofs.YtgcioalgjcaikaaDoorW.PrintWords Go.Proofs.YtgcioalgjcaikaaDoorW.PrintLast Go.Proofs.YtgcioalgjcaikaaDoorW.PrintMore
attribute [local go_sem] max2_int min2_int max_two min_two max_three min_three max_four min_four   -- for this text's walks alone
set_option linter.unusedVariables false
set_option linter.unusedSimpArgs false

/-! ### spec_LabelRead: function 10 -/
mutual
def spec_LabelRead.l0 : Nat → ByteArray → Int → Option (Int × Int × Bool)
 | 0, _, _ => none
 | k + 1, x0, x4 => (spec_l1All.f).bind fun t145 => (if x4 ≤ t145 then (spec_LabelRead.l1 k x0 x4 0) else (some (0, 0, false)))
def spec_LabelRead.l1 : Nat → ByteArray → Int → Int → Option (Int × Int × Bool)
 | 0, _, _, _ => none
 | k + 1, x0, x4, x5 => (spec_l1All.f).bind fun t146 => (if x5 ≤ t146 then ((spec_LabelText.f k x4 x5).bind fun t148 => (if t148.toList = x0.toList then (some (x4, x5, true)) else (spec_LabelRead.l1 k x0 x4 (wrap64 (x5 + 1))))) else (spec_LabelRead.l0 k x0 (wrap64 (x4 + 1))))
end
def spec_LabelRead.f (k : Nat) (a0 : ByteArray) : Option (Int × Int × Bool) := spec_LabelRead.l0 k a0 0
set_option maxHeartbeats 8000000 in
set_option maxRecDepth 100000 in
theorem spec_LabelRead.calls (k : Nat) (a0 : ByteArray) (r1 : Int) (r2 : Int) (r3 : Bool) (w : World) (h : spec_LabelRead.f k a0 = some (r1, r2, r3)) :
  Calls Tryd.prog 10 #[.string a0] w fun e w' => e = .returned (.tuple #[.agg #[.int .i64 r1, .int .i64 r2], .bool r3]) ∧ Below w.heap.size w w' := by
 have hu25 := Tryd.underlying25
 have HB := Aside0.mk (Below.refl w.heap.size w)
 have H : (spec_LabelRead.l0 k a0 0) = some (r1, r2, r3) := h
 clear h
 have H' := Aside0.mk H
 clear H
 go_enter Tryd.func10, Tryd.ntmps10
 go_wp2_with (first | ((with_reducible refine gate_dst (N := 2) rfl ?_); refine ZX (N := 2) (cs := #[.int .i64 0, .int .i64 0]) (t := 25) ?_; intro gb144 hg w2 hbox hb; have BK144 := Aside0.mk (hbox); have GW144 : Aside0 (w.heap.size ≤ gb144) := ZS hg; have GE144 : Aside0 (w.heap.size ≤ gb144) := ZS hg; replace HB := ZT HB hb; clear hb hbox hg))
 go_loopg [4] k (fun kq v4 w' => ∃ (x4_1 : Int) (x145000_1 : Int) (x145001_1 : Int), v4 = .int .i64 x4_1 ∧ Aside0 (spec_LabelRead.l0 kq a0 x4_1 = some (r1, r2, r3)) ∧ Aside0 (kq ≤ k) ∧ Aside0 (w'.heap[gb144]? = some (.cells #[.int .i64 x145000_1, .int .i64 x145001_1] 25 (0, 0))) ∧ Aside0 (Below w.heap.size w w'))
 case atStart => exact ⟨(0), (0), (0), (by first | rfl | (simp; done) | (simp [*]; done)), H', ⟨Nat.le_refl _⟩, ⟨ZK BK144.out⟩, ⟨ZB⟩⟩
 case round =>
  clear H'
  try clear c1
  try clear p2
  obtain ⟨x4_1, x145000_1, x145001_1, rfl, HA, HK1, BK144, HB⟩ := hrel
  cases gk with
  | zero => exact absurd HA.out (by simp [spec_LabelRead.l0])
  | succ k1 =>
   have H := HA.out
   clear HA
   simp only [spec_LabelRead.l0] at H
   replace H := Option.bind_eq_some_iff.mp H
   obtain ⟨t145, A30, H⟩ := H
   replace H : (if x4_1 ≤ t145 then (spec_LabelRead.l1 k1 a0 x4_1 0) else (some (0, 0, false))) = some (r1, r2, r3) := H
   have A3 := Aside0.mk A30
   clear A30
   by_cases c4 : x4_1 ≤ t145
   ·rw [if_pos c4] at H
    have c4b0 : decide (x4_1 ≤ t145) = true := decide_eq_true c4
    clear c4
    have H' := Aside0.mk H
    clear H
    go_wp2_with (first | ((with_reducible refine gate_callee (f := 19) rfl ?_); refine goesL_ (some 8) rfl rfl Tryd.func19 (by kernel_rfl) rfl #[] rfl ZG ?_; (with_reducible refine (spec_l1All.calls  t145 _ A3.out).mono ?_); rintro e w' ⟨rfl, ⟨nd, rfl⟩⟩; refine ⟨_, rfl, ?_⟩))
    go_loopg [5] k1 (fun kq v5 w' => ∃ (x5_2 : Int) (x145000_2 : Int) (x145001_2 : Int), v5 = .int .i64 x5_2 ∧ Aside0 (spec_LabelRead.l1 kq a0 x4_1 x5_2 = some (r1, r2, r3)) ∧ Aside0 (kq ≤ k1) ∧ Aside0 (w'.heap[gb144]? = some (.cells #[.int .i64 x145000_2, .int .i64 x145001_2] 25 (0, 0))) ∧ Aside0 (Below w.heap.size w w'))
    case atStart => exact ⟨(0), (x145000_1), (x145001_1), (by first | rfl | (simp; done) | (simp [*]; done)), H', ⟨Nat.le_refl _⟩, ⟨ZK BK144.out⟩, ⟨ZB⟩⟩
    case round =>
     clear H'
     try clear c1
     try clear p2
     try clear c4
     try clear c4b0
     try clear p2
     obtain ⟨x5_2, x145000_2, x145001_2, rfl, HA, HK2, BK144, HB⟩ := hrel
     cases gk with
     | zero => exact absurd HA.out (by simp [spec_LabelRead.l1])
     | succ k2 =>
      have H := HA.out
      clear HA
      simp only [spec_LabelRead.l1] at H
      replace H := Option.bind_eq_some_iff.mp H
      obtain ⟨t146, A50, H⟩ := H
      replace H : (if x5_2 ≤ t146 then ((spec_LabelText.f k2 x4_1 x5_2).bind fun t148 => (if t148.toList = a0.toList then (some (x4_1, x5_2, true)) else (spec_LabelRead.l1 k2 a0 x4_1 (wrap64 (x5_2 + 1))))) else (spec_LabelRead.l0 k2 a0 (wrap64 (x4_1 + 1)))) = some (r1, r2, r3) := H
      have A5 := Aside0.mk A50
      clear A50
      by_cases c6 : x5_2 ≤ t146
      ·rw [if_pos c6] at H
       have c6b0 : decide (x5_2 ≤ t146) = true := decide_eq_true c6
       clear c6
       replace H := Option.bind_eq_some_iff.mp H
       obtain ⟨t148, A70, H⟩ := H
       replace H : (if t148.toList = a0.toList then (some (x4_1, x5_2, true)) else (spec_LabelRead.l1 k2 a0 x4_1 (wrap64 (x5_2 + 1)))) = some (r1, r2, r3) := H
       have A7 := Aside0.mk A70
       clear A70
       by_cases c8 : t148.toList = a0.toList
       ·rw [if_pos c8] at H
        have c8b0 : (t148.toList == a0.toList) = true := beq_iff_eq.mpr c8
        have c8b1 : (t148.toList != a0.toList) = false := bne_eq_false_iff_eq.mpr c8
        clear c8
        simp only [Option.some.injEq, Prod.mk.injEq] at H
        obtain ⟨rfl, rfl, rfl⟩ := H
        go_wp2_with (first | ((with_reducible refine gate_callee (f := 19) rfl ?_); refine goesL_ (some 13) rfl rfl Tryd.func19 (by kernel_rfl) rfl #[] rfl ZG ?_; (with_reducible refine (spec_l1All.calls  t146 _ A5.out).mono ?_); rintro e w' ⟨rfl, ⟨nd, rfl⟩⟩; refine ⟨_, rfl, ?_⟩; (try (rw [drewN_self wr]; generalize hq_ : World.drewN wr _ = wr; have n0_ : Aside0 (wr.heap[gb144]? = some (.cells #[.int .i64 x145000_2, .int .i64 x145001_2] 25 (0, 0))) := ⟨by rw [← hq_]; exact (ZK BK144.out)⟩; have n1_ : Aside0 (Below w.heap.size w wr) := ⟨by rw [← hq_]; exact (ZB)⟩; clear BK144 HB hq_; have BK144 := n0_; have HB := n1_; clear n0_ n1_))) | ((with_reducible refine gate_dst (N := 6) rfl ?_); refine ZX (N := 6) (cs := #[.int .i64 0, .int .i64 0]) (t := 25) ?_; intro gb147 hg w9 hbox hb; have BK147 := Aside0.mk (hbox); have GW147 : Aside0 (w.heap.size ≤ gb147) := ZS hg; have GE147 : Aside0 (w.heap.size ≤ gb147) := ZS hg; have NB144_147 : Aside0 (gb144 ≠ gb147) := ZN hg BK144; have NB147_144 : Aside0 (gb147 ≠ gb144) := ZM hg BK144; replace BK144 := ZW BK144 hb; replace HB := ZT HB hb; clear hb hbox hg; have hnb10 := NB147_144.out; have hnc10 := NB144_147.out; obtain ⟨hcz11_0, hcz11_1⟩ := ZC2 w9 BK147; obtain ⟨hfz11_0, hfz11_1⟩ := ZF2 BK147) | ((with_reducible refine gate_callee (f := 7) rfl ?_); refine goesL_ (some 21) rfl rfl Tryd.func7 (by kernel_rfl) rfl #[.agg #[.int .i64 x4_1, .int .i64 x5_2]] rfl ZG ?_; (with_reducible refine (spec_LabelText.calls k2 x4_1 x5_2 t148 _ A7.out).mono ?_); rintro e w12 ⟨rfl, hb⟩; refine ⟨_, rfl, ?_⟩; replace BK144 := ZV #[.int .i64 x145000_2, .int .i64 x145001_2] BK144 hb; replace BK147 := ZV #[.int .i64 x4_1, .int .i64 x5_2] BK147 hb; replace HB := ZT HB hb; (try clear hb); (try clear hb2); (try clear hk); (try clear hi); obtain ⟨hcz13_0, hcz13_1⟩ := ZC2 w12 BK147; obtain ⟨hfz13_0, hfz13_1⟩ := ZF2 BK147; obtain ⟨hcz14_0, hcz14_1⟩ := ZC2 w12 BK144; obtain ⟨hfz14_0, hfz14_1⟩ := ZF2 BK144))
        refine bodyPost_ret (results_ct rfl _ _ gb144 25 #[.int .i64 x4_1, .int .i64 x5_2] (0, 0) _ rfl (ZZ BK144.out) Tryd.underlying25 rfl (by kernel_rfl)) rfl ?_
        exact ⟨ZE, ZB⟩
       ·rw [if_neg c8] at H
        have c8b0 : (t148.toList == a0.toList) = false := beq_eq_false_iff_ne.mpr c8
        have c8b1 : (t148.toList != a0.toList) = true := bne_iff_ne.mpr c8
        have H' := Aside0.mk H
        clear H
        go_wp2_with (first | ((with_reducible refine gate_callee (f := 19) rfl ?_); refine goesL_ (some 13) rfl rfl Tryd.func19 (by kernel_rfl) rfl #[] rfl ZG ?_; (with_reducible refine (spec_l1All.calls  t146 _ A5.out).mono ?_); rintro e w' ⟨rfl, ⟨nd, rfl⟩⟩; refine ⟨_, rfl, ?_⟩; (try (rw [drewN_self wr]; generalize hq_ : World.drewN wr _ = wr; have n0_ : Aside0 (wr.heap[gb144]? = some (.cells #[.int .i64 x145000_2, .int .i64 x145001_2] 25 (0, 0))) := ⟨by rw [← hq_]; exact (ZK BK144.out)⟩; have n1_ : Aside0 (Below w.heap.size w wr) := ⟨by rw [← hq_]; exact (ZB)⟩; clear BK144 HB hq_; have BK144 := n0_; have HB := n1_; clear n0_ n1_))) | ((with_reducible refine gate_dst (N := 6) rfl ?_); refine ZX (N := 6) (cs := #[.int .i64 0, .int .i64 0]) (t := 25) ?_; intro gb147 hg w15 hbox hb; have BK147 := Aside0.mk (hbox); have GW147 : Aside0 (w.heap.size ≤ gb147) := ZS hg; have GE147 : Aside0 (w.heap.size ≤ gb147) := ZS hg; have NB144_147 : Aside0 (gb144 ≠ gb147) := ZN hg BK144; have NB147_144 : Aside0 (gb147 ≠ gb144) := ZM hg BK144; replace BK144 := ZW BK144 hb; replace HB := ZT HB hb; clear hb hbox hg; have hnb16 := NB147_144.out; have hnc16 := NB144_147.out; obtain ⟨hcz17_0, hcz17_1⟩ := ZC2 w15 BK147; obtain ⟨hfz17_0, hfz17_1⟩ := ZF2 BK147) | ((with_reducible refine gate_callee (f := 7) rfl ?_); refine goesL_ (some 21) rfl rfl Tryd.func7 (by kernel_rfl) rfl #[.agg #[.int .i64 x4_1, .int .i64 x5_2]] rfl ZG ?_; (with_reducible refine (spec_LabelText.calls k2 x4_1 x5_2 t148 _ A7.out).mono ?_); rintro e w18 ⟨rfl, hb⟩; refine ⟨_, rfl, ?_⟩; replace BK144 := ZV #[.int .i64 x145000_2, .int .i64 x145001_2] BK144 hb; replace BK147 := ZV #[.int .i64 x4_1, .int .i64 x5_2] BK147 hb; replace HB := ZT HB hb; (try clear hb); (try clear hb2); (try clear hk); (try clear hi)))
        go_roundg k2
        case measure => have := HK1.out; have := HK2.out; omega
        case rel => exact ⟨(wrap64 (x5_2 + 1)), (x145000_2), (x145001_2), (by first | rfl | (simp; done) | (simp [*]; done)), H', ⟨by have := HK1.out; have := HK2.out; omega⟩, ⟨ZK BK144.out⟩, ⟨ZB⟩⟩
      ·rw [if_neg c6] at H
       have c6b0 : decide (x5_2 ≤ t146) = false := decide_eq_false c6
       clear c6
       have H' := Aside0.mk H
       clear H
       go_wp2_with (first | ((with_reducible refine gate_callee (f := 19) rfl ?_); refine goesL_ (some 13) rfl rfl Tryd.func19 (by kernel_rfl) rfl #[] rfl ZG ?_; (with_reducible refine (spec_l1All.calls  t146 _ A5.out).mono ?_); rintro e w' ⟨rfl, ⟨nd, rfl⟩⟩; refine ⟨_, rfl, ?_⟩))
       go_roundg k2
       case measure => have := HK1.out; have := HK2.out; omega
       case rel => exact ⟨(wrap64 (x4_1 + 1)), (x145000_2), (x145001_2), (by first | rfl | (simp; done) | (simp [*]; done)), H', ⟨by have := HK1.out; have := HK2.out; omega⟩, ⟨ZK BK144.out⟩, ⟨ZB⟩⟩
   ·rw [if_neg c4] at H
    have c4b0 : decide (x4_1 ≤ t145) = false := decide_eq_false c4
    clear c4
    simp only [Option.some.injEq, Prod.mk.injEq] at H
    obtain ⟨rfl, rfl, rfl⟩ := H
    go_wp2_with (first | ((with_reducible refine gate_callee (f := 19) rfl ?_); refine goesL_ (some 8) rfl rfl Tryd.func19 (by kernel_rfl) rfl #[] rfl ZG ?_; (with_reducible refine (spec_l1All.calls  t145 _ A3.out).mono ?_); rintro e w' ⟨rfl, ⟨nd, rfl⟩⟩; refine ⟨_, rfl, ?_⟩; (try (rw [drewN_self wr]; generalize hq_ : World.drewN wr _ = wr; have n0_ : Aside0 (wr.heap[gb144]? = some (.cells #[.int .i64 x145000_1, .int .i64 x145001_1] 25 (0, 0))) := ⟨by rw [← hq_]; exact (ZK BK144.out)⟩; have n1_ : Aside0 (Below w.heap.size w wr) := ⟨by rw [← hq_]; exact (ZB)⟩; clear BK144 HB hq_; have BK144 := n0_; have HB := n1_; clear n0_ n1_)); obtain ⟨hcz19_0, hcz19_1⟩ := ZC2 wr BK144; obtain ⟨hfz19_0, hfz19_1⟩ := ZF2 BK144))
    refine bodyPost_ret (results_ct rfl _ _ gb144 25 #[.int .i64 0, .int .i64 0] (0, 0) _ rfl (ZZ BK144.out) Tryd.underlying25 rfl (by kernel_rfl)) rfl ?_
    exact ⟨ZE, ZB⟩

/-! ### internal/stringslite.Index at one byte -/
def stringslite_Index.f (a0 : ByteArray) (a1 : ByteArray) : Option (Int) := if a1.size = 1 then (some (Lib.indexByte a0.data.toList (a1.data.toList.getD 0 0))) else none
set_option maxHeartbeats 1000000 in
set_option maxRecDepth 100000 in
theorem stringslite_IndexByte_calls (s : ByteArray) (c : Int) (w : World) :
  Calls Tryd.prog 40 #[.string s, .int .u8 c] w fun e w' => e = .returned (.int .i64 (Lib.indexByte s.data.toList c.toNat.toUInt8)) ∧ w' = w := by
 go_enter Tryd.func40, Tryd.ntmps40
 go_wp2
 rw [run_callFunc_extern Tryd.func48 (by kernel_rfl) (by kernel_rfl) (by kernel_rfl) (e := Extern.BytealgIndexByte.indexByte) (by kernel_rfl), Lib.run_indexByteString]
 simp only [Result.andThen]
 rw [Oper.upon_value]
 go_wp2
 go_ret
 exact ⟨rfl, rfl⟩
set_option maxHeartbeats 2000000 in
set_option maxRecDepth 100000 in
theorem stringslite_Index_one (s : ByteArray) (c : UInt8) (w : World) :
  Calls Tryd.prog 38 #[.string s, .string ⟨#[c]⟩] w fun e w' => e = .returned (.int .i64 (Lib.indexByte s.data.toList c)) ∧ w' = w := by
 go_enter Tryd.func38, Tryd.ntmps38
 go_wp2_with (go_at_call 40; refine (stringslite_IndexByte_calls _ _ _).mono ?_; rintro e w' ⟨rfl, rfl⟩)
 ·have h : ([c] == s.toList) = true := by assumption
  go_ret
  refine ⟨?_, rfl⟩
  have e : s.data.toList = [c] := by rw [← Lib.toList_data]; exact (beq_iff_eq.1 h).symm
  rw [e]
  simp [Lib.indexByte]
 ·go_ret
  exact ⟨rfl, rfl⟩
theorem stringslite_Index.calls (a0 : ByteArray) (a1 : ByteArray) (r : Int) (w : World) (h : stringslite_Index.f a0 a1 = some r) :
  Calls Tryd.prog 38 #[.string a0, .string a1] w fun e w' => e = .returned (.int .i64 r) ∧ Drawn0 w w' := by
 unfold stringslite_Index.f at h
 split at h
 case isFalse => exact absurd h (by simp)
 rename_i h1
 obtain rfl := Option.some.inj h
 obtain ⟨c, rfl⟩ : ∃ c, a1 = ⟨#[c]⟩ := by
  obtain ⟨⟨l⟩⟩ := a1
  match l, h1 with
  | [c], _ => exact ⟨c, rfl⟩
 refine (stringslite_Index_one a0 c w).mono fun e w' hh => ?_
 exact ⟨hh.1, by rw [hh.2]; exact Drawn0.refl _⟩

/-! ### stringslite_Cut: function 33 -/
def stringslite_Cut.f (a0 : ByteArray) (a1 : ByteArray) : Option (ByteArray × ByteArray × Bool) := (stringslite_Index.f a0 a1).bind fun t149 => (if t149 ≥ 0 then (if 0 ≤ t149 then (if t149 ≤ (a0.size : Int) then (if 0 ≤ (wrap64 (t149 + (a1.size : Int))) then (if (wrap64 (t149 + (a1.size : Int))) ≤ (a0.size : Int) then (some (a0.extract 0 (t149 : Int).toNat, a0.extract ((wrap64 (t149 + (a1.size : Int))) : Int).toNat a0.size, true)) else (none)) else (none)) else (none)) else (none)) else (some (a0, (⟨#[]⟩ : ByteArray), false)))
set_option maxHeartbeats 8000000 in
set_option maxRecDepth 100000 in
theorem stringslite_Cut.calls (a0 : ByteArray) (a1 : ByteArray) (r1 : ByteArray) (r2 : ByteArray) (r3 : Bool) (w : World) (h : stringslite_Cut.f a0 a1 = some (r1, r2, r3)) :
  Calls Tryd.prog 33 #[.string a0, .string a1] w fun e w' => e = .returned (.tuple #[.string r1, .string r2, .bool r3]) ∧ Drawn0 w w' := by
 have H : ((stringslite_Index.f a0 a1).bind fun t149 => (if t149 ≥ 0 then (if 0 ≤ t149 then (if t149 ≤ (a0.size : Int) then (if 0 ≤ (wrap64 (t149 + (a1.size : Int))) then (if (wrap64 (t149 + (a1.size : Int))) ≤ (a0.size : Int) then (some (a0.extract 0 (t149 : Int).toNat, a0.extract ((wrap64 (t149 + (a1.size : Int))) : Int).toNat a0.size, true)) else (none)) else (none)) else (none)) else (none)) else (some (a0, (⟨#[]⟩ : ByteArray), false)))) = some (r1, r2, r3) := h
 clear h
 replace H := Option.bind_eq_some_iff.mp H
 obtain ⟨t149, A30, H⟩ := H
 replace H : (if t149 ≥ 0 then (if 0 ≤ t149 then (if t149 ≤ (a0.size : Int) then (if 0 ≤ (wrap64 (t149 + (a1.size : Int))) then (if (wrap64 (t149 + (a1.size : Int))) ≤ (a0.size : Int) then (some (a0.extract 0 (t149 : Int).toNat, a0.extract ((wrap64 (t149 + (a1.size : Int))) : Int).toNat a0.size, true)) else (none)) else (none)) else (none)) else (none)) else (some (a0, (⟨#[]⟩ : ByteArray), false))) = some (r1, r2, r3) := H
 have A3 := Aside0.mk A30
 clear A30
 by_cases c4 : t149 ≥ 0
 ·rw [if_pos c4] at H
  have c4b0 : decide (0 ≤ t149) = true := decide_eq_true c4
  clear c4
  by_cases c5 : 0 ≤ t149
  ·rw [if_pos c5] at H
   have c5b0 := eq_true c5
   have c5b1 : decide (0 ≤ t149) = true := decide_eq_true c5
   clear c5
   by_cases c6 : t149 ≤ (a0.size : Int)
   ·rw [if_pos c6] at H
    have c6b0 := eq_true c6
    have c6b1 : decide (t149 ≤ (a0.size : Int)) = true := decide_eq_true c6
    clear c6
    obtain ⟨ji7, hji7⟩ : ∃ j_ : Int, (wrap64 (t149 + (a1.size : Int))) = j_ := ⟨_, rfl⟩
    replace H : (if 0 ≤ (ji7) then (if (ji7) ≤ (a0.size : Int) then (some (a0.extract 0 (t149 : Int).toNat, a0.extract ((ji7) : Int).toNat a0.size, true)) else (none)) else (none)) = some (r1, r2, r3) := by first | (rw [hji7] at H; exact H) | (simp only [hji7] at H ⊢; exact H)
    (try rw [hji7] at A3)
    have hji7w : (IntKind.i64.wrap (t149 + (a1.size : Int))) = ji7 := (i64_w _).trans hji7
    by_cases c8 : 0 ≤ (ji7)
    ·rw [if_pos c8] at H
     have c8b0 := eq_true c8
     have c8b1 : decide (0 ≤ (ji7)) = true := decide_eq_true c8
     clear c8
     by_cases c9 : (ji7) ≤ (a0.size : Int)
     ·rw [if_pos c9] at H
      have c9b0 := eq_true c9
      have c9b1 : decide ((ji7) ≤ (a0.size : Int)) = true := decide_eq_true c9
      clear c9
      simp only [Option.some.injEq, Prod.mk.injEq] at H
      obtain ⟨rfl, rfl, rfl⟩ := H
      go_enter Tryd.func33, Tryd.ntmps33
      go_wp2_with (first | (go_at_call 38; (with_reducible refine (stringslite_Index.calls a0 a1 t149 _ A3.out).mono ?_); rintro e w' ⟨rfl, ⟨nd, rfl⟩⟩; (try first | exact ⟨rfl, _, World.drewN_drewN _ _ _⟩ | exact ⟨rfl, _, Eq.trans (World.drewN_drewN _ _ _) (congrArg (World.drewN _) (Nat.add_assoc _ _ _))⟩)))
      repeat (go_quiet (first | (go_at_call 38; (with_reducible refine (stringslite_Index.calls a0 a1 t149 _ A3.out).mono ?_); rintro e w' ⟨rfl, ⟨nd, rfl⟩⟩; (try first | exact ⟨rfl, _, World.drewN_drewN _ _ _⟩ | exact ⟨rfl, _, Eq.trans (World.drewN_drewN _ _ _) (congrArg (World.drewN _) (Nat.add_assoc _ _ _))⟩))); try go_wp2_with (first | (go_at_call 38; (with_reducible refine (stringslite_Index.calls a0 a1 t149 _ A3.out).mono ?_); rintro e w' ⟨rfl, ⟨nd, rfl⟩⟩; (try first | exact ⟨rfl, _, World.drewN_drewN _ _ _⟩ | exact ⟨rfl, _, Eq.trans (World.drewN_drewN _ _ _) (congrArg (World.drewN _) (Nat.add_assoc _ _ _))⟩))))
      go_ret3
      exact ⟨by first | rfl | (simp; done) | (simp only [← hji7] <;> (first | rfl | simp)) | (simp [*]; done), by repeat (first | exact Drawn0.refl _ | apply Drawn0.step)⟩
     ·rw [if_neg c9] at H
      exact absurd H (by simp)
    ·rw [if_neg c8] at H
     exact absurd H (by simp)
   ·rw [if_neg c6] at H
    exact absurd H (by simp)
  ·rw [if_neg c5] at H
   exact absurd H (by simp)
 ·rw [if_neg c4] at H
  have c4b0 : decide (0 ≤ t149) = false := decide_eq_false c4
  clear c4
  simp only [Option.some.injEq, Prod.mk.injEq] at H
  obtain ⟨rfl, rfl, rfl⟩ := H
  go_enter Tryd.func33, Tryd.ntmps33
  go_wp2_with (first | (go_at_call 38; (with_reducible refine (stringslite_Index.calls a0 a1 t149 _ A3.out).mono ?_); rintro e w' ⟨rfl, ⟨nd, rfl⟩⟩; (try first | exact ⟨rfl, _, World.drewN_drewN _ _ _⟩ | exact ⟨rfl, _, Eq.trans (World.drewN_drewN _ _ _) (congrArg (World.drewN _) (Nat.add_assoc _ _ _))⟩)))
  repeat (go_quiet (first | (go_at_call 38; (with_reducible refine (stringslite_Index.calls a0 a1 t149 _ A3.out).mono ?_); rintro e w' ⟨rfl, ⟨nd, rfl⟩⟩; (try first | exact ⟨rfl, _, World.drewN_drewN _ _ _⟩ | exact ⟨rfl, _, Eq.trans (World.drewN_drewN _ _ _) (congrArg (World.drewN _) (Nat.add_assoc _ _ _))⟩))); try go_wp2_with (first | (go_at_call 38; (with_reducible refine (stringslite_Index.calls a0 a1 t149 _ A3.out).mono ?_); rintro e w' ⟨rfl, ⟨nd, rfl⟩⟩; (try first | exact ⟨rfl, _, World.drewN_drewN _ _ _⟩ | exact ⟨rfl, _, Eq.trans (World.drewN_drewN _ _ _) (congrArg (World.drewN _) (Nat.add_assoc _ _ _))⟩))))
  go_ret3
  exact ⟨by first | rfl | (simp; done) | (simp [*]; done), by repeat (first | exact Drawn0.refl _ | apply Drawn0.step)⟩

/-! ### strings_Cut: function 20 -/
def strings_Cut.f (a0 : ByteArray) (a1 : ByteArray) : Option (ByteArray × ByteArray × Bool) := (stringslite_Cut.f a0 a1).bind fun bt150 => (some (bt150.1, bt150.2.1, bt150.2.2))
set_option maxHeartbeats 8000000 in
set_option maxRecDepth 100000 in
theorem strings_Cut.calls (a0 : ByteArray) (a1 : ByteArray) (r1 : ByteArray) (r2 : ByteArray) (r3 : Bool) (w : World) (h : strings_Cut.f a0 a1 = some (r1, r2, r3)) :
  Calls Tryd.prog 20 #[.string a0, .string a1] w fun e w' => e = .returned (.tuple #[.string r1, .string r2, .bool r3]) ∧ Drawn0 w w' := by
 have H : ((stringslite_Cut.f a0 a1).bind fun bt150 => (some (bt150.1, bt150.2.1, bt150.2.2))) = some (r1, r2, r3) := h
 clear h
 replace H := Option.bind_eq_some_iff.mp H
 obtain ⟨⟨t150, t151, t152⟩, A30, H⟩ := H
 replace H : (some (t150, t151, t152)) = some (r1, r2, r3) := H
 have A3 := Aside0.mk A30
 clear A30
 simp only [Option.some.injEq, Prod.mk.injEq] at H
 obtain ⟨rfl, rfl, rfl⟩ := H
 go_enter Tryd.func20, Tryd.ntmps20
 go_wp2_with (first | ((with_reducible refine gate_callee (f := 33) rfl ?_); refine goesL_ (some 9) rfl rfl Tryd.func33 (by kernel_rfl) rfl #[.string a0, .string a1] rfl ZG ?_; (with_reducible refine (stringslite_Cut.calls a0 a1 t150 t151 t152 _ A3.out).mono ?_); rintro e w' ⟨rfl, ⟨nd, rfl⟩⟩; refine ⟨_, rfl, ?_⟩))
 go_ret3
 exact ⟨by first | rfl | (simp; done) | (simp [*]; done), by repeat (first | exact Drawn0.refl _ | apply Drawn0.step)⟩

end Go.Proofs.YtgcioalgjcaikaaDoor.A
