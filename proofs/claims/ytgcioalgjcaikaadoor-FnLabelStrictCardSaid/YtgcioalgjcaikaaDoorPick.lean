/- Plain facts on drawing: a drawn number lies below the bound, and the place goes on by one. -/
import Derived.Test.YtgcioalgjcaikaaDoorAx10
import Derived.Test.YtgcioalgjcaikaaDoorAx13
import Derived.Test.YtgcioalgjcaikaaDoorKit
-- uses Kit
namespace Go.Proofs.YtgcioalgjcaikaaDoor.A
open Go.RowKit Go.Proofs.YtgcioalgjcaikaaDoorW.PrintWords Go.Proofs.YtgcioalgjcaikaaDoorW.PrintLast Go.Proofs.YtgcioalgjcaikaaDoorW.PrintMore
/-- What is read of a code: bytes, 2000 at most. -/
def Code_ (b : List Int) : Prop := (∀ x ∈ b, 0 ≤ x ∧ x ≤ 255) ∧ b.length ≤ 2000
theorem rd_byte {b : List Int} (hb : Code_ b) (i : Int) : 0 ≤ rd b i ∧ rd b i ≤ 255 := by
  unfold rd
  rw [List.getD_eq_getElem?_getD]
  cases h : b[i.toNat]? with
  | none => exact ⟨Int.le_refl _, by simp⟩
  | some x => exact hb.1 x (List.mem_of_getElem? h)
theorem xor_nonneg {a b : Int} (h0 : 0 ≤ a) (h1 : a < 4611686018427387904) (h2 : 0 ≤ b) (h3 : b < 4611686018427387904) : 0 ≤ Go.bits .xor .i64 a b := by
  obtain ⟨x, rfl⟩ := Int.eq_ofNat_of_zero_le h0
  obtain ⟨y, rfl⟩ := Int.eq_ofNat_of_zero_le h2
  have hx : x < 2 ^ 62 := by omega
  have hy : y < 2 ^ 62 := by omega
  have hx' : x % 2 ^ IntKind.i64.bits = x := Nat.mod_eq_of_lt (Nat.lt_of_lt_of_le hx (by decide))
  have hy' : y % 2 ^ IntKind.i64.bits = y := Nat.mod_eq_of_lt (Nat.lt_of_lt_of_le hy (by decide))
  have hz : x ^^^ y < 2 ^ 62 := Nat.xor_lt_two_pow hx hy
  simp only [bits, BitVec.ofInt_natCast, BitVec.toNat_xor, BitVec.toNat_ofNat, hx', hy']
  rw [IntWalk.i64_in _ ⟨by omega, by omega⟩]
  exact Int.natCast_nonneg _
theorem pick_ev {b : List Int} (hb : Code_ b) (p n : Int) (hp : 0 ≤ p) (hp2 : p ≤ 1000000000) (hn : 1 ≤ n) (hn2 : n ≤ 1000000) :
    ∃ r, Ev (fun k => spec_l6Rd_pick.f k b p n) (r, p + 1) ∧ 0 ≤ r ∧ r < n := by
  have e1 : ¬ n < 1 := by omega
  have e2 : wrap64 (p + 1) = p + 1 := wr (by omega) (by omega)
  have e3 : wrap64 (p + 1 - 1) = p := by rw [wr (by omega) (by omega)]; omega
  have e4 : ¬ n = 0 := by omega
  simp only [spec_l6Rd_pick.f, e1, if_false, e2]
  by_cases h0 : b.length = 0
  · refine ⟨0, Ev.succ_ (Ev.all_ fun k => ?_), by omega, by omega⟩
    simp [spec_l6Rd_pick.j0, h0]
  have h0' : ¬ (b.length : Int) = 0 := by omega
  have hl := hb.2
  by_cases h1 : p < (b.length : Int)
  · have hr := rd_byte hb p
    refine ⟨Int.tmod (rd b p) n, Ev.succ_ (Ev.all_ fun k => ?_), Int.tmod_nonneg _ hr.1, Int.tmod_lt_of_pos _ (by omega)⟩
    have e5 : wrap64 (rd b p) = rd b p := wr (by omega) (by omega)
    have e6 : ((b.length : Int) == 0) = false := by simpa using h0
    simp only [spec_l6Rd_pick.j0, e3, e4, e5, e6, h1, hp, if_true, if_false, Bool.false_eq_true]
  · have m0 : 0 ≤ Int.tmod p (b.length : Int) := Int.tmod_nonneg _ hp
    have m1 : Int.tmod p (b.length : Int) < (b.length : Int) := Int.tmod_lt_of_pos _ (by omega)
    have e7 : wrap64 (p * 7) = p * 7 := wr (by omega) (by omega)
    have e8 : wrap64 (p * 7 + 3) = p * 7 + 3 := wr (by omega) (by omega)
    have m2 : 0 ≤ Int.tmod (p * 7 + 3) (b.length : Int) := Int.tmod_nonneg _ (by omega)
    have m3 : Int.tmod (p * 7 + 3) (b.length : Int) < (b.length : Int) := Int.tmod_lt_of_pos _ (by omega)
    have r1 := rd_byte hb (Int.tmod p (b.length : Int))
    have r2 := rd_byte hb (Int.tmod (p * 7 + 3) (b.length : Int))
    generalize hA : rd b (Int.tmod p (b.length : Int)) = A at r1
    generalize hB : rd b (Int.tmod (p * 7 + 3) (b.length : Int)) = B at r2
    have q0 : 0 ≤ Int.tdiv p (b.length : Int) := Int.tdiv_nonneg hp (by omega)
    have q1 : Int.tdiv p (b.length : Int) ≤ p := Int.tdiv_le_self _ hp
    generalize hQ : Int.tdiv p (b.length : Int) = Q at q0 q1
    have w1 : wrap64 A = A := wr (by omega) (by omega)
    have w2 : wrap64 (A * 131) = A * 131 := wr (by omega) (by omega)
    have w3 : wrap64 B = B := wr (by omega) (by omega)
    have w4 : wrap64 (B * 1117) = B * 1117 := wr (by omega) (by omega)
    have w5 : wrap64 (A * 131 + B * 1117) = A * 131 + B * 1117 := wr (by omega) (by omega)
    have w6 : wrap64 (p * 29) = p * 29 := wr (by omega) (by omega)
    have w7 : wrap64 (A * 131 + B * 1117 + p * 29) = A * 131 + B * 1117 + p * 29 := wr (by omega) (by omega)
    have w8 : wrap64 Q = Q := wr (by omega) (by omega)
    have w9 : wrap64 (Q * 53) = Q * 53 := wr (by omega) (by omega)
    have w10 : wrap64 (A * 131 + B * 1117 + p * 29 + Q * 53) = A * 131 + B * 1117 + p * 29 + Q * 53 := wr (by omega) (by omega)
    have x0 : 0 ≤ A * 131 + B * 1117 + p * 29 + Q * 53 := by omega
    have x1 : A * 131 + B * 1117 + p * 29 + Q * 53 < 4611686018427387904 := by omega
    generalize hX : A * 131 + B * 1117 + p * 29 + Q * 53 = X at w10 x0 x1
    have y0 : 0 ≤ Int.tdiv X 64 := Int.tdiv_nonneg x0 (by omega)
    have y1 : Int.tdiv X 64 ≤ X := Int.tdiv_le_self _ x0
    have w11 : wrap64 (Int.tdiv X 64) = Int.tdiv X 64 := wr (by omega) (by omega)
    have x2 := xor_nonneg x0 x1 y0 (by omega)
    refine ⟨Int.tmod (Go.bits .xor .i64 X (Int.tdiv X 64)) n, Ev.succ_ (Ev.all_ fun k => ?_), Int.tmod_nonneg _ x2, Int.tmod_lt_of_pos _ (by omega)⟩
    have e6 : ((b.length : Int) == 0) = false := by simpa using h0
    simp only [spec_l6Rd_pick.j0, e3, e4, e6, e7, e8, h0', h1, m0, m1, m2, m3, hA, hB, hQ, w1, w2, w3, w4, w5, w6, w7, w8, w9, hX, w10, w11, if_true, if_false, Bool.false_eq_true]
theorem open_ev {l : List Int} (hl : ∀ x ∈ l, 0 ≤ x ∧ x ≤ 255) : ∃ b, Code_ b ∧ spec_l6Open.f l = some (b, 0) := by
  unfold spec_l6Open.f
  by_cases h : (l.length : Int) > 2000
  · have h' : (2000 : Int) ≤ (l.length : Int) := by omega
    exact ⟨l.take 2000, ⟨fun x hx => hl x (List.mem_of_mem_take hx), by simp; omega⟩, by simp only [h, h', if_true]⟩
  · exact ⟨l, ⟨hl, by omega⟩, by simp only [h, if_false]⟩
theorem u8_of {x : Int} (h : (Lit.int .u8 x).wf = true) : 0 ≤ x ∧ x ≤ 255 := by
  simp [Lit.wf, IntKind.min, IntKind.max, IntKind.signed, IntKind.bits] at h
  omega
end Go.Proofs.YtgcioalgjcaikaaDoor.A
