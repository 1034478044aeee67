/- Plain facts on which step is the first that is not fine: the program's answer is the reference's. -/
import Derived.Test.YtaflodibibbakaaBx0
import Derived.Test.YtaflodibibbakaaTypeAll
-- uses TypeAll
namespace Go.Proofs.Ytaflodibibbakaa.B
open Go.RowKit Go.Proofs.YtaflodibibbakaaW.PrintWords Go.Proofs.YtaflodibibbakaaW.PrintLast Go.Proofs.YtaflodibibbakaaW.PrintMore
def hasB (s h : Int) : Bool := hostB h && (Go.bits .and .i64 (shr .i64 s h) 1 == 1)
theorem has_and : ∀ (x y : Fin 8) (h : Fin 3), hasB (bA (x.val : Int) (y.val : Int)) (h.val : Int) = (hasB (x.val : Int) (h.val : Int) && hasB (y.val : Int) (h.val : Int)) := by decide +kernel
theorem bA_assoc_fin : ∀ x y z : Fin 8, bA (x.val : Int) (bA (y.val : Int) (z.val : Int)) = bA (bA (x.val : Int) (y.val : Int)) (z.val : Int) := by decide +kernel
theorem bA_seven : ∀ x : Fin 8, bA 7 (x.val : Int) = (x.val : Int) ∧ bA (x.val : Int) 7 = (x.val : Int) := by decide +kernel
theorem as_host {h : Int} (e : hostB h = true) : ∃ x : Fin 3, h = (x.val : Int) := by
 unfold hostB at e
 simp only [Bool.and_eq_true, decide_eq_true_eq] at e
 exact ⟨⟨h.toNat, by omega⟩, by simp; omega⟩
theorem bA_assoc {a b c : Int} (ha : isS a = true) (hb : isS b = true) (hc : isS c = true) : bA a (bA b c) = bA (bA a b) c := by
 obtain ⟨x, rfl⟩ := as_fin ha
 obtain ⟨y, rfl⟩ := as_fin hb
 obtain ⟨z, rfl⟩ := as_fin hc
 exact bA_assoc_fin x y z
theorem bA_7l {a : Int} (ha : isS a = true) : bA 7 a = a := by
 obtain ⟨x, rfl⟩ := as_fin ha
 exact (bA_seven x).1
theorem bA_7r {a : Int} (ha : isS a = true) : bA a 7 = a := by
 obtain ⟨x, rfl⟩ := as_fin ha
 exact (bA_seven x).2
theorem isS7 : isS 7 = true := by decide
theorem ok77 : okL 7 7 = true := by decide
/-- What is made of some variables. -/
def foldS (L : List S60) : List Int → Int → Int → Int × Int
 | [], p, q => (p, q)
 | v :: r, p, q => foldS L r (bA p (rd_T60 L v).f0) (bA q (rd_T60 L v).f1)
def varsOf (x : S48) : List Int := if x.f0 = 2 then [x.f1] else if x.f0 = 3 ∨ x.f0 = 4 then [x.f1, x.f2] else []
/-- The label of a value. -/
def valL (L : List S60) (x : S48) : Int × Int := foldS L (varsOf x) 7 7
theorem valL_ok {L : List S60} (hL : L.all (fun x => okL x.f0 x.f1) = true) {x : S48} (h : valB L.length x = true) {p q : Int} (hp : okL p q = true) :
  okL (valL L x).1 (valL L x).2 = true ∧ (bA p (valL L x).1, bA q (valL L x).2) = foldS L (varsOf x) p q ∧ okL (foldS L (varsOf x) p q).1 (foldS L (varsOf x) p q).2 = true := by
 rw [okL_iff] at hp
 unfold valL varsOf
 unfold valB at h
 by_cases h1 : x.f0 = 1
 ·simp only [h1, show ¬ (1 : Int) = 3 by omega, show ¬ (1 : Int) = 4 by omega, show ¬ (1 : Int) = 2 by omega, if_false, or_self, foldS]
  exact ⟨ok77, by rw [bA_7r hp.1, bA_7r hp.2], okL_iff.2 hp⟩
 ·rw [if_neg h1] at h
  by_cases h2 : x.f0 = 2
  ·rw [if_pos h2] at h
   simp only [Bool.and_eq_true] at h
   have a := okL_iff.1 (rdLab_ok hL h.1)
   simp only [h2, if_true, foldS]
   rw [bA_7l a.1, bA_7l a.2]
   exact ⟨okL_iff.2 a, rfl, okL_iff.2 ⟨isS_bA hp.1 a.1, isS_bA hp.2 a.2⟩⟩
  ·rw [if_neg h2] at h
   by_cases h34 : x.f0 = 3 ∨ x.f0 = 4
   ·rw [if_pos h34] at h
    simp only [Bool.and_eq_true] at h
    have a := okL_iff.1 (rdLab_ok hL h.1)
    have b := okL_iff.1 (rdLab_ok hL h.2)
    simp only [h2, h34, if_true, if_false, foldS]
    rw [bA_7l a.1, bA_7l a.2, bA_assoc hp.1 a.1 b.1, bA_assoc hp.2 a.2 b.2]
    exact ⟨okL_iff.2 ⟨isS_bA a.1 b.1, isS_bA a.2 b.2⟩, rfl, okL_iff.2 ⟨isS_bA (isS_bA hp.1 a.1) b.1, isS_bA (isS_bA hp.2 a.2) b.2⟩⟩
   ·rw [if_neg h34] at h
    exact absurd h (by decide)
/-- A step is fine. -/
def fineB (L : List S60) (s : S50) (x : S60) : Bool :=
 if s.f0 = 1 then wi (rd_T60 L s.f1).f0 (foldS L (varsOf s.f2) x.f0 x.f1).1 && wi (rd_T60 L s.f1).f1 (foldS L (varsOf s.f2) x.f0 x.f1).2
 else if s.f0 = 3 then hasB x.f0 s.f3 && hasB (rd_T60 L s.f1).f0 s.f3 else true
/-- The first that is not fine, from a place on. -/
def whyR (L : List S60) : List S50 → List S60 → Int → Int × Bool
 | s :: r, x :: m, i => if fineB L s x then whyR L r m (i + 1) else (i, true)
 | _, _, _ => (0, false)
/-- TypeWhy of a program that is in form. -/
def whyP (L : List S60) (S : List S50) : Int × Bool := whyR L (alTs S) (laTs L S 7 7) 0
theorem progB_parts {L : List S60} {S : List S50} (h : progB L S = true) : L.length ≤ 4 ∧ L.all (fun x => okL x.f0 x.f1) = true ∧ good L.length S ∧ nTs S ≤ 8 := by
 unfold progB at h
 simp only [Bool.and_eq_true, decide_eq_true_eq] at h
 exact ⟨h.1, h.2.1, ⟨3, h.2.2.1⟩, h.2.2.2⟩
end Go.Proofs.Ytaflodibibbakaa.B
