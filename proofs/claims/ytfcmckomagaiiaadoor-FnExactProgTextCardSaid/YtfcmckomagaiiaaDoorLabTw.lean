/- Plain facts: the text of a label is for the program what it is for the reference. -/
import Derived.Test.YtfcmckomagaiiaaDoorAx5
import Derived.Test.YtfcmckomagaiiaaDoorAx6
import Derived.Test.YtfcmckomagaiiaaDoorAx12
import Derived.Test.YtfcmckomagaiiaaDoorKit
import Derived.Test.YtfcmckomagaiiaaDoorLabOk
-- uses Kit LabOk
namespace Go.Proofs.YtfcmckomagaiiaaDoor.A
open Go.RowKit Go.Proofs.YtfcmckomagaiiaaDoorW.PrintWords Go.Proofs.YtfcmckomagaiiaaDoorW.PrintLast Go.Proofs.YtfcmckomagaiiaaDoorW.PrintMore
/-- The text of a set of hosts. -/
def say (s : Int) : ByteArray := ([⟨#[]⟩, ⟨#[48]⟩, ⟨#[49]⟩, ⟨#[48, 49]⟩, ⟨#[50]⟩, ⟨#[48, 50]⟩, ⟨#[49, 50]⟩, ⟨#[48, 49, 50]⟩] : List ByteArray).getD s.toNat ByteArray.empty
theorem eight {s : Int} (h : isS s = true) : s = 0 ∨ s = 1 ∨ s = 2 ∨ s = 3 ∨ s = 4 ∨ s = 5 ∨ s = 6 ∨ s = 7 := by
 rw [isS_iff] at h
 omega
theorem say_size {s : Int} (h : isS s = true) : (say s).size ≤ 3 := by
 rcases eight h with rfl | rfl | rfl | rfl | rfl | rfl | rfl | rfl <;> decide
set_option maxRecDepth 100000 in
theorem sp_say {s : Int} (h : isS s = true) (k : Nat) : spec_l1Say.f (k + 8) s = some (say s) := by
 rcases eight h with rfl | rfl | rfl | rfl | rfl | rfl | rfl | rfl <;> kernel_rfl
set_option maxRecDepth 100000 in
theorem im_say {s : Int} (h : isS s = true) (k : Nat) : impl_setText.f (k + 8) s = some (say s) := by
 rcases eight h with rfl | rfl | rfl | rfl | rfl | rfl | rfl | rfl <;> kernel_rfl
/-- The text of a label that is ok. -/
def tx (x y : Int) : ByteArray := (say x ++ (⟨#[33]⟩ : ByteArray)) ++ say y
def txt (x y : Int) : ByteArray := if okL x y then tx x y else ⟨#[]⟩
theorem sz33 : ByteArray.size ⟨#[33]⟩ = 1 := rfl
theorem tx_size {x y : Int} (hx : isS x = true) (hy : isS y = true) : (tx x y).size ≤ 7 := by
 have := say_size hx
 have := say_size hy
 unfold tx
 rw [ByteArray.size_append, ByteArray.size_append, sz33]
 omega
theorem sp_text (x y : Int) (k : Nat) : spec_LabelText.f (k + 8) x y = some (txt x y) := by
 unfold spec_LabelText.f txt
 rw [sp_ok]
 cases h : okL x y with
 | false => rfl
 | true =>
  have h' : isS x = true ∧ isS y = true := by simpa [okL] using h
  have a := say_size h'.1
  have b := say_size h'.2
  have c1 : (say x).size + 1 ≤ 9223372036854775807 := by omega
  have c2 : (say x ++ (⟨#[33]⟩ : ByteArray)).size + (say y).size ≤ 9223372036854775807 := by rw [ByteArray.size_append, sz33]; omega
  simp only [Option.bind_some, if_true, sp_say h'.1, sp_say h'.2, c1, c2, tx]
theorem im_text (x y : Int) (k : Nat) : impl_LabelText.f (k + 8) x y = some (txt x y) := by
 unfold impl_LabelText.f txt
 rw [im_ok]
 cases h : okL x y with
 | false => rfl
 | true =>
  have h' : isS x = true ∧ isS y = true := by simpa [okL] using h
  have a := say_size h'.1
  have b := say_size h'.2
  have c1 : (say x).size + 1 ≤ 9223372036854775807 := by omega
  have c2 : (say x ++ (⟨#[33]⟩ : ByteArray)).size + (say y).size ≤ 9223372036854775807 := by rw [ByteArray.size_append, sz33]; omega
  simp only [Option.bind_some, if_true, im_say h'.1, im_say h'.2, c1, c2, tx]
theorem sp_text_ev (x y : Int) : Ev (fun k => spec_LabelText.f k x y) (txt x y) := ⟨8, fun k hk => by
 obtain ⟨m, rfl⟩ : ∃ m, k = m + 8 := ⟨k - 8, by omega⟩
 exact sp_text x y m⟩
theorem im_text_ev (x y : Int) : Ev (fun k => impl_LabelText.f k x y) (txt x y) := ⟨8, fun k hk => by
 obtain ⟨m, rfl⟩ : ∃ m, k = m + 8 := ⟨k - 8, by omega⟩
 exact im_text x y m⟩
theorem txt_ok {x y : Int} (hx : isS x = true) (hy : isS y = true) : txt x y = tx x y := by simp [txt, okL, hx, hy]
end Go.Proofs.YtfcmckomagaiiaaDoor.A
