/- Plain facts: the text of a label, and the label of a text, are for the program what they are for the reference. -/
import Derived.Test.YtgcioalgjcaikaaDoorAx2
import Derived.Test.YtgcioalgjcaikaaDoorAx3
import Derived.Test.YtgcioalgjcaikaaDoorAx4
import Derived.Test.YtgcioalgjcaikaaDoorAx5
import Derived.Test.YtgcioalgjcaikaaDoorAx7
import Derived.Test.YtgcioalgjcaikaaDoorAx8
import Derived.Test.YtgcioalgjcaikaaDoorKit
import Derived.Test.YtgcioalgjcaikaaDoorLabOk
-- uses Kit LabOk
namespace Go.Proofs.YtgcioalgjcaikaaDoor.A
open Go.RowKit Go.Proofs.YtgcioalgjcaikaaDoorW.PrintWords Go.Proofs.YtgcioalgjcaikaaDoorW.PrintLast Go.Proofs.YtgcioalgjcaikaaDoorW.PrintMore
/-- The text of a set of hosts. -/
def say (s : Int) : ByteArray := ([⟨#[]⟩, ⟨#[48]⟩, ⟨#[49]⟩, ⟨#[48, 49]⟩, ⟨#[50]⟩, ⟨#[48, 50]⟩, ⟨#[49, 50]⟩, ⟨#[48, 49, 50]⟩] : List ByteArray).getD s.toNat ByteArray.empty
theorem eight {s : Int} (h : isS s = true) : s = 0 ∨ s = 1 ∨ s = 2 ∨ s = 3 ∨ s = 4 ∨ s = 5 ∨ s = 6 ∨ s = 7 := by
  rw [isS_iff] at h
  omega
theorem say_size {s : Int} (h : isS s = true) : (say s).size ≤ 3 := by
  rcases eight h with rfl | rfl | rfl | rfl | rfl | rfl | rfl | rfl <;> decide
set_option maxRecDepth 100000 in
theorem sp_say {s : Int} (h : isS s = true) (k : Nat) : spec_l1Say.f (k + 8) s = some (say s) := by
  rcases eight h with rfl | rfl | rfl | rfl | rfl | rfl | rfl | rfl <;> kernel_rfl
set_option maxRecDepth 100000 in
theorem im_say {s : Int} (h : isS s = true) (k : Nat) : impl_setText.f (k + 8) s = some (say s) := by
  rcases eight h with rfl | rfl | rfl | rfl | rfl | rfl | rfl | rfl <;> kernel_rfl
/-- The text of a label that is ok. -/
def tx (x y : Int) : ByteArray := (say x ++ (⟨#[33]⟩ : ByteArray)) ++ say y
def txt (x y : Int) : ByteArray := if okL x y then tx x y else ⟨#[]⟩
theorem sz33 : ByteArray.size ⟨#[33]⟩ = 1 := rfl
theorem tx_size {x y : Int} (hx : isS x = true) (hy : isS y = true) : (tx x y).size ≤ 7 := by
  have := say_size hx
  have := say_size hy
  unfold tx
  rw [ByteArray.size_append, ByteArray.size_append, sz33]
  omega
theorem sp_text (x y : Int) (k : Nat) : spec_LabelText.f (k + 8) x y = some (txt x y) := by
  unfold spec_LabelText.f txt
  rw [sp_ok]
  cases h : okL x y with
  | false => rfl
  | true =>
    have h' : isS x = true ∧ isS y = true := by simpa [okL] using h
    have a := say_size h'.1
    have b := say_size h'.2
    have c1 : (say x).size + 1 ≤ 9223372036854775807 := by omega
    have c2 : (say x ++ (⟨#[33]⟩ : ByteArray)).size + (say y).size ≤ 9223372036854775807 := by rw [ByteArray.size_append, sz33]; omega
    simp only [Option.bind_some, if_true, sp_say h'.1, sp_say h'.2, c1, c2, tx]
theorem im_text (x y : Int) (k : Nat) : impl_LabelText.f (k + 8) x y = some (txt x y) := by
  unfold impl_LabelText.f txt
  rw [im_ok]
  cases h : okL x y with
  | false => rfl
  | true =>
    have h' : isS x = true ∧ isS y = true := by simpa [okL] using h
    have a := say_size h'.1
    have b := say_size h'.2
    have c1 : (say x).size + 1 ≤ 9223372036854775807 := by omega
    have c2 : (say x ++ (⟨#[33]⟩ : ByteArray)).size + (say y).size ≤ 9223372036854775807 := by rw [ByteArray.size_append, sz33]; omega
    simp only [Option.bind_some, if_true, im_say h'.1, im_say h'.2, c1, c2, tx]
theorem sp_text_ev (x y : Int) : Ev (fun k => spec_LabelText.f k x y) (txt x y) := ⟨8, fun k hk => by
  obtain ⟨m, rfl⟩ : ∃ m, k = m + 8 := ⟨k - 8, by omega⟩
  exact sp_text x y m⟩
theorem im_text_ev (x y : Int) : Ev (fun k => impl_LabelText.f k x y) (txt x y) := ⟨8, fun k hk => by
  obtain ⟨m, rfl⟩ : ∃ m, k = m + 8 := ⟨k - 8, by omega⟩
  exact im_text x y m⟩
theorem txt_ok {x y : Int} (hx : isS x = true) (hy : isS y = true) : txt x y = tx x y := by simp [txt, okL, hx, hy]
theorem im_read_tx (x y : Int) (hx : isS x = true) (hy : isS y = true) (k : Nat) : impl_LabelRead.f (k + 20) (tx x y) = some (x, y, true) := by
  rcases eight hx with rfl | rfl | rfl | rfl | rfl | rfl | rfl | rfl <;> rcases eight hy with rfl | rfl | rfl | rfl | rfl | rfl | rfl | rfl <;> kernel_rfl
theorem of_toList {a b : ByteArray} (h : a.toList = b.toList) : a = b := by
  rw [Lib.toList_data, Lib.toList_data] at h
  exact ByteArray.ext (Array.ext' h)
theorem tx_inj {x y x' y' : Int} (hx : isS x = true) (hy : isS y = true) (hx' : isS x' = true) (hy' : isS y' = true) (h : tx x y = tx x' y') : x = x' ∧ y = y' := by
  have a := im_read_tx x y hx hy 0
  rw [h, im_read_tx x' y' hx' hy' 0] at a
  simp only [Option.some.injEq, Prod.mk.injEq] at a
  exact ⟨a.1.symm, a.2.1.symm⟩
/-- What a text is read as. -/
def RdT (s : ByteArray) (r : Int × Int × Bool) : Prop :=
  (isS r.1 = true ∧ isS r.2.1 = true ∧ r.2.2 = true ∧ tx r.1 r.2.1 = s) ∨ (r = (0, 0, false) ∧ ∀ x y, isS x = true → isS y = true → tx x y ≠ s)
theorem RdT.one {s : ByteArray} {r q : Int × Int × Bool} (h : RdT s r) (h' : RdT s q) : r = q := by
  obtain ⟨a, b, c⟩ := r
  obtain ⟨a', b', c'⟩ := q
  rcases h with ⟨h1, h2, h3, h4⟩ | ⟨h1, h2⟩ <;> rcases h' with ⟨g1, g2, g3, g4⟩ | ⟨g1, g2⟩
  · obtain ⟨e1, e2⟩ := tx_inj h1 h2 g1 g2 (h4.trans g4.symm)
    simp only at h3 g3 e1 e2
    rw [h3, g3, e1, e2]
  · exact absurd h4 (g2 _ _ h1 h2)
  · exact absurd g4 (h2 _ _ g1 g2)
  · rw [h1, g1]
/-- No label ahead of this one has the text. -/
def Past (s : ByteArray) (x y : Int) : Prop := ∀ a b, isS a = true → isS b = true → (a < x ∨ a = x ∧ b < y) → tx a b ≠ s
theorem sp_read_l1 (s : ByteArray) (x : Int) (hx0 : 0 ≤ x) (hx1 : x ≤ 7) (next : Past s (x + 1) 0 → ∃ r, Ev (fun k => spec_LabelRead.l0 k s (x + 1)) r ∧ RdT s r) (d : Nat) :
    ∀ y : Int, 0 ≤ y → y + d = 8 → Past s x y → ∃ r, Ev (fun k => spec_LabelRead.l1 k s x y) r ∧ RdT s r := by
  induction d with
  | zero =>
    intro y h0 h1 hp
    obtain ⟨r, hr, hq⟩ := next (fun a b ha hb hab => hp a b ha hb (by rw [isS_iff] at hb; omega))
    refine ⟨r, Ev.succ_ ?_, hq⟩
    have c : ¬ y ≤ 7 := by omega
    have e : wrap64 (x + 1) = x + 1 := wr (by omega) (by omega)
    simp only [spec_LabelRead.l1, spec_l1All.f, Option.bind_some, c, if_false, e]
    exact hr
  | succ d ih =>
    intro y h0 h1 hp
    have c : y ≤ 7 := by omega
    have e : wrap64 (y + 1) = y + 1 := wr (by omega) (by omega)
    have ix : isS x = true := (isS_iff x).2 ⟨hx0, hx1⟩
    have iy : isS y = true := (isS_iff y).2 ⟨h0, c⟩
    by_cases hm : tx x y = s
    · refine ⟨(x, y, true), Ev.succ_ ?_, .inl ⟨ix, iy, rfl, hm⟩⟩
      simp only [spec_LabelRead.l1, spec_l1All.f, Option.bind_some, c, if_true]
      refine Ev.bind (sp_text_ev x y) ?_
      rw [txt_ok ix iy, hm]
      exact Ev.all_ fun _ => if_pos rfl
    · obtain ⟨r, hr, hq⟩ := ih (y + 1) (by omega) (by omega) (fun a b ha hb hab => by
        by_cases hab' : a < x ∨ a = x ∧ b < y
        · exact hp a b ha hb hab'
        · obtain ⟨rfl, rfl⟩ : a = x ∧ b = y := by omega
          exact hm)
      refine ⟨r, Ev.succ_ ?_, hq⟩
      simp only [spec_LabelRead.l1, spec_l1All.f, Option.bind_some, c, if_true, e]
      refine Ev.bind (sp_text_ev x y) ?_
      have hn : ¬ (txt x y).toList = s.toList := fun h => hm (by rw [← txt_ok ix iy]; exact of_toList h)
      simp only [hn, if_false]
      exact hr
theorem sp_read_l0 (s : ByteArray) (d : Nat) : ∀ x : Int, 0 ≤ x → x + d = 8 → Past s x 0 → ∃ r, Ev (fun k => spec_LabelRead.l0 k s x) r ∧ RdT s r := by
  induction d with
  | zero =>
    intro x h0 h1 hp
    refine ⟨(0, 0, false), Ev.succ_ ?_, .inr ⟨rfl, fun a b ha hb => hp a b ha hb (by rw [isS_iff] at ha; omega)⟩⟩
    have c : ¬ x ≤ 7 := by omega
    simp only [spec_LabelRead.l0, spec_l1All.f, Option.bind_some, c, if_false]
    exact Ev.all_ fun _ => rfl
  | succ d ih =>
    intro x h0 h1 hp
    obtain ⟨r, hr, hq⟩ := sp_read_l1 s x h0 (by omega) (fun h => ih (x + 1) (by omega) (by omega) h) 8 0 (by omega) (by omega) hp
    refine ⟨r, Ev.succ_ ?_, hq⟩
    have c : x ≤ 7 := by omega
    simp only [spec_LabelRead.l0, spec_l1All.f, Option.bind_some, c, if_true]
    exact hr
theorem sp_read (s : ByteArray) : ∃ r, Ev (fun k => spec_LabelRead.f k s) r ∧ RdT s r :=
  sp_read_l0 s 8 0 (by omega) (by omega) fun a b ha hb hab => by rw [isS_iff] at ha hb; omega
theorem host_is (a : Int) : impl_isHost.f a = some (decide (0 ≤ a) && decide (a ≤ 2)) := by
  unfold impl_isHost.f impl_in.f
  by_cases h : 0 ≤ a <;> simp [h]
theorem or_set : ∀ x : Fin 8, ∀ h : Fin 3, isS (Go.bits .or .i64 (x.val : Int) (shl .i64 1 (h.val : Int))) = true := by decide +kernel
theorem read_l (s : ByteArray) (hs : s.size ≤ 1000000000) (d : Nat) : ∀ (n : Nat) (acc : Int), n + d = s.size → isS acc = true → ∃ r, isS r = true ∧ Ev (fun k => impl_readSet.l0 k s acc (s.size : Int) (n : Int)) r := by
  induction d with
  | zero =>
    intro n acc hn ha
    refine ⟨acc, ha, Ev.succ_ (Ev.all_ fun k => ?_)⟩
    have c : ¬ ((n : Int) < (s.size : Int)) := by omega
    simp only [impl_readSet.l0, c, if_false]
  | succ d ih =>
    intro n acc hn ha
    have c1 : (n : Int) < (s.size : Int) := by omega
    have c2 : (0 : Int) ≤ (n : Int) := by omega
    have e : wrap64 ((n : Int) + 1) = ((n + 1 : Nat) : Int) := by rw [wr (by omega) (by omega)]; omega
    have hb := bt_range s (n : Int)
    have e1 : wrap64 (bt s (n : Int)) = bt s (n : Int) := wr (by omega) (by omega)
    have e2 : wrap64 (bt s (n : Int) - 48) = bt s (n : Int) - 48 := wr (by omega) (by omega)
    by_cases hh : 0 ≤ bt s (n : Int) - 48 ∧ bt s (n : Int) - 48 ≤ 2
    · obtain ⟨x, rfl⟩ := as_fin ha
      have h3 := or_set x ⟨(bt s (n : Int) - 48).toNat, by omega⟩
      simp only [show (((bt s (n : Int) - 48).toNat : Nat) : Int) = bt s (n : Int) - 48 by omega] at h3
      obtain ⟨r, h, q⟩ := ih (n + 1) _ (by omega) h3
      refine ⟨r, h, Ev.succ_ ?_⟩
      simp only [impl_readSet.l0, c1, c2, e, e1, e2, if_true, host_is, Option.bind_some, hh.1, hh.2, decide_true, Bool.and_self]
      exact q
    · obtain ⟨r, h, q⟩ := ih (n + 1) acc (by omega) ha
      refine ⟨r, h, Ev.succ_ ?_⟩
      have hd : (decide (0 ≤ bt s (n : Int) - 48) && decide (bt s (n : Int) - 48 ≤ 2)) = false := by simp only [Bool.and_eq_false_iff, decide_eq_false_iff_not]; omega
      simp only [impl_readSet.l0, c1, c2, e, e1, e2, if_true, host_is, Option.bind_some, hd]
      exact q
theorem read_ev (s : ByteArray) (hs : s.size ≤ 1000000000) : ∃ r, isS r = true ∧ Ev (fun k => impl_readSet.f k s) r := read_l s hs s.size 0 0 (by omega) (by decide)
theorem index_lt (l : List UInt8) (c : UInt8) : Lib.indexByte l c < l.length := by
  induction l with
  | nil => simp [Lib.indexByte]
  | cons b l ih =>
    unfold Lib.indexByte
    simp only [List.length_cons]
    split
    · omega
    · split <;> omega
theorem cut_is (s : ByteArray) (hs : s.size ≤ 1000000000) : ∃ b a t, strings_Cut.f s (⟨#[33]⟩ : ByteArray) = some (b, a, t) ∧ b.size ≤ s.size ∧ a.size ≤ s.size := by
  have h1 := Lib.indexByte_ge s.data.toList 33
  have h2 := index_lt s.data.toList 33
  have h3 : s.data.toList.length = s.size := rfl
  have e0 : stringslite_Index.f s (⟨#[33]⟩ : ByteArray) = some (Lib.indexByte s.data.toList 33) := rfl
  unfold strings_Cut.f stringslite_Cut.f
  rw [e0]
  simp only [Option.bind_some, sz33]
  by_cases h : Lib.indexByte s.data.toList 33 ≥ 0
  · have c1 : 0 ≤ Lib.indexByte s.data.toList 33 := h
    have c2 : Lib.indexByte s.data.toList 33 ≤ (s.size : Int) := by omega
    have e : wrap64 (Lib.indexByte s.data.toList 33 + ((1 : Nat) : Int)) = Lib.indexByte s.data.toList 33 + 1 := by rw [wr (by omega) (by omega)]; omega
    have c3 : 0 ≤ Lib.indexByte s.data.toList 33 + 1 := by omega
    have c4 : Lib.indexByte s.data.toList 33 + 1 ≤ (s.size : Int) := by omega
    simp only [e, c1, c2, c3, c4, if_true, Option.bind_some]
    refine ⟨_, _, _, rfl, ?_, ?_⟩ <;> rw [ByteArray.size_extract] <;> omega
  · simp only [h, if_false, Option.bind_some]
    exact ⟨_, _, _, rfl, Nat.le_refl _, Nat.zero_le _⟩
theorem im_read (s : ByteArray) (hs : s.size ≤ 1000000000) : ∃ r, Ev (fun k => impl_LabelRead.f k s) r ∧ RdT s r := by
  by_cases hx : ∃ x y, isS x = true ∧ isS y = true ∧ tx x y = s
  · obtain ⟨x, y, hx, hy, rfl⟩ := hx
    refine ⟨(x, y, true), ⟨20, fun k hk => ?_⟩, .inl ⟨hx, hy, rfl, rfl⟩⟩
    obtain ⟨m, rfl⟩ : ∃ m, k = m + 20 := ⟨k - 20, by omega⟩
    exact im_read_tx x y hx hy m
  · have hn : ∀ x y, isS x = true → isS y = true → tx x y ≠ s := fun x y h1 h2 h3 => hx ⟨x, y, h1, h2, h3⟩
    refine ⟨(0, 0, false), ?_, .inr ⟨rfl, hn⟩⟩
    obtain ⟨b, a, t, hc, hb, ha⟩ := cut_is s hs
    obtain ⟨r1, i1, q1⟩ := read_ev b (by omega)
    obtain ⟨r2, i2, q2⟩ := read_ev a (by omega)
    simp only [impl_LabelRead.f, hc, Option.bind_some]
    refine Ev.bind q1 (Ev.bind q2 (Ev.bind (im_text_ev r1 r2) ?_))
    have hn' : ¬ (txt r1 r2).toList = s.toList := fun h => hn r1 r2 i1 i2 (by rw [← txt_ok i1 i2]; exact of_toList h)
    simp only [hn', if_false]
    exact Ev.all_ fun _ => rfl
/-- Both read the same of a text. -/
theorem both_read (s : ByteArray) (hs : s.size ≤ 1000000000) : ∃ r, Ev (fun k => spec_LabelRead.f k s) r ∧ Ev (fun k => impl_LabelRead.f k s) r ∧ RdT s r := by
  obtain ⟨r, h, q⟩ := sp_read s
  obtain ⟨r', h', q'⟩ := im_read s hs
  obtain rfl := q.one q'
  exact ⟨r, h, h', q⟩
end Go.Proofs.YtgcioalgjcaikaaDoor.A
