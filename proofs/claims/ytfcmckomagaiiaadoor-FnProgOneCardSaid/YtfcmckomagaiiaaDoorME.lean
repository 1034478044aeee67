/- Plain facts on what the functions compute, several texts in one: see wip/pure. -/
import Derived.Test.YtfcmckomagaiiaaDoorAx5
import Derived.Test.YtfcmckomagaiiaaDoorAx6
import Derived.Test.YtfcmckomagaiiaaDoorAx10
import Derived.Test.YtfcmckomagaiiaaDoorMA
import Derived.Test.YtfcmckomagaiiaaDoorAx0
import Derived.Test.YtfcmckomagaiiaaDoorAx7
import Derived.Test.YtfcmckomagaiiaaDoorAx11
import Derived.Test.YtfcmckomagaiiaaDoorAx12
import Derived.Test.YtfcmckomagaiiaaDoorAx13
import Derived.Test.YtfcmckomagaiiaaDoorMC
import Derived.Test.YtfcmckomagaiiaaDoorAx29
namespace Go.Proofs.YtfcmckomagaiiaaDoor.A
open Go.RowKit Go.Proofs.YtfcmckomagaiiaaDoorW.PrintWords Go.Proofs.YtfcmckomagaiiaaDoorW.PrintLast Go.Proofs.YtfcmckomagaiiaaDoorW.PrintMore
/-- The text of a set of hosts. -/
def say (s : Int) : ByteArray := ([⟨#[]⟩, ⟨#[48]⟩, ⟨#[49]⟩, ⟨#[48, 49]⟩, ⟨#[50]⟩, ⟨#[48, 50]⟩, ⟨#[49, 50]⟩, ⟨#[48, 49, 50]⟩] : List ByteArray).getD s.toNat ByteArray.empty
theorem eight {s : Int} (h : isS s = true) : s = 0 ∨ s = 1 ∨ s = 2 ∨ s = 3 ∨ s = 4 ∨ s = 5 ∨ s = 6 ∨ s = 7 := by
 rw [isS_iff] at h
 omega
theorem say_size {s : Int} (h : isS s = true) : (say s).size ≤ 3 := by
 rcases eight h with rfl | rfl | rfl | rfl | rfl | rfl | rfl | rfl <;> decide
set_option maxRecDepth 100000 in
theorem sp_say {s : Int} (h : isS s = true) (k : Nat) : spec_l1Say.f (k + 8) s = some (say s) := by
 rcases eight h with rfl | rfl | rfl | rfl | rfl | rfl | rfl | rfl <;> kernel_rfl
set_option maxRecDepth 100000 in
theorem im_say {s : Int} (h : isS s = true) (k : Nat) : impl_setText.f (k + 8) s = some (say s) := by
 rcases eight h with rfl | rfl | rfl | rfl | rfl | rfl | rfl | rfl <;> kernel_rfl
/-- The text of a label that is ok. -/
def tx (x y : Int) : ByteArray := (say x ++ (⟨#[33]⟩ : ByteArray)) ++ say y
def txt (x y : Int) : ByteArray := if okL x y then tx x y else ⟨#[]⟩
theorem sz33 : ByteArray.size ⟨#[33]⟩ = 1 := rfl
theorem tx_size {x y : Int} (hx : isS x = true) (hy : isS y = true) : (tx x y).size ≤ 7 := by
 have := say_size hx
 have := say_size hy
 unfold tx
 rw [ByteArray.size_append, ByteArray.size_append, sz33]
 omega
theorem sp_text (x y : Int) (k : Nat) : spec_LabelText.f (k + 8) x y = some (txt x y) := by
 unfold spec_LabelText.f txt
 rw [sp_ok]
 cases h : okL x y with
 | false => rfl
 | true =>
  have h' : isS x = true ∧ isS y = true := by simpa [okL] using h
  have a := say_size h'.1
  have b := say_size h'.2
  have c1 : (say x).size + 1 ≤ 9223372036854775807 := by omega
  have c2 : (say x ++ (⟨#[33]⟩ : ByteArray)).size + (say y).size ≤ 9223372036854775807 := by rw [ByteArray.size_append, sz33]; omega
  simp only [Option.bind_some, if_true, sp_say h'.1, sp_say h'.2, c1, c2, tx]
theorem im_text (x y : Int) (k : Nat) : impl_LabelText.f (k + 8) x y = some (txt x y) := by
 unfold impl_LabelText.f txt
 rw [im_ok]
 cases h : okL x y with
 | false => rfl
 | true =>
  have h' : isS x = true ∧ isS y = true := by simpa [okL] using h
  have a := say_size h'.1
  have b := say_size h'.2
  have c1 : (say x).size + 1 ≤ 9223372036854775807 := by omega
  have c2 : (say x ++ (⟨#[33]⟩ : ByteArray)).size + (say y).size ≤ 9223372036854775807 := by rw [ByteArray.size_append, sz33]; omega
  simp only [Option.bind_some, if_true, im_say h'.1, im_say h'.2, c1, c2, tx]
theorem sp_text_ev (x y : Int) : Ev (fun k => spec_LabelText.f k x y) (txt x y) := ⟨8, fun k hk => by
 obtain ⟨m, rfl⟩ : ∃ m, k = m + 8 := ⟨k - 8, by omega⟩
 exact sp_text x y m⟩
theorem im_text_ev (x y : Int) : Ev (fun k => impl_LabelText.f k x y) (txt x y) := ⟨8, fun k hk => by
 obtain ⟨m, rfl⟩ : ∃ m, k = m + 8 := ⟨k - 8, by omega⟩
 exact im_text x y m⟩
theorem txt_ok {x y : Int} (hx : isS x = true) (hy : isS y = true) : txt x y = tx x y := by simp [txt, okL, hx, hy]
end Go.Proofs.YtfcmckomagaiiaaDoor.A
namespace Go.Proofs.YtfcmckomagaiiaaDoor.A
open Go.RowKit Go.Proofs.YtfcmckomagaiiaaDoorW.PrintWords Go.Proofs.YtfcmckomagaiiaaDoorW.PrintLast Go.Proofs.YtfcmckomagaiiaaDoorW.PrintMore
/-- A variable's name. -/
def nm (v : Int) : ByteArray := ⟨#[(97 + v).toNat.toUInt8]⟩
/-- One figure. -/
def dg (v : Int) : ByteArray := ⟨#[(48 + v).toNat.toUInt8]⟩
theorem sz1 (x : UInt8) : ByteArray.size ⟨#[x]⟩ = 1 := rfl
theorem sz2 (x y : UInt8) : ByteArray.size ⟨#[x, y]⟩ = 2 := rfl
theorem nm_size (v : Int) : (nm v).size = 1 := rfl
theorem dg_size (v : Int) : (dg v).size = 1 := rfl
/-- A value's text. -/
def vT (x : S69) : ByteArray := if x.f0 = 1 then dg x.f1 else if x.f0 = 2 then nm x.f1 else if x.f0 = 3 then (nm x.f1 ++ (⟨#[43]⟩ : ByteArray)) ++ nm x.f2 else (nm x.f1 ++ (⟨#[61]⟩ : ByteArray)) ++ nm x.f2
theorem vT_size (x : S69) : (vT x).size ≤ 3 := by
 unfold vT
 split
 ·rw [dg_size]; omega
 ·split
  ·rw [nm_size]; omega
  ·split <;> simp only [ByteArray.size_append, nm_size, sz1] <;> omega
mutual
/-- A step's text. -/
def sayT : S71 → ByteArray
 | ⟨k, v, x, h, a, b⟩ => if k = 1 then nm v ++ ((⟨#[58]⟩ : ByteArray) ++ (vT x ++ (⟨#[59]⟩ : ByteArray))) else if k = 2 then nm v ++ ((⟨#[63, 40]⟩ : ByteArray) ++ (sayTs a ++ ((⟨#[41, 40]⟩ : ByteArray) ++ (sayTs b ++ (⟨#[41]⟩ : ByteArray))))) else nm v ++ ((⟨#[62]⟩ : ByteArray) ++ (dg h ++ (⟨#[59]⟩ : ByteArray)))
def sayTs : List S71 → ByteArray
 | [] => ⟨#[]⟩
 | s :: r => sayT s ++ sayTs r
end
theorem sayT_eq (s : S71) : sayT s = if s.f0 = 1 then nm s.f1 ++ ((⟨#[58]⟩ : ByteArray) ++ (vT s.f2 ++ (⟨#[59]⟩ : ByteArray))) else if s.f0 = 2 then nm s.f1 ++ ((⟨#[63, 40]⟩ : ByteArray) ++ (sayTs s.f4 ++ ((⟨#[41, 40]⟩ : ByteArray) ++ (sayTs s.f5 ++ (⟨#[41]⟩ : ByteArray))))) else nm s.f1 ++ ((⟨#[62]⟩ : ByteArray) ++ (dg s.f3 ++ (⟨#[59]⟩ : ByteArray))) := by cases s; rw [sayT]
theorem sayTs_size : ∀ l : List S71, (sayTs l).size ≤ 6 * nTs l := by
 refine tree_ind fun l ih => ?_
 induction l with
 | nil => rw [sayTs]; exact Nat.zero_le _
 | cons s r ih2 =>
  have h := ih s (by simp)
  have h2 := ih2 (fun x hx => ih x (List.mem_cons_of_mem _ hx))
  have hv := vT_size s.f2
  have e0 := nTs_cons s r
  rw [sayTs, ByteArray.size_append, sayT_eq]
  split
  ·simp only [ByteArray.size_append, nm_size, sz1]
   omega
  ·split
   ·simp only [ByteArray.size_append, nm_size, sz1, sz2]
    omega
   ·simp only [ByteArray.size_append, nm_size, dg_size, sz1]
    omega
theorem okT_kind {n : Int} {s : S71} {d : Int} (h : okT n s d = true) : s.f0 = 1 ∨ s.f0 = 3 ∨ s.f0 = 2 := by
 rw [okT_eq, Bool.and_eq_true, Bool.and_eq_true] at h
 obtain ⟨_, _, h⟩ := h
 by_cases k1 : s.f0 = 1
 ·exact .inl k1
 ·rw [if_neg k1] at h
  by_cases k3 : s.f0 = 3
  ·exact .inr (.inl k3)
  ·rw [if_neg k3] at h
   by_cases k2 : s.f0 = 2
   ·exact .inr (.inr k2)
   ·rw [if_neg k2] at h
    exact absurd h (by decide)
theorem good_kind {n : Int} {l : List S71} (h : good n l) {s : S71} (hs : s ∈ l) : s.f0 = 1 ∨ s.f0 = 3 ∨ s.f0 = 2 := by
 obtain ⟨d, h⟩ := h
 induction l with
 | nil => cases hs
 | cons a r ih =>
  rw [okTs, Bool.and_eq_true] at h
  rcases List.mem_cons.1 hs with e | e
  ·subst e; exact okT_kind h.1
  ·exact ih e h.2
theorem four {v : Int} (h : 0 ≤ v) (h' : v ≤ 3) : v = 0 ∨ v = 1 ∨ v = 2 ∨ v = 3 := by omega
theorem sp_name {v : Int} (h : 0 ≤ v) (h' : v ≤ 3) : spec_l2Name.f v = some (nm v) := by
 rcases four h h' with rfl | rfl | rfl | rfl <;> kernel_rfl
theorem im_name {v : Int} (h : 0 ≤ v) (h' : v ≤ 3) : impl_varName.f v = some (nm v) := by
 rcases four h h' with rfl | rfl | rfl | rfl <;> kernel_rfl
theorem ten {v : Int} (h : 0 ≤ v) (h' : v ≤ 9) : v = 0 ∨ v = 1 ∨ v = 2 ∨ v = 3 ∨ v = 4 ∨ v = 5 ∨ v = 6 ∨ v = 7 ∨ v = 8 ∨ v = 9 := by omega
theorem sp_dec {v : Int} (h : 0 ≤ v) (h' : v ≤ 9) (k : Nat) : spec_l6Dec.f (k + 1) v = some (dg v) := by
 rcases ten h h' with rfl | rfl | rfl | rfl | rfl | rfl | rfl | rfl | rfl | rfl <;> kernel_rfl
theorem sp_dec_ev {v : Int} (h : 0 ≤ v) (h' : v ≤ 9) : Ev (fun k => spec_l6Dec.f k v) (dg v) := Ev.succ_ (Ev.all_ fun k => sp_dec h h' k)
theorem im_dec {v : Int} (h : 0 ≤ v) (h' : v ≤ 9) : strconv_Itoa_48.f v = some (dg v) := by
 rcases ten h h' with rfl | rfl | rfl | rfl | rfl | rfl | rfl | rfl | rfl | rfl <;> kernel_rfl
/-- What is known of a value that is in form. -/
def valP (x : S69) : Prop := if x.f0 = 1 then 0 ≤ x.f1 ∧ x.f1 ≤ 9 else if x.f0 = 2 then 0 ≤ x.f1 ∧ x.f1 ≤ 3 else (x.f0 = 3 ∨ x.f0 = 4) ∧ (0 ≤ x.f1 ∧ x.f1 ≤ 3) ∧ 0 ≤ x.f2 ∧ x.f2 ≤ 3
theorem val_p {n : Int} (hn : n ≤ 4) {x : S69} (h : valB n x = true) : valP x := by
 unfold valB at h
 unfold valP
 by_cases h1 : x.f0 = 1
 ·rw [if_pos h1] at h ⊢
  simp only [Bool.and_eq_true, decide_eq_true_eq] at h
  exact h.1
 ·rw [if_neg h1] at h ⊢
  by_cases h2 : x.f0 = 2
  ·rw [if_pos h2] at h ⊢
   simp only [Bool.and_eq_true, varB, decide_eq_true_eq] at h
   omega
  ·rw [if_neg h2] at h ⊢
   by_cases h3 : x.f0 = 3 ∨ x.f0 = 4
   ·rw [if_pos h3] at h
    simp only [Bool.and_eq_true, varB, decide_eq_true_eq] at h
    exact ⟨h3, by omega, by omega, by omega⟩
   ·rw [if_neg h3] at h
    exact absurd h (by decide)
theorem sp_vT {x : S69} (h : valP x) : Ev (fun k => spec_l2SayVal.f k x.f0 x.f1 x.f2) (vT x) := by
 unfold valP at h
 unfold spec_l2SayVal.f vT
 by_cases h1 : x.f0 = 1
 ·simp only [h1, if_true] at h ⊢
  exact Ev.bind (sp_dec_ev h.1 h.2) (Ev.now _)
 ·simp only [h1, if_false] at h ⊢
  by_cases h2 : x.f0 = 2
  ·simp only [h2, if_true] at h ⊢
   rw [sp_name h.1 h.2]
   exact Ev.now _
  ·simp only [h2, if_false] at h ⊢
   have c1 : (nm x.f1).size + 1 ≤ 9223372036854775807 := by rw [nm_size]; omega
   have c2 : ∀ y : UInt8, (nm x.f1 ++ (⟨#[y]⟩ : ByteArray)).size + (nm x.f2).size ≤ 9223372036854775807 := fun y => by simp only [ByteArray.size_append, nm_size, sz1]; omega
   simp only [sp_name h.2.1.1 h.2.1.2, sp_name h.2.2.1 h.2.2.2, Option.bind_some, c1, c2, if_true]
   by_cases h3 : x.f0 = 3
   ·simp only [h3, if_true]; exact Ev.now _
   ·simp only [h3, if_false]; exact Ev.now _
theorem im_vT {x : S69} (h : valP x) : impl_Val_text.f x.f0 x.f1 x.f2 = some (vT x) := by
 unfold valP at h
 unfold impl_Val_text.f vT
 by_cases h1 : x.f0 = 1
 ·simp only [h1, if_true] at h ⊢
  rw [im_dec h.1 h.2]
  rfl
 ·simp only [h1, if_false] at h ⊢
  by_cases h2 : x.f0 = 2
  ·simp only [h2, if_true] at h ⊢
   rw [im_name h.1 h.2]
   rfl
  ·simp only [h2, if_false] at h ⊢
   have c1 : (nm x.f1).size + 1 ≤ 9223372036854775807 := by rw [nm_size]; omega
   have c2 : ∀ y : UInt8, (nm x.f1 ++ (⟨#[y]⟩ : ByteArray)).size + (nm x.f2).size ≤ 9223372036854775807 := fun y => by simp only [ByteArray.size_append, nm_size, sz1]; omega
   simp only [im_name h.2.1.1 h.2.1.2, im_name h.2.2.1 h.2.2.2, Option.bind_some, c1, c2, if_true]
   by_cases h3 : x.f0 = 3
   ·simp only [h3, if_true]
   ·simp only [h3, if_false]
theorem rdT_drop {l : List S71} {n : Nat} (h : n < l.length) : l.drop n = D71 l (n : Int) :: l.drop (n + 1) := rdS_drop h
theorem sp_say_ev {n : Int} (hn : n ≤ 4) : ∀ l : List S71, good n l → nTs l ≤ 1048576 → Ev (fun k => spec_l2Say.f k l) (sayTs l) := by
 refine tree_ind fun l ih hg hl => ?_
 have hlen := nTs_length l
 have loop : ∀ (d i : Nat) (out : ByteArray), i + d = l.length → out.size + 6 * nTs (l.drop i) ≤ 100000000 → Ev (fun k => spec_l2Say.l0 k l out (i : Int)) (out ++ sayTs (l.drop i)) := by
  intro d
  induction d with
  | zero =>
   intro i out hi _
   refine Ev.succ_ (Ev.all_ fun k => ?_)
   have h1 : ¬ ((i : Int) < (l.length : Int)) := by omega
   simp only [spec_l2Say.l0, h1, if_false]
   rw [List.drop_of_length_le (by omega), sayTs]
   congr 1
   exact (ByteArray.append_empty).symm
  | succ d ih2 =>
   intro i out hi ho
   refine Ev.succ_ ?_
   have h1 : (i : Int) < (l.length : Int) := by omega
   have h2 : (0 : Int) ≤ (i : Int) := by omega
   have h4 : wrap64 ((i : Int) + 1) = ((i + 1 : Nat) : Int) := by rw [wr (by omega) (by omega)]; omega
   have hm := rdS_mem (l := l) (n := i) (by omega)
   have hs := nTs_mem hm
   obtain ⟨i4, i5⟩ := ih _ hm
   obtain ⟨⟨g1, g2, g3⟩, g4, g5⟩ := good_mem hg hm
   have hk := good_kind hg hm
   rw [rdS_drop (l := l) (n := i) (by omega), nTs_cons] at ho
   rw [rdS_drop (l := l) (n := i) (by omega), sayTs, sayT_eq]
   simp only [spec_l2Say.l0, h1, h2, h4, if_true]
   generalize D71 l (i : Int) = s at *
   have hv := var_lt g1
   have nme := sp_name hv.1 (by omega : s.f1 ≤ 3)
   rcases hk with k1 | k3 | k2
   ·have vs := vT_size s.f2
    have c1 : out.size + (nm s.f1).size ≤ 9223372036854775807 := by rw [nm_size]; omega
    have c2 : (out ++ nm s.f1).size + 1 ≤ 9223372036854775807 := by simp only [ByteArray.size_append, nm_size]; omega
    have c3 : ((out ++ nm s.f1) ++ (⟨#[58]⟩ : ByteArray)).size + (vT s.f2).size ≤ 9223372036854775807 := by simp only [ByteArray.size_append, nm_size, sz1]; omega
    have c4 : (((out ++ nm s.f1) ++ (⟨#[58]⟩ : ByteArray)) ++ vT s.f2).size + 1 ≤ 9223372036854775807 := by simp only [ByteArray.size_append, nm_size, sz1]; omega
    simp only [k1, if_true, nme, Option.bind_some, c1, c2]
    refine Ev.bind (sp_vT (val_p hn (g2 k1))) ?_
    simp only [c3, c4, if_true]
    refine Ev.eq_ (ih2 (i + 1) _ (by omega) (by simp only [ByteArray.size_append, nm_size, sz1]; omega)) ?_
    simp only [ByteArray.append_assoc]
   ·have c1 : out.size + (nm s.f1).size ≤ 9223372036854775807 := by rw [nm_size]; omega
    have c2 : (out ++ nm s.f1).size + 1 ≤ 9223372036854775807 := by simp only [ByteArray.size_append, nm_size]; omega
    have c3 : ((out ++ nm s.f1) ++ (⟨#[62]⟩ : ByteArray)).size + (dg s.f3).size ≤ 9223372036854775807 := by simp only [ByteArray.size_append, nm_size, dg_size, sz1]; omega
    have c4 : (((out ++ nm s.f1) ++ (⟨#[62]⟩ : ByteArray)) ++ dg s.f3).size + 1 ≤ 9223372036854775807 := by simp only [ByteArray.size_append, nm_size, dg_size, sz1]; omega
    have hh : 0 ≤ s.f3 ∧ s.f3 ≤ 2 := by have := g3 k3; simpa [hostB] using this
    have n1 : ¬ s.f0 = 1 := by omega
    have n2 : ¬ s.f0 = 2 := by omega
    have n3 : ¬ (3 : Int) = 1 := by omega
    have n4 : ¬ (3 : Int) = 2 := by omega
    simp only [k3, n3, n4, if_true, if_false, nme, Option.bind_some, c1, c2]
    refine Ev.bind (sp_dec_ev hh.1 (by omega)) ?_
    simp only [c3, c4, if_true]
    refine Ev.eq_ (ih2 (i + 1) _ (by omega) (by simp only [ByteArray.size_append, nm_size, dg_size, sz1]; omega)) ?_
    simp only [ByteArray.append_assoc]
   ·have s4 := sayTs_size s.f4
    have s5 := sayTs_size s.f5
    have c1 : out.size + (nm s.f1).size ≤ 9223372036854775807 := by rw [nm_size]; omega
    have c2 : (out ++ nm s.f1).size + 2 ≤ 9223372036854775807 := by simp only [ByteArray.size_append, nm_size]; omega
    have c3 : ((out ++ nm s.f1) ++ (⟨#[63, 40]⟩ : ByteArray)).size + (sayTs s.f4).size ≤ 9223372036854775807 := by simp only [ByteArray.size_append, nm_size, sz2]; omega
    have c4 : (((out ++ nm s.f1) ++ (⟨#[63, 40]⟩ : ByteArray)) ++ sayTs s.f4).size + 2 ≤ 9223372036854775807 := by simp only [ByteArray.size_append, nm_size, sz2]; omega
    have c5 : ((((out ++ nm s.f1) ++ (⟨#[63, 40]⟩ : ByteArray)) ++ sayTs s.f4) ++ (⟨#[41, 40]⟩ : ByteArray)).size + (sayTs s.f5).size ≤ 9223372036854775807 := by simp only [ByteArray.size_append, nm_size, sz2]; omega
    have c6 : (((((out ++ nm s.f1) ++ (⟨#[63, 40]⟩ : ByteArray)) ++ sayTs s.f4) ++ (⟨#[41, 40]⟩ : ByteArray)) ++ sayTs s.f5).size + 1 ≤ 9223372036854775807 := by simp only [ByteArray.size_append, nm_size, sz2]; omega
    have n3 : ¬ (2 : Int) = 1 := by omega
    have n4 : ¬ (2 : Int) = 3 := by omega
    simp only [k2, n3, n4, if_true, if_false, nme, Option.bind_some, c1, c2]
    refine Ev.bind (i4 g4 (by omega)) ?_
    simp only [c3, c4, if_true]
    refine Ev.bind (i5 g5 (by omega)) ?_
    simp only [c5, c6, if_true]
    refine Ev.eq_ (ih2 (i + 1) _ (by omega) (by simp only [ByteArray.size_append, nm_size, sz1, sz2]; omega)) ?_
    simp only [ByteArray.append_assoc]
 refine Ev.succ_ ?_
 simp only [spec_l2Say.f]
 refine Ev.eq_ (loop l.length 0 ⟨#[]⟩ (by omega) (by rw [List.drop_zero]; have : (⟨#[]⟩ : ByteArray).size = 0 := rfl; omega)) ?_
 rw [List.drop_zero]
 exact ByteArray.empty_append
theorem im_say_ev {n : Int} (hn : n ≤ 4) : ∀ l : List S71, good n l → nTs l ≤ 1048576 → Ev (fun k => impl_stepsText.f k l) (sayTs l) := by
 refine tree_ind fun l ih hg hl => ?_
 have hlen := nTs_length l
 have loop : ∀ (d i : Nat) (out : ByteArray), i + d = l.length → out.size + 6 * nTs (l.drop i) ≤ 100000000 → Ev (fun k => impl_stepsText.l0 k out l (l.length : Int) (i : Int)) (out ++ sayTs (l.drop i)) := by
  intro d
  induction d with
  | zero =>
   intro i out hi _
   refine Ev.succ_ (Ev.all_ fun k => ?_)
   have h1 : ¬ ((i : Int) < (l.length : Int)) := by omega
   simp only [impl_stepsText.l0, h1, if_false]
   rw [List.drop_of_length_le (by omega), sayTs]
   congr 1
   exact (ByteArray.append_empty).symm
  | succ d ih2 =>
   intro i out hi ho
   refine Ev.succ_ ?_
   have h1 : (i : Int) < (l.length : Int) := by omega
   have h2 : (0 : Int) ≤ (i : Int) := by omega
   have h4 : wrap64 ((i : Int) + 1) = ((i + 1 : Nat) : Int) := by rw [wr (by omega) (by omega)]; omega
   have hm := rdS_mem (l := l) (n := i) (by omega)
   have hs := nTs_mem hm
   obtain ⟨i4, i5⟩ := ih _ hm
   obtain ⟨⟨g1, g2, g3⟩, g4, g5⟩ := good_mem hg hm
   have hk := good_kind hg hm
   rw [rdS_drop (l := l) (n := i) (by omega), nTs_cons] at ho
   rw [rdS_drop (l := l) (n := i) (by omega), sayTs, sayT_eq]
   simp only [impl_stepsText.l0, h1, h2, h4, if_true]
   generalize D71 l (i : Int) = s at *
   have hv := var_lt g1
   have nme := im_name hv.1 (by omega : s.f1 ≤ 3)
   have c1 : out.size + (nm s.f1).size ≤ 9223372036854775807 := by rw [nm_size]; omega
   rcases hk with k1 | k3 | k2
   ·have vs := vT_size s.f2
    have c2 : 1 + (vT s.f2).size ≤ 9223372036854775807 := by omega
    have c3 : ((⟨#[58]⟩ : ByteArray) ++ vT s.f2).size + 1 ≤ 9223372036854775807 := by simp only [ByteArray.size_append, sz1]; omega
    have c4 : (out ++ nm s.f1).size + (((⟨#[58]⟩ : ByteArray) ++ vT s.f2) ++ (⟨#[59]⟩ : ByteArray)).size ≤ 9223372036854775807 := by simp only [ByteArray.size_append, nm_size, sz1]; omega
    simp only [k1, if_true, nme, Option.bind_some, c1]
    have iv := im_vT (val_p hn (g2 k1))
    rw [iv]
    simp only [Option.bind_some, c2, c3, c4, if_true]
    refine Ev.eq_ (ih2 (i + 1) _ (by omega) (by simp only [ByteArray.size_append, nm_size, sz1]; omega)) ?_
    simp only [ByteArray.append_assoc]
   ·have hh : 0 ≤ s.f3 ∧ s.f3 ≤ 2 := by have := g3 k3; simpa [hostB] using this
    have c2 : 1 + (dg s.f3).size ≤ 9223372036854775807 := by rw [dg_size]; omega
    have c3 : ((⟨#[62]⟩ : ByteArray) ++ dg s.f3).size + 1 ≤ 9223372036854775807 := by simp only [ByteArray.size_append, dg_size, sz1]; omega
    have c4 : (out ++ nm s.f1).size + (((⟨#[62]⟩ : ByteArray) ++ dg s.f3) ++ (⟨#[59]⟩ : ByteArray)).size ≤ 9223372036854775807 := by simp only [ByteArray.size_append, nm_size, dg_size, sz1]; omega
    have n3 : ¬ (3 : Int) = 1 := by omega
    have n4 : ¬ (3 : Int) = 2 := by omega
    simp only [k3, n3, n4, if_true, if_false, nme, Option.bind_some, c1]
    rw [im_dec hh.1 (by omega)]
    simp only [Option.bind_some, c2, c3, c4, if_true]
    refine Ev.eq_ (ih2 (i + 1) _ (by omega) (by simp only [ByteArray.size_append, nm_size, dg_size, sz1]; omega)) ?_
    simp only [ByteArray.append_assoc]
   ·have s4 := sayTs_size s.f4
    have s5 := sayTs_size s.f5
    have c2 : 2 + (sayTs s.f4).size ≤ 9223372036854775807 := by omega
    have c3 : ((⟨#[63, 40]⟩ : ByteArray) ++ sayTs s.f4).size + 2 ≤ 9223372036854775807 := by simp only [ByteArray.size_append, sz2]; omega
    have c4 : (((⟨#[63, 40]⟩ : ByteArray) ++ sayTs s.f4) ++ (⟨#[41, 40]⟩ : ByteArray)).size + (sayTs s.f5).size ≤ 9223372036854775807 := by simp only [ByteArray.size_append, sz2]; omega
    have c5 : ((((⟨#[63, 40]⟩ : ByteArray) ++ sayTs s.f4) ++ (⟨#[41, 40]⟩ : ByteArray)) ++ sayTs s.f5).size + 1 ≤ 9223372036854775807 := by simp only [ByteArray.size_append, sz2]; omega
    have c6 : (out ++ nm s.f1).size + (((((⟨#[63, 40]⟩ : ByteArray) ++ sayTs s.f4) ++ (⟨#[41, 40]⟩ : ByteArray)) ++ sayTs s.f5) ++ (⟨#[41]⟩ : ByteArray)).size ≤ 9223372036854775807 := by simp only [ByteArray.size_append, nm_size, sz1, sz2]; omega
    have n3 : ¬ (2 : Int) = 1 := by omega
    simp only [k2, n3, if_true, if_false, nme, Option.bind_some, c1]
    refine Ev.bind (i4 g4 (by omega)) ?_
    simp only [c2, c3, if_true]
    refine Ev.bind (i5 g5 (by omega)) ?_
    simp only [c4, c5, c6, if_true]
    refine Ev.eq_ (ih2 (i + 1) _ (by omega) (by simp only [ByteArray.size_append, nm_size, sz1, sz2]; omega)) ?_
    simp only [ByteArray.append_assoc]
 refine Ev.succ_ ?_
 simp only [impl_stepsText.f]
 refine Ev.eq_ (loop l.length 0 ⟨#[]⟩ (by omega) (by rw [List.drop_zero]; have : (⟨#[]⟩ : ByteArray).size = 0 := rfl; omega)) ?_
 rw [List.drop_zero]
 exact ByteArray.empty_append
/-- The text of labels, each with a room behind it. -/
def labTs : List S43 → ByteArray
 | [] => ⟨#[]⟩
 | a :: r => tx a.f0 a.f1 ++ ((⟨#[32]⟩ : ByteArray) ++ labTs r)
/-- A program's text. -/
def textP (L : List S43) (S : List S71) : ByteArray := if progB L S = true then labTs L ++ ((⟨#[47, 32]⟩ : ByteArray) ++ sayTs S) else ⟨#[]⟩
theorem progB_text {L : List S43} {S : List S71} (h : progB L S = true) : L.length ≤ 4 ∧ L.all (fun x => okL x.f0 x.f1) = true ∧ good L.length S ∧ nTs S ≤ 8 := by
 unfold progB at h
 simp only [Bool.and_eq_true, decide_eq_true_eq] at h
 exact ⟨h.1, h.2.1, ⟨3, h.2.2.1⟩, h.2.2.2⟩
theorem lab_all {L : List S43} (hL : L.all (fun x => okL x.f0 x.f1) = true) {i : Nat} (h : i < L.length) : isS (D43 L (i : Int)).f0 = true ∧ isS (D43 L (i : Int)).f1 = true := by
 have hm : D43 L (i : Int) ∈ L := by
  simp only [D43, Int.toNat_natCast, List.getD_eq_getElem?_getD, List.getElem?_eq_getElem h, Option.getD_some]
  exact List.getElem_mem h
 have := List.all_eq_true.1 hL _ hm
 simpa [okL] using this
theorem rdLb_drop {l : List S43} {n : Nat} (h : n < l.length) : l.drop n = D43 l (n : Int) :: l.drop (n + 1) := by
 simp only [D43, Int.toNat_natCast]
 exact drop_cons l n _ h
theorem sp_textP (L : List S43) (S : List S71) (h1 : L.length ≤ 1048576) (h2 : nTs S ≤ 1048576) : Ev (fun k => spec_ProgText.f k L S) (textP L S) := by
 unfold spec_ProgText.f
 refine Ev.bind (sp_progOk L S h1 h2) ?_
 cases hk : progB L S with
 | false =>
  simp only [Bool.false_eq_true, if_false, textP, hk]
  exact Ev.now _
 | true =>
  simp only [if_true, textP, hk]
  obtain ⟨l4, hL, hg, n8⟩ := progB_text hk
  have say := sp_say_ev (by omega : (L.length : Int) ≤ 4) S hg (by omega)
  have ss := sayTs_size S
  have loop : ∀ (d i : Nat) (out : ByteArray), i + d = L.length → out.size + 8 * d ≤ 1000 → Ev (fun k => spec_ProgText.l0 k out (i : Int) L S) (out ++ (labTs (L.drop i) ++ ((⟨#[47, 32]⟩ : ByteArray) ++ sayTs S))) := by
   intro d
   induction d with
   | zero =>
    intro i out hi ho
    refine Ev.succ_ ?_
    have c1 : ¬ ((i : Int) < (L.length : Int)) := by omega
    have c2 : out.size + 2 ≤ 9223372036854775807 := by omega
    have c3 : (out ++ (⟨#[47, 32]⟩ : ByteArray)).size + (sayTs S).size ≤ 9223372036854775807 := by simp only [ByteArray.size_append, sz2]; omega
    simp only [spec_ProgText.l0, c1, c2, if_true, if_false]
    refine Ev.bind say ?_
    simp only [c3, if_true]
    rw [List.drop_of_length_le (by omega), labTs, ByteArray.append_assoc]
    refine Ev.eq_ (Ev.now _) ?_
    congr 1
   | succ d ih2 =>
    intro i out hi ho
    refine Ev.succ_ ?_
    have c1 : (i : Int) < (L.length : Int) := by omega
    have c2 : (0 : Int) ≤ (i : Int) := by omega
    have c4 : wrap64 ((i : Int) + 1) = ((i + 1 : Nat) : Int) := by rw [wr (by omega) (by omega)]; omega
    obtain ⟨o0, o1⟩ := lab_all hL (i := i) (by omega)
    have ts := tx_size o0 o1
    have ev := sp_text_ev (D43 L (i : Int)).f0 (D43 L (i : Int)).f1
    rw [txt_ok o0 o1] at ev
    simp only [spec_ProgText.l0, c1, c2, c4, if_true]
    refine Ev.bind ev ?_
    have c5 : out.size + (tx (D43 L (i : Int)).f0 (D43 L (i : Int)).f1).size ≤ 9223372036854775807 := by omega
    have c6 : (out ++ tx (D43 L (i : Int)).f0 (D43 L (i : Int)).f1).size + 1 ≤ 9223372036854775807 := by rw [ByteArray.size_append]; omega
    simp only [c5, c6, if_true]
    rw [rdLb_drop (l := L) (n := i) (by omega), labTs]
    refine Ev.eq_ (ih2 (i + 1) _ (by omega) (by simp only [ByteArray.size_append, sz1]; omega)) ?_
    simp only [ByteArray.append_assoc]
  refine Ev.eq_ (loop L.length 0 ⟨#[]⟩ (by omega) (by have : (⟨#[]⟩ : ByteArray).size = 0 := rfl; omega)) ?_
  rw [List.drop_zero]
  exact ByteArray.empty_append
theorem im_textP (L : List S43) (S : List S71) (h1 : L.length ≤ 1048576) (h2 : nTs S ≤ 1048576) : Ev (fun k => impl_ProgText.f k L S) (textP L S) := by
 unfold impl_ProgText.f
 refine Ev.bind (im_progOk L S h1 h2) ?_
 cases hk : progB L S with
 | false =>
  simp only [Bool.false_eq_true, if_false, textP, hk]
  exact Ev.now _
 | true =>
  simp only [if_true, textP, hk]
  obtain ⟨l4, hL, hg, n8⟩ := progB_text hk
  have say := im_say_ev (by omega : (L.length : Int) ≤ 4) S hg (by omega)
  have ss := sayTs_size S
  have loop : ∀ (d i : Nat) (out : ByteArray), i + d = L.length → out.size + 8 * d ≤ 1000 → Ev (fun k => impl_ProgText.l0 k out L (i : Int) S) (out ++ (labTs (L.drop i) ++ ((⟨#[47, 32]⟩ : ByteArray) ++ sayTs S))) := by
   intro d
   induction d with
   | zero =>
    intro i out hi ho
    refine Ev.succ_ ?_
    have c1 : ¬ ((i : Int) < (L.length : Int)) := by omega
    have c2 : out.size + 2 ≤ 9223372036854775807 := by omega
    have c3 : (out ++ (⟨#[47, 32]⟩ : ByteArray)).size + (sayTs S).size ≤ 9223372036854775807 := by simp only [ByteArray.size_append, sz2]; omega
    simp only [impl_ProgText.l0, c1, c2, if_true, if_false]
    refine Ev.bind say ?_
    simp only [c3, if_true]
    rw [List.drop_of_length_le (by omega), labTs, ByteArray.append_assoc]
    refine Ev.eq_ (Ev.now _) ?_
    congr 1
   | succ d ih2 =>
    intro i out hi ho
    refine Ev.succ_ ?_
    have c1 : (i : Int) < (L.length : Int) := by omega
    have c2 : (0 : Int) ≤ (i : Int) := by omega
    have c4 : wrap64 ((i : Int) + 1) = ((i + 1 : Nat) : Int) := by rw [wr (by omega) (by omega)]; omega
    obtain ⟨o0, o1⟩ := lab_all hL (i := i) (by omega)
    have ts := tx_size o0 o1
    have ev := im_text_ev (D43 L (i : Int)).f0 (D43 L (i : Int)).f1
    rw [txt_ok o0 o1] at ev
    simp only [impl_ProgText.l0, c1, c2, c4, if_true]
    refine Ev.bind ev ?_
    have c5 : (tx (D43 L (i : Int)).f0 (D43 L (i : Int)).f1).size + 1 ≤ 9223372036854775807 := by omega
    have c6 : out.size + ((tx (D43 L (i : Int)).f0 (D43 L (i : Int)).f1).size + 1) ≤ 140737488355328 := by omega
    simp only [c5, c6, if_true]
    rw [rdLb_drop (l := L) (n := i) (by omega), labTs]
    refine Ev.eq_ (ih2 (i + 1) _ (by omega) (by simp only [ByteArray.size_append, sz1]; omega)) ?_
    simp only [ByteArray.append_assoc]
  refine Ev.eq_ (loop L.length 0 ⟨#[]⟩ (by omega) (by have : (⟨#[]⟩ : ByteArray).size = 0 := rfl; omega)) ?_
  rw [List.drop_zero]
  exact ByteArray.empty_append
end Go.Proofs.YtfcmckomagaiiaaDoor.A
namespace Go.Proofs.YtfcmckomagaiiaaDoor.A
open Go.RowKit Go.Proofs.YtfcmckomagaiiaaDoorW.PrintWords Go.Proofs.YtfcmckomagaiiaaDoorW.PrintLast Go.Proofs.YtfcmckomagaiiaaDoorW.PrintMore
/-- Are the two the same? -/
noncomputable def same {α : Type} (a b : α) : Bool := @decide (a = b) (Classical.propDecidable _)
theorem same_yes {α : Type} {a b : α} (h : a = b) : same a b = true := @decide_eq_true _ (Classical.propDecidable _) h
theorem same_no {α : Type} {a b : α} (h : ¬ a = b) : same a b = false := @decide_eq_false _ (Classical.propDecidable _) h
theorem step_ext {s t : S71} (h0 : s.f0 = t.f0) (h1 : s.f1 = t.f1) (h2 : s.f2 = t.f2) (h3 : s.f3 = t.f3) (h4 : s.f4 = t.f4) (h5 : s.f5 = t.f5) : s = t := by
 cases s; cases t
 simp only at h0 h1 h2 h3 h4 h5
 subst h0 h1 h2 h3 h4 h5
 rfl
theorem val_ext {s t : S69} (h : (!(s.f0 == t.f0) || (!(s.f1 == t.f1) || !(s.f2 == t.f2))) = false) : s = t := by
 simp only [Bool.or_eq_false_iff, Bool.not_eq_false', beq_iff_eq] at h
 cases s; cases t
 simp only at h
 obtain ⟨rfl, rfl, rfl⟩ := h
 rfl
theorem val_self (s : S69) : (!(s.f0 == s.f0) || (!(s.f1 == s.f1) || !(s.f2 == s.f2))) = false := by simp
theorem lc_ev : ∀ a : List S71, nTs a ≤ 1048576 → ∀ b : List S71, Ev (fun k => laws_lcSteps.f k a b) (same a b) := by
 refine tree_ind fun a ih ha b => ?_
 have hlen := nTs_length a
 refine Ev.succ_ ?_
 simp only [laws_lcSteps.f]
 by_cases hl : (a.length : Int) = (b.length : Int)
 case neg =>
  simp only [hl, if_false]
  exact Ev.eq_ (Ev.now _) (same_no (fun e => hl (by rw [e]))).symm
 simp only [hl, if_true]
 have loop : ∀ (d i : Nat), i + d = a.length → Ev (fun k => laws_lcSteps.l0 k a b (i : Int)) (same (a.drop i) (b.drop i)) := by
  intro d
  induction d with
  | zero =>
   intro i hi
   refine Ev.succ_ (Ev.all_ fun k => ?_)
   have h1 : ¬ ((i : Int) < (a.length : Int)) := by omega
   simp only [laws_lcSteps.l0, h1, if_false]
   rw [same_yes]
   rw [List.drop_of_length_le (by omega), List.drop_of_length_le (by omega)]
  | succ d ih2 =>
   intro i hi
   refine Ev.succ_ ?_
   have h1 : (i : Int) < (a.length : Int) := by omega
   have h2 : (0 : Int) ≤ (i : Int) := by omega
   have h3 : (i : Int) < (b.length : Int) := by omega
   have h4 : wrap64 ((i : Int) + 1) = ((i + 1 : Nat) : Int) := by rw [wr (by omega) (by omega)]; omega
   have hm := rdS_mem (l := a) (n := i) (by omega)
   have hs := nTs_mem hm
   obtain ⟨i4, i5⟩ := ih _ hm
   have next := ih2 (i + 1) (by omega)
   rw [rdS_drop (l := a) (n := i) (by omega), rdS_drop (l := b) (n := i) (by omega)]
   simp only [laws_lcSteps.l0, h1, h2, h3, h4, if_true]
   generalize D71 a (i : Int) = s at *
   generalize D71 b (i : Int) = t at *
   have no : ∀ {p : Prop}, (s = t → p) → ¬ p → same (s :: a.drop (i + 1)) (t :: b.drop (i + 1)) = false := fun h c => same_no (fun e => c (h (by injection e)))
   by_cases c0 : s.f0 = t.f0
   case neg => simp only [c0, if_false]; exact Ev.eq_ (Ev.now _) (no (fun e => by rw [e]) c0).symm
   by_cases c1 : s.f1 = t.f1
   case neg => simp only [c0, c1, if_true, if_false]; exact Ev.eq_ (Ev.now _) (no (fun e => by rw [e]) c1).symm
   cases c2 : (!(s.f2.f0 == t.f2.f0) || (!(s.f2.f1 == t.f2.f1) || !(s.f2.f2 == t.f2.f2))) with
   | true =>
    simp only [c0, c1, if_true]
    exact Ev.eq_ (Ev.now _) (no (p := s.f2 = t.f2) (fun e => by rw [e]) (fun e => by rw [e, val_self] at c2; cases c2)).symm
   | false =>
   have e2 := val_ext c2
   by_cases c3 : s.f3 = t.f3
   case neg => simp only [c0, c1, c3, Bool.false_eq_true, if_true, if_false]; exact Ev.eq_ (Ev.now _) (no (fun e => by rw [e]) c3).symm
   simp only [c0, c1, c3, Bool.false_eq_true, if_true, if_false]
   refine Ev.bind (i4 (by omega) t.f4) ?_
   by_cases c4 : s.f4 = t.f4
   case neg => simp only [same_no c4, Bool.false_eq_true, if_false]; exact Ev.eq_ (Ev.now _) (no (fun e => by rw [e]) c4).symm
   simp only [same_yes c4, if_true]
   refine Ev.bind (i5 (by omega) t.f5) ?_
   by_cases c5 : s.f5 = t.f5
   case neg => simp only [same_no c5, Bool.false_eq_true, if_false]; exact Ev.eq_ (Ev.now _) (no (fun e => by rw [e]) c5).symm
   simp only [same_yes c5, if_true]
   refine Ev.eq_ next ?_
   rw [step_ext c0 c1 e2 c3 c4 c5]
   by_cases c6 : a.drop (i + 1) = b.drop (i + 1)
   ·rw [same_yes c6, same_yes (by rw [c6])]
   ·rw [same_no c6, same_no (fun e => c6 (by injection e))]
 have := loop a.length 0 (by omega)
 rw [List.drop_zero, List.drop_zero] at this
 exact this
end Go.Proofs.YtfcmckomagaiiaaDoor.A
namespace Go.Proofs.YtfcmckomagaiiaaDoor.A
open Go.RowKit Go.Proofs.YtfcmckomagaiiaaDoorW.PrintWords Go.Proofs.YtfcmckomagaiiaaDoorW.PrintLast Go.Proofs.YtfcmckomagaiiaaDoorW.PrintMore
theorem B_app (a b : ByteArray) : (a ++ b).data.toList = a.data.toList ++ b.data.toList := by rw [ByteArray.data_append, Array.toList_append]
theorem split_at {s : UInt8} : ∀ {l l' R R' : List UInt8}, (∀ a ∈ l, a ≠ s) → (∀ a ∈ l', a ≠ s) → l ++ s :: R = l' ++ s :: R' → l = l' ∧ R = R' := by
 intro l
 induction l with
 | nil =>
  intro l' R R' _ h' e
  cases l' with
  | nil => injection e with _ e; exact ⟨rfl, e⟩
  | cons a r => injection e with e1 e2; exact absurd e1.symm (h' a List.mem_cons_self)
 | cons a r ih =>
  intro l' R R' h h' e
  cases l' with
  | nil => injection e with e1 e2; exact absurd e1 (h a List.mem_cons_self)
  | cons b r' =>
   injection e with e1 e2
   obtain ⟨i1, i2⟩ := ih (fun x hx => h x (List.mem_cons_of_mem _ hx)) (fun x hx => h' x (List.mem_cons_of_mem _ hx)) e2
   exact ⟨by rw [e1, i1], i2⟩
/-- A variable's byte. -/
def nmB (v : Int) : UInt8 := (97 + v).toNat.toUInt8
theorem nmB_inj {v u : Int} (h : 0 ≤ v ∧ v ≤ 3) (h' : 0 ≤ u ∧ u ≤ 3) (e : nmB v = nmB u) : v = u := by
 rcases four h.1 h.2 with rfl | rfl | rfl | rfl <;> rcases four h'.1 h'.2 with rfl | rfl | rfl | rfl <;> first | rfl | exact absurd e (by decide)
theorem nmB_ne {v : Int} (h : 0 ≤ v ∧ v ≤ 3) : nmB v ≠ 41 := by
 rcases four h.1 h.2 with rfl | rfl | rfl | rfl <;> decide
theorem dg_inj {v u : Int} (h : 0 ≤ v ∧ v ≤ 2) (h' : 0 ≤ u ∧ u ≤ 2) (e : (dg v).data.toList = (dg u).data.toList) : v = u := by
 have a : v = 0 ∨ v = 1 ∨ v = 2 := by omega
 have b : u = 0 ∨ u = 1 ∨ u = 2 := by omega
 rcases a with rfl | rfl | rfl <;> rcases b with rfl | rfl | rfl <;> first | rfl | exact absurd e (by decide)
theorem dg_ne {v : Int} (h : 0 ≤ v ∧ v ≤ 2) : ∀ a ∈ (dg v).data.toList, a ≠ 59 := by
 have a : v = 0 ∨ v = 1 ∨ v = 2 := by omega
 rcases a with rfl | rfl | rfl <;> decide
/-- A value read back from its text. -/
def vBack : List UInt8 → S69
 | [a] => if a < 97 then ⟨1, (a.toNat : Int) - 48, 0⟩ else ⟨2, (a.toNat : Int) - 97, 0⟩
 | [a, s, b] => if s = 43 then ⟨3, (a.toNat : Int) - 97, (b.toNat : Int) - 97⟩ else ⟨4, (a.toNat : Int) - 97, (b.toNat : Int) - 97⟩
 | _ => ⟨0, 0, 0⟩
theorem vT_back {n : Int} (hn : n ≤ 4) {x : S69} (h : valB n x = true) : vBack (vT x).data.toList = x ∧ ∀ a ∈ (vT x).data.toList, a ≠ 59 := by
 have hp := val_p hn h
 obtain ⟨k, a, b⟩ := x
 unfold valP at hp
 unfold valB at h
 simp only at h hp
 by_cases h1 : k = 1
 ·subst h1
  simp only [if_true] at hp h
  rw [Bool.and_eq_true, beq_iff_eq] at h
  obtain ⟨_, rfl⟩ := h
  rcases ten hp.1 hp.2 with rfl | rfl | rfl | rfl | rfl | rfl | rfl | rfl | rfl | rfl <;> exact ⟨rfl, by decide⟩
 ·rw [if_neg h1] at hp h
  by_cases h2 : k = 2
  ·subst h2
   simp only [if_true] at hp h
   rw [Bool.and_eq_true, beq_iff_eq] at h
   obtain ⟨_, rfl⟩ := h
   rcases four hp.1 hp.2 with rfl | rfl | rfl | rfl <;> exact ⟨rfl, by decide⟩
  ·rw [if_neg h2] at hp
   obtain ⟨hk, ⟨a1, a2⟩, b1, b2⟩ := hp
   rcases hk with rfl | rfl <;> rcases four a1 a2 with rfl | rfl | rfl | rfl <;> rcases four b1 b2 with rfl | rfl | rfl | rfl <;> exact ⟨rfl, by decide⟩
theorem say_bytes {s : Int} (h : isS s = true) : ∀ a ∈ (say s).data.toList, a ≠ 33 ∧ a ≠ 32 ∧ a ≠ 47 := by
 rcases eight h with rfl | rfl | rfl | rfl | rfl | rfl | rfl | rfl <;> decide
theorem say_inj0 {s t : Int} (h : isS s = true) (h' : isS t = true) (e : (say s).data.toList = (say t).data.toList) : s = t := by
 rcases eight h with rfl | rfl | rfl | rfl | rfl | rfl | rfl | rfl <;> rcases eight h' with rfl | rfl | rfl | rfl | rfl | rfl | rfl | rfl <;> first | rfl | exact absurd e (by decide)
theorem lab_cons (a : S43) (r : List S43) (T : List UInt8) : (labTs (a :: r)).data.toList ++ T = (say a.f0).data.toList ++ 33 :: ((say a.f1).data.toList ++ 32 :: ((labTs r).data.toList ++ T)) := by
 rw [labTs, B_app, B_app, tx, B_app, B_app]
 simp only [List.append_assoc]
 rfl
theorem lab_no {a : Int} (h : isS a = true) {T Q : List UInt8} (e : 47 :: T = (say a).data.toList ++ 33 :: Q) : False := by
 have hb := say_bytes h
 generalize (say a).data.toList = l at *
 cases l with
 | nil => injection e with e1 _; exact absurd e1 (by decide)
 | cons b r => injection e with e1 _; exact (hb b List.mem_cons_self).2.2 e1.symm
theorem lab_inj : ∀ (L L' : List S43) (T T' : List UInt8), L.all (fun x => okL x.f0 x.f1) = true → L'.all (fun x => okL x.f0 x.f1) = true → (labTs L).data.toList ++ 47 :: T = (labTs L').data.toList ++ 47 :: T' → L = L' ∧ T = T' := by
 intro L
 induction L with
 | nil =>
  intro L' T T' _ h' e
  cases L' with
  | nil => injection e with _ e; exact ⟨rfl, e⟩
  | cons a r =>
   rw [List.all_cons, Bool.and_eq_true, okL, Bool.and_eq_true] at h'
   rw [lab_cons] at e
   exact (lab_no h'.1.1 e).elim
 | cons a r ih =>
  intro L' T T' h h' e
  rw [List.all_cons, Bool.and_eq_true, okL, Bool.and_eq_true] at h
  cases L' with
  | nil =>
   rw [lab_cons] at e
   exact (lab_no h.1.1 e.symm).elim
  | cons b r' =>
   rw [List.all_cons, Bool.and_eq_true, okL, Bool.and_eq_true] at h'
   rw [lab_cons, lab_cons] at e
   obtain ⟨e1, e⟩ := split_at (fun x hx => (say_bytes h.1.1 x hx).1) (fun x hx => (say_bytes h'.1.1 x hx).1) e
   obtain ⟨e2, e⟩ := split_at (fun x hx => (say_bytes h.1.2 x hx).2.1) (fun x hx => (say_bytes h'.1.2 x hx).2.1) e
   obtain ⟨i1, i2⟩ := ih r' T T' h.2 h'.2 e
   have f0 := say_inj0 h.1.1 h'.1.1 e1
   have f1 := say_inj0 h.1.2 h'.1.2 e2
   refine ⟨?_, i2⟩
   rw [i1]
   congr 1
   cases a; cases b
   simp only at f0 f1
   rw [f0, f1]
theorem okT_form {n : Int} {s : S71} {d : Int} (h : okT n s d = true) : varB n s.f1 = true ∧ ((s.f0 = 1 ∧ valB n s.f2 = true ∧ s.f3 = 0 ∧ s.f4 = [] ∧ s.f5 = []) ∨ (s.f0 = 3 ∧ s.f2 = ⟨0, 0, 0⟩ ∧ hostB s.f3 = true ∧ s.f4 = [] ∧ s.f5 = []) ∨
  (s.f0 = 2 ∧ s.f2 = ⟨0, 0, 0⟩ ∧ s.f3 = 0 ∧ okTs n s.f4 (d - 1) = true ∧ okTs n s.f5 (d - 1) = true)) := by
 rw [okT_eq, Bool.and_eq_true, Bool.and_eq_true] at h
 obtain ⟨_, hv, h⟩ := h
 refine ⟨hv, ?_⟩
 have z : ∀ x : S69, (x.f0 == 0 && (x.f1 == 0 && x.f2 == 0)) = true → x = ⟨0, 0, 0⟩ := by
  intro x hx
  simp only [Bool.and_eq_true, beq_iff_eq] at hx
  cases x
  simp only at hx
  obtain ⟨rfl, rfl, rfl⟩ := hx
  rfl
 by_cases k1 : s.f0 = 1
 ·rw [if_pos k1] at h
  simp only [Bool.and_eq_true, beq_iff_eq, List.isEmpty_iff] at h
  exact .inl ⟨k1, h.1, h.2.1, h.2.2.1, h.2.2.2⟩
 ·rw [if_neg k1] at h
  by_cases k3 : s.f0 = 3
  ·rw [if_pos k3, Bool.and_eq_true] at h
   refine .inr (.inl ⟨k3, z _ h.1, ?_⟩)
   have h2 := h.2
   simp only [Bool.and_eq_true, List.isEmpty_iff] at h2
   exact h2
  ·rw [if_neg k3] at h
   by_cases k2 : s.f0 = 2
   ·rw [if_pos k2, Bool.and_eq_true] at h
    refine .inr (.inr ⟨k2, z _ h.1, ?_⟩)
    have h2 := h.2
    simp only [Bool.and_eq_true, beq_iff_eq] at h2
    exact h2
   ·rw [if_neg k2] at h; cases h
/-- A step's text, by its kind. -/
theorem sayB1 {s : S71} (h : s.f0 = 1) (Q : List UInt8) : (sayT s).data.toList ++ Q = nmB s.f1 :: 58 :: ((vT s.f2).data.toList ++ 59 :: Q) := by
 rw [sayT_eq, if_pos h, B_app, B_app, B_app]
 simp only [List.append_assoc]
 rfl
theorem sayB2 {s : S71} (h : s.f0 = 2) (Q : List UInt8) : (sayT s).data.toList ++ Q = nmB s.f1 :: 63 :: 40 :: ((sayTs s.f4).data.toList ++ 41 :: 40 :: ((sayTs s.f5).data.toList ++ 41 :: Q)) := by
 rw [sayT_eq, if_neg (by omega), if_pos h, B_app, B_app, B_app, B_app, B_app]
 simp only [List.append_assoc]
 rfl
theorem sayB3 {s : S71} (h : s.f0 = 3) (Q : List UInt8) : (sayT s).data.toList ++ Q = nmB s.f1 :: 62 :: ((dg s.f3).data.toList ++ 59 :: Q) := by
 rw [sayT_eq, if_neg (by omega), if_neg (by omega), B_app, B_app, B_app]
 simp only [List.append_assoc]
 rfl
/-- Behind steps: nothing, or a bracket. -/
def stop (R : List UInt8) : Prop := R = [] ∨ ∃ r, R = 41 :: r
theorem no_step {n : Int} (hn : n ≤ 4) {s : S71} {d : Int} (h : okT n s d = true) {R Q : List UInt8} (hR : stop R) (e : R = (sayT s).data.toList ++ Q) : False := by
 obtain ⟨hv, hk⟩ := okT_form h
 have v := var_lt hv
 have : ∃ q, (sayT s).data.toList ++ Q = nmB s.f1 :: q := by
  rcases hk with h | h | h
  ·exact ⟨_, sayB1 h.1 Q⟩
  ·exact ⟨_, sayB3 h.1 Q⟩
  ·exact ⟨_, sayB2 h.1 Q⟩
 obtain ⟨q, hq⟩ := this
 rw [hq] at e
 rcases hR with h | ⟨r, h⟩ <;> rw [h] at e
 ·cases e
 ·injection e with e1 _
  exact nmB_ne ⟨v.1, by omega⟩ e1.symm
theorem say_inj {n : Int} (hn : n ≤ 4) : ∀ a : List S71, ∀ d, okTs n a d = true → ∀ (b : List S71) (e : Int), okTs n b e = true → ∀ R R' : List UInt8, stop R → stop R' → (sayTs a).data.toList ++ R = (sayTs b).data.toList ++ R' → a = b ∧ R = R' := by
 refine tree_ind fun a ih d ha => ?_
 have main : ∀ r : List S71, (∀ s ∈ r, s ∈ a) → okTs n r d = true → ∀ (b : List S71) (e : Int), okTs n b e = true → ∀ R R' : List UInt8, stop R → stop R' → (sayTs r).data.toList ++ R = (sayTs b).data.toList ++ R' → r = b ∧ R = R' := by
  intro r
  induction r with
  | nil =>
   intro _ _ b e hb R R' hR hR' q
   cases b with
   | nil => exact ⟨rfl, q⟩
   | cons t b' =>
    rw [okTs, Bool.and_eq_true] at hb
    rw [show sayTs (t :: b') = sayT t ++ sayTs b' from by rw [sayTs], B_app, List.append_assoc] at q
    exact (no_step hn hb.1 hR q).elim
  | cons s r ihr =>
   intro hm hr b e hb R R' hR hR' q
   rw [okTs, Bool.and_eq_true] at hr
   rw [show sayTs (s :: r) = sayT s ++ sayTs r from by rw [sayTs], B_app, List.append_assoc] at q
   cases b with
   | nil => exact (no_step hn hr.1 hR' q.symm).elim
   | cons t b' =>
    rw [okTs, Bool.and_eq_true] at hb
    rw [show sayTs (t :: b') = sayT t ++ sayTs b' from by rw [sayTs], B_app, List.append_assoc] at q
    obtain ⟨i4, i5⟩ := ih s (hm s List.mem_cons_self)
    have one : s = t ∧ (sayTs r).data.toList ++ R = (sayTs b').data.toList ++ R' := by
     obtain ⟨hv, hk⟩ := okT_form hr.1
     obtain ⟨hu, hj⟩ := okT_form hb.1
     have v := var_lt hv
     have u := var_lt hu
     have vu : nmB s.f1 = nmB t.f1 → s.f1 = t.f1 := nmB_inj ⟨v.1, by omega⟩ ⟨u.1, by omega⟩
     rcases hk with ⟨k, x, h3, h4, h5⟩ | ⟨k, x, h3, h4, h5⟩ | ⟨k, x, h3, h4, h5⟩ <;> rcases hj with ⟨j, y, g3, g4, g5⟩ | ⟨j, y, g3, g4, g5⟩ | ⟨j, y, g3, g4, g5⟩
     ·rw [sayB1 k, sayB1 j] at q
      injection q with q1 q
      injection q with _ q
      obtain ⟨b1, n1⟩ := vT_back hn x
      obtain ⟨b2, n2⟩ := vT_back hn y
      obtain ⟨q2, q⟩ := split_at n1 n2 q
      exact ⟨step_ext (k.trans j.symm) (vu q1) (by rw [← b1, ← b2, q2]) (h3.trans g3.symm) (h4.trans g4.symm) (h5.trans g5.symm), q⟩
     ·rw [sayB1 k, sayB3 j] at q
      injection q with _ q
      injection q with q1 _
      exact absurd q1 (by decide)
     ·rw [sayB1 k, sayB2 j] at q
      injection q with _ q
      injection q with q1 _
      exact absurd q1 (by decide)
     ·rw [sayB3 k, sayB1 j] at q
      injection q with _ q
      injection q with q1 _
      exact absurd q1 (by decide)
     ·rw [sayB3 k, sayB3 j] at q
      injection q with q1 q
      injection q with _ q
      have b1 : 0 ≤ s.f3 ∧ s.f3 ≤ 2 := by simpa [hostB] using h3
      have b2 : 0 ≤ t.f3 ∧ t.f3 ≤ 2 := by simpa [hostB] using g3
      obtain ⟨q2, q⟩ := split_at (dg_ne b1) (dg_ne b2) q
      exact ⟨step_ext (k.trans j.symm) (vu q1) (x.trans y.symm) (dg_inj b1 b2 q2) (h4.trans g4.symm) (h5.trans g5.symm), q⟩
     ·rw [sayB3 k, sayB2 j] at q
      injection q with _ q
      injection q with q1 _
      exact absurd q1 (by decide)
     ·rw [sayB2 k, sayB1 j] at q
      injection q with _ q
      injection q with q1 _
      exact absurd q1 (by decide)
     ·rw [sayB2 k, sayB3 j] at q
      injection q with _ q
      injection q with q1 _
      exact absurd q1 (by decide)
     ·rw [sayB2 k, sayB2 j] at q
      injection q with q1 q
      injection q with _ q
      injection q with _ q
      obtain ⟨e4, q⟩ := i4 _ h4 t.f4 _ g4 _ _ (.inr ⟨_, rfl⟩) (.inr ⟨_, rfl⟩) q
      injection q with _ q
      injection q with _ q
      obtain ⟨e5, q⟩ := i5 _ h5 t.f5 _ g5 _ _ (.inr ⟨_, rfl⟩) (.inr ⟨_, rfl⟩) q
      injection q with _ q
      exact ⟨step_ext (k.trans j.symm) (vu q1) (x.trans y.symm) (h3.trans g3.symm) e4 e5, q⟩
    obtain ⟨r1, r2⟩ := ihr (fun z hz => hm z (List.mem_cons_of_mem _ hz)) hr.2 b' e hb.2 R R' hR hR' one.2
    exact ⟨by rw [one.1, r1], r2⟩
 exact main a (fun _ h => h) ha
theorem text_inj {L L' : List S43} {S S' : List S71} (h : progB L S = true) (h' : progB L' S' = true) (e : (textP L S).data.toList = (textP L' S').data.toList) : L = L' ∧ S = S' := by
 have p := h
 have p' := h'
 unfold progB at p p'
 simp only [Bool.and_eq_true, decide_eq_true_eq] at p p'
 have form : ∀ (M : List S43) (P : List S71), progB M P = true → (textP M P).data.toList = (labTs M).data.toList ++ 47 :: 32 :: ((sayTs P).data.toList ++ []) := by
  intro M P hp
  rw [textP, if_pos hp, B_app, B_app, List.append_nil]
  rfl
 rw [form L S h, form L' S' h'] at e
 obtain ⟨e1, e⟩ := lab_inj L L' _ _ p.2.1 p'.2.1 e
 injection e with _ e
 have n4 : (L.length : Int) ≤ 4 := by omega
 have o' : okTs (L.length : Int) S' 3 = true := by rw [e1]; exact p'.2.2.1
 exact ⟨e1, (say_inj n4 S 3 p.2.2.1 S' 3 o' [] [] (.inl rfl) (.inl rfl) e).1⟩
theorem lab_ext {s t : S43} (h : (!(s.f0 == t.f0) || !(s.f1 == t.f1)) = false) : s = t := by
 simp only [Bool.or_eq_false_iff, Bool.not_eq_false', beq_iff_eq] at h
 cases s; cases t
 simp only at h
 obtain ⟨rfl, rfl⟩ := h
 rfl
theorem lcProg_ev (L : List S43) (S : List S71) (L' : List S43) (S' : List S71) (h1 : L.length ≤ 1048576) (h2 : nTs S ≤ 1048576) : Ev (fun k => laws_lcProg.f k L S L' S') (same (L, S) (L', S')) := by
 unfold laws_lcProg.f
 by_cases hl : (L.length : Int) = (L'.length : Int)
 case neg =>
  simp only [hl, if_false]
  exact Ev.eq_ (Ev.now _) (same_no (fun e => hl (by injection e with e _; rw [e]))).symm
 simp only [hl, if_true]
 have loop : ∀ (d i : Nat), i + d = L.length → L.take i = L'.take i → Ev (fun k => laws_lcProg.l0 k (i : Int) L S L' S') (same (L, S) (L', S')) := by
  intro d
  induction d with
  | zero =>
   intro i hi ht
   refine Ev.succ_ ?_
   have c1 : ¬ ((i : Int) < (L.length : Int)) := by omega
   simp only [laws_lcProg.l0, c1, if_false]
   rw [List.take_of_length_le (by omega), List.take_of_length_le (by omega)] at ht
   refine Ev.bind (lc_ev S h2 S') (Ev.eq_ (Ev.now _) ?_)
   by_cases c : S = S'
   ·rw [same_yes c, same_yes (by rw [ht, c])]
   ·rw [same_no c, same_no (fun e => c (by injection e))]
  | succ d ih =>
   intro i hi ht
   refine Ev.succ_ ?_
   have c1 : (i : Int) < (L.length : Int) := by omega
   have c2 : (0 : Int) ≤ (i : Int) := by omega
   have c3 : (i : Int) < (L'.length : Int) := by omega
   have c4 : wrap64 ((i : Int) + 1) = ((i + 1 : Nat) : Int) := by rw [wr (by omega) (by omega)]; omega
   have g : ∀ (M : List S43), i < M.length → M[i]? = some (D43 M (i : Int)) := by
    intro M hM
    simp only [D43, Int.toNat_natCast, List.getD_eq_getElem?_getD, List.getElem?_eq_getElem hM, Option.getD_some]
   have a1 := g L (by omega)
   have a2 := g L' (by omega)
   simp only [laws_lcProg.l0, c1, c2, c3, c4, if_true]
   cases c : (!((D43 L (i : Int)).f0 == (D43 L' (i : Int)).f0) || !((D43 L (i : Int)).f1 == (D43 L' (i : Int)).f1)) with
   | true =>
    simp only [if_true]
    refine Ev.eq_ (Ev.now _) (same_no (fun e => ?_)).symm
    injection e with e _
    rw [e] at c
    simp at c
   | false =>
    simp only [Bool.false_eq_true, if_false]
    refine ih (i + 1) (by omega) ?_
    rw [List.take_add_one, List.take_add_one, a1, a2, ht, lab_ext c]
 exact loop L.length 0 (by omega) rfl
end Go.Proofs.YtfcmckomagaiiaaDoor.A
