/- Plain facts on the text of a program, for the program and for the reference. -/
import Derived.Test.YtfcmckomagaiiaaDoorAx0
import Derived.Test.YtfcmckomagaiiaaDoorAx5
import Derived.Test.YtfcmckomagaiiaaDoorAx6
import Derived.Test.YtfcmckomagaiiaaDoorAx7
import Derived.Test.YtfcmckomagaiiaaDoorAx12
import Derived.Test.YtfcmckomagaiiaaDoorAx13
import Derived.Test.YtfcmckomagaiiaaDoorAx14
import Derived.Test.YtfcmckomagaiiaaDoorAx15
import Derived.Test.YtfcmckomagaiiaaDoorLabTw
import Derived.Test.YtfcmckomagaiiaaDoorGood
import Derived.Test.YtfcmckomagaiiaaDoorProgB
-- uses LabTw Good ProgB
namespace Go.Proofs.YtfcmckomagaiiaaDoor.A
open Go.RowKit Go.Proofs.YtfcmckomagaiiaaDoorW.PrintWords Go.Proofs.YtfcmckomagaiiaaDoorW.PrintLast Go.Proofs.YtfcmckomagaiiaaDoorW.PrintMore
/-- A variable's name. -/
def nm (v : Int) : ByteArray := ⟨#[(97 + v).toNat.toUInt8]⟩
/-- One figure. -/
def dg (v : Int) : ByteArray := ⟨#[(48 + v).toNat.toUInt8]⟩
theorem sz1 (x : UInt8) : ByteArray.size ⟨#[x]⟩ = 1 := rfl
theorem sz2 (x y : UInt8) : ByteArray.size ⟨#[x, y]⟩ = 2 := rfl
theorem nm_size (v : Int) : (nm v).size = 1 := rfl
theorem dg_size (v : Int) : (dg v).size = 1 := rfl
/-- A value's text. -/
def vT (x : S69) : ByteArray := if x.f0 = 1 then dg x.f1 else if x.f0 = 2 then nm x.f1 else if x.f0 = 3 then (nm x.f1 ++ (⟨#[43]⟩ : ByteArray)) ++ nm x.f2 else (nm x.f1 ++ (⟨#[61]⟩ : ByteArray)) ++ nm x.f2
theorem vT_size (x : S69) : (vT x).size ≤ 3 := by
 unfold vT
 split
 ·rw [dg_size]; omega
 ·split
  ·rw [nm_size]; omega
  ·split <;> simp only [ByteArray.size_append, nm_size, sz1] <;> omega
mutual
/-- A step's text. -/
def sayT : S71 → ByteArray
 | ⟨k, v, x, h, a, b⟩ => if k = 1 then nm v ++ ((⟨#[58]⟩ : ByteArray) ++ (vT x ++ (⟨#[59]⟩ : ByteArray))) else if k = 2 then nm v ++ ((⟨#[63, 40]⟩ : ByteArray) ++ (sayTs a ++ ((⟨#[41, 40]⟩ : ByteArray) ++ (sayTs b ++ (⟨#[41]⟩ : ByteArray))))) else nm v ++ ((⟨#[62]⟩ : ByteArray) ++ (dg h ++ (⟨#[59]⟩ : ByteArray)))
def sayTs : List S71 → ByteArray
 | [] => ⟨#[]⟩
 | s :: r => sayT s ++ sayTs r
end
theorem sayT_eq (s : S71) : sayT s = if s.f0 = 1 then nm s.f1 ++ ((⟨#[58]⟩ : ByteArray) ++ (vT s.f2 ++ (⟨#[59]⟩ : ByteArray))) else if s.f0 = 2 then nm s.f1 ++ ((⟨#[63, 40]⟩ : ByteArray) ++ (sayTs s.f4 ++ ((⟨#[41, 40]⟩ : ByteArray) ++ (sayTs s.f5 ++ (⟨#[41]⟩ : ByteArray))))) else nm s.f1 ++ ((⟨#[62]⟩ : ByteArray) ++ (dg s.f3 ++ (⟨#[59]⟩ : ByteArray))) := by cases s; rw [sayT]
theorem sayTs_size : ∀ l : List S71, (sayTs l).size ≤ 6 * nTs l := by
 refine tree_ind fun l ih => ?_
 induction l with
 | nil => rw [sayTs]; exact Nat.zero_le _
 | cons s r ih2 =>
  have h := ih s (by simp)
  have h2 := ih2 (fun x hx => ih x (List.mem_cons_of_mem _ hx))
  have hv := vT_size s.f2
  have e0 := nTs_cons s r
  rw [sayTs, ByteArray.size_append, sayT_eq]
  split
  ·simp only [ByteArray.size_append, nm_size, sz1]
   omega
  ·split
   ·simp only [ByteArray.size_append, nm_size, sz1, sz2]
    omega
   ·simp only [ByteArray.size_append, nm_size, dg_size, sz1]
    omega
theorem okT_kind {n : Int} {s : S71} {d : Int} (h : okT n s d = true) : s.f0 = 1 ∨ s.f0 = 3 ∨ s.f0 = 2 := by
 rw [okT_eq, Bool.and_eq_true, Bool.and_eq_true] at h
 obtain ⟨_, _, h⟩ := h
 by_cases k1 : s.f0 = 1
 ·exact .inl k1
 ·rw [if_neg k1] at h
  by_cases k3 : s.f0 = 3
  ·exact .inr (.inl k3)
  ·rw [if_neg k3] at h
   by_cases k2 : s.f0 = 2
   ·exact .inr (.inr k2)
   ·rw [if_neg k2] at h
    exact absurd h (by decide)
theorem good_kind {n : Int} {l : List S71} (h : good n l) {s : S71} (hs : s ∈ l) : s.f0 = 1 ∨ s.f0 = 3 ∨ s.f0 = 2 := by
 obtain ⟨d, h⟩ := h
 induction l with
 | nil => cases hs
 | cons a r ih =>
  rw [okTs, Bool.and_eq_true] at h
  rcases List.mem_cons.1 hs with e | e
  ·subst e; exact okT_kind h.1
  ·exact ih e h.2
theorem four {v : Int} (h : 0 ≤ v) (h' : v ≤ 3) : v = 0 ∨ v = 1 ∨ v = 2 ∨ v = 3 := by omega
theorem sp_name {v : Int} (h : 0 ≤ v) (h' : v ≤ 3) : spec_l2Name.f v = some (nm v) := by
 rcases four h h' with rfl | rfl | rfl | rfl <;> kernel_rfl
theorem im_name {v : Int} (h : 0 ≤ v) (h' : v ≤ 3) : impl_varName.f v = some (nm v) := by
 rcases four h h' with rfl | rfl | rfl | rfl <;> kernel_rfl
theorem ten {v : Int} (h : 0 ≤ v) (h' : v ≤ 9) : v = 0 ∨ v = 1 ∨ v = 2 ∨ v = 3 ∨ v = 4 ∨ v = 5 ∨ v = 6 ∨ v = 7 ∨ v = 8 ∨ v = 9 := by omega
theorem sp_dec {v : Int} (h : 0 ≤ v) (h' : v ≤ 9) (k : Nat) : spec_l6Dec.f (k + 1) v = some (dg v) := by
 rcases ten h h' with rfl | rfl | rfl | rfl | rfl | rfl | rfl | rfl | rfl | rfl <;> kernel_rfl
theorem sp_dec_ev {v : Int} (h : 0 ≤ v) (h' : v ≤ 9) : Ev (fun k => spec_l6Dec.f k v) (dg v) := Ev.succ_ (Ev.all_ fun k => sp_dec h h' k)
theorem im_dec {v : Int} (h : 0 ≤ v) (h' : v ≤ 9) : strconv_Itoa_48.f v = some (dg v) := by
 rcases ten h h' with rfl | rfl | rfl | rfl | rfl | rfl | rfl | rfl | rfl | rfl <;> kernel_rfl
/-- What is known of a value that is in form. -/
def valP (x : S69) : Prop := if x.f0 = 1 then 0 ≤ x.f1 ∧ x.f1 ≤ 9 else if x.f0 = 2 then 0 ≤ x.f1 ∧ x.f1 ≤ 3 else (x.f0 = 3 ∨ x.f0 = 4) ∧ (0 ≤ x.f1 ∧ x.f1 ≤ 3) ∧ 0 ≤ x.f2 ∧ x.f2 ≤ 3
theorem val_p {n : Int} (hn : n ≤ 4) {x : S69} (h : valB n x = true) : valP x := by
 unfold valB at h
 unfold valP
 by_cases h1 : x.f0 = 1
 ·rw [if_pos h1] at h ⊢
  simp only [Bool.and_eq_true, decide_eq_true_eq] at h
  exact h.1
 ·rw [if_neg h1] at h ⊢
  by_cases h2 : x.f0 = 2
  ·rw [if_pos h2] at h ⊢
   simp only [Bool.and_eq_true, varB, decide_eq_true_eq] at h
   omega
  ·rw [if_neg h2] at h ⊢
   by_cases h3 : x.f0 = 3 ∨ x.f0 = 4
   ·rw [if_pos h3] at h
    simp only [Bool.and_eq_true, varB, decide_eq_true_eq] at h
    exact ⟨h3, by omega, by omega, by omega⟩
   ·rw [if_neg h3] at h
    exact absurd h (by decide)
theorem sp_vT {x : S69} (h : valP x) : Ev (fun k => spec_l2SayVal.f k x.f0 x.f1 x.f2) (vT x) := by
 unfold valP at h
 unfold spec_l2SayVal.f vT
 by_cases h1 : x.f0 = 1
 ·simp only [h1, if_true] at h ⊢
  exact Ev.bind (sp_dec_ev h.1 h.2) (Ev.now _)
 ·simp only [h1, if_false] at h ⊢
  by_cases h2 : x.f0 = 2
  ·simp only [h2, if_true] at h ⊢
   rw [sp_name h.1 h.2]
   exact Ev.now _
  ·simp only [h2, if_false] at h ⊢
   have c1 : (nm x.f1).size + 1 ≤ 9223372036854775807 := by rw [nm_size]; omega
   have c2 : ∀ y : UInt8, (nm x.f1 ++ (⟨#[y]⟩ : ByteArray)).size + (nm x.f2).size ≤ 9223372036854775807 := fun y => by simp only [ByteArray.size_append, nm_size, sz1]; omega
   simp only [sp_name h.2.1.1 h.2.1.2, sp_name h.2.2.1 h.2.2.2, Option.bind_some, c1, c2, if_true]
   by_cases h3 : x.f0 = 3
   ·simp only [h3, if_true]; exact Ev.now _
   ·simp only [h3, if_false]; exact Ev.now _
theorem im_vT {x : S69} (h : valP x) : impl_Val_text.f x.f0 x.f1 x.f2 = some (vT x) := by
 unfold valP at h
 unfold impl_Val_text.f vT
 by_cases h1 : x.f0 = 1
 ·simp only [h1, if_true] at h ⊢
  rw [im_dec h.1 h.2]
  rfl
 ·simp only [h1, if_false] at h ⊢
  by_cases h2 : x.f0 = 2
  ·simp only [h2, if_true] at h ⊢
   rw [im_name h.1 h.2]
   rfl
  ·simp only [h2, if_false] at h ⊢
   have c1 : (nm x.f1).size + 1 ≤ 9223372036854775807 := by rw [nm_size]; omega
   have c2 : ∀ y : UInt8, (nm x.f1 ++ (⟨#[y]⟩ : ByteArray)).size + (nm x.f2).size ≤ 9223372036854775807 := fun y => by simp only [ByteArray.size_append, nm_size, sz1]; omega
   simp only [im_name h.2.1.1 h.2.1.2, im_name h.2.2.1 h.2.2.2, Option.bind_some, c1, c2, if_true]
   by_cases h3 : x.f0 = 3
   ·simp only [h3, if_true]
   ·simp only [h3, if_false]
theorem rdT_drop {l : List S71} {n : Nat} (h : n < l.length) : l.drop n = rd_T71 l (n : Int) :: l.drop (n + 1) := rdS_drop h
theorem sp_say_ev {n : Int} (hn : n ≤ 4) : ∀ l : List S71, good n l → nTs l ≤ 1048576 → Ev (fun k => spec_l2Say.f k l) (sayTs l) := by
 refine tree_ind fun l ih hg hl => ?_
 have hlen := nTs_length l
 have loop : ∀ (d i : Nat) (out : ByteArray), i + d = l.length → out.size + 6 * nTs (l.drop i) ≤ 100000000 → Ev (fun k => spec_l2Say.l0 k l out (i : Int)) (out ++ sayTs (l.drop i)) := by
  intro d
  induction d with
  | zero =>
   intro i out hi _
   refine Ev.succ_ (Ev.all_ fun k => ?_)
   have h1 : ¬ ((i : Int) < (l.length : Int)) := by omega
   simp only [spec_l2Say.l0, h1, if_false]
   rw [List.drop_of_length_le (by omega), sayTs]
   congr 1
   exact (ByteArray.append_empty).symm
  | succ d ih2 =>
   intro i out hi ho
   refine Ev.succ_ ?_
   have h1 : (i : Int) < (l.length : Int) := by omega
   have h2 : (0 : Int) ≤ (i : Int) := by omega
   have h4 : wrap64 ((i : Int) + 1) = ((i + 1 : Nat) : Int) := by rw [wr (by omega) (by omega)]; omega
   have hm := rdS_mem (l := l) (n := i) (by omega)
   have hs := nTs_mem hm
   obtain ⟨i4, i5⟩ := ih _ hm
   obtain ⟨⟨g1, g2, g3⟩, g4, g5⟩ := good_mem hg hm
   have hk := good_kind hg hm
   rw [rdS_drop (l := l) (n := i) (by omega), nTs_cons] at ho
   rw [rdS_drop (l := l) (n := i) (by omega), sayTs, sayT_eq]
   simp only [spec_l2Say.l0, h1, h2, h4, if_true]
   generalize rd_T71 l (i : Int) = s at *
   have hv := var_lt g1
   have nme := sp_name hv.1 (by omega : s.f1 ≤ 3)
   rcases hk with k1 | k3 | k2
   ·have vs := vT_size s.f2
    have c1 : out.size + (nm s.f1).size ≤ 9223372036854775807 := by rw [nm_size]; omega
    have c2 : (out ++ nm s.f1).size + 1 ≤ 9223372036854775807 := by simp only [ByteArray.size_append, nm_size]; omega
    have c3 : ((out ++ nm s.f1) ++ (⟨#[58]⟩ : ByteArray)).size + (vT s.f2).size ≤ 9223372036854775807 := by simp only [ByteArray.size_append, nm_size, sz1]; omega
    have c4 : (((out ++ nm s.f1) ++ (⟨#[58]⟩ : ByteArray)) ++ vT s.f2).size + 1 ≤ 9223372036854775807 := by simp only [ByteArray.size_append, nm_size, sz1]; omega
    simp only [k1, if_true, nme, Option.bind_some, c1, c2]
    refine Ev.bind (sp_vT (val_p hn (g2 k1))) ?_
    simp only [c3, c4, if_true]
    refine Ev.eq_ (ih2 (i + 1) _ (by omega) (by simp only [ByteArray.size_append, nm_size, sz1]; omega)) ?_
    simp only [ByteArray.append_assoc]
   ·have c1 : out.size + (nm s.f1).size ≤ 9223372036854775807 := by rw [nm_size]; omega
    have c2 : (out ++ nm s.f1).size + 1 ≤ 9223372036854775807 := by simp only [ByteArray.size_append, nm_size]; omega
    have c3 : ((out ++ nm s.f1) ++ (⟨#[62]⟩ : ByteArray)).size + (dg s.f3).size ≤ 9223372036854775807 := by simp only [ByteArray.size_append, nm_size, dg_size, sz1]; omega
    have c4 : (((out ++ nm s.f1) ++ (⟨#[62]⟩ : ByteArray)) ++ dg s.f3).size + 1 ≤ 9223372036854775807 := by simp only [ByteArray.size_append, nm_size, dg_size, sz1]; omega
    have hh : 0 ≤ s.f3 ∧ s.f3 ≤ 2 := by have := g3 k3; simpa [hostB] using this
    have n1 : ¬ s.f0 = 1 := by omega
    have n2 : ¬ s.f0 = 2 := by omega
    have n3 : ¬ (3 : Int) = 1 := by omega
    have n4 : ¬ (3 : Int) = 2 := by omega
    simp only [k3, n3, n4, if_true, if_false, nme, Option.bind_some, c1, c2]
    refine Ev.bind (sp_dec_ev hh.1 (by omega)) ?_
    simp only [c3, c4, if_true]
    refine Ev.eq_ (ih2 (i + 1) _ (by omega) (by simp only [ByteArray.size_append, nm_size, dg_size, sz1]; omega)) ?_
    simp only [ByteArray.append_assoc]
   ·have s4 := sayTs_size s.f4
    have s5 := sayTs_size s.f5
    have c1 : out.size + (nm s.f1).size ≤ 9223372036854775807 := by rw [nm_size]; omega
    have c2 : (out ++ nm s.f1).size + 2 ≤ 9223372036854775807 := by simp only [ByteArray.size_append, nm_size]; omega
    have c3 : ((out ++ nm s.f1) ++ (⟨#[63, 40]⟩ : ByteArray)).size + (sayTs s.f4).size ≤ 9223372036854775807 := by simp only [ByteArray.size_append, nm_size, sz2]; omega
    have c4 : (((out ++ nm s.f1) ++ (⟨#[63, 40]⟩ : ByteArray)) ++ sayTs s.f4).size + 2 ≤ 9223372036854775807 := by simp only [ByteArray.size_append, nm_size, sz2]; omega
    have c5 : ((((out ++ nm s.f1) ++ (⟨#[63, 40]⟩ : ByteArray)) ++ sayTs s.f4) ++ (⟨#[41, 40]⟩ : ByteArray)).size + (sayTs s.f5).size ≤ 9223372036854775807 := by simp only [ByteArray.size_append, nm_size, sz2]; omega
    have c6 : (((((out ++ nm s.f1) ++ (⟨#[63, 40]⟩ : ByteArray)) ++ sayTs s.f4) ++ (⟨#[41, 40]⟩ : ByteArray)) ++ sayTs s.f5).size + 1 ≤ 9223372036854775807 := by simp only [ByteArray.size_append, nm_size, sz2]; omega
    have n3 : ¬ (2 : Int) = 1 := by omega
    have n4 : ¬ (2 : Int) = 3 := by omega
    simp only [k2, n3, n4, if_true, if_false, nme, Option.bind_some, c1, c2]
    refine Ev.bind (i4 g4 (by omega)) ?_
    simp only [c3, c4, if_true]
    refine Ev.bind (i5 g5 (by omega)) ?_
    simp only [c5, c6, if_true]
    refine Ev.eq_ (ih2 (i + 1) _ (by omega) (by simp only [ByteArray.size_append, nm_size, sz1, sz2]; omega)) ?_
    simp only [ByteArray.append_assoc]
 refine Ev.succ_ ?_
 simp only [spec_l2Say.f]
 refine Ev.eq_ (loop l.length 0 ⟨#[]⟩ (by omega) (by rw [List.drop_zero]; have : (⟨#[]⟩ : ByteArray).size = 0 := rfl; omega)) ?_
 rw [List.drop_zero]
 exact ByteArray.empty_append
theorem im_say_ev {n : Int} (hn : n ≤ 4) : ∀ l : List S71, good n l → nTs l ≤ 1048576 → Ev (fun k => impl_stepsText.f k l) (sayTs l) := by
 refine tree_ind fun l ih hg hl => ?_
 have hlen := nTs_length l
 have loop : ∀ (d i : Nat) (out : ByteArray), i + d = l.length → out.size + 6 * nTs (l.drop i) ≤ 100000000 → Ev (fun k => impl_stepsText.l0 k out l (l.length : Int) (i : Int)) (out ++ sayTs (l.drop i)) := by
  intro d
  induction d with
  | zero =>
   intro i out hi _
   refine Ev.succ_ (Ev.all_ fun k => ?_)
   have h1 : ¬ ((i : Int) < (l.length : Int)) := by omega
   simp only [impl_stepsText.l0, h1, if_false]
   rw [List.drop_of_length_le (by omega), sayTs]
   congr 1
   exact (ByteArray.append_empty).symm
  | succ d ih2 =>
   intro i out hi ho
   refine Ev.succ_ ?_
   have h1 : (i : Int) < (l.length : Int) := by omega
   have h2 : (0 : Int) ≤ (i : Int) := by omega
   have h4 : wrap64 ((i : Int) + 1) = ((i + 1 : Nat) : Int) := by rw [wr (by omega) (by omega)]; omega
   have hm := rdS_mem (l := l) (n := i) (by omega)
   have hs := nTs_mem hm
   obtain ⟨i4, i5⟩ := ih _ hm
   obtain ⟨⟨g1, g2, g3⟩, g4, g5⟩ := good_mem hg hm
   have hk := good_kind hg hm
   rw [rdS_drop (l := l) (n := i) (by omega), nTs_cons] at ho
   rw [rdS_drop (l := l) (n := i) (by omega), sayTs, sayT_eq]
   simp only [impl_stepsText.l0, h1, h2, h4, if_true]
   generalize rd_T71 l (i : Int) = s at *
   have hv := var_lt g1
   have nme := im_name hv.1 (by omega : s.f1 ≤ 3)
   have c1 : out.size + (nm s.f1).size ≤ 9223372036854775807 := by rw [nm_size]; omega
   rcases hk with k1 | k3 | k2
   ·have vs := vT_size s.f2
    have c2 : 1 + (vT s.f2).size ≤ 9223372036854775807 := by omega
    have c3 : ((⟨#[58]⟩ : ByteArray) ++ vT s.f2).size + 1 ≤ 9223372036854775807 := by simp only [ByteArray.size_append, sz1]; omega
    have c4 : (out ++ nm s.f1).size + (((⟨#[58]⟩ : ByteArray) ++ vT s.f2) ++ (⟨#[59]⟩ : ByteArray)).size ≤ 9223372036854775807 := by simp only [ByteArray.size_append, nm_size, sz1]; omega
    simp only [k1, if_true, nme, Option.bind_some, c1]
    have iv := im_vT (val_p hn (g2 k1))
    rw [iv]
    simp only [Option.bind_some, c2, c3, c4, if_true]
    refine Ev.eq_ (ih2 (i + 1) _ (by omega) (by simp only [ByteArray.size_append, nm_size, sz1]; omega)) ?_
    simp only [ByteArray.append_assoc]
   ·have hh : 0 ≤ s.f3 ∧ s.f3 ≤ 2 := by have := g3 k3; simpa [hostB] using this
    have c2 : 1 + (dg s.f3).size ≤ 9223372036854775807 := by rw [dg_size]; omega
    have c3 : ((⟨#[62]⟩ : ByteArray) ++ dg s.f3).size + 1 ≤ 9223372036854775807 := by simp only [ByteArray.size_append, dg_size, sz1]; omega
    have c4 : (out ++ nm s.f1).size + (((⟨#[62]⟩ : ByteArray) ++ dg s.f3) ++ (⟨#[59]⟩ : ByteArray)).size ≤ 9223372036854775807 := by simp only [ByteArray.size_append, nm_size, dg_size, sz1]; omega
    have n3 : ¬ (3 : Int) = 1 := by omega
    have n4 : ¬ (3 : Int) = 2 := by omega
    simp only [k3, n3, n4, if_true, if_false, nme, Option.bind_some, c1]
    rw [im_dec hh.1 (by omega)]
    simp only [Option.bind_some, c2, c3, c4, if_true]
    refine Ev.eq_ (ih2 (i + 1) _ (by omega) (by simp only [ByteArray.size_append, nm_size, dg_size, sz1]; omega)) ?_
    simp only [ByteArray.append_assoc]
   ·have s4 := sayTs_size s.f4
    have s5 := sayTs_size s.f5
    have c2 : 2 + (sayTs s.f4).size ≤ 9223372036854775807 := by omega
    have c3 : ((⟨#[63, 40]⟩ : ByteArray) ++ sayTs s.f4).size + 2 ≤ 9223372036854775807 := by simp only [ByteArray.size_append, sz2]; omega
    have c4 : (((⟨#[63, 40]⟩ : ByteArray) ++ sayTs s.f4) ++ (⟨#[41, 40]⟩ : ByteArray)).size + (sayTs s.f5).size ≤ 9223372036854775807 := by simp only [ByteArray.size_append, sz2]; omega
    have c5 : ((((⟨#[63, 40]⟩ : ByteArray) ++ sayTs s.f4) ++ (⟨#[41, 40]⟩ : ByteArray)) ++ sayTs s.f5).size + 1 ≤ 9223372036854775807 := by simp only [ByteArray.size_append, sz2]; omega
    have c6 : (out ++ nm s.f1).size + (((((⟨#[63, 40]⟩ : ByteArray) ++ sayTs s.f4) ++ (⟨#[41, 40]⟩ : ByteArray)) ++ sayTs s.f5) ++ (⟨#[41]⟩ : ByteArray)).size ≤ 9223372036854775807 := by simp only [ByteArray.size_append, nm_size, sz1, sz2]; omega
    have n3 : ¬ (2 : Int) = 1 := by omega
    simp only [k2, n3, if_true, if_false, nme, Option.bind_some, c1]
    refine Ev.bind (i4 g4 (by omega)) ?_
    simp only [c2, c3, if_true]
    refine Ev.bind (i5 g5 (by omega)) ?_
    simp only [c4, c5, c6, if_true]
    refine Ev.eq_ (ih2 (i + 1) _ (by omega) (by simp only [ByteArray.size_append, nm_size, sz1, sz2]; omega)) ?_
    simp only [ByteArray.append_assoc]
 refine Ev.succ_ ?_
 simp only [impl_stepsText.f]
 refine Ev.eq_ (loop l.length 0 ⟨#[]⟩ (by omega) (by rw [List.drop_zero]; have : (⟨#[]⟩ : ByteArray).size = 0 := rfl; omega)) ?_
 rw [List.drop_zero]
 exact ByteArray.empty_append
/-- The text of labels, each with a room behind it. -/
def labTs : List S43 → ByteArray
 | [] => ⟨#[]⟩
 | a :: r => tx a.f0 a.f1 ++ ((⟨#[32]⟩ : ByteArray) ++ labTs r)
/-- A program's text. -/
def textP (L : List S43) (S : List S71) : ByteArray := if progB L S = true then labTs L ++ ((⟨#[47, 32]⟩ : ByteArray) ++ sayTs S) else ⟨#[]⟩
theorem progB_text {L : List S43} {S : List S71} (h : progB L S = true) : L.length ≤ 4 ∧ L.all (fun x => okL x.f0 x.f1) = true ∧ good L.length S ∧ nTs S ≤ 8 := by
 unfold progB at h
 simp only [Bool.and_eq_true, decide_eq_true_eq] at h
 exact ⟨h.1, h.2.1, ⟨3, h.2.2.1⟩, h.2.2.2⟩
theorem lab_all {L : List S43} (hL : L.all (fun x => okL x.f0 x.f1) = true) {i : Nat} (h : i < L.length) : isS (rd_T43 L (i : Int)).f0 = true ∧ isS (rd_T43 L (i : Int)).f1 = true := by
 have hm : rd_T43 L (i : Int) ∈ L := by
  simp only [rd_T43, Int.toNat_natCast, List.getD_eq_getElem?_getD, List.getElem?_eq_getElem h, Option.getD_some]
  exact List.getElem_mem h
 have := List.all_eq_true.1 hL _ hm
 simpa [okL] using this
theorem rdLb_drop {l : List S43} {n : Nat} (h : n < l.length) : l.drop n = rd_T43 l (n : Int) :: l.drop (n + 1) := by
 simp only [rd_T43, Int.toNat_natCast]
 exact drop_cons l n _ h
theorem sp_textP (L : List S43) (S : List S71) (h1 : L.length ≤ 1048576) (h2 : nTs S ≤ 1048576) : Ev (fun k => spec_ProgText.f k L S) (textP L S) := by
 unfold spec_ProgText.f
 refine Ev.bind (sp_progOk L S h1 h2) ?_
 cases hk : progB L S with
 | false =>
  simp only [Bool.false_eq_true, if_false, textP, hk]
  exact Ev.now _
 | true =>
  simp only [if_true, textP, hk]
  obtain ⟨l4, hL, hg, n8⟩ := progB_text hk
  have say := sp_say_ev (by omega : (L.length : Int) ≤ 4) S hg (by omega)
  have ss := sayTs_size S
  have loop : ∀ (d i : Nat) (out : ByteArray), i + d = L.length → out.size + 8 * d ≤ 1000 → Ev (fun k => spec_ProgText.l0 k out (i : Int) L S) (out ++ (labTs (L.drop i) ++ ((⟨#[47, 32]⟩ : ByteArray) ++ sayTs S))) := by
   intro d
   induction d with
   | zero =>
    intro i out hi ho
    refine Ev.succ_ ?_
    have c1 : ¬ ((i : Int) < (L.length : Int)) := by omega
    have c2 : out.size + 2 ≤ 9223372036854775807 := by omega
    have c3 : (out ++ (⟨#[47, 32]⟩ : ByteArray)).size + (sayTs S).size ≤ 9223372036854775807 := by simp only [ByteArray.size_append, sz2]; omega
    simp only [spec_ProgText.l0, c1, c2, if_true, if_false]
    refine Ev.bind say ?_
    simp only [c3, if_true]
    rw [List.drop_of_length_le (by omega), labTs, ByteArray.append_assoc]
    refine Ev.eq_ (Ev.now _) ?_
    congr 1
   | succ d ih2 =>
    intro i out hi ho
    refine Ev.succ_ ?_
    have c1 : (i : Int) < (L.length : Int) := by omega
    have c2 : (0 : Int) ≤ (i : Int) := by omega
    have c4 : wrap64 ((i : Int) + 1) = ((i + 1 : Nat) : Int) := by rw [wr (by omega) (by omega)]; omega
    obtain ⟨o0, o1⟩ := lab_all hL (i := i) (by omega)
    have ts := tx_size o0 o1
    have ev := sp_text_ev (rd_T43 L (i : Int)).f0 (rd_T43 L (i : Int)).f1
    rw [txt_ok o0 o1] at ev
    simp only [spec_ProgText.l0, c1, c2, c4, if_true]
    refine Ev.bind ev ?_
    have c5 : out.size + (tx (rd_T43 L (i : Int)).f0 (rd_T43 L (i : Int)).f1).size ≤ 9223372036854775807 := by omega
    have c6 : (out ++ tx (rd_T43 L (i : Int)).f0 (rd_T43 L (i : Int)).f1).size + 1 ≤ 9223372036854775807 := by rw [ByteArray.size_append]; omega
    simp only [c5, c6, if_true]
    rw [rdLb_drop (l := L) (n := i) (by omega), labTs]
    refine Ev.eq_ (ih2 (i + 1) _ (by omega) (by simp only [ByteArray.size_append, sz1]; omega)) ?_
    simp only [ByteArray.append_assoc]
  refine Ev.eq_ (loop L.length 0 ⟨#[]⟩ (by omega) (by have : (⟨#[]⟩ : ByteArray).size = 0 := rfl; omega)) ?_
  rw [List.drop_zero]
  exact ByteArray.empty_append
theorem im_textP (L : List S43) (S : List S71) (h1 : L.length ≤ 1048576) (h2 : nTs S ≤ 1048576) : Ev (fun k => impl_ProgText.f k L S) (textP L S) := by
 unfold impl_ProgText.f
 refine Ev.bind (im_progOk L S h1 h2) ?_
 cases hk : progB L S with
 | false =>
  simp only [Bool.false_eq_true, if_false, textP, hk]
  exact Ev.now _
 | true =>
  simp only [if_true, textP, hk]
  obtain ⟨l4, hL, hg, n8⟩ := progB_text hk
  have say := im_say_ev (by omega : (L.length : Int) ≤ 4) S hg (by omega)
  have ss := sayTs_size S
  have loop : ∀ (d i : Nat) (out : ByteArray), i + d = L.length → out.size + 8 * d ≤ 1000 → Ev (fun k => impl_ProgText.l0 k out L (i : Int) S) (out ++ (labTs (L.drop i) ++ ((⟨#[47, 32]⟩ : ByteArray) ++ sayTs S))) := by
   intro d
   induction d with
   | zero =>
    intro i out hi ho
    refine Ev.succ_ ?_
    have c1 : ¬ ((i : Int) < (L.length : Int)) := by omega
    have c2 : out.size + 2 ≤ 9223372036854775807 := by omega
    have c3 : (out ++ (⟨#[47, 32]⟩ : ByteArray)).size + (sayTs S).size ≤ 9223372036854775807 := by simp only [ByteArray.size_append, sz2]; omega
    simp only [impl_ProgText.l0, c1, c2, if_true, if_false]
    refine Ev.bind say ?_
    simp only [c3, if_true]
    rw [List.drop_of_length_le (by omega), labTs, ByteArray.append_assoc]
    refine Ev.eq_ (Ev.now _) ?_
    congr 1
   | succ d ih2 =>
    intro i out hi ho
    refine Ev.succ_ ?_
    have c1 : (i : Int) < (L.length : Int) := by omega
    have c2 : (0 : Int) ≤ (i : Int) := by omega
    have c4 : wrap64 ((i : Int) + 1) = ((i + 1 : Nat) : Int) := by rw [wr (by omega) (by omega)]; omega
    obtain ⟨o0, o1⟩ := lab_all hL (i := i) (by omega)
    have ts := tx_size o0 o1
    have ev := im_text_ev (rd_T43 L (i : Int)).f0 (rd_T43 L (i : Int)).f1
    rw [txt_ok o0 o1] at ev
    simp only [impl_ProgText.l0, c1, c2, c4, if_true]
    refine Ev.bind ev ?_
    have c5 : (tx (rd_T43 L (i : Int)).f0 (rd_T43 L (i : Int)).f1).size + 1 ≤ 9223372036854775807 := by omega
    have c6 : out.size + ((tx (rd_T43 L (i : Int)).f0 (rd_T43 L (i : Int)).f1).size + 1) ≤ 140737488355328 := by omega
    simp only [c5, c6, if_true]
    rw [rdLb_drop (l := L) (n := i) (by omega), labTs]
    refine Ev.eq_ (ih2 (i + 1) _ (by omega) (by simp only [ByteArray.size_append, sz1]; omega)) ?_
    simp only [ByteArray.append_assoc]
  refine Ev.eq_ (loop L.length 0 ⟨#[]⟩ (by omega) (by have : (⟨#[]⟩ : ByteArray).size = 0 := rfl; omega)) ?_
  rw [List.drop_zero]
  exact ByteArray.empty_append
end Go.Proofs.YtfcmckomagaiiaaDoor.A
