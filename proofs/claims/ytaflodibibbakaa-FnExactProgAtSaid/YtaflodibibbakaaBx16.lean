/- Go functions as Lean functions, and for each its contract; written by wip/tools/pr.py over the kit's print. -/
import Derived.Test.YtaflodibibbakaaBx0
namespace Go.Proofs.Ytaflodibibbakaa.B
open Go.RowKit Go.Proofs.YtaflodibibbakaaW.PrintWords Go.Proofs.YtaflodibibbakaaW.PrintLast Go.Proofs.YtaflodibibbakaaW.PrintMore
attribute [local go_sem] max2_int min2_int max_two min_two max_three min_three max_four min_four
set_option linter.unusedVariables false
set_option linter.unusedSimpArgs false
set_option maxHeartbeats 8000000
set_option maxRecDepth 100000

/-! ### Trees of steps whose blocks are told one by one -/
mutual
/-- An element's cells, and all blocks that its rows lie in. -/
def Deep.T (w : World) : S50 → List Nat → List Value → Prop
  | ⟨a, b, x, h, t, e⟩, bs, cs => ∃ vt ve it ie bt be, cs = [.int .i64 a, .int .i64 b, .int .i64 x.f0, .int .i64 x.f1, .int .i64 x.f2, .int .i64 h, vt, ve] ∧
      w.ownsRow 0 50 8 vt t.length it ∧ Ts w t bt it ∧ w.ownsRow 0 50 8 ve e.length ie ∧ Ts w e be ie ∧ bs = (vt.ownBlock.toList ++ bt) ++ (ve.ownBlock.toList ++ be)
def Deep.Ts (w : World) : List S50 → List Nat → List Value → Prop
  | [], bs, cs => bs = [] ∧ cs = []
  | x :: r, bs, cs => ∃ c cr b br, cs = c ++ cr ∧ T w x b c ∧ Ts w r br cr ∧ bs = b ++ br
end
/-- A row of such elements. -/
def Deep.TR (w : World) (l : List S50) (bs : List Nat) (v : Value) : Prop := ∃ inner b, w.ownsRow 0 50 8 v l.length inner ∧ Ts w l b inner ∧ bs = v.ownBlock.toList ++ b
theorem Deep.T_eq {w : World} {x : S50} {bs : List Nat} {cs : List Value} : T w x bs cs ↔ ∃ vt ve bt be, cs = [.int .i64 x.f0, .int .i64 x.f1, .int .i64 x.f2.f0, .int .i64 x.f2.f1, .int .i64 x.f2.f2, .int .i64 x.f3, vt, ve] ∧ TR w x.f4 bt vt ∧ TR w x.f5 be ve ∧ bs = bt ++ be := by
 cases x
 constructor
 ·(
 rintro ⟨vt, ve, it, ie, bt, be, rfl, h1, h2, h3, h4, rfl⟩
 exact ⟨vt, ve, _, _, rfl, ⟨it, bt, h1, h2, rfl⟩, ⟨ie, be, h3, h4, rfl⟩, rfl⟩)
 ·(
 rintro ⟨vt, ve, _, _, rfl, ⟨it, bt, h1, h2, rfl⟩, ⟨ie, be, h3, h4, rfl⟩, rfl⟩
 exact ⟨vt, ve, it, ie, bt, be, rfl, h1, h2, h3, h4, rfl⟩)
/-- By what holds of every tree: an induction over steps and rows of them. -/
theorem Deep.ind {P : S50 → Prop} {Q : List S50 → Prop} (hP : ∀ x, Q x.f4 → Q x.f5 → P x) (h0 : Q []) (h1 : ∀ x r, P x → Q r → Q (x :: r)) : ∀ l, Q l := by
 intro l
 exact S50.rec_1 (motive_1 := P) (motive_2 := Q) (fun a b x h t e ht he => hP ⟨a, b, x, h, t, e⟩ ht he) h0 (fun x r hx hr => h1 x r hx hr) l
theorem Deep.own_mem {v : Value} {k : Nat} : k ∈ v.ownBlock.toList ↔ v.ownBlock = some k := by
 cases h : v.ownBlock <;> simp [eq_comm]
theorem Deep.own_all {w : World} {e : TypeId} {v : Value} {n : Nat} {xs : List Value} (h : w.ownsRow 0 e 8 v n xs) : ∀ k ∈ v.ownBlock.toList, ∃ cells, w.heap[k]? = some (.cells cells e (0, 0)) := fun k hk => own_typed h k (own_mem.1 hk)
/-- Of every row: its blocks are blocks of steps; what leaves them as they are leaves the row. -/
theorem Deep.Ts_all (w : World) : ∀ l bs cs, Ts w l bs cs → (∀ k ∈ bs, ∃ cells, w.heap[k]? = some (.cells cells 50 (0, 0))) ∧ (∀ w1 : World, (∀ k ∈ bs, w1.heap[k]? = w.heap[k]?) → Ts w1 l bs cs) ∧ cs.length = l.length * 8 := by
 refine ind (P := fun x => ∀ bs cs, T w x bs cs → (∀ k ∈ bs, ∃ cells, w.heap[k]? = some (.cells cells 50 (0, 0))) ∧ (∀ w1 : World, (∀ k ∈ bs, w1.heap[k]? = w.heap[k]?) → T w1 x bs cs) ∧ cs.length = 8) ?_ ?_ ?_
 ·(
 intro x ht he bs cs h
 obtain ⟨vt, ve, _, _, rfl, ⟨it, bt, o1, t1, rfl⟩, ⟨ie, be, o2, t2, rfl⟩, rfl⟩ := T_eq.1 h
 obtain ⟨a1, a2, _⟩ := ht _ _ t1
 obtain ⟨b1, b2, _⟩ := he _ _ t2
 refine ⟨fun k hk => ?_, fun w1 hw => T_eq.2 ⟨vt, ve, _, _, rfl, ⟨it, bt, own_move o1 (fun k hk => hw k ?_), a2 w1 (fun k hk => hw k ?_), rfl⟩, ⟨ie, be, own_move o2 (fun k hk => hw k ?_), b2 w1 (fun k hk => hw k ?_), rfl⟩, rfl⟩, rfl⟩
 ·(
 simp only [List.mem_append] at hk
 rcases hk with (hk | hk) | (hk | hk)
 · exact own_all o1 k hk
 · exact a1 k hk
 · exact own_all o2 k hk
 · exact b1 k hk)
 · have := own_mem.2 hk; simp only [List.mem_append]; exact .inl (.inl this)
 · simp only [List.mem_append]; exact .inl (.inr hk)
 · have := own_mem.2 hk; simp only [List.mem_append]; exact .inr (.inl this)
 · simp only [List.mem_append]; exact .inr (.inr hk))
 ·(
 rintro bs cs ⟨rfl, rfl⟩
 exact ⟨fun k hk => (List.not_mem_nil hk).elim, fun _ _ => ⟨rfl, rfl⟩, rfl⟩)
 ·(
 rintro x r hx hr bs cs ⟨c, cr, b, br, rfl, h1, h2, rfl⟩
 obtain ⟨a1, a2, a3⟩ := hx _ _ h1
 obtain ⟨b1, b2, b3⟩ := hr _ _ h2
 refine ⟨fun k hk => (List.mem_append.1 hk).elim (a1 k) (b1 k), fun w1 hw => ⟨c, cr, b, br, rfl, a2 w1 (fun k hk => hw k (List.mem_append_left _ hk)), b2 w1 (fun k hk => hw k (List.mem_append_right _ hk)), rfl⟩, ?_⟩
 rw [List.length_append, a3, b3, List.length_cons]
 omega)
theorem Deep.T_all {w : World} {x : S50} {bs : List Nat} {cs : List Value} (h : T w x bs cs) : (∀ k ∈ bs, ∃ cells, w.heap[k]? = some (.cells cells 50 (0, 0))) ∧ (∀ w1 : World, (∀ k ∈ bs, w1.heap[k]? = w.heap[k]?) → T w1 x bs cs) ∧ cs.length = 8 := by
 obtain ⟨a, b, c⟩ := Ts_all w [x] bs cs ⟨cs, [], bs, [], by simp, h, ⟨rfl, rfl⟩, by simp⟩
 refine ⟨a, fun w1 hw => ?_, by simpa using c⟩
 obtain ⟨c', cr, b', br, rfl, h1, ⟨rfl, rfl⟩, rfl⟩ := b w1 hw
 simpa using h1
theorem Deep.TR_typed {w : World} {l : List S50} {bs : List Nat} {v : Value} (h : TR w l bs v) : ∀ k ∈ bs, ∃ cells, w.heap[k]? = some (.cells cells 50 (0, 0)) := by
 obtain ⟨i, b, o, t, rfl⟩ := h
 exact fun k hk => (List.mem_append.1 hk).elim (own_all o k) ((Ts_all w l _ _ t).1 k)
theorem Deep.TR_move {w w1 : World} {l : List S50} {bs : List Nat} {v : Value} (h : TR w l bs v) (hw : ∀ k ∈ bs, w1.heap[k]? = w.heap[k]?) : TR w1 l bs v := by
 obtain ⟨i, b, o, t, rfl⟩ := h
 exact ⟨i, b, own_move o (fun k hk => hw k (List.mem_append_left _ (own_mem.2 hk))), (Ts_all w l _ _ t).2.1 w1 (fun k hk => hw k (List.mem_append_right _ hk)), rfl⟩
/-- A row's value is one cell. -/
theorem Deep.own_one {w : World} {e : TypeId} {v : Value} {n : Nat} {xs : List Value} (h : w.ownsRow 0 e 8 v n xs) : v.oneCell' = true := by
 rcases h.2 with ⟨rfl, _⟩ | ⟨g, cap, cur, rfl, _⟩ <;> rfl
/-- An element, with the blocks that it leads to. -/
def Deep.kD : Kd (S50 × List Nat) where
  sz := 8
  E := [50]
  K := fun _ _ cs => cs.length = 8 ∧ ∀ u ∈ cs, u.oneCell' = true
  M := fun w base ok x cs => T w x.1 x.2 cs ∧ ∀ k ∈ x.2, base ≤ k ∧ ok k
  K_len := fun h => h.1
  K_one := fun h => h.2
  K_below := fun _ h => h
  K_of_M := by
    rintro w base ok x cs ⟨h, _⟩
    refine ⟨(T_all h).2.2, ?_⟩
    obtain ⟨vt, ve, _, _, rfl, ⟨it, bt, o1, t1, rfl⟩, ⟨ie, be, o2, t2, rfl⟩, _⟩ := T_eq.1 h
    intro u hu
    simp only [List.mem_cons, List.not_mem_nil, or_false] at hu
    rcases hu with rfl | rfl | rfl | rfl | rfl | rfl | rfl | rfl
    all_goals first | rfl | exact own_one o1 | exact own_one o2
  M_mono := fun hok h => ⟨h.1, fun k hk => ⟨(h.2 k hk).1, hok k (h.2 k hk).2⟩⟩
  M_bound := by
    rintro w base ok x cs ⟨h, hb⟩
    refine ⟨h, fun k hk => ⟨(hb k hk).1, (hb k hk).2, (hb k hk).1, ?_, 50, List.mem_singleton.2 rfl, (T_all h).1 k hk⟩⟩
    obtain ⟨cells, hc⟩ := (T_all h).1 k hk
    exact (List.getElem?_eq_some_iff.1 (by simpa using hc)).1
  M_move := fun hm h => ⟨(T_all h.1).2.1 _ (fun k hk => hm k (h.2 k hk).2), h.2⟩
  M_lower := fun hb h => ⟨h.1, fun k hk => ⟨Nat.le_trans hb (h.2 k hk).1, (h.2 k hk).2⟩⟩
/-- All blocks of a row. -/
def Deep.bl (v : Value) (z : List (S50 × List Nat)) : List Nat := v.ownBlock.toList ++ z.flatMap Prod.snd
theorem Deep.bl_of {w : World} {base : Nat} {ok : Nat → Prop} {v : Value} {z : List (S50 × List Nat)} (h : kD.R 50 w base ok v z) : ∀ k ∈ bl v z, base ≤ k ∧ k < w.heap.size ∧ ok k := by
 intro k hk
 rcases List.mem_append.1 hk with hk | hk
 ·(
 have := own_mem.1 hk
 exact ⟨Kd.R_base h k this, Kd.R_lt h k this, h.1 k this⟩)
 ·(
 obtain ⟨p, hp, hk⟩ := List.mem_flatMap.1 hk
 obtain ⟨_, inner, _, hr⟩ := h
 obtain ⟨j, hj, rfl⟩ := List.getElem_of_mem hp
 have := kD.M_bound (hr.2 j _ (List.getElem?_eq_getElem hj))
 obtain ⟨_, b, _, _⟩ := this.2 k hk
 exact ⟨(this.2 k hk).1, by obtain ⟨_, ⟨_, _, h3, _⟩⟩ := this.2 k hk; exact h3, b.1⟩)
theorem Deep.own_not {w : World} {base : Nat} {ok : Nat → Prop} {v : Value} {z : List (S50 × List Nat)} (h : kD.R 50 w base ok v z) : ∀ k ∈ v.ownBlock.toList, k ∉ z.flatMap Prod.snd := by
 intro k hk hm
 obtain ⟨p, hp, hk'⟩ := List.mem_flatMap.1 hm
 obtain ⟨_, inner, _, hr⟩ := h
 obtain ⟨j, hj, rfl⟩ := List.getElem_of_mem hp
 exact ((hr.2 j _ (List.getElem?_eq_getElem hj)).2 k hk').2.2 (own_mem.1 hk).symm
theorem Deep.bl_nodup {w : World} {base : Nat} {ok : Nat → Prop} {v : Value} {z : List (S50 × List Nat)} (h : kD.R 50 w base ok v z) (hn : (z.flatMap Prod.snd).Nodup) : (bl v z).Nodup := by
 unfold bl
 refine List.nodup_append.2 ⟨?_, hn, fun a ha b hb => fun e => own_not h a ha (e ▸ hb)⟩
 cases v.ownBlock <;> simp
/-- Elements, one by one, as a row's cells. -/
theorem Deep.Ts_of_reps {w : World} : ∀ (z : List (S50 × List Nat)) (inner : List Value), Reps (fun (p : S50 × List Nat) c => T w p.1 p.2 c) 8 z inner → Ts w (z.map Prod.fst) (z.flatMap Prod.snd) inner
  | [], inner, h => ⟨rfl, List.length_eq_zero_iff.1 (by simpa using h.1)⟩
  | p :: r, inner, h => by
    have hl : inner.length = (r.length + 1) * 8 := by simpa using h.1
    refine ⟨inner.take 8, inner.drop 8, p.2, r.flatMap Prod.snd, (List.take_append_drop 8 inner).symm, by simpa using h.2 0 p rfl, Ts_of_reps r _ ⟨by rw [List.length_drop]; omega, fun j q hq => ?_⟩, rfl⟩
    have := h.2 (j + 1) q (by simpa using hq)
    rw [List.drop_drop, show 8 + j * 8 = (j + 1) * 8 by omega]
    exact this
theorem Deep.reps_of_Ts {w : World} : ∀ (l : List S50) (bs : List Nat) (inner : List Value), Ts w l bs inner → ∃ z : List (S50 × List Nat), z.map Prod.fst = l ∧ z.flatMap Prod.snd = bs ∧ Reps (fun (p : S50 × List Nat) c => T w p.1 p.2 c) 8 z inner
  | [], bs, inner, ⟨h1, h2⟩ => ⟨[], rfl, h1.symm, by subst h2; exact Reps.none _ _⟩
  | x :: r, bs, inner, ⟨c, cr, b, br, h1, h2, h3, h4⟩ => by
    obtain ⟨z, e1, e2, hz⟩ := reps_of_Ts r br cr h3
    have hc := (T_all h2).2.2
    subst h1 h4
    refine ⟨(x, b) :: z, by rw [List.map_cons, e1], by rw [List.flatMap_cons, e2], by simp only [List.length_append, List.length_cons, hz.1, hc]; omega, fun j q hq => ?_⟩
    cases j with
    | zero =>
      have : (x, b) = q := by simpa using hq
      subst this
      rw [Nat.zero_mul, List.drop_zero, ← hc, List.take_left]
      exact h2
    | succ j =>
      have := hz.2 j q (by simpa using hq)
      rw [show (j + 1) * 8 = c.length + j * 8 by omega, ← List.drop_drop, List.drop_left]
      exact this
theorem Deep.own_low {w : World} {base base' : Nat} {e : TypeId} {v : Value} {n : Nat} {xs : List Value} (h : w.ownsRow base e 8 v n xs) (hb : ∀ k, v.ownBlock = some k → base' ≤ k) : w.ownsRow base' e 8 v n xs := by
 obtain ⟨h1, h2⟩ := h
 refine ⟨h1, h2.imp_right ?_⟩
 rintro ⟨g, cap, cur, rfl, _, r⟩
 exact ⟨g, cap, cur, rfl, hb g rfl, r⟩
/-- What is told of a row by R, as a tree. -/
theorem Deep.TR_of {w : World} {base : Nat} {ok : Nat → Prop} {v : Value} {z : List (S50 × List Nat)} (h : kD.R 50 w base ok v z) : TR w (z.map Prod.fst) (bl v z) v := by
 obtain ⟨_, inner, ho, hr⟩ := h
 refine ⟨inner, _, ?_, Ts_of_reps z inner (hr.imp_ (fun p c hp => hp.1)), rfl⟩
 rw [List.length_map]
 exact own_low ho (fun _ _ => Nat.zero_le _)
theorem Deep.of_TR {w : World} {base : Nat} {ok : Nat → Prop} {v : Value} {l : List S50} {bs : List Nat} (h : TR w l bs v) (hn : bs.Nodup) (hb : ∀ k ∈ bs, base ≤ k ∧ ok k) : ∃ z : List (S50 × List Nat), z.map Prod.fst = l ∧ bl v z = bs ∧ kD.R 50 w base ok v z := by
 obtain ⟨inner, b, ho, ht, rfl⟩ := h
 obtain ⟨z, rfl, rfl, hz⟩ := reps_of_Ts l b inner ht
 refine ⟨z, rfl, rfl, fun k hk => (hb k (List.mem_append_left _ (own_mem.2 hk))).2, inner, ?_, hz.1, fun j p hj => ⟨hz.2 j p hj, fun k hk => ?_⟩⟩
 ·(
 rw [List.length_map] at ho
 exact own_low ho (fun k hk => (hb k (List.mem_append_left _ (own_mem.2 hk))).1))
 ·(
 have hm : k ∈ z.flatMap Prod.snd := List.mem_flatMap.2 ⟨p, List.mem_of_getElem? hj, hk⟩
 have h1 := hb k (List.mem_append_right _ hm)
 refine ⟨h1.1, h1.2, fun e => ?_⟩
 exact (List.nodup_append.1 hn).2.2 k (own_mem.2 e.symm) k hm rfl)
/-- A tree is a row as the print tells of it. -/
theorem Deep.R_of_TR {w : World} {base : Nat} : ∀ l bs v (ok : Nat → Prop), TR w l bs v → bs.Nodup → (∀ k ∈ bs, base ≤ k ∧ ok k) → k50.R 50 w base ok v l := by
 refine ind (P := fun x => ∀ bs cs (ok : Nat → Prop), T w x bs cs → bs.Nodup → (∀ k ∈ bs, base ≤ k ∧ ok k) → k50.M w base ok x cs) (Q := fun l => (∀ bs cs (ok : Nat → Prop), Ts w l bs cs → bs.Nodup → (∀ k ∈ bs, base ≤ k ∧ ok k) → Reps (k50.M w base ok) 8 l cs) ∧ ∀ bs v (ok : Nat → Prop), TR w l bs v → bs.Nodup → (∀ k ∈ bs, base ≤ k ∧ ok k) → k50.R 50 w base ok v l) ?_ ?_ ?_ |> fun h l => (h l).2
 ·(
 intro x ht he bs cs ok h hn hb
 obtain ⟨vt, ve, bt, be, rfl, h1, h2, rfl⟩ := T_eq.1 h
 have hn' := List.nodup_append.1 hn
 exact k50_mkM w base ok x (ht.2 bt vt ok h1 hn'.1 (fun k hk => hb k (List.mem_append_left _ hk))) (he.2 be ve ok h2 hn'.2.1 (fun k hk => hb k (List.mem_append_right _ hk))))
 · have h0 : ∀ bs cs (ok : Nat → Prop), Ts w [] bs cs → bs.Nodup → (∀ k ∈ bs, base ≤ k ∧ ok k) → Reps (k50.M w base ok) 8 [] cs := by
     rintro bs cs ok ⟨rfl, rfl⟩ _ _
     exact Reps.none _ _
   refine ⟨h0, ?_⟩
   rintro bs v ok ⟨inner, b, ho, ht, rfl⟩ hn hb
   exact ⟨fun k hk => (hb k (List.mem_append_left _ (own_mem.2 hk))).2, inner, own_low ho (fun k hk => (hb k (List.mem_append_left _ (own_mem.2 hk))).1), h0 b inner _ ht (List.nodup_append.1 hn).2.1 (fun k hk => hb k (List.mem_append_right _ hk)) |>.imp_ (fun p c hp => hp) |> fun h => ⟨h.1, fun j p hj => by simp at hj⟩⟩
 ·(
 intro x r hx hr
 have h0 : ∀ bs cs (ok : Nat → Prop), Ts w (x :: r) bs cs → bs.Nodup → (∀ k ∈ bs, base ≤ k ∧ ok k) → Reps (k50.M w base ok) 8 (x :: r) cs := by
   rintro bs cs ok ⟨c, cr, b, br, rfl, h1, h2, rfl⟩ hn hb
   have hc := (T_all h1).2.2
   have hn' := List.nodup_append.1 hn
   have hM := hx b c ok h1 hn'.1 (fun k hk => hb k (List.mem_append_left _ hk))
   have hR := hr.1 br cr ok h2 hn'.2.1 (fun k hk => hb k (List.mem_append_right _ hk))
   refine ⟨by simp only [List.length_append, List.length_cons, hR.1, hc]; omega, fun j q hq => ?_⟩
   cases j with
   | zero =>
     have : x = q := by simpa using hq
     subst this
     rw [Nat.zero_mul, List.drop_zero, ← hc, List.take_left]
     exact hM
   | succ j =>
     have := hR.2 j q (by simpa using hq)
     rw [show (j + 1) * 8 = c.length + j * 8 by omega, ← List.drop_drop, List.drop_left]
     exact this
 refine ⟨h0, ?_⟩
 rintro bs v ok ⟨inner, b, ho, ht, rfl⟩ hn hb
 have hn' := List.nodup_append.1 hn
 refine ⟨fun k hk => (hb k (List.mem_append_left _ (own_mem.2 hk))).2, inner, own_low ho (fun k hk => (hb k (List.mem_append_left _ (own_mem.2 hk))).1), h0 b inner _ ht hn'.2.1 (fun k hk => ?_)⟩
 have h1 := hb k (List.mem_append_right _ hk)
 exact ⟨h1.1, h1.2, fun e => hn'.2.2 k (own_mem.2 e.symm) k hk rfl⟩)
theorem Deep.R_of {w : World} {base : Nat} {ok : Nat → Prop} {v : Value} {z : List (S50 × List Nat)} (h : kD.R 50 w base ok v z) (hn : (z.flatMap Prod.snd).Nodup) : k50.R 50 w base ok v (z.map Prod.fst) :=
  R_of_TR _ _ _ ok (TR_of h) (bl_nodup h hn) (fun k hk => ⟨(bl_of h k hk).1, (bl_of h k hk).2.2⟩)
theorem Deep.slice_of {w : World} {base : Nat} {ok : Nat → Prop} {v : Value} {z : List (S50 × List Nat)} {l : List S50} (h : kD.R 50 w base ok v z) (e : z.map Prod.fst = l) : ∃ A c, v = .slice A l.length c := by
 obtain ⟨A, c, h⟩ := Kd.R_slice h
 exact ⟨A, c, by rw [h, ← e, List.length_map]⟩
/-- A step out of its numbers and two rows. -/
theorem Deep.mkD {w : World} {base : Nat} {ok : Nat → Prop} (x : S50) {v6 v7 : Value} {z6 z7 : List (S50 × List Nat)} (h6 : kD.R 50 w base ok v6 z6) (h7 : kD.R 50 w base ok v7 z7) (e6 : z6.map Prod.fst = x.f4) (e7 : z7.map Prod.fst = x.f5) :
    kD.M w base ok (x, bl v6 z6 ++ bl v7 z7) [.int .i64 x.f0, .int .i64 x.f1, .int .i64 x.f2.f0, .int .i64 x.f2.f1, .int .i64 x.f2.f2, .int .i64 x.f3, v6, v7] :=
  ⟨T_eq.2 ⟨v6, v7, _, _, rfl, e6 ▸ TR_of h6, e7 ▸ TR_of h7, rfl⟩, fun k hk => (List.mem_append.1 hk).elim (fun hk => ⟨(bl_of h6 k hk).1, (bl_of h6 k hk).2.2⟩) (fun hk => ⟨(bl_of h7 k hk).1, (bl_of h7 k hk).2.2⟩)⟩
theorem Deep.nodup_next {v3 v6 v7 : Value} {z3 z6 z7 : List (S50 × List Nat)} {x : S50} {a b c : Nat} (h3 : (z3.flatMap Prod.snd).Nodup) (h6 : (bl v6 z6).Nodup) (h7 : (bl v7 z7).Nodup) (hab : a ≤ b) (p3 : ∀ k ∈ bl v3 z3, k < a) (p6 : ∀ k ∈ bl v6 z6, a ≤ k ∧ k < b) (p7 : ∀ k ∈ bl v7 z7, b ≤ k ∧ k < c) : ((z3 ++ [(x, bl v6 z6 ++ bl v7 z7)]).flatMap Prod.snd).Nodup := by
 rw [List.flatMap_append, List.flatMap_singleton]
 refine List.nodup_append.2 ⟨h3, List.nodup_append.2 ⟨h6, h7, fun i hi j hj e => ?_⟩, fun i hi j hj e => ?_⟩
 ·(
 have := (p6 i hi).2
 have := (p7 j hj).1
 omega)
 ·(
 have h1 := p3 i (List.mem_append_right _ hi)
 rcases List.mem_append.1 hj with hj | hj
 ·(
 have := (p6 j hj).1
 omega)
 ·(
 have := (p7 j hj).1
 omega))
/-- The first element of a row: its own two rows. -/
theorem Deep.first {w : World} {base : Nat} {ok : Nat → Prop} {ad : Addr} {n cap : Nat} {z : List (S50 × List Nat)} {l : List S50} (h : kD.R 50 w base ok (.slice (some ad) n cap) z) (e : z.map Prod.fst = l) (hn : (z.flatMap Prod.snd).Nodup) (hp : 0 < l.length) :
    ∃ v6 v7 z6 z7, w.cell? ⟨(ad.add ((0 : Int).toNat * 8)).block, (ad.add ((0 : Int).toNat * 8)).off + 6, none⟩ = some v6 ∧ w.cell? ⟨(ad.add ((0 : Int).toNat * 8)).block, (ad.add ((0 : Int).toNat * 8)).off + 7, none⟩ = some v7 ∧
      z6.map Prod.fst = (rd_T50 l 0).f4 ∧ z7.map Prod.fst = (rd_T50 l 0).f5 ∧ (bl v6 z6 ++ bl v7 z7).Nodup ∧ kD.R 50 w base ok v6 z6 ∧ kD.R 50 w base ok v7 z7 := by
 subst e
 cases z with
 | nil => simp at hp
 | cons p r =>
  have hl := (Kd.R_reads' h).1
  obtain ⟨c, _, ⟨hT, hb⟩, hc⟩ := Kd.R_getA h p 0 (by omega) (by rw [hl]; simp only [List.length_cons]; omega)
  have hT' : T w p.1 p.2 c := hT
  have hb' : ∀ k ∈ p.2, base ≤ k ∧ (ok k ∧ some k ≠ (Value.slice (some ad) n cap).ownBlock) := hb
  obtain ⟨vt, ve, bt, be, rfl, h1, h2, h3⟩ := T_eq.1 hT'
  have hn2 : p.2.Nodup := (List.nodup_append.1 (show (p.2 ++ r.flatMap Prod.snd).Nodup from hn)).1
  rw [h3] at hn2 hb'
  have hn' := List.nodup_append.1 hn2
  obtain ⟨z6, e6, b6, r6⟩ := of_TR (base := base) (ok := ok) h1 hn'.1 (fun k hk => ⟨(hb' k (List.mem_append_left _ hk)).1, (hb' k (List.mem_append_left _ hk)).2.1⟩)
  obtain ⟨z7, e7, b7, r7⟩ := of_TR (base := base) (ok := ok) h2 hn'.2.1 (fun k hk => ⟨(hb' k (List.mem_append_right _ hk)).1, (hb' k (List.mem_append_right _ hk)).2.1⟩)
  refine ⟨vt, ve, z6, z7, ?_, ?_, e6, e7, by rw [b6, b7]; exact hn2, r6, r7⟩
  · rw [← add_field _ _ 6 (by omega)]; exact hc 6 _ rfl
  · rw [← add_field _ _ 7 (by omega)]; exact hc 7 _ rfl
/-- Two rows whose blocks are all told apart. -/
theorem Deep.R_two {w : World} {base : Nat} {ok : Nat → Prop} {v6 v7 : Value} {z6 z7 : List (S50 × List Nat)} {l6 l7 : List S50} (h6 : kD.R 50 w base ok v6 z6) (h7 : kD.R 50 w base ok v7 z7) (e6 : z6.map Prod.fst = l6) (e7 : z7.map Prod.fst = l7) (hn : (bl v6 z6 ++ bl v7 z7).Nodup) :
    k50.R 50 w base (fun k_ => some k_ ≠ v7.ownBlock) v6 l6 ∧ k50.R 50 w base (fun k_ => some k_ ≠ v6.ownBlock) v7 l7 := by
 subst e6 e7
 have hn' := List.nodup_append.1 hn
 exact ⟨R_of_TR _ _ _ (fun k_ => some k_ ≠ v7.ownBlock) (TR_of h6) hn'.1 (fun k hk => ⟨(bl_of h6 k hk).1, fun e => hn'.2.2 k hk k (List.mem_append_left _ (own_mem.2 e.symm)) rfl⟩), R_of_TR _ _ _ (fun k_ => some k_ ≠ v6.ownBlock) (TR_of h7) hn'.2.1 (fun k hk => ⟨(bl_of h7 k hk).1, fun e => hn'.2.2 k (List.mem_append_left _ (own_mem.2 e.symm)) k hk rfl⟩)⟩
mutual
def impl_cloneSteps.l0 : Nat → List (S50) → List (S50) → Int → Int → Option ((List (S50)))
 | 0, _, _, _, _ => none
 | k + 1, x3, x6, x7, x8 => if x8 < x7 then (if 0 ≤ x8 then (if x8 < (x6.length : Int) then ((impl_cloneSteps.f k ((rd_T50 x6 x8).f4)).bind fun t320 => ((impl_cloneSteps.f k ((rd_T50 x6 x8).f5)).bind fun t323 => (if x3.length < 1466015503701 then (impl_cloneSteps.l0 k (x3 ++ [(⟨(rd_T50 x6 x8).f0, (rd_T50 x6 x8).f1, (⟨(rd_T50 x6 x8).f2.f0, (rd_T50 x6 x8).f2.f1, (rd_T50 x6 x8).f2.f2⟩ : S48), (rd_T50 x6 x8).f3, t320, t323⟩ : S50)]) x6 x7 (wrap64 (x8 + 1))) else (none)))) else (none)) else (none)) else (some x3)
def impl_cloneSteps.f : Nat → List (S50) → Option ((List (S50)))
 | 0, _ => none
 | k + 1, l0 => impl_cloneSteps.l0 k ([] : List (S50)) l0 (l0.length : Int) 0
end
def impl_cloneSteps.T5 : Bool × List (List Nat × List Nat) := (true, [([], []), ([0], [0]), ([1], [1]), ([], []), ([3], [3]), ([4, 2], [4]), ([0, 1, 2, 3, 4], []), ([6, 2, 5, 0, 1, 2, 3, 4], [2, 6]), ([0, 1, 2, 3, 4, 5, 6, 7], []), ([8, 5, 7, 0, 1, 2, 3, 4, 5, 6, 7], [5, 8])])
def impl_cloneSteps.B5 : List Nat := [0, 1, 3, 0, 8, 31, 31, 127, 255, 511]
theorem impl_cloneSteps.tab5 : rtab .any (opsOf Try.f59 5) = impl_cloneSteps.T5 := by kernel_rfl
theorem impl_cloneSteps.bits5 : waitsOk impl_cloneSteps.T5.2 impl_cloneSteps.B5 = true := by kernel_rfl
theorem impl_cloneSteps.deep (k : Nat) : ∀ (A0 : Option Addr) (c0 : Nat) (l0 : List (S50)) (r : List (S50)) (w : World) (hr0 : Kd.C k50 w A0 l0.length l0) (hc0 : l0.length ≤ c0) (h : impl_cloneSteps.f k l0 = some r),
  Calls Try.prog 59 #[.slice A0 l0.length c0] w fun e w' => ∃ v0_ : Value, e = .returned (v0_) ∧ ∃ z0_ : List (S50 × List Nat), z0_.map Prod.fst = r ∧ (z0_.flatMap Prod.snd).Nodup ∧ Kd.R Deep.kD 50 w' w.heap.size (fun _ => True) v0_ z0_ ∧ Below w.heap.size w w' := by
 induction k using Nat.strongRecOn with
 | _ k ih =>
 intro A0 c0 l0 r w hr0 hc0 h
 cases k with
 | zero => exact absurd h (by simp [impl_cloneSteps.f])
 | succ k =>
 simp only [impl_cloneSteps.f] at h
 have hu50 := Try.underlying50
 have HR0 := AM hr0
 have HC0 := AM hc0
 clear hr0 hc0
 have HB := AM (Below.refl w.heap.size w)
 have H : (impl_cloneSteps.l0 k ([] : List (S50)) l0 (l0.length : Int) 0) = some r := h
 clear h
 have H' := AM H
 clear H
 go_enter Try.func59, Try.ntmps59
 go_wp2
 go_loopg [3, 8] k (fun kq v3 v8 w' => ∃ (x3_1 : List (S50)) (z3_ : List (S50 × List Nat)) (x8_1 : Int), v8 = .int .i64 x8_1 ∧ Aside0 (impl_cloneSteps.l0 kq x3_1 l0 (l0.length : Int) x8_1 = some r) ∧ Aside0 (kq ≤ k) ∧ Aside0 (z3_.map Prod.fst = x3_1 ∧ (z3_.flatMap Prod.snd).Nodup) ∧ Aside0 (Kd.R Deep.kD 50 w' w.heap.size (fun _ => True) v3 z3_) ∧ Aside0 (Below w.heap.size w w'))
 case atStart => exact ⟨(([] : List (S50))), [], (0), (by first | rfl | (simp; done) | (simp [*]; done)), H', ⟨Nat.le_refl _⟩, ⟨⟨rfl, List.nodup_nil⟩⟩, ⟨by first | exact Kd.R_nil _ _ _ _ _ | exact Kd.N_nil _ _ _ _ _ | exact Kd.V_nil _ _ _ _ _ | exact Kd.Q_nil _ _ _ _ _ | exact Kd.S_nil _ _ _ _ _⟩, ⟨ZB⟩⟩
 case round => (
 clear H'
 obtain ⟨x3_1, z3_, x8_1, rfl, HA, HK1, HZ3, HO_3, HB⟩ := hrel
 cases gk with
 | zero => exact absurd HA.out (by simp [impl_cloneSteps.l0])
 | succ k1 =>
  have H := HA.out
  clear HA
  simp only [impl_cloneSteps.l0] at H
  by_cases c2 : x8_1 < (l0.length : Int)
  ·(
  rw [if_pos c2] at H
  have c2b0 := decide_eq_true c2
  clear c2
  by_cases c3 : 0 ≤ x8_1
  ·(
  rw [if_pos c3] at H
  have c3b0 := decide_eq_true c3
  clear c3
  by_cases c4 : x8_1 < (l0.length : Int)
  ·(
  rw [if_pos c4] at H
  have c4b0 := decide_eq_true c4
  clear c4
  obtain ⟨t320, A5, H⟩ := ZOB H; try dsimp only at H
  obtain ⟨t323, A6, H⟩ := ZOB H; try dsimp only at H
  by_cases c7 : x3_1.length < 1466015503701
  ·(
  rw [if_pos c7] at H
  have LMc7 := AM c7
  clear c7
  obtain ⟨y326, hy326⟩ : ∃ y_ : List (S50), y_ = (x3_1 ++ [(⟨(rd_T50 l0 x8_1).f0, (rd_T50 l0 x8_1).f1, (⟨(rd_T50 l0 x8_1).f2.f0, (rd_T50 l0 x8_1).f2.f1, (rd_T50 l0 x8_1).f2.f2⟩ : S48), (rd_T50 l0 x8_1).f3, t320, t323⟩ : S50)]) := ⟨_, rfl⟩
  replace H : (impl_cloneSteps.l0 k1 y326 l0 (l0.length : Int) (wrap64 (x8_1 + 1))) = some r := by first | (rw [hy326]; with_reducible exact H) | (have H2_ := (Option.bind_some _ _).symm.trans H; rw [hy326]; with_reducible exact H2_) | (have H2_ := (Option.bind_some _ _).symm.trans H; with_reducible exact H2_) | with_reducible exact H | (rw [hy326]; exact H) | exact H
  have Ny326 := AM hy326
  clear hy326
  have H' := AM H
  clear H
  have p318 : 0 ≤ (x8_1 : Int) := ZD
  have q318 : x8_1 < (l0.length : Int) := ZD
  obtain ⟨ad318, A318_6, c318_6, A318_7, c318_7, e318, hx318_0, hx318_1, hx318_2, hx318_3, hx318_4, hx318_5, hx318_6, hx318_7, hl318_6, hi318_6, hl318_7, hi318_7⟩ := at_T50 HR0.out x8_1 p318 q318
  cases e318
  replace hx318_0 := ZHX HB hx318_0
  replace hx318_1 := ZHX HB hx318_1
  replace hx318_2 := ZHX HB hx318_2
  replace hx318_3 := ZHX HB hx318_3
  replace hx318_4 := ZHX HB hx318_4
  replace hx318_5 := ZHX HB hx318_5
  replace hx318_6 := ZHX HB hx318_6
  replace hx318_7 := ZHX HB hx318_7
  have HR318_6 := AM hi318_6
  have HC318_6 := AM hl318_6
  clear hi318_6 hl318_6
  have HR318_7 := AM hi318_7
  have HC318_7 := AM hl318_7
  clear hi318_7 hl318_7
  replace p318 := eq_true p318
  replace q318 := eq_true q318
  try go_wp2_with (first | ((with_reducible refine gate_dst (N := 5) rfl ?_); refine ZX (N := 5) (cs := #[.int .i64 0, .int .i64 0, .int .i64 0, .int .i64 0, .int .i64 0, .int .i64 0, .slice none 0 0, .slice none 0 0]) (t := 50) ?_; intro gb319 hg w8 hbox hb; have BK319 := AM (hbox); have GW319 : Aside0 (w.heap.size ≤ gb319) := ZS hg; have GE319 : Aside0 (w.heap.size ≤ gb319) := ZS hg; replace HO_3 := AM (Kd.R_below (Kd.R_elderB (ZR HO_3.out) gb319 (Nat.le_of_eq hg.symm)) hb); replace HB := ZT HB hb; clear hb hbox hg; have hcz9 := ZC8 w8 BK319; have hfz9 := ZF8 BK319))
  have n0_ : Aside0 (Kd.R Deep.kD 50 ((((((((w8.setCell ⟨gb319, 0, none⟩ (.int .i64 ((rd_T50 l0 x8_1).f0))).setCell ⟨gb319, 1, none⟩ (.int .i64 ((rd_T50 l0 x8_1).f1))).setCell ⟨gb319, 2, none⟩ (.int .i64 ((rd_T50 l0 x8_1).f2.f0))).setCell ⟨gb319, 3, none⟩ (.int .i64 ((rd_T50 l0 x8_1).f2.f1))).setCell ⟨gb319, 4, none⟩ (.int .i64 ((rd_T50 l0 x8_1).f2.f2))).setCell ⟨gb319, 5, none⟩ (.int .i64 ((rd_T50 l0 x8_1).f3))).setCell ⟨gb319, 6, none⟩ (.slice A318_6 ((rd_T50 l0 x8_1).f4).length c318_6)).setCell ⟨gb319, 7, none⟩ (.slice A318_7 ((rd_T50 l0 x8_1).f5).length c318_7)) w.heap.size (fun k_ => k_ ≠ gb319) u3 z3_) := ⟨by (with_reducible repeat (first | apply Kd.R_alloc | apply Kd.R_drewN | apply Kd.R_drew)); exact Kd.R_mono (Kd.R_far (p := ⟨gb319, 7, none⟩) (Kd.R_far (p := ⟨gb319, 6, none⟩) (Kd.R_far (p := ⟨gb319, 5, none⟩) (Kd.R_far (p := ⟨gb319, 4, none⟩) (Kd.R_far (p := ⟨gb319, 3, none⟩) (Kd.R_far (p := ⟨gb319, 2, none⟩) (Kd.R_far (p := ⟨gb319, 1, none⟩) (Kd.R_far (p := ⟨gb319, 0, none⟩) (Kd.R_mono HO_3.out (fun k_ hk => (⟨hk, hk.2⟩ : _ ∧ k_ ≠ gb319))) (fun _ hk => hk.2) (.int .i64 ((rd_T50 l0 x8_1).f0))) (fun _ hk => hk.2) (.int .i64 ((rd_T50 l0 x8_1).f1))) (fun _ hk => hk.2) (.int .i64 ((rd_T50 l0 x8_1).f2.f0))) (fun _ hk => hk.2) (.int .i64 ((rd_T50 l0 x8_1).f2.f1))) (fun _ hk => hk.2) (.int .i64 ((rd_T50 l0 x8_1).f2.f2))) (fun _ hk => hk.2) (.int .i64 ((rd_T50 l0 x8_1).f3))) (fun _ hk => hk.2) (.slice A318_6 ((rd_T50 l0 x8_1).f4).length c318_6)) (fun _ hk => hk.2) (.slice A318_7 ((rd_T50 l0 x8_1).f5).length c318_7)) (fun _ hk => hk.1.2)⟩
  have n1_ : Aside0 (((((((((w8.setCell ⟨gb319, 0, none⟩ (.int .i64 ((rd_T50 l0 x8_1).f0))).setCell ⟨gb319, 1, none⟩ (.int .i64 ((rd_T50 l0 x8_1).f1))).setCell ⟨gb319, 2, none⟩ (.int .i64 ((rd_T50 l0 x8_1).f2.f0))).setCell ⟨gb319, 3, none⟩ (.int .i64 ((rd_T50 l0 x8_1).f2.f1))).setCell ⟨gb319, 4, none⟩ (.int .i64 ((rd_T50 l0 x8_1).f2.f2))).setCell ⟨gb319, 5, none⟩ (.int .i64 ((rd_T50 l0 x8_1).f3))).setCell ⟨gb319, 6, none⟩ (.slice A318_6 ((rd_T50 l0 x8_1).f4).length c318_6)).setCell ⟨gb319, 7, none⟩ (.slice A318_7 ((rd_T50 l0 x8_1).f5).length c318_7)).heap[gb319]? = some (.cells #[.int .i64 ((rd_T50 l0 x8_1).f0), .int .i64 ((rd_T50 l0 x8_1).f1), .int .i64 ((rd_T50 l0 x8_1).f2.f0), .int .i64 ((rd_T50 l0 x8_1).f2.f1), .int .i64 ((rd_T50 l0 x8_1).f2.f2), .int .i64 ((rd_T50 l0 x8_1).f3), .slice A318_6 ((rd_T50 l0 x8_1).f4).length c318_6, .slice A318_7 ((rd_T50 l0 x8_1).f5).length c318_7] 50 (0, 0))) := ⟨ZZ BK319.out⟩
  have n2_ : Aside0 (Below w.heap.size w ((((((((w8.setCell ⟨gb319, 0, none⟩ (.int .i64 ((rd_T50 l0 x8_1).f0))).setCell ⟨gb319, 1, none⟩ (.int .i64 ((rd_T50 l0 x8_1).f1))).setCell ⟨gb319, 2, none⟩ (.int .i64 ((rd_T50 l0 x8_1).f2.f0))).setCell ⟨gb319, 3, none⟩ (.int .i64 ((rd_T50 l0 x8_1).f2.f1))).setCell ⟨gb319, 4, none⟩ (.int .i64 ((rd_T50 l0 x8_1).f2.f2))).setCell ⟨gb319, 5, none⟩ (.int .i64 ((rd_T50 l0 x8_1).f3))).setCell ⟨gb319, 6, none⟩ (.slice A318_6 ((rd_T50 l0 x8_1).f4).length c318_6)).setCell ⟨gb319, 7, none⟩ (.slice A318_7 ((rd_T50 l0 x8_1).f5).length c318_7))) := ⟨ZB⟩
  (try clear HO_3)
  (try clear BK319)
  (try clear HB)
  generalize ((((((((w8.setCell ⟨gb319, 0, none⟩ (.int .i64 ((rd_T50 l0 x8_1).f0))).setCell ⟨gb319, 1, none⟩ (.int .i64 ((rd_T50 l0 x8_1).f1))).setCell ⟨gb319, 2, none⟩ (.int .i64 ((rd_T50 l0 x8_1).f2.f0))).setCell ⟨gb319, 3, none⟩ (.int .i64 ((rd_T50 l0 x8_1).f2.f1))).setCell ⟨gb319, 4, none⟩ (.int .i64 ((rd_T50 l0 x8_1).f2.f2))).setCell ⟨gb319, 5, none⟩ (.int .i64 ((rd_T50 l0 x8_1).f3))).setCell ⟨gb319, 6, none⟩ (.slice A318_6 ((rd_T50 l0 x8_1).f4).length c318_6)).setCell ⟨gb319, 7, none⟩ (.slice A318_7 ((rd_T50 l0 x8_1).f5).length c318_7)) = w10 at n0_ n1_ n2_ ⊢
  have HO_3 := n0_
  have BK319 := n1_
  have HB := n2_
  clear n0_ n1_ n2_
  replace HO_3 := AM (Kd.R_drew HO_3.out)
  replace BK319 := AM (blk_drew BK319.out)
  replace HB := AM (below_drew1 HB.out)
  refine start_ (n := 10) (S := fun w' => w'.cell? ⟨gb319, 0, none⟩ = some (.int .i64 ((rd_T50 l0 x8_1).f0)) ∧ w'.cell? ⟨gb319, 1, none⟩ = some (.int .i64 ((rd_T50 l0 x8_1).f1)) ∧ w'.cell? ⟨gb319, 2, none⟩ = some (.int .i64 ((rd_T50 l0 x8_1).f2.f0)) ∧ w'.cell? ⟨gb319, 3, none⟩ = some (.int .i64 ((rd_T50 l0 x8_1).f2.f1)) ∧ w'.cell? ⟨gb319, 4, none⟩ = some (.int .i64 ((rd_T50 l0 x8_1).f2.f2)) ∧ w'.cell? ⟨gb319, 5, none⟩ = some (.int .i64 ((rd_T50 l0 x8_1).f3)) ∧ w'.cell? ⟨gb319, 6, none⟩ = some (.slice A318_6 ((rd_T50 l0 x8_1).f4).length c318_6) ∧ w'.cell? ⟨gb319, 7, none⟩ = some (.slice A318_7 ((rd_T50 l0 x8_1).f5).length c318_7)) (ds := [7, 9]) #[F,F,F,F,F,F,F,F,F,F] (by kernel_rfl) rfl rfl ⟨ZA BK319 0, ZA BK319 1, ZA BK319 2, ZA BK319 3, ZA BK319 4, ZA BK319 5, ZA BK319 6, ZA BK319 7⟩ (fun hHeld => ?_); refine with_tabW impl_cloneSteps.tab5 impl_cloneSteps.bits5 (fun HT_ HW_ => ?_)
  generalize w10.drew = w11 at HO_3 BK319 HB hHeld ⊢
  refine ZU 0 12 #[T,F,F,F,F,F,F,F,F,F] ?_
  refine ZU 3 15 #[T,F,F,T,F,F,F,F,F,F] ?_
  refine ZTK 1 13 #[T,T,F,T,F,F,F,F,F,F] hHeld ?_
  refine ZTK 4 16 #[T,T,F,T,T,F,F,F,F,F] hHeld ?_
  refine one_ (i := 2) (N := some 14) #[T,T,T,T,T,F,F,F,F,F] rfl rfl (one_of HT_.out (by kernel_rfl)) (by decide) (fun K hK => ?_)
  refine ZGO Try.func59 #[.slice A318_6 ((rd_T50 l0 x8_1).f4).length c318_6] ?_
  with_reducible refine (ih k1 (by have := HK1.out; omega) _ _ ((rd_T50 l0 x8_1).f4) t320 _ ?side1 ?side2 A5.out).mono ?_
  (case side1 => exact ZQ (Kd.C_below HR318_6.out HB.out))
  (case side2 => exact HC318_6.out)
  rintro e w12 ⟨v321, rfl, z6_, hz6, hn6, ho0, hb⟩
  refine ⟨_, rfl, ?_⟩
  have PAB : Aside0 (w11.heap.size ≤ w12.heap.size) := ⟨below_size hb⟩
  have PB3 : Aside0 (∀ k ∈ Deep.bl u3 z3_, k < w11.heap.size) := ⟨fun k hk => (Deep.bl_of (ZR HO_3.out) k hk).2.1⟩
  have PB6 : Aside0 (∀ k ∈ Deep.bl v321 z6_, w11.heap.size ≤ k ∧ k < w12.heap.size) := ⟨fun k hk => ⟨(Deep.bl_of ho0 k hk).1, (Deep.bl_of ho0 k hk).2.1⟩⟩
  have PN6 := AM (Deep.bl_nodup ho0 hn6)
  have PZ6 := AM hz6
  clear hn6 hz6
  have HO322 := AM (Kd.R_lower (Kd.R_newB (Kd.R_new' ho0 (Kd.R_lt (ZR HO_3.out))) (g := gb319) (o := .cells #[.int .i64 ((rd_T50 l0 x8_1).f0), .int .i64 ((rd_T50 l0 x8_1).f1), .int .i64 ((rd_T50 l0 x8_1).f2.f0), .int .i64 ((rd_T50 l0 x8_1).f2.f1), .int .i64 ((rd_T50 l0 x8_1).f2.f2), .int .i64 ((rd_T50 l0 x8_1).f3), .slice A318_6 ((rd_T50 l0 x8_1).f4).length c318_6, .slice A318_7 ((rd_T50 l0 x8_1).f5).length c318_7] 50 (0, 0)) (ZK BK319.out)) (below_size (ZB)))
  replace HO_3 := AM (Kd.R_elder' (ZR HO_3.out) (Kd.R_base ho0) hb)
  replace BK319 := ZW BK319 hb
  replace HB := ZT HB hb
  (try clear hb)
  (try clear hb2)
  (try clear hk)
  (try clear hi)
  (try clear ho0)
  refine hK.out _ _ ⟨ZA BK319 0, ZA BK319 1, ZA BK319 2, ZA BK319 3, ZA BK319 4, ZA BK319 5, ZA BK319 6, ZA BK319 7⟩ (fun hHeld => ?_)
  clear hK K
  refine ZNO 14 ?_
  refine ZU 6 18 #[T,T,T,T,T,F,T,F,F,F] ?_
  refine one_ (i := 5) (N := some 17) #[T,T,T,T,T,T,T,F,F,F] rfl rfl (one_of HT_.out (by kernel_rfl)) (by decide) (fun K hK => ?_)
  refine ZGO Try.func59 #[.slice A318_7 ((rd_T50 l0 x8_1).f5).length c318_7] ?_
  with_reducible refine (ih k1 (by have := HK1.out; omega) _ _ ((rd_T50 l0 x8_1).f5) t323 _ ?side1 ?side2 A6.out).mono ?_
  (case side1 => exact ZQ (Kd.C_below HR318_7.out HB.out))
  (case side2 => exact HC318_7.out)
  rintro e w13 ⟨v324, rfl, z7_, hz7, hn7, ho0, hb⟩
  refine ⟨_, rfl, ?_⟩
  have PB7 : Aside0 (∀ k ∈ Deep.bl v324 z7_, w12.heap.size ≤ k ∧ k < w13.heap.size) := ⟨fun k hk => ⟨(Deep.bl_of ho0 k hk).1, (Deep.bl_of ho0 k hk).2.1⟩⟩
  have PN7 := AM (Deep.bl_nodup ho0 hn7)
  have PZ7 := AM hz7
  clear hn7 hz7
  have HO325 := AM (Kd.R_lower (Kd.R_newB (Kd.R_new' (Kd.R_new' ho0 (Kd.R_lt (ZR HO_3.out))) (Kd.R_lt (ZR HO322.out))) (g := gb319) (o := .cells #[.int .i64 ((rd_T50 l0 x8_1).f0), .int .i64 ((rd_T50 l0 x8_1).f1), .int .i64 ((rd_T50 l0 x8_1).f2.f0), .int .i64 ((rd_T50 l0 x8_1).f2.f1), .int .i64 ((rd_T50 l0 x8_1).f2.f2), .int .i64 ((rd_T50 l0 x8_1).f3), .slice A318_6 ((rd_T50 l0 x8_1).f4).length c318_6, .slice A318_7 ((rd_T50 l0 x8_1).f5).length c318_7] 50 (0, 0)) (ZK BK319.out)) (below_size (ZB)))
  replace HO_3 := AM (Kd.R_elder' (ZR HO_3.out) (Kd.R_base ho0) hb)
  replace HO322 := AM (Kd.R_elder' (ZR HO322.out) (Kd.R_base ho0) hb)
  replace BK319 := ZW BK319 hb
  replace HB := ZT HB hb
  (try clear hb)
  (try clear hb2)
  (try clear hk)
  (try clear hi)
  (try clear ho0)
  obtain ⟨Ao14, co14, eo14⟩ := Deep.slice_of HO322.out PZ6.out
  (first | subst eo14 | (injection eo14 with f1_ f2_ f3_; have f4_ := f1_.symm; have f5_ := f3_.symm; clear f1_ f2_ f3_; subst f4_; subst f5_))
  obtain ⟨Ao16, co16, eo16⟩ := Deep.slice_of HO325.out PZ7.out
  (first | subst eo16 | (injection eo16 with f1_ f2_ f3_; have f4_ := f1_.symm; have f5_ := f3_.symm; clear f1_ f2_ f3_; subst f4_; subst f5_))
  refine hK.out _ _ ⟨ZA BK319 0, ZA BK319 1, ZA BK319 2, ZA BK319 3, ZA BK319 4, ZA BK319 5, ZA BK319 6, ZA BK319 7⟩ (fun hHeld => ?_)
  clear hK K
  refine ZNO 17 ?_
  refine last_ (i := 7) (N := none) #[T,T,T,T,T,T,T,T,F,F] rfl rfl (one_of HT_.out (by kernel_rfl)) (by decide) (fun K hK => ?_)
  have hs15 : w13.cell? ⟨gb319, 6, none⟩ = some (.slice A318_6 ((rd_T50 l0 x8_1).f4).length c318_6) := ZA BK319 6
  have hfs15 := blk_frozen BK319.out 6
  refine skip_ (w1 := ?_) (by rfl) rfl ?_ ?_
  rotate_left
  ·(
  go_simp
  rfl)
  refine hK.out _ _ ?_
  clear hK K
  refine ZU 8 19 #[T,T,T,T,T,T,T,T,T,F] ?_
  refine last_ (i := 9) (N := none) #[T,T,T,T,T,T,T,T,T,T] rfl rfl (one_of HT_.out (by kernel_rfl)) (by decide) (fun K hK => ?_)
  have hs17 : w13.cell? ⟨gb319, 7, none⟩ = some (.slice A318_7 ((rd_T50 l0 x8_1).f5).length c318_7) := ZA BK319 7
  have hfs17 := blk_frozen BK319.out 7
  refine skip_ (w1 := ?_) (by rfl) rfl ?_ ?_
  rotate_left
  ·(
  go_simp
  rfl)
  refine hK.out _ _ ?_
  clear hK K
  refine done_ (done_of HT_.out (by kernel_rfl)) ?_
  have n0_ : Aside0 (Kd.R Deep.kD 50 ((w13.setCell ⟨gb319, 6, none⟩ (.slice Ao14 t320.length co14)).setCell ⟨gb319, 7, none⟩ (.slice Ao16 t323.length co16)) w.heap.size (fun k_ => some k_ ≠ (.slice Ao14 t320.length co14 : Value).ownBlock ∧ some k_ ≠ (.slice Ao16 t323.length co16 : Value).ownBlock ∧ k_ ≠ gb319) u3 z3_) := ⟨by (with_reducible repeat (first | apply Kd.R_alloc | apply Kd.R_drewN | apply Kd.R_drew)); exact Kd.R_mono (Kd.R_far (p := ⟨gb319, 7, none⟩) (Kd.R_far (p := ⟨gb319, 6, none⟩) (Kd.R_mono HO_3.out (fun k_ hk => (⟨hk, hk.1.1⟩ : _ ∧ k_ ≠ gb319))) (fun _ hk => hk.2) (.slice Ao14 t320.length co14)) (fun _ hk => hk.2) (.slice Ao16 t323.length co16)) (fun _ hk => ⟨hk.1.1.2, ⟨hk.1.2, hk.1.1.1⟩⟩)⟩
  have n1_ : Aside0 (Kd.R Deep.kD 50 ((w13.setCell ⟨gb319, 6, none⟩ (.slice Ao14 t320.length co14)).setCell ⟨gb319, 7, none⟩ (.slice Ao16 t323.length co16)) w.heap.size (fun k_ => some k_ ≠ (u3 : Value).ownBlock ∧ some k_ ≠ (.slice Ao16 t323.length co16 : Value).ownBlock ∧ k_ ≠ gb319) (.slice Ao14 t320.length co14) z6_) := ⟨by (with_reducible repeat (first | apply Kd.R_alloc | apply Kd.R_drewN | apply Kd.R_drew)); exact Kd.R_mono (Kd.R_far (p := ⟨gb319, 7, none⟩) (Kd.R_far (p := ⟨gb319, 6, none⟩) (Kd.R_mono HO322.out (fun k_ hk => (⟨hk, hk.1.2⟩ : _ ∧ k_ ≠ gb319))) (fun _ hk => hk.2) (.slice Ao14 t320.length co14)) (fun _ hk => hk.2) (.slice Ao16 t323.length co16)) (fun _ hk => ⟨hk.1.1.1.2, ⟨hk.1.2, hk.1.1.2⟩⟩)⟩
  have n2_ : Aside0 (Kd.R Deep.kD 50 ((w13.setCell ⟨gb319, 6, none⟩ (.slice Ao14 t320.length co14)).setCell ⟨gb319, 7, none⟩ (.slice Ao16 t323.length co16)) w.heap.size (fun k_ => some k_ ≠ (u3 : Value).ownBlock ∧ some k_ ≠ (.slice Ao14 t320.length co14 : Value).ownBlock ∧ k_ ≠ gb319) (.slice Ao16 t323.length co16) z7_) := ⟨by (with_reducible repeat (first | apply Kd.R_alloc | apply Kd.R_drewN | apply Kd.R_drew)); exact Kd.R_mono (Kd.R_far (p := ⟨gb319, 7, none⟩) (Kd.R_far (p := ⟨gb319, 6, none⟩) (Kd.R_mono HO325.out (fun k_ hk => (⟨hk, hk.2⟩ : _ ∧ k_ ≠ gb319))) (fun _ hk => hk.2) (.slice Ao14 t320.length co14)) (fun _ hk => hk.2) (.slice Ao16 t323.length co16)) (fun _ hk => ⟨hk.1.1.1.2, ⟨hk.1.1.2, hk.1.2⟩⟩)⟩
  have n3_ : Aside0 (((w13.setCell ⟨gb319, 6, none⟩ (.slice Ao14 t320.length co14)).setCell ⟨gb319, 7, none⟩ (.slice Ao16 t323.length co16)).heap[gb319]? = some (.cells #[.int .i64 ((rd_T50 l0 x8_1).f0), .int .i64 ((rd_T50 l0 x8_1).f1), .int .i64 ((rd_T50 l0 x8_1).f2.f0), .int .i64 ((rd_T50 l0 x8_1).f2.f1), .int .i64 ((rd_T50 l0 x8_1).f2.f2), .int .i64 ((rd_T50 l0 x8_1).f3), .slice Ao14 t320.length co14, .slice Ao16 t323.length co16] 50 (0, 0))) := ⟨ZZ BK319.out⟩
  have n4_ : Aside0 (Below w.heap.size w ((w13.setCell ⟨gb319, 6, none⟩ (.slice Ao14 t320.length co14)).setCell ⟨gb319, 7, none⟩ (.slice Ao16 t323.length co16))) := ⟨ZB⟩
  (try clear HO_3)
  (try clear HO322)
  (try clear HO325)
  (try clear BK319)
  (try clear HB)
  generalize ((w13.setCell ⟨gb319, 6, none⟩ (.slice Ao14 t320.length co14)).setCell ⟨gb319, 7, none⟩ (.slice Ao16 t323.length co16)) = w18 at n0_ n1_ n2_ n3_ n4_ ⊢
  have HO_3 := n0_
  have HO322 := n1_
  have HO325 := n2_
  have BK319 := n3_
  have HB := n4_
  clear n0_ n1_ n2_ n3_ n4_
  have hcz19 := ZC8 w18 BK319
  have hfz19 := ZF8 BK319
  try go_wp2_with (first | ((with_reducible refine gate_builtin (b := .append) (xs := #[.tmp 20, .tmp 22]) rfl ?_); at_builtin; refine Kd.R_append Deep.kD (w0 := w) w.heap.size rfl (.tmp 20) (.tmp 22) 30 50 (.agg #[(.int .i64 0), (.int .i64 0), (.int .i64 0), (.int .i64 0), (.int .i64 0), (.int .i64 0), (.slice none 0 0), (.slice none 0 0)]) 96 rfl Try.underlying30 info50 rfl (by decide) (by omega) u3 z3_ ((⟨(rd_T50 l0 x8_1).f0, (rd_T50 l0 x8_1).f1, (⟨(rd_T50 l0 x8_1).f2.f0, (rd_T50 l0 x8_1).f2.f1, (rd_T50 l0 x8_1).f2.f2⟩ : S48), (rd_T50 l0 x8_1).f3, t320, t323⟩ : S50), Deep.bl (.slice Ao14 t320.length co14) z6_ ++ Deep.bl (.slice Ao16 t323.length co16) z7_) [.int .i64 ((rd_T50 l0 x8_1).f0), .int .i64 ((rd_T50 l0 x8_1).f1), .int .i64 ((rd_T50 l0 x8_1).f2.f0), .int .i64 ((rd_T50 l0 x8_1).f2.f1), .int .i64 ((rd_T50 l0 x8_1).f2.f2), .int .i64 ((rd_T50 l0 x8_1).f3), .slice Ao14 t320.length co14, .slice Ao16 t323.length co16] (fun k_ => k_ ≠ gb319) (fun k_ => ((fun k_ => k_ ≠ gb319)) k_ ∧ some k_ ≠ (u3 : Value).ownBlock) rfl rfl ?aP (fun _ hk => hk) ?aF ?aO ?aB ?aS ?aL ?_; (case aP => exact Deep.mkD (⟨(rd_T50 l0 x8_1).f0, (rd_T50 l0 x8_1).f1, (⟨(rd_T50 l0 x8_1).f2.f0, (rd_T50 l0 x8_1).f2.f1, (rd_T50 l0 x8_1).f2.f2⟩ : S48), (rd_T50 l0 x8_1).f3, t320, t323⟩ : S50) (Kd.R_mono (HO322.out) (fun k_ hk => ⟨hk.2.2, hk.1⟩)) (Kd.R_mono (HO325.out) (fun k_ hk => ⟨hk.2.2, hk.1⟩)) PZ6.out PZ7.out); (case aB => exact (ZB)); (case aF => exact (fun k_ hk => Kd.freshB (g := gb319) (o := .cells #[.int .i64 ((rd_T50 l0 x8_1).f0), .int .i64 ((rd_T50 l0 x8_1).f1), .int .i64 ((rd_T50 l0 x8_1).f2.f0), .int .i64 ((rd_T50 l0 x8_1).f2.f1), .int .i64 ((rd_T50 l0 x8_1).f2.f2), .int .i64 ((rd_T50 l0 x8_1).f3), .slice Ao14 t320.length co14, .slice Ao16 t323.length co16] 50 (0, 0)) (ZK BK319.out) k_ hk)); (case aO => exact (ZR (Kd.R_mono HO_3.out (fun _ hk => hk.2.2)))); (case aS => exact (below_size (ZB))); (case aL => have hl_ := congrArg List.length HZ3.out.1; rw [List.length_map] at hl_; have := LMc7.out; omega); intro v327 w20 ho hb hg hat; have n0_ := AM (blk_grown (g := gb319) (o := .cells #[.int .i64 ((rd_T50 l0 x8_1).f0), .int .i64 ((rd_T50 l0 x8_1).f1), .int .i64 ((rd_T50 l0 x8_1).f2.f0), .int .i64 ((rd_T50 l0 x8_1).f2.f1), .int .i64 ((rd_T50 l0 x8_1).f2.f2), .int .i64 ((rd_T50 l0 x8_1).f3), .slice Ao14 t320.length co14, .slice Ao16 t323.length co16] 50 (0, 0)) (ZK BK319.out) hg (Kd.R_away HO_3.out (fun _ hk => hk.2.2))); have n1_ := AM (hb); have n2_ := AM (ho); clear BK319 HB HO_3 HO322 HO325; have BK319 := n0_; have HB := n1_; have HO328 := n2_; clear n0_ n1_ n2_ ho hb hg hat))
  go_roundg k1
  case measure => have := HK1.out; omega
  case rel => exact ⟨(y326), z3_ ++ [((⟨(rd_T50 l0 x8_1).f0, (rd_T50 l0 x8_1).f1, (⟨(rd_T50 l0 x8_1).f2.f0, (rd_T50 l0 x8_1).f2.f1, (rd_T50 l0 x8_1).f2.f2⟩ : S48), (rd_T50 l0 x8_1).f3, t320, t323⟩ : S50), Deep.bl (.slice Ao14 t320.length co14) z6_ ++ Deep.bl (.slice Ao16 t323.length co16) z7_)], (wrap64 (x8_1 + 1)), (by first | rfl | (simp; done) | (simp [*]; done)), H', ⟨by have := HK1.out; omega⟩, ⟨⟨by rw [Ny326.out, List.map_append, HZ3.out.1]; rfl, Deep.nodup_next HZ3.out.2 PN6.out PN7.out PAB.out PB3.out PB6.out PB7.out⟩⟩, ⟨ZR (Kd.R_mono HO328.out (fun _ hk => trivial))⟩, ⟨ZB⟩⟩)
  ·(
  rw [if_neg c7] at H
  exact absurd H (by simp)))
  ·(
  rw [if_neg c4] at H
  exact absurd H (by simp)))
  ·(
  rw [if_neg c3] at H
  exact absurd H (by simp)))
  ·(
  rw [if_neg c2] at H
  have c2b0 := decide_eq_false c2
  clear c2
  obtain rfl := Option.some.inj H
  go_wp2
  go_ret
  exact ⟨_, ZE, z3_, HZ3.out.1, HZ3.out.2, by (with_reducible repeat (first | apply Kd.R_alloc | apply Kd.R_drewN | apply Kd.R_drew)); exact HO_3.out, ZB⟩))

end Go.Proofs.Ytaflodibibbakaa.B
