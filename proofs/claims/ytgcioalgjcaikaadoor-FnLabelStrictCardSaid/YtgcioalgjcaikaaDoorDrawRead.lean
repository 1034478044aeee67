/- Plain facts on drawing: a short text is drawn of every code. -/
import Derived.Test.YtgcioalgjcaikaaDoorAx15
import Derived.Test.YtgcioalgjcaikaaDoorAx16
import Derived.Test.YtgcioalgjcaikaaDoorDrawL
import Derived.Test.YtgcioalgjcaikaaDoorLabTx
-- uses DrawL LabTx
namespace Go.Proofs.YtgcioalgjcaikaaDoor.A
open Go.RowKit Go.Proofs.YtgcioalgjcaikaaDoorW.PrintWords Go.Proofs.YtgcioalgjcaikaaDoorW.PrintLast Go.Proofs.YtgcioalgjcaikaaDoorW.PrintMore
theorem of_ev {b : List Int} (hb : Code_ b) (p : Int) (hp : 0 ≤ p) (hp2 : p ≤ 1000) (l : List ByteArray) (h1 : 1 ≤ l.length) (h2 : l.length ≤ 100) (hz : ∀ z ∈ l, z.size ≤ 100) :
    ∃ z q, z.size ≤ 100 ∧ Ev (fun k => spec_l6Rd_of.f k b p l) (z, q) := by
  obtain ⟨r, h, r0, r1⟩ := pick_ev hb p (l.length : Int) hp (by omega) (by omega) (by omega)
  refine ⟨rdOf ByteArray.empty l r, p + 1, ?_, ?_⟩
  · have hr : r.toNat < l.length := by omega
    unfold rdOf
    rw [List.getD_eq_getElem?_getD, List.getElem?_eq_getElem hr]
    exact hz _ (List.getElem_mem hr)
  · simp only [spec_l6Rd_of.f]
    refine Ev.bind h ?_
    simp only [r0, r1, if_true]
    exact Ev.all_ fun _ => rfl
theorem read_draw {l : List Int} (hl : ∀ x ∈ l, 0 ≤ x ∧ x ≤ 255) : ∃ s, s.size ≤ 1000 ∧ Ev (fun k => spec_DrawLabelRead.f k l) s := by
  obtain ⟨b, hb, h0⟩ := open_ev hl
  obtain ⟨x, y, ix, iy, h1⟩ := label_ev hb 0 (by omega) (by omega)
  obtain ⟨r, h2, r0, r1⟩ := pick_ev hb (0 + 1 + 1) 4 (by omega) (by omega) (by omega) (by omega)
  have ht := tx_size ix iy
  simp only [spec_DrawLabelRead.f, h0, Option.bind_some]
  by_cases e0 : r = 0
  · obtain ⟨z, q, hz, h3⟩ := of_ev hb (0 + 1 + 1 + 1) (by omega) (by omega) [(⟨#[]⟩ : ByteArray), (⟨#[33]⟩ : ByteArray), (⟨#[48]⟩ : ByteArray), (⟨#[48, 49, 33]⟩ : ByteArray), (⟨#[49, 48, 33, 50]⟩ : ByteArray), (⟨#[48, 48, 33]⟩ : ByteArray), (⟨#[51, 33]⟩ : ByteArray), (⟨#[48, 33, 49, 33, 50]⟩ : ByteArray), (⟨#[48, 49, 50, 33, 48, 49, 50]⟩ : ByteArray), (⟨#[33, 48, 32]⟩ : ByteArray)] (by decide) (by decide) (by decide)
    refine ⟨z, by omega, Ev.bind h1 (Ev.bind (sp_text_ev x y) (Ev.bind h2 ?_))⟩
    simp only [e0, if_true]
    refine Ev.bind h3 (Ev.all_ fun _ => rfl)
  by_cases e1 : r = 1
  · obtain ⟨z, q, hz, h3⟩ := of_ev hb (0 + 1 + 1 + 1) (by omega) (by omega) [(⟨#[48]⟩ : ByteArray), (⟨#[33]⟩ : ByteArray), (⟨#[50]⟩ : ByteArray)] (by decide) (by decide) (by decide)
    have c : (txt x y).size + z.size ≤ 9223372036854775807 := by rw [txt_ok ix iy]; omega
    refine ⟨txt x y ++ z, by rw [ByteArray.size_append, txt_ok ix iy]; omega, Ev.bind h1 (Ev.bind (sp_text_ev x y) (Ev.bind h2 ?_))⟩
    simp only [e0, if_false]
    simp only [e1, if_true]
    refine Ev.bind h3 ?_
    simp only [c, if_true]
    exact Ev.all_ fun _ => rfl
  · refine ⟨txt x y, by rw [txt_ok ix iy]; omega, Ev.bind h1 (Ev.bind (sp_text_ev x y) (Ev.bind h2 ?_))⟩
    simp only [e0, e1, if_false]
    exact Ev.all_ fun _ => rfl
end Go.Proofs.YtgcioalgjcaikaaDoor.A
