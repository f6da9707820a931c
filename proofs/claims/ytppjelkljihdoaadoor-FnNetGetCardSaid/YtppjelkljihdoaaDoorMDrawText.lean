/- What is drawn as a text. -/
import Derived.Test.YtppjelkljihdoaaDoorMText
import Derived.Test.YtppjelkljihdoaaDoorMDrawNet
import Derived.Test.YtppjelkljihdoaaDoorPrintF14
import Derived.Test.YtppjelkljihdoaaDoorPrintF40
import Derived.Test.YtppjelkljihdoaaDoorPrintF60
import Derived.Test.YtppjelkljihdoaaDoorPrintF8
set_option linter.unusedVariables false
set_option linter.unusedSimpArgs false
namespace Go.Proofs.YtppjelkljihdoaaDoor.M
open Go.RowKit Go.Proofs.YtppjelkljihdoaaDoor.Print Go.Proofs.YtppjelkljihdoaaDoorW.PrintWords Go.Proofs.YtppjelkljihdoaaDoorW.PrintLast Go.Proofs.YtppjelkljihdoaaDoorY
theorem of_ev (l : List Int) (hl : Code l) (p : Int) (xs : List ByteArray) (hp0 : 0 ≤ p) (hp : p ≤ 1000000) (hx : 1 ≤ xs.length) (hx1 : xs.length ≤ 1000) :
    ∃ r, Ev (fun k => spec_l30Rd_of.f k l p xs) (r, p + 1) ∧ r ∈ xs := by
  obtain ⟨r, hr, r0, r1, _⟩ := pick_ev l hl p (xs.length : Int) hp0 hp (by omega)
  have r2 := r1 (by omega)
  refine ⟨rdOf ByteArray.empty xs r, ?_, ?_⟩
  · unfold spec_l30Rd_of.f
    exact Ev.bnd hr (Ev.pos r0 (Ev.pos r2 (Ev.now _)))
  · unfold rdOf
    rw [List.getD_eq_getElem?_getD, List.getElem?_eq_getElem (by omega)]
    exact List.getElem_mem _
theorem bent_ev (c : List Int) (hc : Code c) (p : Int) (hp : 0 ≤ p) (hp1 : p ≤ 900) (s : ByteArray) (hs : s.size ≤ 250) : ∃ t p', Ev (fun k => spec_l30Bent.f k c p s) (t, p') ∧ t.size ≤ 260 := by
  unfold spec_l30Bent.f
  have w1 : wrap64 ((s.size : Int) + 1) = (s.size : Int) + 1 := w64 (by omega) (by omega)
  rw [w1]
  obtain ⟨k0, ek, k00, k01, _⟩ := pick_ev c hc p ((s.size : Int) + 1) (by omega) (by omega) (by omega)
  have k02 := k01 (by omega)
  obtain ⟨z, ez, z0, z1, _⟩ := pick_ev c hc (p + 1) 5 (by omega) (by omega) (by omega)
  by_cases c0 : z = 0
  · by_cases c1 : k0 < (s.size : Int)
    · obtain ⟨r, er, hr⟩ := of_ev c hc (p + 1 + 1) [(⟨#[48]⟩ : ByteArray), (⟨#[49]⟩ : ByteArray), (⟨#[32]⟩ : ByteArray), (⟨#[45]⟩ : ByteArray), (⟨#[10]⟩ : ByteArray), (⟨#[120]⟩ : ByteArray)] (by omega) (by omega) (by simp) (by simp)
      have hr1 : r.size = 1 := by
        simp only [List.mem_cons, List.not_mem_nil, or_false] at hr
        rcases hr with rfl | rfl | rfl | rfl | rfl | rfl <;> rfl
      have w2 : wrap64 (k0 + 1) = k0 + 1 := w64 (by omega) (by omega)
      refine ⟨_, _, Ev.bnd ek (Ev.bnd ez (Ev.pos c0 (Ev.pos c1 (Ev.pos k00 (Ev.pos (by omega) (Ev.bnd er (Ev.pos ?_ (Ev.pos ?_ (Ev.pos ?_ (Ev.pos ?_ (Ev.now _))))))))))), ?_⟩
      · dsimp only; rw [ByteArray.size_extract]; omega
      · dsimp only; rw [w2]; omega
      · dsimp only; rw [w2]; omega
      · dsimp only; rw [ByteArray.size_append, ByteArray.size_extract, ByteArray.size_extract]; omega
      · dsimp only; rw [ByteArray.size_append, ByteArray.size_append, ByteArray.size_extract, ByteArray.size_extract]; omega
    · exact ⟨s, _, Ev.bnd ek (Ev.bnd ez (Ev.pos c0 (Ev.neg c1 (Ev.now _)))), by omega⟩
  · by_cases c1 : z = 1
    · exact ⟨_, _, Ev.bnd ek (Ev.bnd ez (Ev.neg c0 (Ev.pos c1 (Ev.pos k00 (Ev.pos (by omega) (Ev.now _)))))), by rw [ByteArray.size_extract]; omega⟩
    · by_cases c2 : z = 2
      · obtain ⟨r, er, hr⟩ := of_ev c hc (p + 1 + 1) [(⟨#[48]⟩ : ByteArray), (⟨#[32]⟩ : ByteArray), (⟨#[10]⟩ : ByteArray), (⟨#[49]⟩ : ByteArray)] (by omega) (by omega) (by simp) (by simp)
        have hr1 : r.size = 1 := by
          simp only [List.mem_cons, List.not_mem_nil, or_false] at hr
          rcases hr with rfl | rfl | rfl | rfl <;> rfl
        exact ⟨_, _, Ev.bnd ek (Ev.bnd ez (Ev.neg c0 (Ev.neg c1 (Ev.pos c2 (Ev.bnd er (Ev.pos (by dsimp only; omega) (Ev.now _))))))), by dsimp only; rw [ByteArray.size_append]; omega⟩
      · exact ⟨s, _, Ev.bnd ek (Ev.bnd ez (Ev.neg c0 (Ev.neg c1 (Ev.neg c2 (Ev.now _))))), by omega⟩
theorem drawText_ev (l0 : List Int) (hb : ∀ x ∈ l0, (Lit.int .u8 x).wf = true) : ∃ s, Ev (fun k => spec_DrawNetGet.f k l0) s ∧ s.size ≤ 260 := by
  obtain ⟨c, ec, hc⟩ := open_eq l0 hb
  obtain ⟨N, l, p', en, p0, p1, hl, h2, h6, hA⟩ := net_ev c hc 0 (by omega) (by omega)
  have hP := netP_of (netP_of_DA h2 h6 hl hA)
  have ht := text_len hP
  obtain ⟨z, ez, z0, z1, _⟩ := pick_ev c hc p' 2 (by omega) (by omega) (by omega)
  unfold spec_DrawNetGet.f
  by_cases c0 : z = 0
  · exact ⟨_, Ev.bnd0 ec (Ev.bnd en (Ev.bnd (sPut_ev hP) (Ev.bnd ez (Ev.pos c0 (Ev.now _))))), by rw [B_size]; exact Nat.le_trans ht (by omega)⟩
  · obtain ⟨t, q, et, hts⟩ := bent_ev c hc (p' + 1) (by omega) (by omega) (B (npText N l)) (by rw [B_size]; omega)
    exact ⟨t, Ev.bnd0 ec (Ev.bnd en (Ev.bnd (sPut_ev hP) (Ev.bnd ez (Ev.neg c0 (Ev.bnd et (Ev.now _)))))), hts⟩
end Go.Proofs.YtppjelkljihdoaaDoor.M
