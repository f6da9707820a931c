/- Facts on stairs: who comes when, who goes at the latest. -/
import Derived.Test.YtfpfaaibgaejjaaY
import Derived.Test.YtfpfaaibgaejjaaMStair
set_option linter.unusedVariables false
set_option linter.unusedSimpArgs false
namespace Go.Proofs.Ytfpfaaibgaejjaa.M
open Go.RowKit Go.Proofs.Ytfpfaaibgaejjaa.Print Go.Proofs.YtfpfaaibgaejjaaW.PrintWords Go.Proofs.YtfpfaaibgaejjaaW.PrintLast Go.Proofs.YtfpfaaibgaejjaaY
theorem arr_cases (a : Int) (s : List St) : (arr a s = 99999 ∧ ∀ x ∈ s, x.f0 < a) ∨ ∃ x ∈ s, x.f0 ≥ a ∧ arr a s = x.f1 := by
  induction s with
  | nil => exact .inl ⟨rfl, by simp⟩
  | cons x t ih =>
    unfold arr
    by_cases h : x.f0 ≥ a
    · rw [if_pos h]; exact .inr ⟨x, List.mem_cons_self, h, rfl⟩
    · rw [if_neg h]
      rcases ih with ⟨h1, h2⟩ | ⟨y, hy, h1, h2⟩
      · refine .inl ⟨h1, fun y hy => ?_⟩
        rcases List.mem_cons.1 hy with rfl | hy
        · omega
        · exact h2 y hy
      · exact .inr ⟨y, List.mem_cons_of_mem _ hy, h1, h2⟩
theorem arr_min (a : Int) (s : List St) (hp : s.Pairwise Lt2) : ∀ y ∈ s, y.f0 ≥ a → arr a s ≤ y.f1 := by
  induction s with
  | nil => intro y hy; simp at hy
  | cons x t ih =>
    intro y hy h
    rw [List.pairwise_cons] at hp
    unfold arr
    by_cases hx : x.f0 ≥ a
    · rw [if_pos hx]
      rcases List.mem_cons.1 hy with rfl | hy
      · exact Int.le_refl _
      · have := (hp.1 y hy).2; omega
    · rw [if_neg hx]
      rcases List.mem_cons.1 hy with rfl | hy
      · exact absurd h hx
      · exact ih hp.2 y hy h
theorem arr_le {a : Int} {s : List St} (hs : Stair s) : arr a s ≤ 99999 := by
  rcases arr_cases a s with ⟨h, _⟩ | ⟨x, hx, _, h⟩
  · omega
  · have := (hs.1 x hx).2.2.2; omega
theorem arr_ge {a : Int} {s : List St} (hs : Stair s) (ha : a ≤ 99999) : a ≤ arr a s := by
  rcases arr_cases a s with ⟨h, _⟩ | ⟨x, hx, h0, h⟩
  · omega
  · have := (hs.1 x hx).2.2.1; omega
theorem arr_mono {a b : Int} {s : List St} (hs : Stair s) (hab : a ≤ b) : arr a s ≤ arr b s := by
  rcases arr_cases b s with ⟨h, _⟩ | ⟨x, hx, h0, h⟩
  · have := arr_le (a := a) hs; omega
  · have := arr_min a s hs.2.1 x hx (by omega); omega
theorem lst_cases (b : Int) (s : List St) : ∀ acc, s.Pairwise Lt2 → (lst b acc s = acc ∧ ∀ x ∈ s, x.f1 > b) ∨ ∃ x ∈ s, x.f1 ≤ b ∧ lst b acc s = x.f0 ∧ ∀ y ∈ s, y.f1 ≤ b → y.f0 ≤ x.f0 := by
  induction s with
  | nil => intro acc _; exact .inl ⟨rfl, by simp⟩
  | cons x t ih =>
    intro acc hp
    rw [List.pairwise_cons] at hp
    unfold lst
    by_cases h : x.f1 ≤ b
    · rw [if_pos h]
      rcases ih x.f0 hp.2 with ⟨h1, h2⟩ | ⟨y, hy, h1, h2, h3⟩
      · refine .inr ⟨x, List.mem_cons_self, h, h1, fun y hy h4 => ?_⟩
        rcases List.mem_cons.1 hy with rfl | hy
        · exact Int.le_refl _
        · have := h2 y hy; omega
      · refine .inr ⟨y, List.mem_cons_of_mem _ hy, h1, h2, fun z hz h4 => ?_⟩
        rcases List.mem_cons.1 hz with rfl | hz
        · have := (hp.1 y hy).1; omega
        · exact h3 z hz h4
    · rw [if_neg h]
      rcases ih acc hp.2 with ⟨h1, h2⟩ | ⟨y, hy, h1, h2, h3⟩
      · refine .inl ⟨h1, fun y hy => ?_⟩
        rcases List.mem_cons.1 hy with rfl | hy
        · omega
        · exact h2 y hy
      · refine .inr ⟨y, List.mem_cons_of_mem _ hy, h1, h2, fun z hz h4 => ?_⟩
        rcases List.mem_cons.1 hz with rfl | hz
        · exact absurd h4 h
        · exact h3 z hz h4
theorem stair_of_ok {s : List St} (h : okB s = true) : Stair s := Classical.byContradiction fun hn => by rw [okB_false hn] at h; cases h
theorem atV_ok {s : List St} (h : okB s = true) (a : Int) : atV s a = arr a s := by unfold atV; rw [if_pos h]
end Go.Proofs.Ytfpfaaibgaejjaa.M
