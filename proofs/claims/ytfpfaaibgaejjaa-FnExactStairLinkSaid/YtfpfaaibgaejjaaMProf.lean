/- Steps made one stair: plain. -/
import Derived.Test.YtfpfaaibgaejjaaY
import Derived.Test.YtfpfaaibgaejjaaMStair
import Derived.Test.YtfpfaaibgaejjaaMStairLaws
import Derived.Test.YtfpfaaibgaejjaaMTidy
import Derived.Test.YtfpfaaibgaejjaaPrintF51
set_option linter.unusedVariables false
set_option linter.unusedSimpArgs false
namespace Go.Proofs.Ytfpfaaibgaejjaa.M
open Go.RowKit Go.Proofs.Ytfpfaaibgaejjaa.Print Go.Proofs.YtfpfaaibgaejjaaW.PrintWords Go.Proofs.YtfpfaaibgaejjaaW.PrintLast Go.Proofs.YtfpfaaibgaejjaaY
/-- The least coming of those that go no earlier. -/
structure BstAt (a : Int) (l : List St) (v : Int) : Prop where
  hi : v ≤ 99999
  at_ : v = 99999 ∨ ∃ x ∈ l, x.f0 ≥ a ∧ x.f1 = v
  min : ∀ x ∈ l, x.f0 ≥ a → v ≤ x.f1
theorem bstFrom_spec (a : Int) (l : List St) : ∀ b, bstFrom a b l ≤ b ∧ (bstFrom a b l = b ∨ ∃ x ∈ l, x.f0 ≥ a ∧ x.f1 = bstFrom a b l) ∧ ∀ x ∈ l, x.f0 ≥ a → bstFrom a b l ≤ x.f1 := by
  induction l with
  | nil => intro b; exact ⟨Int.le_refl _, .inl rfl, fun x hx => by simp at hx⟩
  | cons y l ih =>
    intro b
    unfold bstFrom
    by_cases c : y.f0 ≥ a ∧ y.f1 < b
    · rw [if_pos c]
      obtain ⟨h1, h2, h3⟩ := ih y.f1
      refine ⟨by omega, ?_, fun x hx hx0 => ?_⟩
      · rcases h2 with h2 | ⟨x, hx, hx0, hx1⟩
        · exact .inr ⟨y, by simp, c.1, h2.symm⟩
        · exact .inr ⟨x, by simp [hx], hx0, hx1⟩
      · rcases List.mem_cons.1 hx with rfl | hx
        · exact h1
        · exact h3 x hx hx0
    · rw [if_neg c]
      obtain ⟨h1, h2, h3⟩ := ih b
      refine ⟨h1, ?_, fun x hx hx0 => ?_⟩
      · rcases h2 with h2 | ⟨x, hx, hx0, hx1⟩
        · exact .inl h2
        · exact .inr ⟨x, by simp [hx], hx0, hx1⟩
      · rcases List.mem_cons.1 hx with rfl | hx
        · have : ¬ x.f1 < b := fun h => c ⟨hx0, h⟩
          omega
        · exact h3 x hx hx0
theorem bst_at (a : Int) (l : List St) : BstAt a l (bst a l) := by
  obtain ⟨h1, h2, h3⟩ := bstFrom_spec a l 99999
  exact ⟨h1, h2, h3⟩
theorem BstAt.eq {a : Int} {l : List St} {v : Int} (h : BstAt a l v) (hf : ∀ x ∈ l, x.f1 ≤ 99999) : v = bst a l := by
  have g := bst_at a l
  rcases h.at_ with e | ⟨x, hx, hx0, hx1⟩ <;> rcases g.at_ with e' | ⟨y, hy, hy0, hy1⟩
  · omega
  · have := h.min y hy hy0; have := g.hi; omega
  · have := g.min x hx hx0; have := hf x hx; omega
  · have := g.min x hx hx0; have := h.min y hy hy0; omega
/-- Up in both. -/
def Up (s : List St) : Prop := (∀ x ∈ s, Val x) ∧ s.Pairwise Lt2
theorem Up.f1 {s : List St} (h : Up s) : ∀ x ∈ s, x.f1 ≤ 99999 := fun x hx => by have := (h.1 x hx).2.2.2; omega
theorem val_f1 {s : List St} (h : ∀ x ∈ s, Val x) : ∀ x ∈ s, x.f1 ≤ 99999 := fun x hx => by have := (h x hx).2.2.2; omega
theorem up_arr {s : List St} (h : Up s) (a : Int) : arr a s = bst a s := by
  refine BstAt.eq ?_ h.f1
  rcases arr_cases a s with ⟨e, hn⟩ | ⟨x, hx, hx0, hx1⟩
  · exact ⟨by omega, .inl e, fun x hx hx0 => by have := hn x hx; omega⟩
  · exact ⟨by have := h.f1 x hx; omega, .inr ⟨x, hx, hx0, hx1.symm⟩, arr_min a s h.2⟩
theorem bst_congr {a b : Int} {l l' : List St} (hl : ∀ x ∈ l, x.f1 ≤ 99999) (hl' : ∀ x ∈ l', x.f1 ≤ 99999) (h1 : ∀ x ∈ l, x.f0 ≥ a → ∃ y ∈ l', y.f0 ≥ b ∧ y.f1 ≤ x.f1) (h2 : ∀ y ∈ l', y.f0 ≥ b → ∃ x ∈ l, x.f0 ≥ a ∧ x.f1 ≤ y.f1) : bst a l = bst b l' := by
  have g := bst_at a l
  have g' := bst_at b l'
  have k1 : bst b l' ≤ bst a l := by
    rcases g.at_ with e | ⟨x, hx, hx0, hx1⟩
    · have := g'.hi; omega
    · obtain ⟨y, hy, hy0, hy1⟩ := h1 x hx hx0
      have := g'.min y hy hy0; omega
  have k2 : bst a l ≤ bst b l' := by
    rcases g'.at_ with e | ⟨x, hx, hx0, hx1⟩
    · have := g.hi; omega
    · obtain ⟨y, hy, hy0, hy1⟩ := h2 x hx hx0
      have := g.min y hy hy0; omega
  omega
theorem bst_mem {a : Int} {l l' : List St} (h : ∀ x, x ∈ l ↔ x ∈ l') (hl : ∀ x ∈ l, x.f1 ≤ 99999) : bst a l = bst a l' :=
  bst_congr hl (fun x hx => hl x ((h x).2 hx)) (fun x hx h0 => ⟨x, (h x).1 hx, h0, Int.le_refl _⟩) (fun x hx h0 => ⟨x, (h x).2 hx, h0, Int.le_refl _⟩)
theorem bst_mono {a b : Int} {l : List St} (hab : a ≤ b) : bst a l ≤ bst b l := by
  rcases (bst_at b l).at_ with e | ⟨x, hx, hx0, hx1⟩
  · have := (bst_at a l).hi; omega
  · have := (bst_at a l).min x hx (by omega); omega
/-- What comes the same at each time is the same. -/
theorem up_uniq : ∀ {s t : List St} (lo : Int), Up s → Up t → (∀ x ∈ s, lo ≤ x.f0) → (∀ x ∈ t, lo ≤ x.f0) → (∀ a, lo ≤ a → arr a s = arr a t) → s = t := by
  have far : ∀ {x : St} {t : List St} {lo : Int}, Up (x :: t) → (∀ y ∈ x :: t, lo ≤ y.f0) → arr lo (x :: t) = x.f1 := fun {x t lo} h hl => by
    unfold arr; rw [if_pos (hl x (by simp))]
  intro s
  induction s with
  | nil =>
    intro t lo hs ht hls hlt h
    cases t with
    | nil => rfl
    | cons y t =>
      have e := h lo (Int.le_refl _)
      rw [far ht hlt] at e
      have := (ht.1 y (by simp)).2.2.2
      have : arr lo ([] : List St) = 99999 := rfl
      omega
  | cons x s ih =>
    intro t lo hs ht hls hlt h
    cases t with
    | nil =>
      have e := h lo (Int.le_refl _)
      rw [far hs hls] at e
      have := (hs.1 x (by simp)).2.2.2
      have : arr lo ([] : List St) = 99999 := rfl
      omega
    | cons y t =>
      have e := h lo (Int.le_refl _)
      rw [far hs hls, far ht hlt] at e
      have ps := List.pairwise_cons.1 hs.2
      have pt := List.pairwise_cons.1 ht.2
      have us : Up s := ⟨fun z hz => hs.1 z (by simp [hz]), ps.2⟩
      have ut : Up t := ⟨fun z hz => ht.1 z (by simp [hz]), pt.2⟩
      have nxt : ∀ {x y : St} {s t : List St}, Up (x :: s) → Up (y :: t) → x.f0 < y.f0 → x.f1 = y.f1 → lo ≤ x.f0 → (∀ a, lo ≤ a → arr a (x :: s) = arr a (y :: t)) → False := fun {x y s t} hs ht c e hl h => by
        have e2 := h (x.f0 + 1) (by omega)
        have ps := List.pairwise_cons.1 hs.2
        have : arr (x.f0 + 1) (y :: t) = y.f1 := by unfold arr; rw [if_pos (by omega)]
        have e3 : arr (x.f0 + 1) (x :: s) = arr (x.f0 + 1) s := by rw [arr, if_neg (by omega)]
        have := (hs.1 x (by simp)).2.2.2
        rcases arr_cases (x.f0 + 1) s with ⟨e4, _⟩ | ⟨z, hz, _, hz1⟩
        · omega
        · have := (ps.1 z hz).2; omega
      have e0 : x.f0 = y.f0 := by
        rcases Int.lt_trichotomy x.f0 y.f0 with c | c | c
        · exact (nxt hs ht c e (hls x (by simp)) h).elim
        · exact c
        · exact (nxt ht hs c e.symm (hlt y (by simp)) (fun a ha => (h a ha).symm)).elim
      have exy : x = y := by
        obtain ⟨x0, x1⟩ := x
        obtain ⟨y0, y1⟩ := y
        have e0' : x0 = y0 := e0
        have e' : x1 = y1 := e
        rw [e0', e']
      have es := ih (lo := x.f0 + 1) us ut (fun z hz => by have := (ps.1 z hz).1; omega) (fun z hz => by have := (pt.1 z hz).1; omega) (fun a ha => by
        have e2 := h a (by have := hls x (by simp); omega)
        rw [arr, if_neg (by omega)] at e2
        rw [show arr a (y :: t) = arr a t from by rw [arr, if_neg (by omega)]] at e2
        exact e2)
      rw [exy, es]
theorem up_eq {s t : List St} (hs : Up s) (ht : Up t) (h : ∀ a, 0 ≤ a → bst a s = bst a t) : s = t :=
  up_uniq 0 hs ht (fun x hx => (hs.1 x hx).1) (fun x hx => (ht.1 x hx).1) (fun a ha => by rw [up_arr hs, up_arr ht]; exact h a ha)
/-! ### The program's way -/
def Aft (x y : St) : Prop := y.f0 < x.f0 ∨ (x.f0 = y.f0 ∧ x.f1 ≤ y.f1)
def stp (acc : List St) (x : St) : List St := match acc with
  | [] => [x]
  | h :: t => if x.f1 < h.f1 then x :: h :: t else h :: t
theorem prf_inv : ∀ (l acc P : List St), (P ++ l).Pairwise Aft → (∀ x ∈ P ++ l, Val x) → Up acc → (∀ x ∈ acc, x ∈ P) → (acc = [] → P = []) → (∀ a, BstAt a P (arr a acc)) → (∀ h t, acc = h :: t → ∀ p ∈ P, h.f1 ≤ p.f1) →
    Up (l.foldl stp acc) ∧ (∀ a, BstAt a (P ++ l) (arr a (l.foldl stp acc))) ∧ (∀ x ∈ l.foldl stp acc, x ∈ P ++ l) ∧ (l.foldl stp acc).length ≤ acc.length + l.length := by
  intro l
  induction l with
  | nil =>
    intro acc P _ _ hu hm _ hb _
    rw [List.append_nil]
    exact ⟨hu, hb, hm, by simp⟩
  | cons x l ih =>
    intro acc P hs hv hu hm he hb hn
    have hx : Val x := hv x (by simp)
    have hsx : ∀ p ∈ P, Aft p x := fun p hp => (List.pairwise_append.1 hs).2.2 p hp x (by simp)
    have eq : P ++ x :: l = (P ++ [x]) ++ l := by simp
    rw [List.foldl_cons]
    rw [eq] at hs hv ⊢
    have fin : ∀ acc', Up acc' → (∀ z ∈ acc', z ∈ P ++ [x]) → (acc' = [] → P ++ [x] = []) → (∀ a, BstAt a (P ++ [x]) (arr a acc')) → (∀ h t, acc' = h :: t → ∀ p ∈ P ++ [x], h.f1 ≤ p.f1) → acc'.length ≤ acc.length + 1 → Up (l.foldl stp acc') ∧ (∀ a, BstAt a ((P ++ [x]) ++ l) (arr a (l.foldl stp acc'))) ∧ (∀ z ∈ l.foldl stp acc', z ∈ (P ++ [x]) ++ l) ∧ (l.foldl stp acc').length ≤ acc.length + (x :: l).length := fun acc' h1 h2 h3 h4 h5 h6 => by
      obtain ⟨g1, g2, g3, g4⟩ := ih acc' (P ++ [x]) hs hv h1 h2 h3 h4 h5
      exact ⟨g1, g2, g3, by rw [List.length_cons]; omega⟩
    cases acc with
    | nil =>
      have := he rfl
      subst this
      refine fin [x] ⟨fun z hz => by simp at hz; subst hz; exact hx, by simp⟩ (by simp) (by simp) (fun a => ?_) (fun h t e p hp => by simp at e hp; rw [hp, ← e.1]; exact Int.le_refl _) (by simp)
      by_cases c : x.f0 ≥ a
      · rw [show arr a [x] = x.f1 from by unfold arr; rw [if_pos c]]
        exact ⟨by have := hx.2.2.2; omega, .inr ⟨x, by simp, c, rfl⟩, fun z hz _ => by simp at hz; subst hz; exact Int.le_refl _⟩
      · rw [show arr a [x] = 99999 from by unfold arr; rw [if_neg c]; rfl]
        exact ⟨by omega, .inl rfl, fun z hz h0 => by simp at hz; subst hz; exact absurd h0 c⟩
    | cons h t =>
      have hP := hm h (by simp)
      have hmin := hn h t rfl
      by_cases c : x.f1 < h.f1
      · rw [show stp (h :: t) x = x :: h :: t from if_pos c]
        have pc := List.pairwise_cons.1 hu.2
        have hlt : Lt2 x h := ⟨by rcases hsx h hP with e | ⟨_, e⟩ <;> omega, c⟩
        refine fin (x :: h :: t) ⟨fun z hz => ?_, ?_⟩ (fun z hz => ?_) (by simp) (fun a => ?_) (fun h' t' e p hp => ?_) (by simp)
        · rcases List.mem_cons.1 hz with rfl | hz
          · exact hx
          · exact hu.1 z hz
        · refine List.pairwise_cons.2 ⟨fun z hz => ?_, hu.2⟩
          rcases List.mem_cons.1 hz with rfl | hz
          · exact hlt
          · exact hlt.trans (pc.1 z hz)
        · rcases List.mem_cons.1 hz with rfl | hz
          · simp
          · simp [hm z hz]
        · have g := hb a
          by_cases c0 : x.f0 ≥ a
          · rw [show arr a (x :: h :: t) = x.f1 from by rw [arr, if_pos c0]]
            refine ⟨by have := hx.2.2.2; omega, .inr ⟨x, by simp, c0, rfl⟩, fun z hz _ => ?_⟩
            rcases List.mem_append.1 hz with hz | hz
            · have := hmin z hz; omega
            · simp at hz; subst hz; exact Int.le_refl _
          · rw [show arr a (x :: h :: t) = arr a (h :: t) from by rw [arr, if_neg c0]]
            refine ⟨g.hi, ?_, fun z hz h0 => ?_⟩
            · rcases g.at_ with e | ⟨z, hz, h0, h1⟩
              · exact .inl e
              · exact .inr ⟨z, by simp [hz], h0, h1⟩
            · rcases List.mem_append.1 hz with hz | hz
              · exact g.min z hz h0
              · simp at hz; subst hz; exact absurd h0 c0
        · injection e with e _
          subst e
          rcases List.mem_append.1 hp with hp | hp
          · have := hmin p hp; omega
          · simp at hp; subst hp; exact Int.le_refl _
      · rw [show stp (h :: t) x = h :: t from if_neg c]
        refine fin (h :: t) hu (fun z hz => by simp [hm z hz]) (by simp) (fun a => ?_) (fun h' t' e p hp => ?_) (by simp)
        · have g := hb a
          refine ⟨g.hi, ?_, fun z hz h0 => ?_⟩
          · rcases g.at_ with e | ⟨z, hz, h0, h1⟩
            · exact .inl e
            · exact .inr ⟨z, by simp [hz], h0, h1⟩
          · rcases List.mem_append.1 hz with hz | hz
            · exact g.min z hz h0
            · simp at hz; subst hz
              have hh : h.f0 ≥ a := by rcases hsx h hP with e | ⟨e, _⟩ <;> omega
              rw [show arr a (h :: t) = h.f1 from by rw [arr, if_pos hh]]
              omega
        · injection e with e _
          subst e
          rcases List.mem_append.1 hp with hp | hp
          · exact hmin p hp
          · simp at hp; subst hp; omega
/-- The program's stair of steps. -/
def prof (l : List St) : List St := (l.mergeSort fun x y => !(ltOf so_key) y x).foldl stp []
theorem srt_aft (l : List St) : (l.mergeSort fun x y => !(ltOf so_key) y x).Pairwise Aft := by
  have h := List.pairwise_mergeSort (le := fun x y : St => !(ltOf so_key) y x) (fun x y z h1 h2 => by rw [so_lt] at *; simp at *; omega) (fun x y => by rw [so_lt, so_lt]; simp; omega) l
  refine h.imp (fun {x y} hxy => ?_)
  rw [so_lt] at hxy
  simp at hxy
  unfold Aft
  omega
theorem prof_facts {l : List St} (hv : ∀ x ∈ l, Val x) : Up (prof l) ∧ (∀ a, bst a (prof l) = bst a l) ∧ (∀ x ∈ prof l, x ∈ l) ∧ (prof l).length ≤ l.length := by
  have hm : ∀ x, x ∈ (l.mergeSort fun x y => !(ltOf so_key) y x) ↔ x ∈ l := fun x => List.mem_mergeSort
  obtain ⟨h1, h2, h3, h4⟩ := prf_inv (l.mergeSort fun x y => !(ltOf so_key) y x) [] [] (by rw [List.nil_append]; exact srt_aft l) (fun x hx => hv x ((hm x).1 (by simpa using hx))) ⟨fun x hx => by simp at hx, List.Pairwise.nil⟩ (by simp) (fun _ => rfl) (fun a => ⟨Int.le_refl _, .inl rfl, fun x hx => by simp at hx⟩) (fun h t e => by cases e)
  rw [List.nil_append] at h2 h3
  have hp : (l.mergeSort fun x y => !(ltOf so_key) y x).foldl stp [] = prof l := rfl
  rw [hp] at h1 h3 h4
  simp only [hp] at h2
  refine ⟨h1, fun a => ?_, fun x hx => (hm x).1 (h3 x hx), by rw [List.length_mergeSort] at h4; simpa using h4⟩
  rw [← up_arr h1, (h2 a).eq (fun x hx => val_f1 hv x ((hm x).1 hx))]
  exact bst_mem hm (fun x hx => val_f1 hv x ((hm x).1 hx))
/-! ### The reference's way -/
theorem tid_inv {l : List St} (hv : ∀ x ∈ l, Val x) (n : Nat) : ∀ (out : List St) (a : Int), 0 ≤ a → a + n = 200 → Up out → (∀ x ∈ out, x.f0 < a) → (∀ b, 0 ≤ b → b < a → bst b out = bst b l) → ((out = [] ∧ a = 0) ∨ ∃ i z, out = i ++ [z] ∧ z.f0 = a - 1 ∧ z.f1 = bst (a - 1) l) →
    Up (tid l n out a) ∧ ∀ b, 0 ≤ b → bst b (tid l n out a) = bst b l := by
  induction n with
  | zero =>
    intro out a h0 h1 hu hl hb _
    refine ⟨hu, fun b hb0 => ?_⟩
    show bst b out = _
    by_cases c : b < a
    · exact hb b hb0 c
    · exact bst_congr hu.f1 (val_f1 hv) (fun x hx hx0 => by have := hl x hx; omega) (fun x hx hx0 => by have := (hv x hx).2.1; omega)
  | succ n ih =>
    intro out a h0 h1 hu hl hb hz
    have g := bst_at a l
    by_cases c : bst a l = 99999
    · rw [tid_stop l n out a c]
      refine ⟨hu, fun b hb0 => ?_⟩
      by_cases c2 : b < a
      · exact hb b hb0 c2
      · have e1 : bst b out = 99999 := by
          rcases (bst_at b out).at_ with e | ⟨x, hx, hx0, _⟩
          · exact e
          · have := hl x hx; omega
        have := bst_mono (l := l) (show a ≤ b by omega)
        have := (bst_at b l).hi
        omega
    · obtain ⟨w, hw, hw0, hw1⟩ : ∃ x ∈ l, x.f0 ≥ a ∧ x.f1 = bst a l := g.at_.resolve_left c
      have vw := hv w hw
      have v1 := vw.2.1
      have v2 := vw.2.2.1
      have v3 := vw.2.2.2
      have vnew : Val ⟨a, bst a l⟩ := ⟨h0, by show a ≤ 199; omega, by show a ≤ bst a l; omega, by show bst a l ≤ 199; omega⟩
      have anew : ∀ (i : List St), (∀ x ∈ i, x.f0 < a) → (∀ x ∈ i ++ [(⟨a, bst a l⟩ : St)], x.f1 ≤ 99999) → bst a (i ++ [⟨a, bst a l⟩]) = bst a l := fun i hi hf => by
        refine bst_congr hf (val_f1 hv) (fun x hx hx0 => ?_) (fun x hx hx0 => ⟨⟨a, bst a l⟩, by simp, Int.le_refl _, g.min x hx hx0⟩)
        rcases List.mem_append.1 hx with hx | hx
        · have := hi x hx; omega
        · simp at hx; subst hx; exact ⟨w, hw, hw0, by show w.f1 ≤ bst a l; omega⟩
      by_cases c2 : 0 < out.length ∧ lastC out = bst a l
      · rw [tid_low l n out a c c2]
        rcases hz with ⟨e, _⟩ | ⟨i, z, e, z0, z1⟩
        · rw [e] at c2; simp at c2
        · have hlast : lastC out = z.f1 := by unfold lastC; rw [e]; simp
          have es : out.set (out.length - 1) ⟨a, bst a l⟩ = i ++ [⟨a, bst a l⟩] := by rw [e]; simp
          rw [es]
          have ez : z.f1 = bst a l := by omega
          have pa := List.pairwise_append.1 (e ▸ hu.2)
          have hi : ∀ x ∈ i, Lt2 x z := fun x hx => pa.2.2 x hx z (by simp)
          have un : Up (i ++ [⟨a, bst a l⟩]) := by
            refine ⟨fun x hx => ?_, ?_⟩
            · rcases List.mem_append.1 hx with hx | hx
              · exact hu.1 x (by rw [e]; simp [hx])
              · simp at hx; subst hx; exact vnew
            · refine List.pairwise_append.2 ⟨pa.1, by simp, fun x hx y hy => ?_⟩
              simp at hy; subst hy
              have := hi x hx
              exact ⟨by show x.f0 < a; have := this.1; omega, by show x.f1 < bst a l; have := this.2; omega⟩
          refine ih _ (a + 1) (by omega) (by omega) un (fun x hx => ?_) (fun b hb0 hb1 => ?_) (.inr ⟨i, ⟨a, bst a l⟩, rfl, by show a = _; omega, by show bst a l = _; rw [show a + 1 - 1 = a by omega]⟩)
          · rcases List.mem_append.1 hx with hx | hx
            · have := hl x (by rw [e]; simp [hx]); omega
            · simp at hx; subst hx; show a < _; omega
          · by_cases c3 : b < a
            · rw [← hb b hb0 c3]
              refine bst_congr un.f1 hu.f1 (fun x hx hx0 => ?_) (fun x hx hx0 => ?_)
              · rcases List.mem_append.1 hx with hx | hx
                · exact ⟨x, by rw [e]; simp [hx], hx0, Int.le_refl _⟩
                · simp at hx; subst hx; exact ⟨z, by rw [e]; simp, by omega, by show z.f1 ≤ bst a l; omega⟩
              · rw [e] at hx
                rcases List.mem_append.1 hx with hx | hx
                · exact ⟨x, by simp [hx], hx0, Int.le_refl _⟩
                · simp at hx; subst hx; exact ⟨⟨a, bst a l⟩, by simp, by show a ≥ b; omega, by show bst a l ≤ _; omega⟩
            · have : b = a := by omega
              subst this
              exact anew i (fun x hx => by have := (hi x hx).1; omega) un.f1
      · rw [tid_new l n out a c c2]
        have ho : ∀ x ∈ out, x.f1 < bst a l := fun x hx => by
          rcases hz with ⟨e, _⟩ | ⟨i, z, e, z0, z1⟩
          · rw [e] at hx; simp at hx
          · have hlast : lastC out = z.f1 := by unfold lastC; rw [e]; simp
            have hne : ¬ z.f1 = bst a l := fun e2 => c2 ⟨by rw [e]; simp, by rw [hlast]; exact e2⟩
            have hm := bst_mono (l := l) (show a - 1 ≤ a by omega)
            have pa := List.pairwise_append.1 (e ▸ hu.2)
            rw [e] at hx
            rcases List.mem_append.1 hx with hx | hx
            · have := (pa.2.2 x hx z (by simp)).2; omega
            · simp at hx; subst hx; omega
        have un : Up (out ++ [⟨a, bst a l⟩]) := by
          refine ⟨fun x hx => ?_, ?_⟩
          · rcases List.mem_append.1 hx with hx | hx
            · exact hu.1 x hx
            · simp at hx; subst hx; exact vnew
          · refine List.pairwise_append.2 ⟨hu.2, by simp, fun x hx y hy => ?_⟩
            simp at hy; subst hy
            exact ⟨hl x hx, ho x hx⟩
        refine ih _ (a + 1) (by omega) (by omega) un (fun x hx => ?_) (fun b hb0 hb1 => ?_) (.inr ⟨out, ⟨a, bst a l⟩, rfl, by show a = _; omega, by show bst a l = _; rw [show a + 1 - 1 = a by omega]⟩)
        · rcases List.mem_append.1 hx with hx | hx
          · have := hl x hx; omega
          · simp at hx; subst hx; show a < _; omega
        · by_cases c3 : b < a
          · have e1 := hb b hb0 c3
            have hm := bst_mono (l := l) (show b ≤ a by omega)
            have k := bst_at b out
            rw [e1] at k
            refine (BstAt.eq ⟨(bst_at b l).hi, ?_, fun x hx hx0 => ?_⟩ un.f1).symm
            · rcases k.at_ with e | ⟨x, hx, hx0, hx1⟩
              · exact .inl e
              · exact .inr ⟨x, by simp [hx], hx0, hx1⟩
            · rcases List.mem_append.1 hx with hx | hx
              · exact k.min x hx hx0
              · simp at hx; subst hx; show bst b l ≤ bst a l; exact hm
          · have : b = a := by omega
            subst this
            exact anew out hl un.f1
theorem tidied_facts {l : List St} (hv : ∀ x ∈ l, Val x) : Up (tidied l) ∧ ∀ b, 0 ≤ b → bst b (tidied l) = bst b l :=
  tid_inv hv 200 [] 0 (by omega) (by omega) ⟨fun x hx => by simp at hx, List.Pairwise.nil⟩ (by simp) (fun b h0 h1 => by omega) (.inl ⟨rfl, rfl⟩)
/-- The two ways make the same. -/
theorem tidied_prof {l : List St} (hv : ∀ x ∈ l, Val x) : tidied l = prof l := by
  obtain ⟨h1, h2⟩ := tidied_facts hv
  obtain ⟨g1, g2, _⟩ := prof_facts hv
  exact up_eq h1 g1 (fun a ha => by rw [h2 a ha, g2 a])
end Go.Proofs.Ytfpfaaibgaejjaa.M
