/- Stairs: what StairOk, StairAt, StairLast (the program's and the reference's) come to. -/
import Derived.Test.YtfpfaaibgaejjaaY
import Derived.Test.YtfpfaaibgaejjaaMDraw
import Derived.Test.YtfpfaaibgaejjaaPrint0
import Derived.Test.YtfpfaaibgaejjaaPrintB
import Derived.Test.YtfpfaaibgaejjaaPrintF22
import Derived.Test.YtfpfaaibgaejjaaPrintF23
import Derived.Test.YtfpfaaibgaejjaaPrintF35
set_option linter.unusedVariables false
set_option linter.unusedSimpArgs false
namespace Go.Proofs.Ytfpfaaibgaejjaa.M
open Go.RowKit Go.Proofs.Ytfpfaaibgaejjaa.Print Go.Proofs.YtfpfaaibgaejjaaW.PrintWords Go.Proofs.YtfpfaaibgaejjaaW.PrintLast Go.Proofs.YtfpfaaibgaejjaaY
abbrev St := S36
abbrev stz : St := z36
theorem rdn (l : List St) (i : Nat) : rd_T36 l (i : Int) = l.getD i stz := by unfold rd_T36; rw [Int.toNat_natCast]
def Val (x : St) : Prop := 0 ≤ x.f0 ∧ x.f0 ≤ 199 ∧ x.f0 ≤ x.f1 ∧ x.f1 ≤ 199
def Lt2 (x y : St) : Prop := x.f0 < y.f0 ∧ x.f1 < y.f1
/-- A stair. -/
def Stair (l : List St) : Prop := (∀ x ∈ l, Val x) ∧ l.Pairwise Lt2 ∧ l.length ≤ 12
def Good (l : List St) (i : Nat) : Prop := Val (l.getD i stz) ∧ (0 < i → Lt2 (l.getD (i - 1) stz) (l.getD i stz))
theorem Lt2.trans {x y z : St} (h : Lt2 x y) (k : Lt2 y z) : Lt2 x z := ⟨by have := h.1; have := k.1; omega, by have := h.2; have := k.2; omega⟩
theorem getD_lt (l : List St) (i : Nat) (h : i < l.length) : l.getD i stz = l[i] := by rw [List.getD_eq_getElem?_getD, List.getElem?_eq_getElem h]; rfl
theorem stair_iff (l : List St) : Stair l ↔ (∀ j, j < l.length → Good l j) ∧ l.length ≤ 12 := by
  constructor
  · rintro ⟨hv, hp, hn⟩
    refine ⟨fun j hj => ⟨?_, fun h0 => ?_⟩, hn⟩
    · rw [getD_lt l j hj]; exact hv _ (List.getElem_mem _)
    · rw [getD_lt l j hj, getD_lt l (j - 1) (by omega)]
      exact List.pairwise_iff_getElem.mp hp (j - 1) j (by omega) hj (by omega)
  · rintro ⟨hg, hn⟩
    refine ⟨fun x hx => ?_, List.pairwise_iff_getElem.mpr ?_, hn⟩
    · obtain ⟨j, hj, rfl⟩ := List.getElem_of_mem hx
      have := (hg j hj).1
      rwa [getD_lt l j hj] at this
    · intro i j hi hj hij
      induction j with
      | zero => omega
      | succ j ih =>
        have h1 := (hg (j + 1) hj).2 (by omega)
        rw [Nat.add_sub_cancel, getD_lt l j (by omega), getD_lt l (j + 1) hj] at h1
        rcases Nat.lt_or_ge i j with h | h
        · exact (ih (by omega) h).trans h1
        · obtain rfl : i = j := by omega
          exact h1
open Classical in
noncomputable def okB (l : List St) : Bool := decide (Stair l)
open Classical in
theorem okB_true {l : List St} (h : Stair l) : okB l = true := by unfold okB; exact decide_eq_true h
open Classical in
theorem okB_false {l : List St} (h : ¬ Stair l) : okB l = false := by unfold okB; exact decide_eq_false h
theorem within_eq (a b c : Int) : impl_within.f a b c = some (decide (b ≤ a ∧ a ≤ c)) := by
  unfold impl_within.f
  by_cases h : b ≤ a
  · rw [if_pos h]; simp [h]
  · rw [if_neg h]; simp [h]
theorem l1In_eq (a b c : Int) : spec_l1In.f a b c = some (decide (b ≤ a ∧ a ≤ c)) := by
  unfold spec_l1In.f
  by_cases h : b ≤ a
  · rw [if_pos h]; simp [h]
  · rw [if_neg h]; simp [h]
theorem valid_eq (a b : Int) : impl_Step_valid.f a b = some (decide (0 ≤ a ∧ a ≤ 199 ∧ a ≤ b ∧ b ≤ 199)) := by
  unfold impl_Step_valid.f impl_timeOk.f
  simp only [within_eq, Option.bind_some]
  by_cases h : 0 ≤ a ∧ a ≤ 199
  · simp [h]
  · rw [if_neg (by simpa using h)]
    simp only [Option.some.injEq, Bool.false_eq, decide_eq_false_iff_not]
    exact fun h' => h ⟨h'.1, h'.2.1⟩
theorem iok_loop (l : List St) (hl : l.length ≤ 1000000000000) (d : Nat) : ∀ i : Nat, i ≤ l.length → l.length - i = d →
    ∃ r, Ev (fun k => impl_StairOk.l0 k l l (l.length : Int) (i : Int)) r ∧ (r = true ↔ (∀ j, i ≤ j → j < l.length → Good l j) ∧ l.length ≤ 12) := by
  induction d with
  | zero =>
    intro i hi hd
    refine ⟨_, Ev.step (fun k => impl_StairOk.l0.eq_2 _ _ _ _ _) (Ev.neg (by omega) (Ev.now _)), ?_⟩
    simp only [decide_eq_true_eq]
    exact ⟨fun h => ⟨fun j h1 h2 => by omega, by omega⟩, fun h => by omega⟩
  | succ d ih =>
    intro i hi hd
    obtain ⟨r, hr, hi2⟩ := ih (i + 1) (by omega) (by omega)
    have hw : wrap64 ((i : Int) + 1) = ((i + 1 : Nat) : Int) := by rw [w64 (by omega) (by omega)]; omega
    have next : ∀ {q : Nat → Option Bool}, Good l i → (∃ r, Ev q r ∧ (r = true ↔ (∀ j, i + 1 ≤ j → j < l.length → Good l j) ∧ l.length ≤ 12)) → ∃ r, Ev q r ∧ (r = true ↔ (∀ j, i ≤ j → j < l.length → Good l j) ∧ l.length ≤ 12) := by
      rintro q hg ⟨r, hr, h⟩
      refine ⟨r, hr, h.trans ⟨fun h => ⟨fun j h1 h2 => ?_, h.2⟩, fun h => ⟨fun j h1 h2 => h.1 j (by omega) h2, h.2⟩⟩⟩
      rcases Nat.lt_or_ge i j with h3 | h3
      · exact h.1 j h3 h2
      · obtain rfl : i = j := by omega
        exact hg
    have bad : ∀ {q : Nat → Option Bool}, ¬ Good l i → Ev q false → ∃ r, Ev q r ∧ (r = true ↔ (∀ j, i ≤ j → j < l.length → Good l j) ∧ l.length ≤ 12) := fun hg hq => ⟨false, hq, by simp; exact fun h => absurd (h i (Nat.le_refl _) (by omega)) hg⟩
    have start : ∀ {q : Nat → Option Bool} {r : Bool}, Ev q r → (∀ k, impl_StairOk.l0 (k + 1) l l (l.length : Int) (i : Int) = q k) → Ev (fun k => impl_StairOk.l0 k l l (l.length : Int) (i : Int)) r := fun h h2 => Ev.step h2 h
    by_cases hv : Val (l.getD i stz)
    · have hv' : impl_Step_valid.f (l.getD i stz).f0 (l.getD i stz).f1 = some true := by rw [valid_eq]; exact congrArg some (decide_eq_true hv)
      by_cases h0 : 0 < i
      · have e1 : wrap64 ((i : Int) - 1) = ((i - 1 : Nat) : Int) := by rw [w64 (by omega) (by omega)]; omega
        by_cases c1 : (l.getD (i - 1) stz).f0 ≥ (l.getD i stz).f0
        · refine bad (fun h => by have := (h.2 h0).1; omega) (Ev.step (fun k => impl_StairOk.l0.eq_2 _ _ _ _ _) ?_)
          rw [e1, rdn, rdn]
          exact Ev.pos (by omega) (Ev.pos (by omega) (Ev.pos (by omega) (Ev.bnd0 hv' (Ev.pos rfl (Ev.pos (by omega) (Ev.pos (by omega) (Ev.pos (by omega) (Ev.pos c1 (Ev.now _)))))))))
        · by_cases c2 : (l.getD (i - 1) stz).f1 ≥ (l.getD i stz).f1
          · refine bad (fun h => by have := (h.2 h0).2; omega) (Ev.step (fun k => impl_StairOk.l0.eq_2 _ _ _ _ _) ?_)
            rw [e1, rdn, rdn]
            exact Ev.pos (by omega) (Ev.pos (by omega) (Ev.pos (by omega) (Ev.bnd0 hv' (Ev.pos rfl (Ev.pos (by omega) (Ev.pos (by omega) (Ev.pos (by omega) (Ev.neg c1 (Ev.pos c2 (Ev.now _))))))))))
          · refine next ⟨hv, fun _ => ⟨by omega, by omega⟩⟩ ⟨r, Ev.step (fun k => impl_StairOk.l0.eq_2 _ _ _ _ _) ?_, hi2⟩
            rw [e1, rdn, rdn, hw]
            exact Ev.pos (by omega) (Ev.pos (by omega) (Ev.pos (by omega) (Ev.bnd0 hv' (Ev.pos rfl (Ev.pos (by omega) (Ev.pos (by omega) (Ev.pos (by omega) (Ev.neg c1 (Ev.neg c2 hr)))))))))
      · refine next ⟨hv, fun h => absurd h h0⟩ ⟨r, Ev.step (fun k => impl_StairOk.l0.eq_2 _ _ _ _ _) ?_, hi2⟩
        rw [rdn, hw]
        exact Ev.pos (by omega) (Ev.pos (by omega) (Ev.pos (by omega) (Ev.bnd0 hv' (Ev.pos rfl (Ev.neg (by omega) hr)))))
    · have hv' : impl_Step_valid.f (l.getD i stz).f0 (l.getD i stz).f1 = some false := by rw [valid_eq]; exact congrArg some (decide_eq_false hv)
      refine bad (fun h => hv h.1) (Ev.step (fun k => impl_StairOk.l0.eq_2 _ _ _ _ _) ?_)
      rw [rdn]
      exact Ev.pos (by omega) (Ev.pos (by omega) (Ev.pos (by omega) (Ev.bnd0 hv' (Ev.neg (by simp) (Ev.now _)))))
open Classical in
theorem okB_of {l : List St} {r : Bool} (h : r = true ↔ (∀ j, 0 ≤ j → j < l.length → Good l j) ∧ l.length ≤ 12) : r = okB l := by
  rw [Bool.eq_iff_iff, h]
  unfold okB
  rw [decide_eq_true_eq, stair_iff]
  exact ⟨fun h => ⟨fun j hj => h.1 j (Nat.zero_le _) hj, h.2⟩, fun h => ⟨fun j _ hj => h.1 j hj, h.2⟩⟩
theorem iok_ev (l : List St) (hl : l.length ≤ 1000000000000) : Ev (fun k => impl_StairOk.f k l) (okB l) := by
  obtain ⟨r, hr, h⟩ := iok_loop l hl l.length 0 (by omega) (by omega)
  exact okB_of h ▸ hr
theorem sok_loop (l : List St) (hl : l.length ≤ 1000000000000) (d : Nat) : ∀ i : Nat, i ≤ l.length → l.length - i = d →
    ∃ r, Ev (fun k => spec_l5Ok.l0 k l (i : Int)) r ∧ (r = true ↔ (∀ j, i ≤ j → j < l.length → Good l j) ∧ l.length ≤ 12) := by
  induction d with
  | zero =>
    intro i hi hd
    refine ⟨_, Ev.step (fun k => spec_l5Ok.l0.eq_2 _ _ _) (Ev.neg (by omega) (Ev.now _)), ?_⟩
    simp only [decide_eq_true_eq]
    exact ⟨fun h => ⟨fun j h1 h2 => by omega, by omega⟩, fun h => by omega⟩
  | succ d ih =>
    intro i hi hd
    obtain ⟨r, hr, hi2⟩ := ih (i + 1) (by omega) (by omega)
    have hw : wrap64 ((i : Int) + 1) = ((i + 1 : Nat) : Int) := by rw [w64 (by omega) (by omega)]; omega
    have next : ∀ {q : Nat → Option Bool}, Good l i → (∃ r, Ev q r ∧ (r = true ↔ (∀ j, i + 1 ≤ j → j < l.length → Good l j) ∧ l.length ≤ 12)) → ∃ r, Ev q r ∧ (r = true ↔ (∀ j, i ≤ j → j < l.length → Good l j) ∧ l.length ≤ 12) := by
      rintro q hg ⟨r, hr, h⟩
      refine ⟨r, hr, h.trans ⟨fun h => ⟨fun j h1 h2 => ?_, h.2⟩, fun h => ⟨fun j h1 h2 => h.1 j (by omega) h2, h.2⟩⟩⟩
      rcases Nat.lt_or_ge i j with h3 | h3
      · exact h.1 j h3 h2
      · obtain rfl : i = j := by omega
        exact hg
    have bad : ∀ {q : Nat → Option Bool}, ¬ Good l i → Ev q false → ∃ r, Ev q r ∧ (r = true ↔ (∀ j, i ≤ j → j < l.length → Good l j) ∧ l.length ≤ 12) := fun hg hq => ⟨false, hq, by simp; exact fun h => absurd (h i (Nat.le_refl _) (by omega)) hg⟩
    have u1 : spec_l1In.f (l.getD i stz).f0 0 199 = some (decide (0 ≤ (l.getD i stz).f0 ∧ (l.getD i stz).f0 ≤ 199)) := l1In_eq _ _ _
    have u2 : spec_l1In.f (l.getD i stz).f1 (l.getD i stz).f0 199 = some (decide ((l.getD i stz).f0 ≤ (l.getD i stz).f1 ∧ (l.getD i stz).f1 ≤ 199)) := l1In_eq _ _ _
    by_cases v1 : 0 ≤ (l.getD i stz).f0 ∧ (l.getD i stz).f0 ≤ 199
    · rw [decide_eq_true v1] at u1
      by_cases v2 : (l.getD i stz).f0 ≤ (l.getD i stz).f1 ∧ (l.getD i stz).f1 ≤ 199
      · rw [decide_eq_true v2] at u2
        have hv : Val (l.getD i stz) := ⟨v1.1, v1.2, v2.1, v2.2⟩
        by_cases h0 : 0 < i
        · have e1 : wrap64 ((i : Int) - 1) = ((i - 1 : Nat) : Int) := by rw [w64 (by omega) (by omega)]; omega
          by_cases c1 : (l.getD i stz).f0 ≤ (l.getD (i - 1) stz).f0
          · refine bad (fun h => by have := (h.2 h0).1; omega) (Ev.step (fun k => spec_l5Ok.l0.eq_2 _ _ _) ?_)
            rw [e1, rdn, rdn]
            exact Ev.pos (by omega) (Ev.pos (by omega) (Ev.bnd0 u1 (Ev.pos rfl (Ev.bnd0 u2 (Ev.pos rfl (Ev.pos (by omega) (Ev.pos (by omega) (Ev.pos (by omega) (Ev.pos c1 (Ev.now _))))))))))
          · by_cases c2 : (l.getD i stz).f1 ≤ (l.getD (i - 1) stz).f1
            · refine bad (fun h => by have := (h.2 h0).2; omega) (Ev.step (fun k => spec_l5Ok.l0.eq_2 _ _ _) ?_)
              rw [e1, rdn, rdn]
              exact Ev.pos (by omega) (Ev.pos (by omega) (Ev.bnd0 u1 (Ev.pos rfl (Ev.bnd0 u2 (Ev.pos rfl (Ev.pos (by omega) (Ev.pos (by omega) (Ev.pos (by omega) (Ev.neg c1 (Ev.pos c2 (Ev.now _)))))))))))
            · refine next ⟨hv, fun _ => ⟨by omega, by omega⟩⟩ ⟨r, Ev.step (fun k => spec_l5Ok.l0.eq_2 _ _ _) ?_, hi2⟩
              rw [e1, rdn, rdn, hw]
              exact Ev.pos (by omega) (Ev.pos (by omega) (Ev.bnd0 u1 (Ev.pos rfl (Ev.bnd0 u2 (Ev.pos rfl (Ev.pos (by omega) (Ev.pos (by omega) (Ev.pos (by omega) (Ev.neg c1 (Ev.neg c2 hr))))))))))
        · refine next ⟨hv, fun h => absurd h h0⟩ ⟨r, Ev.step (fun k => spec_l5Ok.l0.eq_2 _ _ _) ?_, hi2⟩
          rw [rdn, hw]
          exact Ev.pos (by omega) (Ev.pos (by omega) (Ev.bnd0 u1 (Ev.pos rfl (Ev.bnd0 u2 (Ev.pos rfl (Ev.neg (by omega) hr))))))
      · rw [decide_eq_false v2] at u2
        refine bad (fun h => v2 ⟨h.1.2.2.1, h.1.2.2.2⟩) (Ev.step (fun k => spec_l5Ok.l0.eq_2 _ _ _) ?_)
        rw [rdn]
        exact Ev.pos (by omega) (Ev.pos (by omega) (Ev.bnd0 u1 (Ev.pos rfl (Ev.bnd0 u2 (Ev.neg (by simp) (Ev.now _))))))
    · rw [decide_eq_false v1] at u1
      refine bad (fun h => v1 ⟨h.1.1, h.1.2.1⟩) (Ev.step (fun k => spec_l5Ok.l0.eq_2 _ _ _) ?_)
      rw [rdn]
      exact Ev.pos (by omega) (Ev.pos (by omega) (Ev.bnd0 u1 (Ev.neg (by simp) (Ev.now _))))
theorem sok_ev (l : List St) (hl : l.length ≤ 1000000000000) : Ev (fun k => spec_l5Ok.f k l) (okB l) := by
  obtain ⟨r, hr, h⟩ := sok_loop l hl l.length 0 (by omega) (by omega)
  exact okB_of h ▸ hr
/-- When one comes. -/
def arr (a : Int) : List St → Int
  | [] => 99999
  | x :: t => if x.f0 ≥ a then x.f1 else arr a t
theorem drop_cons (l : List St) (i : Nat) (h : i < l.length) : l.drop i = l.getD i stz :: l.drop (i + 1) := by rw [List.drop_eq_getElem_cons h, getD_lt l i h]
theorem arrival_loop (a : Int) (l : List St) (hl : l.length ≤ 1000000000000) (d : Nat) : ∀ i : Nat, i ≤ l.length → l.length - i = d → Ev (fun k => impl_arrival.l0 k a l (l.length : Int) (i : Int)) (arr a (l.drop i)) := by
  induction d with
  | zero =>
    intro i hi hd
    refine Ev.step (fun k => impl_arrival.l0.eq_2 _ _ _ _ _) (Ev.neg (by omega) (Ev.now' ?_))
    rw [List.drop_eq_nil_of_le (by omega)]; rfl
  | succ d ih =>
    intro i hi hd
    have hw : wrap64 ((i : Int) + 1) = ((i + 1 : Nat) : Int) := by rw [w64 (by omega) (by omega)]; omega
    refine Ev.step (fun k => impl_arrival.l0.eq_2 _ _ _ _ _) (Ev.pos (by omega) (Ev.pos (by omega) (Ev.pos (by omega) ?_)))
    rw [rdn, hw, drop_cons l i (by omega)]
    unfold arr
    by_cases c : (l.getD i stz).f0 ≥ a
    · rw [if_pos c]; exact Ev.pos c (Ev.now _)
    · rw [if_neg c]; exact Ev.neg c (ih (i + 1) (by omega) (by omega))
theorem arrival_ev (a : Int) (l : List St) (hl : l.length ≤ 1000000000000) : Ev (fun k => impl_arrival.f k l a) (arr a l) := arrival_loop a l hl l.length 0 (by omega) (by omega)
theorem sat_loop (a : Int) (l : List St) (hl : l.length ≤ 1000000000000) (d : Nat) : ∀ i : Nat, i ≤ l.length → l.length - i = d → Ev (fun k => spec_l5At.l0 k l a (i : Int)) (arr a (l.drop i)) := by
  induction d with
  | zero =>
    intro i hi hd
    refine Ev.step (fun k => spec_l5At.l0.eq_2 _ _ _ _) (Ev.neg (by omega) (Ev.now' ?_))
    rw [List.drop_eq_nil_of_le (by omega)]; rfl
  | succ d ih =>
    intro i hi hd
    have hw : wrap64 ((i : Int) + 1) = ((i + 1 : Nat) : Int) := by rw [w64 (by omega) (by omega)]; omega
    refine Ev.step (fun k => spec_l5At.l0.eq_2 _ _ _ _) (Ev.pos (by omega) (Ev.pos (by omega) ?_))
    rw [rdn, hw, drop_cons l i (by omega)]
    unfold arr
    by_cases c : (l.getD i stz).f0 ≥ a
    · rw [if_pos c]; exact Ev.pos c (Ev.now _)
    · rw [if_neg c]; exact Ev.neg c (ih (i + 1) (by omega) (by omega))
theorem sarr_ev (a : Int) (l : List St) (hl : l.length ≤ 1000000000000) : Ev (fun k => spec_l5At.f k l a) (arr a l) := sat_loop a l hl l.length 0 (by omega) (by omega)
noncomputable def atV (l : List St) (a : Int) : Int := if okB l = true then arr a l else -1
theorem iat_ev (a : Int) (l : List St) (hl : l.length ≤ 1000000000000) : Ev (fun k => impl_StairAt.f k l a) (atV l a) := by
  unfold impl_StairAt.f atV
  refine Ev.bnd (iok_ev l hl) ?_
  by_cases h : okB l = true
  · rw [if_pos h]; exact Ev.pos h (Ev.bnd (arrival_ev a l hl) (Ev.now _))
  · rw [if_neg h]; exact Ev.neg h (Ev.now _)
/-- Who goes at the latest. -/
def lst (b : Int) (acc : Int) : List St → Int
  | [] => acc
  | x :: t => lst b (if x.f1 ≤ b then x.f0 else acc) t
noncomputable def lastV (l : List St) (b : Int) : Int := if okB l = true then lst b (-1) l else -1
end Go.Proofs.Ytfpfaaibgaejjaa.M
