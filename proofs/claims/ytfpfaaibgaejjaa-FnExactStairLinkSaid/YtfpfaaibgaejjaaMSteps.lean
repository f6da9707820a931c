/- Stairs copied, compared; stairs with regular departures. -/
import Derived.Test.YtfpfaaibgaejjaaY
import Derived.Test.YtfpfaaibgaejjaaMDraw
import Derived.Test.YtfpfaaibgaejjaaMStair
import Derived.Test.YtfpfaaibgaejjaaPrint0
import Derived.Test.YtfpfaaibgaejjaaPrintB
import Derived.Test.YtfpfaaibgaejjaaPrintF11
import Derived.Test.YtfpfaaibgaejjaaPrintF12
import Derived.Test.YtfpfaaibgaejjaaPrintF13
import Derived.Test.YtfpfaaibgaejjaaPrintF21
set_option linter.unusedVariables false
set_option linter.unusedSimpArgs false
namespace Go.Proofs.Ytfpfaaibgaejjaa.M
open Go.RowKit Go.Proofs.Ytfpfaaibgaejjaa.Print Go.Proofs.YtfpfaaibgaejjaaW.PrintWords Go.Proofs.YtfpfaaibgaejjaaW.PrintLast Go.Proofs.YtfpfaaibgaejjaaY
abbrev Lst := S49
def conv (x : Lst) : St := ⟨x.f0, x.f1⟩
theorem rdL (l : List Lst) (i : Nat) (h : i < l.length) : rd_T49 l (i : Int) = l[i] := by
  unfold rd_T49; rw [Int.toNat_natCast, List.getD_eq_getElem?_getD, List.getElem?_eq_getElem h]; rfl
theorem toS_loop (l : List Lst) (hl : l.length ≤ 1000000000000) (d : Nat) : ∀ i : Nat, i ≤ l.length → l.length - i = d →
    Ev (fun k => laws_toStepS.l0 k l ((l.take i).map conv ++ List.replicate (l.length - i) stz) (i : Int)) (l.map conv) := by
  induction d with
  | zero =>
    intro i hi hd
    refine Ev.step (fun k => laws_toStepS.l0.eq_2 _ _ _ _) (Ev.neg (by omega) (Ev.now' ?_))
    rw [hd, List.take_of_length_le (by omega)]; simp
  | succ d ih =>
    intro i hi hd
    have hw : wrap64 ((i : Int) + 1) = ((i + 1 : Nat) : Int) := by rw [w64 (by omega) (by omega)]; omega
    have hlen : ((l.take i).map conv ++ List.replicate (l.length - i) stz).length = l.length := by simp; omega
    refine Ev.step (fun k => laws_toStepS.l0.eq_2 _ _ _ _) (Ev.pos (by omega) (Ev.pos (by omega) (Ev.bnd0 (laws_toStep.f.eq_1 _ _) ?_)))
    rw [hw, rdL l i (by omega), Int.toNat_natCast]
    refine Ev.pos (by rw [hlen]; omega) ?_
    have h := ih (i + 1) (by omega) (by omega)
    have e : ((l.take i).map conv ++ List.replicate (l.length - i) stz).set i ⟨l[i].f0, l[i].f1⟩ = (l.take (i + 1)).map conv ++ List.replicate (l.length - (i + 1)) stz := by
      have h1 : ((l.take i).map conv).length = i := by simp; omega
      rw [List.set_append_right _ _ (by omega), h1, Nat.sub_self, show l.length - i = (l.length - (i + 1)) + 1 by omega, List.replicate_succ, List.set_cons_zero, List.take_succ_eq_append_getElem (by omega), List.map_append]
      simp [conv]
    rw [e]
    exact h
theorem toS_ev (l : List Lst) (hl : l.length ≤ 1000000000) : Ev (fun k => laws_toStepS.f k l) (l.map conv) := by
  unfold laws_toStepS.f
  refine Ev.pos (by omega) (Ev.pos (by omega) ?_)
  have h := toS_loop l (by omega) l.length 0 (by omega) (by omega)
  rw [show ((0 : Nat) : Int) = 0 from rfl] at h
  rw [Int.toNat_natCast]
  exact h
theorem sz_eq (l : List Lst) (hm : l.length ≤ maxLen) : ∃ r, laws_szStepS.f l 1048576 = some r ∧ (r < 0 ∨ l.length ≤ 1048576) := by
  unfold maxLen at hm
  unfold laws_szStepS.f
  rw [w64 (x := 1048576 - (l.length : Int)) (by omega) (by omega)]
  by_cases h : 1048576 - (l.length : Int) < 0
  · rw [if_pos h]; exact ⟨_, rfl, .inl (by omega)⟩
  · rw [if_neg h]; exact ⟨_, rfl, .inr (by omega)⟩
theorem eqS_loop (l : List St) (hl : l.length ≤ 1000000000000) (d : Nat) : ∀ i : Nat, i ≤ l.length → l.length - i = d → Ev (fun k => laws_eqStepS.l0 k l l (i : Int)) true := by
  induction d with
  | zero => intro i hi hd; exact Ev.step (fun k => laws_eqStepS.l0.eq_2 _ _ _ _) (Ev.neg (by omega) (Ev.now _))
  | succ d ih =>
    intro i hi hd
    have hw : wrap64 ((i : Int) + 1) = ((i + 1 : Nat) : Int) := by rw [w64 (by omega) (by omega)]; omega
    refine Ev.step (fun k => laws_eqStepS.l0.eq_2 _ _ _ _) (Ev.pos (by omega) (Ev.pos (by omega) (Ev.pos (by omega) (Ev.bnd0 (a := true) ?_ (Ev.pos rfl ?_)))))
    · unfold laws_eqStep.f; rw [if_pos rfl, if_pos rfl]
    · rw [hw]; exact ih (i + 1) (by omega) (by omega)
theorem eqS_ev (l : List St) (hl : l.length ≤ 1000000000000) : Ev (fun k => laws_eqStepS.f k l l) true := by
  unfold laws_eqStepS.f
  exact Ev.pos rfl (eqS_loop l hl l.length 0 (by omega) (by omega))
theorem wkS_loop (l : List St) (hl : l.length ≤ 1000000000000) (d : Nat) : ∀ i : Nat, i ≤ l.length → l.length - i = d → Ev (fun k => laws_wkSteps.l0 k l l (i : Int)) true := by
  induction d with
  | zero => intro i hi hd; exact Ev.step (fun k => laws_wkSteps.l0.eq_2 _ _ _ _) (Ev.neg (by omega) (Ev.now _))
  | succ d ih =>
    intro i hi hd
    have hw : wrap64 ((i : Int) + 1) = ((i + 1 : Nat) : Int) := by rw [w64 (by omega) (by omega)]; omega
    refine Ev.step (fun k => laws_wkSteps.l0.eq_2 _ _ _ _) (Ev.pos (by omega) (Ev.pos (by omega) (Ev.pos (by omega) (Ev.neg (by simp) ?_))))
    rw [hw]; exact ih (i + 1) (by omega) (by omega)
theorem wkS_ev (l : List St) (hl : l.length ≤ 1000000000000) : Ev (fun k => laws_wkSteps.f k l l) true := by
  unfold laws_wkSteps.f
  exact Ev.pos rfl (wkS_loop l hl l.length 0 (by omega) (by omega))
/-- Steps from a time on, each so many. -/
def wkl (long every : Int) : Nat → Int → List St
  | 0, _ => []
  | n + 1, a => if a + long ≤ 199 then ⟨a, a + long⟩ :: wkl long every n (a + every) else []
theorem iwalk_loop (long every : Int) (h0 : 0 ≤ long) (h1 : long ≤ 199) (h2 : 1 ≤ every) (h3 : every ≤ 199) (n : Nat) : ∀ (out : List St) (a : Int), 0 ≤ a → a ≤ 398 → out.length + n = 12 →
    Ev (fun k => impl_StairWalk.l0 k long every out a) (out ++ wkl long every n a) := by
  induction n with
  | zero =>
    intro out a ha hb hn
    refine Ev.step (fun k => impl_StairWalk.l0.eq_2 _ _ _ _ _) ?_
    rw [w64 (x := a + long) (by omega) (by omega)]
    refine Ev.ite (fun _ => Ev.neg (by omega) (Ev.now' (by simp [wkl]))) (fun _ => Ev.now' (by simp [wkl]))
  | succ n ih =>
    intro out a ha hb hn
    refine Ev.step (fun k => impl_StairWalk.l0.eq_2 _ _ _ _ _) ?_
    rw [w64 (x := a + long) (by omega) (by omega), w64 (x := a + every) (by omega) (by omega)]
    unfold wkl
    by_cases c : a + long ≤ 199
    · rw [if_pos c]
      refine Ev.pos c (Ev.pos (by omega) (Ev.pos (by omega) ?_))
      have h := ih (out ++ [⟨a, a + long⟩]) (a + every) (by omega) (by omega) (by rw [List.length_append, List.length_singleton]; omega)
      rw [List.append_assoc] at h
      exact h
    · rw [if_neg c]
      exact Ev.neg c (Ev.now' (by simp))
theorem swalk_loop (long every : Int) (h0 : 0 ≤ long) (h1 : long ≤ 199) (h2 : 1 ≤ every) (h3 : every ≤ 199) (n : Nat) : ∀ (out : List St) (a : Int), 0 ≤ a → a ≤ 398 → out.length + n = 12 →
    Ev (fun k => spec_StairWalk.l0 k long every out a) (out ++ wkl long every n a) := by
  induction n with
  | zero =>
    intro out a ha hb hn
    refine Ev.step (fun k => spec_StairWalk.l0.eq_2 _ _ _ _ _) ?_
    rw [w64 (x := a + long) (by omega) (by omega)]
    refine Ev.ite (fun _ => Ev.neg (by omega) (Ev.now' (by simp [wkl]))) (fun _ => Ev.now' (by simp [wkl]))
  | succ n ih =>
    intro out a ha hb hn
    refine Ev.step (fun k => spec_StairWalk.l0.eq_2 _ _ _ _ _) ?_
    rw [w64 (x := a + long) (by omega) (by omega), w64 (x := a + every) (by omega) (by omega)]
    unfold wkl
    by_cases c : a + long ≤ 199
    · rw [if_pos c]
      refine Ev.pos c (Ev.pos (by omega) (Ev.pos (by omega) ?_))
      have h := ih (out ++ [⟨a, a + long⟩]) (a + every) (by omega) (by omega) (by rw [List.length_append, List.length_singleton]; omega)
      rw [List.append_assoc] at h
      exact h
    · rw [if_neg c]
      exact Ev.neg c (Ev.now' (by simp))
def walkV (long a every : Int) : List St := if 0 ≤ long ∧ long ≤ 199 ∧ 0 ≤ a ∧ a ≤ 199 ∧ 1 ≤ every ∧ every ≤ 199 then wkl long every 12 a else []
theorem iwalk_ev (long a every : Int) : Ev (fun k => impl_StairWalk.f k long a every) (walkV long a every) := by
  unfold impl_StairWalk.f impl_timeOk.f walkV
  simp only [within_eq, Option.bind_some]
  have no : Ev (fun k => impl_StairWalk.j0 k long a every true) [] := Ev.step (fun k => impl_StairWalk.j0.eq_2 _ _ _ _ _) (Ev.pos rfl (Ev.now _))
  by_cases c1 : 0 ≤ long ∧ long ≤ 199
  · refine Ev.pos (by simpa using c1) ?_
    by_cases c2 : 0 ≤ a ∧ a ≤ 199
    · refine Ev.pos (by simpa using c2) ?_
      by_cases c3 : 1 ≤ every ∧ every ≤ 199
      · rw [if_pos ⟨c1.1, c1.2, c2.1, c2.2, c3.1, c3.2⟩, decide_eq_true c3]
        exact Ev.step (fun k => impl_StairWalk.j0.eq_2 _ _ _ _ _) (Ev.neg (by simp) (iwalk_loop long every c1.1 c1.2 c3.1 c3.2 12 [] a c2.1 (by omega) rfl))
      · rw [if_neg (fun h => c3 ⟨h.2.2.2.2.1, h.2.2.2.2.2⟩), decide_eq_false c3]
        exact no
    · rw [if_neg (fun h => c2 ⟨h.2.2.1, h.2.2.2.1⟩)]
      exact Ev.neg (by simpa using c2) no
  · rw [if_neg (fun h => c1 ⟨h.1, h.2.1⟩)]
    exact Ev.neg (by simpa using c1) no
theorem swalk_ev (long a every : Int) : Ev (fun k => spec_StairWalk.f k long a every) (walkV long a every) := by
  unfold spec_StairWalk.f walkV
  simp only [l1In_eq, Option.bind_some]
  have no : Ev (fun k => spec_StairWalk.j0 k long a every [] true) [] := Ev.step (fun k => spec_StairWalk.j0.eq_2 _ _ _ _ _ _) (Ev.pos rfl (Ev.now _))
  by_cases c1 : 0 ≤ long ∧ long ≤ 199
  · refine Ev.pos (by simpa using c1) ?_
    by_cases c2 : 0 ≤ a ∧ a ≤ 199
    · refine Ev.pos (by simpa using c2) ?_
      by_cases c3 : 1 ≤ every ∧ every ≤ 199
      · rw [if_pos ⟨c1.1, c1.2, c2.1, c2.2, c3.1, c3.2⟩, decide_eq_true c3]
        exact Ev.step (fun k => spec_StairWalk.j0.eq_2 _ _ _ _ _ _) (Ev.neg (by simp) (swalk_loop long every c1.1 c1.2 c3.1 c3.2 12 [] a c2.1 (by omega) rfl))
      · rw [if_neg (fun h => c3 ⟨h.2.2.2.2.1, h.2.2.2.2.2⟩), decide_eq_false c3]
        exact no
    · rw [if_neg (fun h => c2 ⟨h.2.2.1, h.2.2.2.1⟩)]
      exact Ev.neg (by simpa using c2) no
  · rw [if_neg (fun h => c1 ⟨h.1, h.2.1⟩)]
    exact Ev.neg (by simpa using c1) no
theorem wkl_spec (long every : Int) (h0 : 0 ≤ long) (h1 : long ≤ 199) (h2 : 1 ≤ every) (h3 : every ≤ 199) (n : Nat) : ∀ a : Int, 0 ≤ a →
    (wkl long every n a).length ≤ n ∧ ((wkl long every n a).length = n ∨ a + (wkl long every n a).length * every + long > 199) ∧ (∀ x ∈ wkl long every n a, Val x ∧ a ≤ x.f0 ∧ x.f1 = x.f0 + long) ∧ (wkl long every n a).Pairwise Lt2 ∧
    ∀ i, i < (wkl long every n a).length → ((wkl long every n a).getD i stz).f0 = a + i * every ∧ ((wkl long every n a).getD i stz).f1 - ((wkl long every n a).getD i stz).f0 = long := by
  induction n with
  | zero => intro a ha; exact ⟨Nat.le_refl _, .inl rfl, by simp [wkl], List.Pairwise.nil, fun i hi => absurd hi (Nat.not_lt_zero _)⟩
  | succ n ih =>
    intro a ha
    unfold wkl
    by_cases c : a + long ≤ 199
    · rw [if_pos c]
      obtain ⟨i1, i2, i3, i4, i5⟩ := ih (a + every) (by omega)
      refine ⟨by simpa using i1, ?_, ?_, ?_, ?_⟩
      · rcases i2 with h | h
        · exact .inl (by simp [h])
        · right
          rw [List.length_cons, Int.natCast_add, Int.add_mul]
          omega
      · intro x hx
        rcases List.mem_cons.1 hx with rfl | hx
        · exact ⟨⟨ha, by show a ≤ 199; omega, by show a ≤ a + long; omega, by show a + long ≤ 199; omega⟩, Int.le_refl _, rfl⟩
        · have := i3 x hx; exact ⟨this.1, by omega, this.2.2⟩
      · refine List.pairwise_cons.2 ⟨fun y hy => ?_, i4⟩
        have := i3 y hy
        exact ⟨by show a < y.f0; omega, by show a + long < y.f1; omega⟩
      · intro i hi
        cases i with
        | zero => exact ⟨by show a = a + ((0 : Nat) : Int) * every; simp, by show a + long - a = long; omega⟩
        | succ i =>
          have := i5 i (by simpa using hi)
          rw [List.getD_cons_succ]
          refine ⟨?_, this.2⟩
          rw [this.1, Int.natCast_add, Int.add_mul]
          omega
    · rw [if_neg c]
      exact ⟨Nat.zero_le _, .inr (by simp; omega), by simp, List.Pairwise.nil, fun i hi => absurd hi (Nat.not_lt_zero _)⟩
end Go.Proofs.Ytfpfaaibgaejjaa.M
