/- Steps made one stair, one stair behind another, the better of two: whole functions. -/
import Derived.Test.YtfpfaaibgaejjaaY
import Derived.Test.YtfpfaaibgaejjaaMStair
import Derived.Test.YtfpfaaibgaejjaaMStairLaws
import Derived.Test.YtfpfaaibgaejjaaMTidy
import Derived.Test.YtfpfaaibgaejjaaMProf
import Derived.Test.YtfpfaaibgaejjaaPrint0
import Derived.Test.YtfpfaaibgaejjaaPrintF17
import Derived.Test.YtfpfaaibgaejjaaPrintF19
import Derived.Test.YtfpfaaibgaejjaaPrintF25
import Derived.Test.YtfpfaaibgaejjaaPrintF26
import Derived.Test.YtfpfaaibgaejjaaPrintF27
import Derived.Test.YtfpfaaibgaejjaaPrintF28
import Derived.Test.YtfpfaaibgaejjaaPrintF37
import Derived.Test.YtfpfaaibgaejjaaPrintF40
import Derived.Test.YtfpfaaibgaejjaaPrintF47
import Derived.Test.YtfpfaaibgaejjaaPrintF48
import Derived.Test.YtfpfaaibgaejjaaPrintF50
import Derived.Test.YtfpfaaibgaejjaaPrintF51
import Derived.Test.YtfpfaaibgaejjaaPrintF55
import Derived.Test.YtfpfaaibgaejjaaPrintF59
set_option linter.unusedVariables false
set_option linter.unusedSimpArgs false
namespace Go.Proofs.Ytfpfaaibgaejjaa.M
open Go.RowKit Go.Proofs.Ytfpfaaibgaejjaa.Print Go.Proofs.YtfpfaaibgaejjaaW.PrintWords Go.Proofs.YtfpfaaibgaejjaaW.PrintLast Go.Proofs.YtfpfaaibgaejjaaY
theorem nxp (i : Nat) (h : i ≤ 1000000000) : wrap64 ((i : Int) + 1) = ((i + 1 : Nat) : Int) := by rw [w64 (by omega) (by omega)]; omega
theorem iprof_loop (s : List St) (hs : s.length ≤ 1000000000) (d : Nat) : ∀ (i : Nat) (acc : List St), i ≤ s.length → s.length - i = d → acc.length ≤ i → Ev (fun k => impl_profile.l0 k acc.reverse s (s.length : Int) (i : Int)) ((s.drop i).foldl stp acc) := by
  induction d with
  | zero =>
    intro i acc hi hd ha
    refine Ev.step (fun k => impl_profile.l0.eq_2 _ _ _ _ _) (Ev.neg (by omega) ?_)
    rw [List.drop_eq_nil_of_le (by omega)]
    refine Ev.bnd0 (a := acc) ?_ (Ev.bnd0 (a := acc) rfl (Ev.now _))
    unfold impl_Step_55.f
    rw [if_pos (by rw [List.length_reverse]; omega), List.reverse_reverse]
  | succ d ih =>
    intro i acc hi hd ha
    rw [drop_cons s i (by omega), List.foldl_cons]
    refine Ev.step (fun k => impl_profile.l0.eq_2 _ _ _ _ _) (Ev.pos (by omega) (Ev.pos (by omega) (Ev.pos (by omega) ?_)))
    rw [rdn, nxp i (by omega)]
    have put : ∀ acc : List St, acc.length ≤ i → acc.reverse ++ [(⟨(s.getD i stz).f0, (s.getD i stz).f1⟩ : St)] = (s.getD i stz :: acc).reverse := fun acc _ => by rw [List.reverse_cons]
    cases acc with
    | nil =>
      refine Ev.pos rfl (Ev.pos (by simp) ?_)
      rw [put [] (by simp)]
      exact ih (i + 1) [s.getD i stz] (by omega) (by omega) (by simp)
    | cons h t =>
      have hl : (h :: t).reverse.length = t.length + 1 := by simp
      have ht : t.length + 1 ≤ i := by simpa using ha
      refine Ev.neg (by rw [hl]; omega) ?_
      rw [hl, show wrap64 (((t.length + 1 : Nat) : Int) - 1) = (t.length : Int) by rw [w64 (by omega) (by omega)]; omega, rdn]
      refine Ev.pos (by omega) (Ev.pos (by omega) ?_)
      have hg : (h :: t).reverse.getD t.length stz = h := by rw [List.reverse_cons]; simp
      rw [hg]
      by_cases c : (s.getD i stz).f1 < h.f1
      · refine Ev.pos c (Ev.pos (by omega) ?_)
        rw [put (h :: t) (by simpa using ha), show stp (h :: t) (s.getD i stz) = s.getD i stz :: h :: t from if_pos c]
        exact ih (i + 1) _ (by omega) (by omega) (by simp only [List.length_cons]; omega)
      · refine Ev.neg c ?_
        rw [show stp (h :: t) (s.getD i stz) = h :: t from if_neg c]
        exact ih (i + 1) _ (by omega) (by omega) (by simp only [List.length_cons]; omega)
theorem iprof_ev (l : List St) (hl : l.length ≤ 1000000000) : Ev (fun k => impl_profile.f k l) (prof l) := by
  unfold impl_profile.f
  refine Ev.bnd0 (a := l) ?_ (Ev.bnd0 (a := l.mergeSort fun x y => !(ltOf so_key) y x) ?_ ?_)
  · unfold impl_Step_50.f; rw [if_pos (by omega)]
  · unfold impl_Step_51.f; rw [if_pos (by omega)]
  · have h := iprof_loop (l.mergeSort fun x y => !(ltOf so_key) y x) (by rw [List.length_mergeSort]; omega) _ 0 [] (by omega) rfl (by simp)
    rw [List.length_mergeSort, List.drop_zero] at h
    exact h
theorem bad_val (x : St) : st_bad x = true ↔ ¬ Val x := by
  unfold st_bad
  rw [valid_eq]
  unfold Val
  simp
  omega
open Classical in
noncomputable def ofV (l : List St) : List St × Bool := if (∀ x ∈ l, Val x) ∧ (prof l).length ≤ 12 then (prof l, true) else ([], false)
theorem iof_ev (l : List St) (hl : l.length ≤ 1000000000) : Ev (fun k => impl_StairOf.f k l) (ofV l) := by
  unfold impl_StairOf.f
  refine Ev.bnd0 (a := l.any st_bad) rfl ?_
  by_cases c : ∀ x ∈ l, Val x
  · have h0 : l.any st_bad = false := by rw [List.any_eq_false]; intro x hx; rw [bad_val]; exact fun h => h (c x hx)
    rw [h0]
    refine Ev.neg (by simp) (Ev.bnd (iprof_ev l hl) ?_)
    by_cases c2 : (prof l).length ≤ 12
    · rw [show ofV l = (prof l, true) from if_pos ⟨c, c2⟩]; exact Ev.neg (by omega) (Ev.now _)
    · rw [show ofV l = ([], false) from if_neg (fun h => c2 h.2)]; exact Ev.pos (by omega) (Ev.now _)
  · have h1 : l.any st_bad = true := by
      rw [List.any_eq_true]
      obtain ⟨x, hx⟩ := Classical.not_forall.1 c
      obtain ⟨hx1, hx2⟩ := Classical.not_imp.1 hx
      exact ⟨x, hx1, (bad_val x).2 hx2⟩
    rw [h1, show ofV l = ([], false) from if_neg (fun h => c h.1)]
    exact Ev.pos rfl (Ev.now _)
theorem up_ok {s : List St} (h : Up s) (h12 : s.length ≤ 12) : okB s = true := okB_true ⟨h.1, h.2, h12⟩
theorem ok_up {s : List St} (h : okB s = true) : Up s ∧ s.length ≤ 12 := ⟨⟨(stair_of_ok h).1, (stair_of_ok h).2.1⟩, (stair_of_ok h).2.2⟩
theorem sof_loop (l : List St) (hl : l.length ≤ 1000000000) (d : Nat) : ∀ i : Nat, i ≤ l.length → l.length - i = d → (∀ j, j < i → Val (l.getD j stz)) → Ev (fun k => spec_StairOf.l0 k l (i : Int)) (ofV l) := by
  induction d with
  | zero =>
    intro i hi hd hv
    have c : ∀ x ∈ l, Val x := fun x hx => by
      obtain ⟨j, hj, e⟩ := List.getElem_of_mem hx
      have := hv j (by omega)
      rwa [getD_lt l j hj, e] at this
    obtain ⟨h1, h2, h3, h4⟩ := prof_facts c
    refine Ev.step (fun k => spec_StairOf.l0.eq_2 _ _ _) (Ev.neg (by omega) (Ev.bnd (tidy_ev l (by omega)) ?_))
    rw [tidied_prof c]
    refine Ev.bnd (sok_ev (prof l) (by omega)) ?_
    by_cases c2 : (prof l).length ≤ 12
    · rw [show ofV l = (prof l, true) from if_pos ⟨c, c2⟩]; exact Ev.pos (up_ok h1 c2) (Ev.now _)
    · rw [show ofV l = ([], false) from if_neg (fun h => c2 h.2)]; exact Ev.neg (fun h => c2 (ok_up h).2) (Ev.now _)
  | succ d ih =>
    intro i hi hd hv
    refine Ev.step (fun k => spec_StairOf.l0.eq_2 _ _ _) (Ev.pos (by omega) (Ev.pos (by omega) ?_))
    rw [rdn, nxp i (by omega)]
    refine Ev.bnd0 (l1In_eq _ _ _) ?_
    have bad : ¬ Val (l.getD i stz) → ofV l = ([], false) := fun h => if_neg (fun g => h (by rw [getD_lt l i (by omega)]; exact g.1 _ (List.getElem_mem _)))
    by_cases c1 : 0 ≤ (l.getD i stz).f0 ∧ (l.getD i stz).f0 ≤ 199
    · refine Ev.pos (decide_eq_true c1) (Ev.bnd0 (l1In_eq _ _ _) ?_)
      by_cases c2 : (l.getD i stz).f0 ≤ (l.getD i stz).f1 ∧ (l.getD i stz).f1 ≤ 199
      · refine Ev.pos (decide_eq_true c2) (ih (i + 1) (by omega) (by omega) (fun j hj => ?_))
        by_cases e : j = i
        · rw [e]; exact ⟨c1.1, c1.2, c2.1, c2.2⟩
        · exact hv j (by omega)
      · rw [bad (fun h => c2 ⟨h.2.2.1, h.2.2.2⟩)]
        exact Ev.neg (by simpa using c2) (Ev.now _)
    · rw [bad (fun h => c1 ⟨h.1, h.2.1⟩)]
      exact Ev.neg (by simpa using c1) (Ev.now _)
theorem sof_ev (l : List St) (hl : l.length ≤ 1000000000) : Ev (fun k => spec_StairOf.f k l) (ofV l) := by
  unfold spec_StairOf.f
  exact sof_loop l hl l.length 0 (by omega) (by omega) (fun j hj => by omega)
theorem ofV_len (l : List St) : (ofV l).1.length ≤ 12 := by
  unfold ofV
  split
  · rename_i h; exact h.2
  · simp
/-! ### One behind another -/
def lnk (b : List St) : List St → List St
  | [] => []
  | x :: t => if arr x.f1 b = 99999 then lnk b t else ⟨x.f0, arr x.f1 b⟩ :: lnk b t
theorem lnk_len (b a : List St) : (lnk b a).length ≤ a.length := by
  induction a with
  | nil => exact Nat.le_refl _
  | cons x a ih => unfold lnk; split <;> simp only [List.length_cons] <;> omega
theorem lnk_mem (b : List St) : ∀ {a : List St} {y : St}, y ∈ lnk b a ↔ ∃ x ∈ a, arr x.f1 b ≠ 99999 ∧ y = ⟨x.f0, arr x.f1 b⟩ := by
  intro a
  induction a with
  | nil => intro y; simp [lnk]
  | cons x a ih =>
    intro y
    unfold lnk
    by_cases c : arr x.f1 b = 99999
    · rw [if_pos c, ih]
      constructor
      · rintro ⟨z, hz, h1, h2⟩; exact ⟨z, by simp [hz], h1, h2⟩
      · rintro ⟨z, hz, h1, h2⟩
        rcases List.mem_cons.1 hz with rfl | hz
        · exact absurd c h1
        · exact ⟨z, hz, h1, h2⟩
    · rw [if_neg c, List.mem_cons, ih]
      constructor
      · rintro (h | ⟨z, hz, h1, h2⟩)
        · exact ⟨x, by simp, c, h⟩
        · exact ⟨z, by simp [hz], h1, h2⟩
      · rintro ⟨z, hz, h1, h2⟩
        rcases List.mem_cons.1 hz with rfl | hz
        · exact .inl h2
        · exact .inr ⟨z, hz, h1, h2⟩
theorem lnk_val {a b : List St} (ha : Up a) (hb : Up b) : ∀ y ∈ lnk b a, Val y := by
  intro y hy
  obtain ⟨x, hx, h1, rfl⟩ := (lnk_mem b).1 hy
  have vx := ha.1 x hx
  rcases arr_cases x.f1 b with ⟨e, _⟩ | ⟨z, hz, hz0, hz1⟩
  · exact absurd e h1
  · have vz := hb.1 z hz
    have a1 := vx.1
    have a2 := vx.2.1
    have a3 := vx.2.2.1
    have b3 := vz.2.2.1
    have b4 := vz.2.2.2
    exact ⟨a1, a2, by show x.f0 ≤ arr x.f1 b; omega, by show arr x.f1 b ≤ 199; omega⟩
theorem ilink_loop (a b : List St) (ha : a.length ≤ 2000000) (hb : b.length ≤ 2000000) (d : Nat) : ∀ (i : Nat) (out : List St), i ≤ a.length → a.length - i = d → out.length ≤ i → Ev (fun k => impl_StairLink.l0 k b out a (a.length : Int) (i : Int)) (prof (out ++ lnk b (a.drop i))) := by
  induction d with
  | zero =>
    intro i out hi hd ho
    refine Ev.step (fun k => impl_StairLink.l0.eq_2 _ _ _ _ _ _) (Ev.neg (by omega) ?_)
    rw [List.drop_eq_nil_of_le (by omega), show lnk b [] = [] from rfl, List.append_nil]
    exact Ev.bnd (iprof_ev out (by omega)) (Ev.now _)
  | succ d ih =>
    intro i out hi hd ho
    refine Ev.step (fun k => impl_StairLink.l0.eq_2 _ _ _ _ _ _) (Ev.pos (by omega) (Ev.pos (by omega) (Ev.pos (by omega) ?_)))
    rw [rdn, nxp i (by omega), drop_cons a i (by omega)]
    refine Ev.bnd (arrival_ev _ b (by omega)) ?_
    by_cases c : arr (a.getD i stz).f1 b = 99999
    · rw [show lnk b (a.getD i stz :: a.drop (i + 1)) = lnk b (a.drop (i + 1)) from if_pos c]
      exact Ev.pos c (ih (i + 1) out (by omega) (by omega) (by omega))
    · rw [show lnk b (a.getD i stz :: a.drop (i + 1)) = ⟨(a.getD i stz).f0, arr (a.getD i stz).f1 b⟩ :: lnk b (a.drop (i + 1)) from if_neg c]
      have h := ih (i + 1) (out ++ [⟨(a.getD i stz).f0, arr (a.getD i stz).f1 b⟩]) (by omega) (by omega) (by simp; omega)
      rw [List.append_assoc, List.singleton_append] at h
      exact Ev.neg c (Ev.pos (by omega) h)
theorem slink_loop (a b : List St) (ha : a.length ≤ 2000000) (hb : b.length ≤ 2000000) (hok : okB b = true) (d : Nat) : ∀ (i : Nat) (out : List St), i ≤ a.length → a.length - i = d → out.length ≤ i → Ev (fun k => spec_l5Link.l0 k a b out (i : Int)) (tidied (out ++ lnk b (a.drop i))) := by
  induction d with
  | zero =>
    intro i out hi hd ho
    refine Ev.step (fun k => spec_l5Link.l0.eq_2 _ _ _ _ _) (Ev.neg (by omega) ?_)
    rw [List.drop_eq_nil_of_le (by omega), show lnk b [] = [] from rfl, List.append_nil]
    exact Ev.bnd (tidy_ev out (by omega)) (Ev.now _)
  | succ d ih =>
    intro i out hi hd ho
    refine Ev.step (fun k => spec_l5Link.l0.eq_2 _ _ _ _ _) (Ev.pos (by omega) (Ev.pos (by omega) ?_))
    rw [rdn, nxp i (by omega), drop_cons a i (by omega)]
    refine Ev.bnd (sarr_ev _ b (by omega)) ?_
    have hle := arr_le (a := (a.getD i stz).f1) (stair_of_ok hok)
    by_cases c : arr (a.getD i stz).f1 b = 99999
    · rw [show lnk b (a.getD i stz :: a.drop (i + 1)) = lnk b (a.drop (i + 1)) from if_pos c]
      exact Ev.neg (by omega) (ih (i + 1) out (by omega) (by omega) (by omega))
    · rw [show lnk b (a.getD i stz :: a.drop (i + 1)) = ⟨(a.getD i stz).f0, arr (a.getD i stz).f1 b⟩ :: lnk b (a.drop (i + 1)) from if_neg c]
      have h := ih (i + 1) (out ++ [⟨(a.getD i stz).f0, arr (a.getD i stz).f1 b⟩]) (by omega) (by omega) (by simp; omega)
      rw [List.append_assoc, List.singleton_append] at h
      exact Ev.pos (by omega) (Ev.pos (by omega) h)
noncomputable def linkV (a b : List St) : List St := if okB a = true ∧ okB b = true then prof (lnk b a) else []
theorem ilink_ev (a b : List St) (ha : a.length ≤ 2000000) (hb : b.length ≤ 2000000) : Ev (fun k => impl_StairLink.f k a b) (linkV a b) := by
  unfold impl_StairLink.f
  have no : ¬ (okB a = true ∧ okB b = true) → Ev (fun k => impl_StairLink.j0 k a b true) (linkV a b) := fun h => by
    rw [show linkV a b = [] from if_neg h]
    exact Ev.step (fun k => impl_StairLink.j0.eq_2 _ _ _ _) (Ev.pos rfl (Ev.now _))
  refine Ev.bnd (iok_ev a (by omega)) (Ev.ite (fun c => Ev.bnd (iok_ev b (by omega)) ?_) (fun c => no (fun h => c h.1)))
  by_cases c2 : okB b = true
  · rw [c2, show linkV a b = prof (lnk b a) from if_pos ⟨c, c2⟩]
    have h := ilink_loop a b ha hb a.length 0 [] (by omega) (by omega) (by simp)
    rw [List.nil_append, List.drop_zero] at h
    exact Ev.step (fun k => impl_StairLink.j0.eq_2 _ _ _ _) (Ev.neg (by simp) h)
  · rw [Bool.eq_false_iff.2 c2]
    exact no (fun h => c2 h.2)
theorem slink_ev (a b : List St) (ha : a.length ≤ 2000000) (hb : b.length ≤ 2000000) : Ev (fun k => spec_StairLink.f k a b) (linkV a b) := by
  unfold spec_StairLink.f
  refine Ev.bnd (sok_ev a (by omega)) (Ev.ite (fun c => Ev.bnd (sok_ev b (by omega)) (Ev.ite (fun c2 => ?_) (fun c2 => ?_))) (fun c => ?_))
  · rw [show linkV a b = prof (lnk b a) from if_pos ⟨c, c2⟩, ← tidied_prof (lnk_val (ok_up c).1 (ok_up c2).1)]
    have h := slink_loop a b ha hb c2 a.length 0 [] (by omega) (by omega) (by simp)
    rw [List.nil_append, List.drop_zero] at h
    refine Ev.bnd (a := tidied (lnk b a)) ?_ (Ev.now _)
    unfold spec_l5Link.f
    exact h
  · rw [show linkV a b = [] from if_neg (fun h => c2 h.2)]; exact Ev.now _
  · rw [show linkV a b = [] from if_neg (fun h => c h.1)]; exact Ev.now _
/-- What it comes at. -/
def thn (b : List St) (v : Int) : Int := if v < 99999 then arr v b else v
theorem link_facts {a b : List St} (ha : okB a = true) (hb : okB b = true) : okB (linkV a b) = true ∧ ∀ t, arr t (linkV a b) = thn b (arr t a) := by
  rw [show linkV a b = prof (lnk b a) from if_pos ⟨ha, hb⟩]
  obtain ⟨ua, la⟩ := ok_up ha
  obtain ⟨ub, lb⟩ := ok_up hb
  have sb := stair_of_ok hb
  have hv := lnk_val ua ub
  obtain ⟨h1, h2, h3, h4⟩ := prof_facts hv
  have hl := lnk_len b a
  refine ⟨up_ok h1 (by omega), fun t => ?_⟩
  rw [up_arr h1, h2]
  refine (BstAt.eq ?_ (val_f1 hv)).symm
  have hmn := arr_min t a ua.2
  unfold thn
  rcases arr_cases t a with ⟨e, hn⟩ | ⟨x, hx, hx0, hx1⟩
  · rw [if_neg (by omega)]
    refine ⟨by omega, .inl e, fun y hy hy0 => ?_⟩
    obtain ⟨z, hz, _, rfl⟩ := (lnk_mem b).1 hy
    have hz0 : z.f0 ≥ t := hy0
    have := hn z hz; omega
  · have vx := (ua.1 x hx).2.2.2
    rw [if_pos (by omega), hx1]
    refine ⟨arr_le sb, ?_, fun y hy hy0 => ?_⟩
    · by_cases c : arr x.f1 b = 99999
      · exact .inl c
      · exact .inr ⟨⟨x.f0, arr x.f1 b⟩, (lnk_mem b).2 ⟨x, hx, c, rfl⟩, hx0, rfl⟩
    · obtain ⟨z, hz, _, rfl⟩ := (lnk_mem b).1 hy
      have hz0 : z.f0 ≥ t := hy0
      have := hmn z hz hz0
      exact arr_mono sb (by omega)
theorem linkV_len (a b : List St) : (linkV a b).length ≤ 12 := by
  by_cases h : okB a = true ∧ okB b = true
  · exact (ok_up (link_facts h.1 h.2).1).2
  · rw [show linkV a b = [] from if_neg h]; simp
/-! ### The better of two -/
theorem cat_ev (a b : List St) (ha : a.length ≤ 2000000) (hb : b.length ≤ 2000000) : Ev (fun k => impl_Step_48.f k [a, b]) (a ++ b) := by
  unfold impl_Step_48.f
  have w0 : wrap64 (0 + (a.length : Int)) = (a.length : Int) := by rw [w64 (by omega) (by omega)]; omega
  have w1 : wrap64 ((a.length : Int) + (b.length : Int)) = ((a.length + b.length : Nat) : Int) := by rw [w64 (by omega) (by omega)]; omega
  have n0 : wrap64 (0 + 1) = 1 := by unfold wrap64; omega
  have n1 : wrap64 (1 + 1) = 2 := by unfold wrap64; omega
  have r0 : rd_L4 [a, b] 0 = a := rfl
  have r1 : rd_L4 [a, b] 1 = b := rfl
  refine Ev.step (fun k => impl_Step_48.l0.eq_2 _ _ _ _ _ _) (Ev.pos (by simp) (Ev.pos (by omega) (Ev.pos (by simp) ?_)))
  rw [r0, w0, n0]
  refine Ev.neg (by omega) (Ev.step (fun k => impl_Step_48.l0.eq_2 _ _ _ _ _ _) (Ev.pos (by simp) (Ev.pos (by omega) (Ev.pos (by simp) ?_))))
  rw [r1, w1, n1]
  refine Ev.neg (by omega) (Ev.step (fun k => impl_Step_48.l0.eq_2 _ _ _ _ _ _) (Ev.neg (by simp) (Ev.bnd0 (a := ([] : List St)) ?_ ?_)))
  · unfold impl_Step_59.f
    rw [if_pos (by simp), if_pos (by omega), if_pos (by rw [Int.toNat_natCast]; omega)]
  refine Ev.step (fun k => impl_Step_48.l1.eq_2 _ _ _ _ _) (Ev.pos (by simp) (Ev.pos (by omega) (Ev.pos (by simp) ?_)))
  rw [r0, n0, List.nil_append]
  refine Ev.pos (by simp; omega) (Ev.step (fun k => impl_Step_48.l1.eq_2 _ _ _ _ _) (Ev.pos (by simp) (Ev.pos (by omega) (Ev.pos (by simp) ?_))))
  rw [r1, n1]
  exact Ev.pos (by omega) (Ev.step (fun k => impl_Step_48.l1.eq_2 _ _ _ _ _) (Ev.neg (by simp) (Ev.now _)))
noncomputable def bestV (a b : List St) : List St × Bool := if okB a = true ∧ okB b = true then ofV (a ++ b) else ([], false)
theorem ibest_ev (a b : List St) (ha : a.length ≤ 2000000) (hb : b.length ≤ 2000000) : Ev (fun k => impl_StairBest.f k a b) (bestV a b) := by
  unfold impl_StairBest.f
  have no : ¬ (okB a = true ∧ okB b = true) → Ev (fun k => impl_StairBest.j0 k a b true) (bestV a b) := fun h => by
    rw [show bestV a b = ([], false) from if_neg h]
    exact Ev.step (fun k => impl_StairBest.j0.eq_2 _ _ _ _) (Ev.pos rfl (Ev.now _))
  refine Ev.bnd (iok_ev a (by omega)) (Ev.ite (fun c => Ev.bnd (iok_ev b (by omega)) ?_) (fun c => no (fun h => c h.1)))
  by_cases c2 : okB b = true
  · rw [c2, show bestV a b = ofV (a ++ b) from if_pos ⟨c, c2⟩]
    exact Ev.step (fun k => impl_StairBest.j0.eq_2 _ _ _ _) (Ev.neg (by simp) (Ev.bnd (cat_ev a b ha hb) (Ev.bnd (iof_ev _ (by rw [List.length_append]; omega)) (Ev.now _))))
  · rw [Bool.eq_false_iff.2 c2]
    exact no (fun h => c2 h.2)
theorem sbest_ev (a b : List St) (ha : a.length ≤ 2000000) (hb : b.length ≤ 2000000) : Ev (fun k => spec_StairBest.f k a b) (bestV a b) := by
  unfold spec_StairBest.f
  refine Ev.bnd (sok_ev a (by omega)) (Ev.ite (fun c => Ev.bnd (sok_ev b (by omega)) (Ev.ite (fun c2 => ?_) (fun c2 => ?_))) (fun c => ?_))
  · rw [show bestV a b = ofV (a ++ b) from if_pos ⟨c, c2⟩]
    refine Ev.bnd0 (a := ([] : List St)) rfl (Ev.pos (by simp; omega) (Ev.bnd0 (a := a) rfl (Ev.pos (by omega) ?_)))
    exact Ev.bnd (sof_ev _ (by rw [List.length_append]; omega)) (Ev.now _)
  · rw [show bestV a b = ([], false) from if_neg (fun h => c2 h.2)]; exact Ev.now _
  · rw [show bestV a b = ([], false) from if_neg (fun h => c h.1)]; exact Ev.now _
theorem of_facts {l : List St} (h : (ofV l).2 = true) : (∀ x ∈ l, Val x) ∧ ofV l = (prof l, true) ∧ okB (prof l) = true ∧ ∀ t, arr t (prof l) = bst t l := by
  by_cases c : (∀ x ∈ l, Val x) ∧ (prof l).length ≤ 12
  · obtain ⟨h1, h2, _⟩ := prof_facts c.1
    exact ⟨c.1, if_pos c, up_ok h1 c.2, fun t => by rw [up_arr h1, h2]⟩
  · rw [show ofV l = ([], false) from if_neg c] at h; cases h
/-- The same steps in another order are the same stair. -/
theorem ofV_perm {l l' : List St} (h : ∀ x, x ∈ l ↔ x ∈ l') : ofV l = ofV l' := by
  by_cases c : ∀ x ∈ l, Val x
  · have c' : ∀ x ∈ l', Val x := fun x hx => c x ((h x).2 hx)
    obtain ⟨h1, h2, _⟩ := prof_facts c
    obtain ⟨g1, g2, _⟩ := prof_facts c'
    have e : prof l = prof l' := up_eq h1 g1 (fun a _ => by rw [h2, g2]; exact bst_mem h (val_f1 c))
    by_cases c2 : (prof l).length ≤ 12
    · rw [show ofV l = (prof l, true) from if_pos ⟨c, c2⟩, show ofV l' = (prof l', true) from if_pos ⟨c', by rw [← e]; exact c2⟩, e]
    · rw [show ofV l = ([], false) from if_neg (fun g => c2 g.2), show ofV l' = ([], false) from if_neg (fun g => c2 (by rw [e]; exact g.2))]
  · rw [show ofV l = ([], false) from if_neg (fun g => c g.1), show ofV l' = ([], false) from if_neg (fun g => c (fun x hx => g.1 x ((h x).1 hx)))]
/-- A stair's stair is itself. -/
theorem ofV_self {s : List St} (h : okB s = true) : ofV s = (s, true) := by
  obtain ⟨u, l⟩ := ok_up h
  obtain ⟨h1, h2, _⟩ := prof_facts u.1
  have e : prof s = s := up_eq h1 u (fun a _ => h2 a)
  rw [show ofV s = (prof s, true) from if_pos ⟨u.1, by rw [e]; exact l⟩, e]
end Go.Proofs.Ytfpfaaibgaejjaa.M
