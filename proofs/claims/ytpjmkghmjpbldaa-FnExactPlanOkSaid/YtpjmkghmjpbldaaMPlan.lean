/- Timetables: what PlanOk and the reference's come to. -/
import Derived.Test.YtpjmkghmjpbldaaY
import Derived.Test.YtpjmkghmjpbldaaMConns
import Derived.Test.YtpjmkghmjpbldaaPrintB
import Derived.Test.YtpjmkghmjpbldaaPrintF100
import Derived.Test.YtpjmkghmjpbldaaPrintF22
import Derived.Test.YtpjmkghmjpbldaaPrintF38
import Derived.Test.YtpjmkghmjpbldaaPrintF40
import Derived.Test.YtpjmkghmjpbldaaPrintF76
import Derived.Test.YtpjmkghmjpbldaaPrintF80
set_option linter.unusedVariables false
set_option linter.unusedSimpArgs false
namespace Go.Proofs.Ytpjmkghmjpbldaa.M
open Go.RowKit Go.Proofs.Ytpjmkghmjpbldaa.Print Go.Proofs.YtpjmkghmjpbldaaW.PrintWords Go.Proofs.YtpjmkghmjpbldaaW.PrintLast Go.Proofs.YtpjmkghmjpbldaaY
theorem iWithin (a b c : Int) : impl_within.f a b c = some (decide (b ≤ a ∧ a ≤ c)) := n_within a b c
def inB (a b c : Int) : Bool := decide (b ≤ a ∧ a ≤ c)
/-- The last connection of the trip ahead of place m. -/
def befI (l : List Cn) (t : Int) : Nat → Int
  | 0 => -1
  | m + 1 => if (l.getD m cnz).f4 = t then (m : Int) else befI l t m
theorem befI_lo (l : List Cn) (t : Int) : ∀ m, -1 ≤ befI l t m ∧ befI l t m < m
  | 0 => by simp [befI]
  | m + 1 => by
    have := befI_lo l t m
    unfold befI
    split <;> omega
def goesB (l : List Cn) (i : Nat) : Bool :=
  if befI l (l.getD i cnz).f4 i ≥ 0 then decide ((l.getD (befI l (l.getD i cnz).f4 i).toNat cnz).f1 = (l.getD i cnz).f0) && decide ((l.getD (befI l (l.getD i cnz).f4 i).toNat cnz).f3 ≤ (l.getD i cnz).f2) else true
def ordB (l : List Cn) (i : Nat) : Bool := decide (i = 0) || decide ((l.getD (i - 1) cnz).f2 ≤ (l.getD i cnz).f2)
def conB (n : Int) (x : Cn) : Bool := inB x.f0 0 (wrap64 (n - 1)) && (inB x.f1 0 (wrap64 (n - 1)) && (!decide (x.f0 = x.f1) && (inB x.f2 0 199 && (inB x.f3 x.f2 199 && inB x.f4 0 5))))
def allC (n : Int) (l : List Cn) : Nat → Nat → Bool
  | 0, _ => true
  | d + 1, i => (conB n (l.getD i cnz) && (ordB l i && goesB l i)) && allC n l d (i + 1)
def headB (n m : Int) (l : List Cn) : Bool := inB n 1 8 && (inB m 0 20 && decide ((l.length : Int) ≤ 16))
theorem con0 {n : Int} (x : Cn) (h : inB x.f0 0 (wrap64 (n - 1)) = false) : conB n x = false := by simp [conB, h]
theorem con1 {n : Int} (x : Cn) (h : inB x.f1 0 (wrap64 (n - 1)) = false) : conB n x = false := by simp [conB, h]
theorem con2 {n : Int} (x : Cn) (h : x.f0 = x.f1) : conB n x = false := by simp [conB, h]
theorem con3 {n : Int} (x : Cn) (h : inB x.f2 0 199 = false) : conB n x = false := by simp [conB, h]
theorem con4 {n : Int} (x : Cn) (h : inB x.f3 x.f2 199 = false) : conB n x = false := by simp [conB, h]
theorem con5 {n : Int} (x : Cn) (h : inB x.f4 0 5 = false) : conB n x = false := by simp [conB, h]
theorem ord_succ (l : List Cn) (j : Nat) : ordB l (j + 1) = decide ((l.getD j cnz).f2 ≤ (l.getD (j + 1) cnz).f2) := by
  unfold ordB
  rw [Nat.add_sub_cancel, decide_eq_false (show ¬ j + 1 = 0 by omega)]
  rfl
theorem prv (i : Nat) (h : i ≤ 1000000000000) : wrap64 (((i + 1 : Nat) : Int) - 1) = (i : Int) := by rw [w64 (by omega) (by omega)]; omega
theorem bef_loop (n m : Int) (l : List Cn) (j : Nat) (hj : j < l.length) (hl : l.length ≤ 1000000000000) : ∀ i : Nat, i ≤ l.length → Ev (fun k => impl_Plan_before.l0 k (j : Int) ((i : Int) - 1) n m l) (befI l (l.getD j cnz).f4 i)
  | 0, _ => Ev.step (fun k => impl_Plan_before.l0.eq_2 _ _ _ _ _ _) (Ev.neg (by omega) (Ev.now _))
  | i + 1, hi => by
    refine Ev.step (fun k => impl_Plan_before.l0.eq_2 _ _ _ _ _ _) (Ev.pos (by omega) (Ev.pos (by omega) (Ev.pos (by omega) (Ev.pos (by omega) (Ev.pos (by omega) ?_)))))
    rw [show ((i + 1 : Nat) : Int) - 1 = (i : Int) by omega, rdC, rdC]
    unfold befI
    refine Ev.ite (fun h => Ev.now' (by rw [if_pos h])) (fun h => ?_)
    rw [if_neg h, w64 (x := (i : Int) - 1) (by omega) (by omega)]
    exact bef_loop n m l j hj hl i (by omega)
theorem bef_ev (n m : Int) (l : List Cn) (j : Nat) (hj : j < l.length) (hl : l.length ≤ 1000000000000) : Ev (fun k => impl_Plan_before.f k n m l (j : Int)) (befI l (l.getD j cnz).f4 j) := by
  unfold impl_Plan_before.f
  rw [w64 (x := (j : Int) - 1) (by omega) (by omega)]
  exact bef_loop n m l j hj hl j (by omega)
theorem goes_loop (n m : Int) (l : List Cn) (j : Nat) (hj : j < l.length) (hl : l.length ≤ 1000000000000) : ∀ i : Nat, i ≤ l.length → Ev (fun k => spec_l6Goes.l0 k (j : Int) ((i : Int) - 1) n m l)
    (if befI l (l.getD j cnz).f4 i ≥ 0 then decide ((l.getD (befI l (l.getD j cnz).f4 i).toNat cnz).f1 = (l.getD j cnz).f0) && decide ((l.getD (befI l (l.getD j cnz).f4 i).toNat cnz).f3 ≤ (l.getD j cnz).f2) else true)
  | 0, _ => Ev.step (fun k => spec_l6Goes.l0.eq_2 _ _ _ _ _ _) (Ev.neg (by omega) (Ev.now _))
  | i + 1, hi => by
    refine Ev.step (fun k => spec_l6Goes.l0.eq_2 _ _ _ _ _ _) (Ev.pos (by omega) (Ev.pos (by omega) (Ev.pos (by omega) (Ev.pos (by omega) (Ev.pos (by omega) ?_)))))
    rw [show ((i + 1 : Nat) : Int) - 1 = (i : Int) by omega, rdC, rdC]
    by_cases h : (l.getD i cnz).f4 = (l.getD j cnz).f4
    · refine Ev.pos h ?_
      rw [show befI l (l.getD j cnz).f4 (i + 1) = (i : Int) from by unfold befI; rw [if_pos h], Int.toNat_natCast]
      by_cases h1 : (l.getD i cnz).f1 = (l.getD j cnz).f0
      · exact Ev.pos h1 (Ev.now' (by rw [if_pos (show (i : Int) ≥ 0 by omega), decide_eq_true h1]; rfl))
      · exact Ev.neg h1 (Ev.now' (by rw [if_pos (show (i : Int) ≥ 0 by omega), decide_eq_false h1]; rfl))
    · refine Ev.neg h ?_
      rw [show befI l (l.getD j cnz).f4 (i + 1) = befI l (l.getD j cnz).f4 i from by rw [befI, if_neg h], w64 (x := (i : Int) - 1) (by omega) (by omega)]
      exact goes_loop n m l j hj hl i (by omega)
theorem goes_ev (n m : Int) (l : List Cn) (j : Nat) (hj : j < l.length) (hl : l.length ≤ 1000000000000) : Ev (fun k => spec_l6Goes.f k n m l (j : Int)) (goesB l j) := by
  unfold spec_l6Goes.f goesB
  rw [w64 (x := (j : Int) - 1) (by omega) (by omega)]
  exact goes_loop n m l j hj hl j (by omega)
theorem bIn {α : Type} {r : α} {a b c : Int} {f : Bool → Nat → Option α} (ht : inB a b c = true → Ev (f true) r) (hf : inB a b c = false → Ev (f false) r) : Ev (fun k => (spec_l1In.f a b c).bind fun t => f t k) r := by
  refine Ev.bnd0 (nIn a b c) ?_
  change Ev (f (inB a b c)) r
  cases h : inB a b c with
  | true => exact ht h
  | false => exact hf h
theorem sPlan_loop (n m : Int) (l : List Cn) (hl : l.length ≤ 1000000000000) (d : Nat) : ∀ i : Nat, i ≤ l.length → l.length - i = d → Ev (fun k => spec_l6Ok.l0 k (i : Int) n m l) (allC n l d i && headB n m l) := by
  induction d with
  | zero =>
    intro i hi hd
    refine Ev.step (fun k => spec_l6Ok.l0.eq_2 _ _ _ _ _) (Ev.neg (by omega) (Ev.bnd0 (nIn _ _ _) ?_))
    change Ev _ (true && (inB n 1 8 && _))
    change Ev (fun k => if inB n 1 8 = true then _ else _) _
    cases h1 : inB n 1 8 with
    | false => exact Ev.neg (by simp) (Ev.now _)
    | true =>
      refine Ev.pos rfl (Ev.ite (fun h => Ev.bnd0 (nIn _ _ _) (Ev.now' ?_)) (fun h => Ev.now' ?_))
      · change inB m 0 20 = _; rw [decide_eq_true h]; simp
      · rw [decide_eq_false h]; simp
  | succ d ih =>
    intro i hi hd
    refine Ev.step (fun k => spec_l6Ok.l0.eq_2 _ _ _ _ _) (Ev.pos (by omega) (Ev.pos (by omega) ?_))
    rw [rdC, nxt i (by omega)]
    have bad : (conB n (l.getD i cnz) && (ordB l i && goesB l i)) = false → (allC n l (d + 1) i && headB n m l) = false := fun h => by unfold allC; rw [h]; rfl
    have good : (conB n (l.getD i cnz) && (ordB l i && goesB l i)) = true → (allC n l (d + 1) i && headB n m l) = (allC n l d (i + 1) && headB n m l) := fun h => by rw [allC, h]; rfl
    have fin : conB n (l.getD i cnz) = true → ordB l i = true → Ev (fun k => (spec_l6Goes.f k n m l (i : Int)).bind fun t => if t = true then spec_l6Ok.l0 k ((i + 1 : Nat) : Int) n m l else some false) (allC n l (d + 1) i && headB n m l) := fun h1 h2 => by
      refine Ev.bnd (goes_ev n m l i (by omega) hl) ?_
      cases h3 : goesB l i with
      | true => rw [good (by rw [h1, h2, h3]; rfl)]; exact Ev.pos rfl (ih (i + 1) (by omega) (by omega))
      | false => exact Ev.neg (by simp) (Ev.now' (bad (by rw [h1, h2, h3]; rfl)).symm)
    refine bIn (fun c0 => Ev.pos rfl ?_) (fun c0 => Ev.neg (by simp) (Ev.now' (bad (by rw [con0 _ c0]; rfl)).symm))
    refine bIn (fun c1 => Ev.pos rfl ?_) (fun c1 => Ev.neg (by simp) (Ev.now' (bad (by rw [con1 _ c1]; rfl)).symm))
    refine Ev.ite (fun c2 => Ev.now' (bad (by rw [con2 _ c2]; rfl)).symm) (fun c2 => ?_)
    refine bIn (fun c3 => Ev.pos rfl ?_) (fun c3 => Ev.neg (by simp) (Ev.now' (bad (by rw [con3 _ c3]; rfl)).symm))
    refine bIn (fun c4 => Ev.pos rfl ?_) (fun c4 => Ev.neg (by simp) (Ev.now' (bad (by rw [con4 _ c4]; rfl)).symm))
    refine bIn (fun c5 => Ev.pos rfl ?_) (fun c5 => Ev.neg (by simp) (Ev.now' (bad (by rw [con5 _ c5]; rfl)).symm))
    have hc : conB n (l.getD i cnz) = true := by unfold conB; rw [c0, c1, c3, c4, c5, decide_eq_false c2]; rfl
    by_cases hi0 : i = 0
    · subst hi0
      exact Ev.neg (by omega) (fin hc rfl)
    · obtain ⟨j, rfl⟩ : ∃ j, i = j + 1 := ⟨i - 1, by omega⟩
      refine Ev.pos (by omega) ?_
      rw [prv j (by omega), rdC]
      refine Ev.pos (by omega) (Ev.pos (by omega) (Ev.ite (fun h => Ev.now' (bad ?_).symm) (fun h => fin hc ?_)))
      · rw [ord_succ, decide_eq_false (by omega)]; simp
      · rw [ord_succ, decide_eq_true (by omega)]
theorem sPlan_ev (n m : Int) (l : List Cn) (hl : l.length ≤ 1000000000000) : Ev (fun k => spec_PlanOk.f k n m l) (allC n l l.length 0 && headB n m l) := by
  unfold spec_PlanOk.f spec_l6Ok.f
  exact Ev.bnd (sPlan_loop n m l hl l.length 0 (by omega) (by omega)) (Ev.now _)
theorem bWi {α : Type} {r : α} {a b c : Int} {f : Bool → Nat → Option α} (ht : inB a b c = true → Ev (f true) r) (hf : inB a b c = false → Ev (f false) r) : Ev (fun k => (impl_within.f a b c).bind fun t => f t k) r := by
  refine Ev.bnd0 (iWithin a b c) ?_
  change Ev (f (inB a b c)) r
  cases h : inB a b c with
  | true => exact ht h
  | false => exact hf h
theorem stop_eq (n m : Int) (l : List Cn) (v : Int) : impl_Plan_stop.f n m l v = some (inB v 0 (wrap64 (n - 1))) := by
  unfold impl_Plan_stop.f; rw [iWithin]; rfl
theorem valid_eq (a b : Int) : impl_Step_valid.f a b = some (inB a 0 199 && inB b a 199) := by
  unfold impl_Step_valid.f impl_timeOk.f
  rw [iWithin, Option.bind_some, Option.bind_some]
  change (if inB a 0 199 = true then _ else _) = _
  cases h : inB a 0 199 with
  | true => rw [if_pos rfl, iWithin]; rfl
  | false => rfl
theorem bStop {α : Type} {r : α} {n m : Int} {l : List Cn} {v : Int} {f : Bool → Nat → Option α} (ht : inB v 0 (wrap64 (n - 1)) = true → Ev (f true) r) (hf : inB v 0 (wrap64 (n - 1)) = false → Ev (f false) r) : Ev (fun k => (impl_Plan_stop.f n m l v).bind fun t => f t k) r := by
  refine Ev.bnd0 (stop_eq n m l v) ?_
  cases h : inB v 0 (wrap64 (n - 1)) with
  | true => exact ht h
  | false => exact hf h
theorem iPlan_loop (n m : Int) (l : List Cn) (hl : l.length ≤ 1000000000000) (d : Nat) : ∀ i : Nat, i ≤ l.length → l.length - i = d → Ev (fun k => impl_PlanOk.l0 k l (l.length : Int) (i : Int) n m l) (allC n l d i) := by
  induction d with
  | zero =>
    intro i hi hd
    exact Ev.step (fun k => impl_PlanOk.l0.eq_2 _ _ _ _ _ _ _) (Ev.neg (by omega) (Ev.now _))
  | succ d ih =>
    intro i hi hd
    have bad : (conB n (l.getD i cnz) && (ordB l i && goesB l i)) = false → allC n l (d + 1) i = false := fun h => by unfold allC; rw [h]; rfl
    have good : (conB n (l.getD i cnz) && (ordB l i && goesB l i)) = true → allC n l (d + 1) i = allC n l d (i + 1) := fun h => by rw [allC, h]; rfl
    have j3 : conB n (l.getD i cnz) = true → ordB l i = true → Ev (fun k => impl_PlanOk.j3 k (i : Int) l (l.length : Int) (i : Int) false n m l (l.getD i cnz).f0 (l.getD i cnz).f1 (l.getD i cnz).f2 (l.getD i cnz).f3 (l.getD i cnz).f4) (allC n l (d + 1) i) := fun h1 h2 => by
      have hb := befI_lo l (l.getD i cnz).f4 i
      refine Ev.step (fun k => impl_PlanOk.j3.eq_2 _ _ _ _ _ _ _ _ _ _ _ _ _ _) (Ev.neg (by simp) (Ev.bnd (bef_ev n m l i (by omega) hl) ?_))
      rw [nxt i (by omega)]
      by_cases h : befI l (l.getD i cnz).f4 i ≥ 0
      · obtain ⟨q, hq⟩ := Int.eq_ofNat_of_zero_le h
        rw [hq] at hb ⊢
        refine Ev.pos (by omega) (Ev.pos (by omega) (Ev.pos (by omega) ?_))
        rw [rdC]
        have hg : goesB l i = (decide ((l.getD q cnz).f1 = (l.getD i cnz).f0) && decide ((l.getD q cnz).f3 ≤ (l.getD i cnz).f2)) := by unfold goesB; rw [if_pos h, hq, Int.toNat_natCast]
        refine Ev.ite (fun h3 => Ev.ite (fun h4 => Ev.now' (bad ?_).symm) (fun h4 => ?_)) (fun h3 => Ev.now' (bad ?_).symm)
        · rw [h1, h2, hg, decide_eq_false (show ¬ (l.getD q cnz).f3 ≤ (l.getD i cnz).f2 by omega)]; simp
        · rw [good (by rw [h1, h2, hg, decide_eq_true h3, decide_eq_true (show (l.getD q cnz).f3 ≤ (l.getD i cnz).f2 by omega)]; rfl)]
          exact ih (i + 1) (by omega) (by omega)
        · rw [h1, h2, hg, decide_eq_false h3]; simp
      · have hg : goesB l i = true := by unfold goesB; rw [if_neg h]
        refine Ev.neg h ?_
        rw [good (by rw [h1, h2, hg]; rfl)]
        exact ih (i + 1) (by omega) (by omega)
    have j2 : conB n (l.getD i cnz) = true → Ev (fun k => impl_PlanOk.j2 k (i : Int) l (l.length : Int) (i : Int) false n m l (l.getD i cnz).f0 (l.getD i cnz).f1 (l.getD i cnz).f2 (l.getD i cnz).f3 (l.getD i cnz).f4) (allC n l (d + 1) i) := fun h1 => by
      refine Ev.step (fun k => impl_PlanOk.j2.eq_2 _ _ _ _ _ _ _ _ _ _ _ _ _ _) (Ev.neg (by simp) ?_)
      by_cases hi0 : i = 0
      · subst hi0
        exact Ev.neg (by omega) (j3 h1 rfl)
      · obtain ⟨j, rfl⟩ : ∃ j, i = j + 1 := ⟨i - 1, by omega⟩
        refine Ev.pos (by omega) ?_
        rw [prv j (by omega), rdC]
        refine Ev.pos (by omega) (Ev.pos (by omega) ?_)
        by_cases h : (l.getD j cnz).f2 > (l.getD (j + 1) cnz).f2
        · rw [decide_eq_true h]
          refine Ev.step (fun k => impl_PlanOk.j3.eq_2 _ _ _ _ _ _ _ _ _ _ _ _ _ _) (Ev.pos rfl (Ev.now' (bad ?_).symm))
          rw [ord_succ, decide_eq_false (by omega)]; simp
        · rw [decide_eq_false h]
          exact j3 h1 (by rw [ord_succ, decide_eq_true (by omega)])
    have no : conB n (l.getD i cnz) = false → Ev (fun k => impl_PlanOk.j2 k (i : Int) l (l.length : Int) (i : Int) true n m l (l.getD i cnz).f0 (l.getD i cnz).f1 (l.getD i cnz).f2 (l.getD i cnz).f3 (l.getD i cnz).f4) (allC n l (d + 1) i) := fun h1 =>
      Ev.step (fun k => impl_PlanOk.j2.eq_2 _ _ _ _ _ _ _ _ _ _ _ _ _ _) (Ev.pos rfl (Ev.now' (bad (by rw [h1]; rfl)).symm))
    refine Ev.step (fun k => impl_PlanOk.l0.eq_2 _ _ _ _ _ _ _) (Ev.pos (by omega) (Ev.pos (by omega) (Ev.pos (by omega) ?_)))
    rw [rdC]
    refine bStop (fun c0 => Ev.pos rfl ?_) (fun c0 => Ev.neg (by simp) (no (con0 _ c0)))
    refine bStop (fun c1 => Ev.pos rfl ?_) (fun c1 => Ev.neg (by simp) (no (con1 _ c1)))
    refine Ev.ite (fun c2 => no (con2 _ c2)) (fun c2 => ?_)
    refine Ev.bnd0 (valid_eq _ _) ?_
    cases c3 : (inB (l.getD i cnz).f2 0 199 && inB (l.getD i cnz).f3 (l.getD i cnz).f2 199) with
    | false =>
      refine Ev.neg (by simp) (no ?_)
      cases h3 : inB (l.getD i cnz).f2 0 199 with
      | false => exact con3 _ h3
      | true => rw [h3, Bool.true_and] at c3; exact con4 _ c3
    | true =>
      have h3 := (Bool.and_eq_true _ _ ▸ c3 : inB (l.getD i cnz).f2 0 199 = true ∧ inB (l.getD i cnz).f3 (l.getD i cnz).f2 199 = true)
      refine Ev.pos rfl (bWi (f := fun t k => impl_PlanOk.j2 k (i : Int) l (l.length : Int) (i : Int) (!t) n m l (l.getD i cnz).f0 (l.getD i cnz).f1 (l.getD i cnz).f2 (l.getD i cnz).f3 (l.getD i cnz).f4) (fun c5 => j2 ?_) (fun c5 => no (con5 _ c5)))
      unfold conB; rw [c0, c1, h3.1, h3.2, c5, decide_eq_false c2]; rfl
theorem iPlan_ev (n m : Int) (l : List Cn) (hl : l.length ≤ 1000000000000) : Ev (fun k => impl_PlanOk.f k n m l) (allC n l l.length 0 && headB n m l) := by
  have no : headB n m l = false → Ev (fun k => impl_PlanOk.j0 k true n m l) (allC n l l.length 0 && headB n m l) := fun h => Ev.step (fun k => impl_PlanOk.j0.eq_2 _ _ _ _ _) (Ev.pos rfl (Ev.now' (by rw [h, Bool.and_false])))
  unfold impl_PlanOk.f
  refine bWi (fun c0 => Ev.pos rfl ?_) (fun c0 => Ev.neg (by simp) (no (by simp [headB, c0])))
  refine bWi (fun c1 => Ev.pos rfl ?_) (fun c1 => Ev.neg (by simp) (no (by simp [headB, c1])))
  by_cases h : (l.length : Int) > 16
  · rw [decide_eq_true h]
    exact no (by unfold headB; rw [decide_eq_false (show ¬ (l.length : Int) ≤ 16 by omega)]; simp)
  · rw [decide_eq_false h]
    have hh : headB n m l = true := by unfold headB; rw [c0, c1, decide_eq_true (show (l.length : Int) ≤ 16 by omega)]; rfl
    rw [hh, Bool.and_true]
    exact Ev.step (fun k => impl_PlanOk.j0.eq_2 _ _ _ _ _) (Ev.neg (by simp) (iPlan_loop n m l hl l.length 0 (by omega) (by omega)))
end Go.Proofs.Ytpjmkghmjpbldaa.M
