/- For every code: what FnStairOf asks holds. No condition beyond those that the statement has. -/
import Derived.Test.YtfpfaaibgaejjaaPrintF5
import Derived.Test.YtfpfaaibgaejjaaY
import Derived.Test.YtfpfaaibgaejjaaMSteps
import Derived.Test.YtfpfaaibgaejjaaMDrawSt
import Derived.Test.YtfpfaaibgaejjaaMProfEv
set_option linter.unusedVariables false
namespace Go.Proofs.Ytfpfaaibgaejjaa.Pure
open Go.RowKit Go.Proofs.Ytfpfaaibgaejjaa.Print Go.Proofs.YtfpfaaibgaejjaaW.PrintWords Go.Proofs.YtfpfaaibgaejjaaW.PrintLast Go.Proofs.YtfpfaaibgaejjaaY Go.Proofs.Ytfpfaaibgaejjaa.M
theorem turn_loop (l s : List St) (hl : l.length ≤ 1000000) (m : Nat) : m ≤ l.length → Ev (fun k => laws_FnStairOf.l1 k l s l.reverse 0) true → Ev (fun k => laws_FnStairOf.l0 k l s (l.drop m).reverse ((m : Int) - 1)) true := by
  induction m with
  | zero =>
    intro _ h
    exact Ev.step (fun k => laws_FnStairOf.l0.eq_2 _ _ _ _ _) (Ev.neg (by omega) (by rw [List.drop_zero]; exact h))
  | succ m ih =>
    intro hm h
    have h2 := ih (by omega) h
    rw [drop_cons l m (by omega), List.reverse_cons] at h2
    refine Ev.step (fun k => laws_FnStairOf.l0.eq_2 _ _ _ _ _) (Ev.pos (by omega) (Ev.pos (by omega) (Ev.pos (by omega) (Ev.pos (by rw [List.length_reverse, List.length_drop]; omega) ?_))))
    rw [show ((m + 1 : Nat) : Int) - 1 = (m : Int) by omega, rdn, w64 (x := (m : Int) - 1) (by omega) (by omega)]
    exact h2
theorem best_loop (l s x8 : List St) (hl : l.length ≤ 1000000) (t : Int) (hok : okB s = true) (hs : s.length ≤ 12) (h : arr t s = bst t l) (hn : Ev (fun k => laws_FnStairOf.l1 k l s x8 (wrap64 (t + 1))) true) (d : Nat) : ∀ (i : Nat) (b : Int), i ≤ l.length → l.length - i = d → bstFrom t b (l.drop i) = bst t l → Ev (fun k => laws_FnStairOf.l2 k l s x8 t b (i : Int)) true := by
  induction d with
  | zero =>
    intro i b hi hd hb
    rw [List.drop_eq_nil_of_le (by omega)] at hb
    have hb' : b = bst t l := hb
    have ha := iat_ev t s (by omega)
    rw [atV_ok hok] at ha
    exact Ev.step (fun k => laws_FnStairOf.l2.eq_2 _ _ _ _ _ _ _) (Ev.neg (by omega) (Ev.bnd ha (Ev.pos (by omega) hn)))
  | succ d ih =>
    intro i b hi hd hb
    rw [drop_cons l i (by omega)] at hb
    unfold bstFrom at hb
    refine Ev.step (fun k => laws_FnStairOf.l2.eq_2 _ _ _ _ _ _ _) (Ev.pos (by omega) (Ev.pos (by omega) ?_))
    rw [rdn, nxp i (by omega)]
    by_cases c1 : (l.getD i stz).f0 ≥ t
    · refine Ev.pos c1 ?_
      by_cases c2 : (l.getD i stz).f1 < b
      · rw [if_pos ⟨c1, c2⟩] at hb
        exact Ev.pos c2 (ih (i + 1) _ (by omega) (by omega) hb)
      · rw [if_neg (fun h => c2 h.2)] at hb
        exact Ev.neg c2 (ih (i + 1) _ (by omega) (by omega) hb)
    · rw [if_neg (fun h => c1 h.1)] at hb
      exact Ev.neg c1 (ih (i + 1) _ (by omega) (by omega) hb)
theorem FnStairOf : laws_FnStairOf.Pure := by
  intro l0 _ _ hb
  refine Ev.rounds (g := fun k => laws_FnStairOf.f k l0) ?_
  unfold laws_FnStairOf.f
  refine Ev.ite (fun _ => Ev.now _) (fun _ => ?_)
  obtain ⟨l, hd, hl⟩ := drawOf_ev l0 hb
  have hi := iof_ev l (by omega)
  have hs := sof_ev l (by omega)
  have h12 := ofV_len l
  have hw := wkS_ev (ofV l).1 (by omega)
  refine Ev.bnd hd (Ev.bnd hi (Ev.bnd hs (Ev.neg (by simp) (Ev.bnd hw (Ev.pos rfl ?_)))))
  cases ho : (ofV l).2 with
  | false => exact Ev.step (fun k => laws_FnStairOf.j0.eq_2 _ _ _ _ _ _ _) (Ev.pos rfl (Ev.pos rfl (Ev.bnd hw (Ev.now _))))
  | true =>
    obtain ⟨hv, ev, hok, hat⟩ := of_facts ho
    have h1 : (ofV l).1 = prof l := by rw [ev]
    rw [h1] at h12 hw ⊢
    have hrev : ofV l.reverse = (prof l, true) := by rw [← ev]; exact ofV_perm (fun x => by simp)
    have hself := ofV_self hok
    refine Ev.step (fun k => laws_FnStairOf.j0.eq_2 _ _ _ _ _ _ _) (Ev.neg (by simp) ?_)
    have loop : ∀ (d i : Nat), i + d = 200 → Ev (fun k => laws_FnStairOf.l1 k l (prof l) l.reverse (i : Int)) true := by
      intro d
      induction d with
      | zero =>
        intro i hi
        refine Ev.step (fun k => laws_FnStairOf.l1.eq_2 _ _ _ _ _) (Ev.neg (by omega) (Ev.bnd (iof_ev _ (by rw [List.length_reverse]; omega)) (Ev.bnd (iof_ev _ (by omega)) (Ev.bnd (iok_ev _ (by omega)) (Ev.pos hok ?_)))))
        rw [hrev, hself]
        exact Ev.bnd hw (Ev.pos rfl (Ev.bnd hw (Ev.now _)))
      | succ d ih =>
        intro i hi
        refine Ev.step (fun k => laws_FnStairOf.l1.eq_2 _ _ _ _ _) (Ev.pos (by omega) ?_)
        have h := best_loop l (prof l) l.reverse (by omega) (i : Int) hok h12 (hat _) (by rw [nxp i (by omega)]; exact ih (i + 1) (by omega)) l.length 0 99999 (by omega) (by omega) (by rw [List.drop_zero]; rfl)
        exact h
    have h := turn_loop l (prof l) (by omega) l.length (Nat.le_refl _) (loop 200 0 (by omega))
    rw [List.drop_eq_nil_of_le (Nat.le_refl _)] at h
    rw [w64 (x := (l.length : Int) - 1) (by omega) (by omega)]
    exact h
end Go.Proofs.Ytfpfaaibgaejjaa.Pure
