/- For every code: what FnStairBest asks holds. No condition beyond those that the statement has. -/
import Derived.Test.YtfpfaaibgaejjaaPrintF10
import Derived.Test.YtfpfaaibgaejjaaPrintF22
import Derived.Test.YtfpfaaibgaejjaaY
import Derived.Test.YtfpfaaibgaejjaaMSteps
import Derived.Test.YtfpfaaibgaejjaaMDrawSt
import Derived.Test.YtfpfaaibgaejjaaMProfEv
set_option linter.unusedVariables false
namespace Go.Proofs.Ytfpfaaibgaejjaa.Pure
open Go.RowKit Go.Proofs.Ytfpfaaibgaejjaa.Print Go.Proofs.YtfpfaaibgaejjaaW.PrintWords Go.Proofs.YtfpfaaibgaejjaaW.PrintLast Go.Proofs.YtfpfaaibgaejjaaY Go.Proofs.Ytfpfaaibgaejjaa.M
theorem bst_app {a b : List St} (hv : ∀ x ∈ a ++ b, Val x) (t : Int) : bst t (a ++ b) = if bst t b < bst t a then bst t b else bst t a := by
  have ga := bst_at t a
  have gb := bst_at t b
  refine (BstAt.eq ?_ (val_f1 hv)).symm
  split
  · rename_i c
    refine ⟨gb.hi, ?_, fun x hx h0 => ?_⟩
    · rcases gb.at_ with e | ⟨x, hx, h0, h1⟩
      · exact .inl e
      · exact .inr ⟨x, by simp [hx], h0, h1⟩
    · rcases List.mem_append.1 hx with hx | hx
      · have := ga.min x hx h0; omega
      · exact gb.min x hx h0
  · rename_i c
    refine ⟨ga.hi, ?_, fun x hx h0 => ?_⟩
    · rcases ga.at_ with e | ⟨x, hx, h0, h1⟩
      · exact .inl e
      · exact .inr ⟨x, by simp [hx], h0, h1⟩
    · rcases List.mem_append.1 hx with hx | hx
      · exact ga.min x hx h0
      · have := gb.min x hx h0; omega
theorem FnStairBest : laws_FnStairBest.Pure := by
  intro l0 _ _ hb
  refine Ev.rounds (g := fun k => laws_FnStairBest.f k l0) ?_
  unfold laws_FnStairBest.f
  refine Ev.ite (fun _ => Ev.now _) (fun _ => ?_)
  obtain ⟨a, b, hd, ha, hb'⟩ := drawBest_ev l0 hb
  have hi := ibest_ev a b (by omega) (by omega)
  have hs := sbest_ev a b (by omega) (by omega)
  have hl : (bestV a b).1.length ≤ 12 := by
    unfold bestV
    split
    · exact ofV_len _
    · simp
  have hw := wkS_ev (bestV a b).1 (by omega)
  refine Ev.bnd (a := (a, b)) hd (Ev.bnd hi (Ev.bnd hs (Ev.neg (by simp) (Ev.bnd hw (Ev.pos rfl ?_)))))
  cases ho : (bestV a b).2 with
  | false => exact Ev.step (fun k => laws_FnStairBest.j0.eq_2 _ _ _ _ _ _ _ _) (Ev.pos rfl (Ev.pos rfl (Ev.bnd hw (Ev.now _))))
  | true =>
    have hab : okB a = true ∧ okB b = true := Classical.byContradiction (fun h => by rw [show bestV a b = ([], false) from if_neg h] at ho; cases ho)
    have eb : bestV a b = ofV (a ++ b) := if_pos hab
    have ebk : bestV b a = ofV (a ++ b) := by
      rw [show bestV b a = ofV (b ++ a) from if_pos ⟨hab.2, hab.1⟩]
      exact ofV_perm (fun x => by simp [or_comm])
    rw [eb] at ho
    obtain ⟨hv, ev, hok, hat⟩ := of_facts ho
    have hv1 : (bestV a b).1 = prof (a ++ b) := by rw [eb, ev]
    rw [hv1] at hl hw ⊢
    have hbk := ibest_ev b a (by omega) (by omega)
    have at_ := fun (s : List St) (h : okB s = true) (hl : s.length ≤ 1000000000000) (t : Int) => (by have := iat_ev t s hl; rw [atV_ok h] at this; exact this : Ev (fun k => impl_StairAt.f k s t) (arr t s))
    refine Ev.step (fun k => laws_FnStairBest.j0.eq_2 _ _ _ _ _ _ _ _) (Ev.neg (by simp) ?_)
    have loop : ∀ (d i : Nat), i + d = 200 → Ev (fun k => laws_FnStairBest.l0 k a b (prof (a ++ b)) (i : Int)) true := by
      intro d
      induction d with
      | zero =>
        intro i hi
        refine Ev.step (fun k => laws_FnStairBest.l0.eq_2 _ _ _ _ _) (Ev.neg (by omega) (Ev.bnd hbk (Ev.bnd (iok_ev _ (by omega)) (Ev.pos hok ?_))))
        rw [ebk, ev]
        exact Ev.bnd hw (Ev.now _)
      | succ d ih =>
        intro i hi
        have h := hat (i : Int)
        rw [bst_app hv, ← up_arr (ok_up hab.1).1, ← up_arr (ok_up hab.2).1] at h
        refine Ev.step (fun k => laws_FnStairBest.l0.eq_2 _ _ _ _ _) (Ev.pos (by omega) (Ev.bnd (at_ a hab.1 (by omega) _) (Ev.bnd (at_ b hab.2 (by omega) _) ?_)))
        rw [nxp i (by omega)]
        by_cases c3 : arr (i : Int) b < arr (i : Int) a
        · rw [if_pos c3] at h
          exact Ev.pos c3 (Ev.bnd (at_ b hab.2 (by omega) _) (Ev.bnd (at_ _ hok (by omega) _) (Ev.pos h (ih (i + 1) (by omega)))))
        · rw [if_neg c3] at h
          exact Ev.neg c3 (Ev.bnd (at_ _ hok (by omega) _) (Ev.pos h (ih (i + 1) (by omega))))
    exact loop 200 0 (by omega)
end Go.Proofs.Ytfpfaaibgaejjaa.Pure
