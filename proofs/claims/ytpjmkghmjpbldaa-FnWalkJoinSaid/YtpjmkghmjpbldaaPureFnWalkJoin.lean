/- For every code: what FnWalkJoin asks holds. No condition beyond those that the statement has. -/
import Derived.Test.YtpjmkghmjpbldaaPrintF15
import Derived.Test.YtpjmkghmjpbldaaPrintF22
import Derived.Test.YtpjmkghmjpbldaaPrintF52
import Derived.Test.YtpjmkghmjpbldaaY
import Derived.Test.YtpjmkghmjpbldaaMWk
import Derived.Test.YtpjmkghmjpbldaaMDrawWalk
import Derived.Test.YtpjmkghmjpbldaaMJoin
set_option linter.unusedVariables false
namespace Go.Proofs.Ytpjmkghmjpbldaa.Pure
open Go.RowKit Go.Proofs.Ytpjmkghmjpbldaa.Print Go.Proofs.YtpjmkghmjpbldaaW.PrintWords Go.Proofs.YtpjmkghmjpbldaaW.PrintLast Go.Proofs.YtpjmkghmjpbldaaY Go.Proofs.Ytpjmkghmjpbldaa.M
theorem drawWJ_ev (l0 : List Int) (hb : ∀ x ∈ l0, (Lit.int .u8 x).wf = true) : ∃ n l a b, Ev (fun k => spec_DrawWalkJoin.f k l0) (n, l, a, b) ∧ DN n l ∧ a.length ≤ 22 ∧ b.length ≤ 22 := by
  obtain ⟨c, ec, hc⟩ := open_eq l0 hb
  obtain ⟨n, l, p, en, p0, p1, hN⟩ := anynet_ev c hc 0 (by omega) (by omega)
  have hlen := hN.len
  obtain ⟨a, q, ea, q0, q1, ha, hax⟩ := anywalk_ev c hc p n l (by omega) (by omega) hN
  have any : ∀ q', 0 ≤ q' → q' ≤ 3000 → ∃ b, Ev (fun k => spec_DrawWalkJoin.j0 k a false c q' n l) (n, l, a, b) ∧ b.length ≤ 22 := fun q' h0 h1 => by
    obtain ⟨b, _, eb, _, _, hb', _⟩ := anywalk_ev c hc q' n l h0 h1 hN
    exact ⟨b, Ev.step (fun k => spec_DrawWalkJoin.j0.eq_2 _ _ _ _ _ _ _) (Ev.neg (by simp) (Ev.bnd eb (Ev.now _))), hb'⟩
  obtain ⟨b0, e0, h0⟩ := any q (by omega) (by omega)
  by_cases hn : netOkB n l = true
  · by_cases h2 : wB l a = true
    · by_cases h3 : (a.length : Int) > 0
      · obtain ⟨r, er, r0, _, _⟩ := pick_ev c hc q 4 (by omega) (by omega) (by omega)
        obtain ⟨b1, e1, h1⟩ := any (q + 1) (by omega) (by omega)
        by_cases h4 : r > 0
        · have hW := wB_iff.1 h2
          have gl := (hW.1 (a.length - 1) (by omega)).1
          obtain ⟨b, _, eb, _, _, hb', _⟩ := walk_ev c hc n l (by omega) (q + 1) (arc l (a.getD (a.length - 1) 0)).f1 12 (by omega) (by omega) (by omega) (by omega)
          refine ⟨n, l, a, b, ?_, hN, ha, by omega⟩
          unfold spec_DrawWalkJoin.f
          refine Ev.bnd0 ec (Ev.bnd en (Ev.bnd ea (Ev.bnd (sok1_ev n l hN.long) (Ev.pos hn (Ev.bnd (swok_ev n l a hN.long (by omega)) (Ev.pos h2 (Ev.pos h3 (Ev.bnd er ?_))))))))
          show Ev (fun k => spec_DrawWalkJoin.j0 k a (decide (r > 0)) c (q + 1) n l) (n, l, a, b)
          rw [decide_eq_true h4]
          refine Ev.step (fun k => spec_DrawWalkJoin.j0.eq_2 _ _ _ _ _ _ _) (Ev.pos rfl ?_)
          rw [show wrap64 ((a.length : Int) - 1) = ((a.length - 1 : Nat) : Int) by rw [w64 (by omega) (by omega)]; omega, rdI, rdArc]
          exact Ev.pos (by omega) (Ev.pos (by omega) (Ev.pos gl.1 (Ev.pos gl.2 (Ev.bnd eb (Ev.now _)))))
        · refine ⟨n, l, a, b1, ?_, hN, ha, h1⟩
          unfold spec_DrawWalkJoin.f
          refine Ev.bnd0 ec (Ev.bnd en (Ev.bnd ea (Ev.bnd (sok1_ev n l hN.long) (Ev.pos hn (Ev.bnd (swok_ev n l a hN.long (by omega)) (Ev.pos h2 (Ev.pos h3 (Ev.bnd er ?_))))))))
          show Ev (fun k => spec_DrawWalkJoin.j0 k a (decide (r > 0)) c (q + 1) n l) (n, l, a, b1)
          rw [decide_eq_false h4]
          exact e1
      · refine ⟨n, l, a, b0, ?_, hN, ha, h0⟩
        unfold spec_DrawWalkJoin.f
        exact Ev.bnd0 ec (Ev.bnd en (Ev.bnd ea (Ev.bnd (sok1_ev n l hN.long) (Ev.pos hn (Ev.bnd (swok_ev n l a hN.long (by omega)) (Ev.pos h2 (Ev.neg h3 e0)))))))
    · refine ⟨n, l, a, b0, ?_, hN, ha, h0⟩
      unfold spec_DrawWalkJoin.f
      exact Ev.bnd0 ec (Ev.bnd en (Ev.bnd ea (Ev.bnd (sok1_ev n l hN.long) (Ev.pos hn (Ev.bnd (swok_ev n l a hN.long (by omega)) (Ev.neg h2 e0))))))
  · refine ⟨n, l, a, b0, ?_, hN, ha, h0⟩
    unfold spec_DrawWalkJoin.f
    exact Ev.bnd0 ec (Ev.bnd en (Ev.bnd ea (Ev.bnd (sok1_ev n l hN.long) (Ev.neg hn e0))))
theorem costS_app2 (l : List Ar) (a b : List Int) : costS l (a ++ b) = costS l a + costS l b := by
  induction a with
  | nil => simp [costS]
  | cons k t ih => simp only [List.cons_append, costS, ih]; omega
theorem FnWalkJoin : laws_FnWalkJoin.Pure := by
  intro l0 hm hm2 hb
  refine Ev.rounds (g := fun k => laws_FnWalkJoin.f k l0) ?_
  unfold laws_FnWalkJoin.f
  refine Ev.ite (fun _ => Ev.now _) (fun hl => ?_)
  obtain ⟨n, l, a, b, ed, hD, ha, hb'⟩ := drawWJ_ev l0 hb
  have hi := iJoin_ev n l a b hD.long (by omega) (by omega)
  have hs := sJoin_ev n l a b hD.long (by omega) (by omega)
  have hlen := joinV_len n l a b
  refine Ev.bnd ed (Ev.bnd hi (Ev.bnd hs (Ev.neg (by simp) (Ev.bnd (wkI_ev _ (by omega)) (Ev.pos rfl ?_)))))
  by_cases c : walkB n l (a ++ b) = true
  · have eV : joinV n l a b = (a ++ b, true) := by unfold joinV; rw [if_pos c]
    rw [eV]
    obtain ⟨hP, hW⟩ := walkP_of c
    have hA : WalkP l a := by have := hW.take a.length; rwa [List.take_left] at this
    have hB : WalkP l b := by have := hW.drop a.length; rwa [List.drop_left] at this
    have cA := costS_bd hP a (In_drop hA)
    have cB := costS_bd hP b (In_drop hB)
    have hla : (a ++ b).length = a.length + b.length := List.length_append
    have v1 : costV n l a = costS l a := by unfold costV; rw [if_pos (walkB_of hP hA)]
    have v2 : costV n l b = costS l b := by unfold costV; rw [if_pos (walkB_of hP hB)]
    have v3 : costV n l (a ++ b) = costS l a + costS l b := by unfold costV; rw [if_pos c, costS_app2]
    show Ev (fun k => laws_FnWalkJoin.j0 k a b (a ++ b) true (a ++ b) true (!true) n l) true
    refine Ev.step (fun k => laws_FnWalkJoin.j0.eq_2 _ _ _ _ _ _ _ _ _ _) (Ev.neg (by simp) (Ev.bnd (iwok_ev n l _ hD.long (by omega)) (Ev.pos c ?_)))
    rw [w64 (x := (a.length : Int) + (b.length : Int)) (by omega) (by omega), Int.toNat_natCast, List.take_left, List.drop_left]
    refine Ev.pos (by omega) (Ev.pos (by omega) (Ev.pos (by omega) (Ev.bnd (wkI_ev a (by omega)) (Ev.pos rfl (Ev.bnd (wkI_ev b (by omega)) (Ev.pos rfl (Ev.bnd (icostV_ev n l _ hD.long (by omega)) (Ev.bnd (icostV_ev n l a hD.long (by omega)) (Ev.bnd (icostV_ev n l b hD.long (by omega)) (Ev.now' ?_))))))))))
    rw [v1, v2, v3, w64 (by omega) (by omega)]
    simp
  · have eV : joinV n l a b = ([], false) := by unfold joinV; rw [if_neg c]
    rw [eV]
    exact Ev.step (fun k => laws_FnWalkJoin.j0.eq_2 _ _ _ _ _ _ _ _ _ _) (Ev.pos rfl (Ev.pos rfl (Ev.bnd (wkI_ev [] (by simp)) (Ev.now _))))
end Go.Proofs.Ytpjmkghmjpbldaa.Pure
