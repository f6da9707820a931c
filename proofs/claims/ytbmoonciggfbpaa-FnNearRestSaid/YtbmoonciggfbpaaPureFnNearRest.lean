/- For every code: what FnNearRest asks holds. No condition beyond those that the statement has. -/
import Derived.Test.YtbmoonciggfbpaaMNear7
import Derived.Test.YtbmoonciggfbpaaMDrawNW
import Derived.Test.YtbmoonciggfbpaaMWk
import Derived.Test.YtbmoonciggfbpaaPrintF7
set_option linter.unusedVariables false
namespace Go.Proofs.Ytbmoonciggfbpaa.Pure
open Go.RowKit Go.Proofs.Ytbmoonciggfbpaa.Print Go.Proofs.YtbmoonciggfbpaaW.PrintWords Go.Proofs.YtbmoonciggfbpaaW.PrintLast Go.Proofs.YtbmoonciggfbpaaY Go.Proofs.Ytbmoonciggfbpaa.M
theorem FnNearRest : laws_FnNearRest.Pure := by
  intro l0 hm hm2 hb
  suffices h : Ev (fun k => laws_FnNearRest.f k l0) true by
    obtain ⟨K, h⟩ := h
    exact ⟨K, h K (Nat.le_refl _)⟩
  unfold laws_FnNearRest.f
  refine Ev.ite (fun _ => Ev.now _) (fun _ => ?_)
  obtain ⟨n, l, u, t, ed, hN⟩ := drawNW_ev l0 hb
  have hlen := hN.len
  obtain ⟨⟨w, o⟩, hi, hs, hd, hz, hM⟩ := nearWalk_ev n l u t (by omega)
  have hd' : w.length ≤ 8 := hd
  have hwk := wkI_ev w (by omega)
  refine Ev.bnd (a := (n, l, u, t)) ed (Ev.bnd hi (Ev.bnd hs (Ev.neg (by simp) (Ev.bnd hwk (Ev.pos rfl ?_)))))
  by_cases hw : w = []
  · subst hw
    exact Ev.step (fun k => laws_FnNearRest.j0.eq_2 _ _ _ _ _ _ _ _ _) (Ev.pos rfl (Ev.pos (by simp) (Ev.bnd hwk (Ev.now _))))
  · have hwl : w.length ≠ 0 := fun e => hw (List.eq_nil_of_length_eq_zero e)
    have hl0 : ((w.length : Int) == 0) = false := by simp; omega
    have hb1 : twoB n l u t = true := by
      by_cases h : twoB n l u t = true
      · exact h
      · have := hz (by simpa using h)
        exact absurd (Prod.mk.inj this).1 hw
    obtain ⟨hP, ⟨h0, h1⟩, t0, t1⟩ := twoB_of hb1
    obtain ⟨M, b, et, er⟩ := hM hb1
    have hf : (atM M u).f0 ≠ 99999 := fun e => by
      unfold wayR at er
      rw [if_pos e] at er
      exact hw (Prod.mk.inj er).1
    have e1 : w = way M l u := by unfold wayR at er; rw [if_neg hf] at er; exact (Prod.mk.inj er).1
    have hut : u ≠ t := fun e => by rw [e1, e, way_self b] at hw; exact hw rfl
    obtain ⟨j, j1, j2, j3, j4, j5, j6, _⟩ := fnd_spec hP b h0 h1 hut hf
    have hmem : l.getD j arz ∈ l := by rw [getDA l j j1]; exact List.getElem_mem _
    have g := hP.arc _ hmem
    have hst := way_step hP b h0 h1 hut hf
    rw [j2, Int.toNat_natCast] at hst
    have hw0 : Go.Proofs.YtbmoonciggfbpaaW.PrintWords.rd w 0 = (j : Int) := by rw [e1, hst]; rfl
    show Ev (fun k => laws_FnNearRest.j0 k t w o w o ((w.length : Int) == 0) n l) true
    rw [hl0]
    refine Ev.step (fun k => laws_FnNearRest.j0.eq_2 _ _ _ _ _ _ _ _ _) (Ev.neg (by simp) (Ev.pos (by omega) ?_))
    rw [hw0, rdA]
    refine Ev.pos (by omega) (Ev.pos (by omega) ?_)
    obtain ⟨⟨w2, o2⟩, hi2, _, _, _, hM2⟩ := nearWalk_ev n l (l.getD j arz).f1 t (by omega)
    obtain ⟨M2, b2, et2, er2⟩ := hM2 (twoB_to hP (by omega) (by omega) t0 t1)
    rw [Ev.uniq et2 et] at er2
    unfold wayR at er2
    rw [if_neg j4] at er2
    obtain ⟨rfl, rfl⟩ := Prod.mk.inj er2
    refine Ev.bnd hi2 (Ev.pos rfl (Ev.pos (by omega) ?_))
    rw [show w.drop 1 = way M l (l.getD j arz).f1 from by rw [e1, hst]; rfl]
    have hlw : (way M l (l.getD j arz).f1).length ≤ 8 := by
      have : w.length = (way M l (l.getD j arz).f1).length + 1 := by rw [e1, hst]; rfl
      omega
    exact Ev.bnd (wkI_ev _ (by omega)) (Ev.now _)
end Go.Proofs.Ytbmoonciggfbpaa.Pure
