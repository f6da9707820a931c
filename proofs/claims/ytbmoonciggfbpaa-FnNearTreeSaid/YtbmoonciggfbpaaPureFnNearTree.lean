/- For every code: what FnNearTree asks holds. No condition beyond those that the statement has. -/
import Derived.Test.YtbmoonciggfbpaaMNear7
import Derived.Test.YtbmoonciggfbpaaMDrawNO
import Derived.Test.YtbmoonciggfbpaaMWk
import Derived.Test.YtbmoonciggfbpaaPrintF31
import Derived.Test.YtbmoonciggfbpaaPrintF9
set_option linter.unusedVariables false
namespace Go.Proofs.Ytbmoonciggfbpaa.Pure
open Go.RowKit Go.Proofs.Ytbmoonciggfbpaa.Print Go.Proofs.YtbmoonciggfbpaaW.PrintWords Go.Proofs.YtbmoonciggfbpaaW.PrintLast Go.Proofs.YtbmoonciggfbpaaY Go.Proofs.Ytbmoonciggfbpaa.M
theorem FnNearTree : laws_FnNearTree.Pure := by
  intro l0 hm hm2 hb
  suffices h : Ev (fun k => laws_FnNearTree.f k l0) true by
    obtain ⟨K, h⟩ := h
    exact ⟨K, h K (Nat.le_refl _)⟩
  unfold laws_FnNearTree.f
  refine Ev.ite (fun _ => Ev.now _) (fun _ => ?_)
  obtain ⟨n, l, t, ed, hN⟩ := drawNO_ev l0 hb
  have hlen := hN.len
  obtain ⟨d, hi, hs, hd, hz, hM⟩ := nearTree_ev n l t (by omega)
  have hwk := wkI_ev d (by omega)
  refine Ev.bnd (a := (n, l, t)) ?_ (Ev.bnd hi (Ev.bnd hs (Ev.bnd hwk (Ev.pos rfl ?_))))
  · unfold spec_DrawNearTree.f
    exact Ev.bnd ed (Ev.now _)
  cases hb1 : nodeB n l t with
  | false =>
    rw [hz hb1] at hs hwk ⊢
    exact Ev.step (fun k => laws_FnNearTree.j0.eq_2 _ _ _ _ _ _) (Ev.pos rfl (Ev.bnd hs (Ev.bnd hwk (Ev.now _))))
  | true =>
    obtain ⟨hP, t0, t1⟩ := nodeB_of hb1
    obtain ⟨M, b, et, rfl⟩ := hM hb1
    have n1 := hP.lo
    have n8 := hP.hi
    have hl := treeL_len M l t n.toNat
    rw [show (((treeL M l t n.toNat).length : Int) == 0) = false from by rw [hl]; simp; omega]
    refine Ev.step (fun k => laws_FnNearTree.j0.eq_2 _ _ _ _ _ _) (Ev.neg (by simp) ?_)
    have rdt : ∀ v : Int, 0 ≤ v → v < n → Go.Proofs.YtbmoonciggfbpaaW.PrintWords.rd (treeL M l t n.toNat) v = treeV M l t v := fun v h0 h1 => treeL_rd M l t n.toNat v h0 (by omega)
    -- along the tree
    have go : ∀ (m : Nat) (v : Int) (u : Int) (acc : List Int), 0 ≤ v → v < n → (atM M v).f0 ≠ 99999 → (atM M v).f1 = m → (acc.length : Int) + m ≤ n → Ev (fun k => laws_FnNearTree.j3 k t (treeL M l t n.toNat) u (acc ++ way M l v) t n l) true → Ev (fun k => laws_FnNearTree.l1 k t (treeL M l t n.toNat) u acc v n l) true := by
      intro m
      induction m with
      | zero =>
        intro v u acc h0 h1 hf hm ha h
        have e : v = t := by
          by_cases e : v = t
          · exact e
          · obtain ⟨a, hal, rfl, q1, q2, q3⟩ := best_first hP b h0 h1 e hf
            have g := hP.arc a hal
            have := b.bounds hP a.f1 (by omega) (by omega)
            omega
        subst e
        rw [way_self b, List.append_nil] at h
        exact Ev.step (fun k => laws_FnNearTree.l1.eq_2 _ _ _ _ _ _ _ _) (Ev.pos rfl h)
      | succ m ih =>
        intro v u acc h0 h1 hf hm ha h
        have e : v ≠ t := fun e => by rw [e, b.tgt] at hm; simp at hm; omega
        obtain ⟨j, j1, j2, j3, j4, j5, j6, _⟩ := fnd_spec hP b h0 h1 e hf
        have hmem : l.getD j arz ∈ l := by rw [getDA l j j1]; exact List.getElem_mem _
        have g := hP.arc _ hmem
        have ev : treeV M l t v = (j : Int) := by unfold treeV; rw [if_neg e, if_neg hf, j2]
        refine Ev.step (fun k => laws_FnNearTree.l1.eq_2 _ _ _ _ _ _ _ _) (Ev.neg e (Ev.pos h0 (Ev.pos (by rw [hl]; omega) ?_)))
        rw [rdt v h0 h1, ev, rdA]
        refine Ev.pos (by omega) (Ev.pos (by omega) (Ev.pos (by omega) (Ev.pos (by omega) (Ev.pos (by omega) ?_))))
        refine ih (l.getD j arz).f1 u (acc ++ [(j : Int)]) (by omega) (by omega) j4 (by omega) (by simp; omega) ?_
        have hst := way_step hP b h0 h1 e hf
        rw [j2, Int.toNat_natCast] at hst
        rw [hst] at h
        rw [List.append_assoc]
        exact h
    have loop : ∀ (q j : Nat), (j : Int) + q = n → Ev (fun k => laws_FnNearTree.l0 k t (treeL M l t n.toNat) (j : Int) n l) true := by
      intro q
      induction q with
      | zero =>
        intro j hj
        refine Ev.step (fun k => laws_FnNearTree.l0.eq_2 _ _ _ _ _ _) (Ev.neg (by omega) (Ev.pos t0 (Ev.pos (by rw [hl]; omega) (Ev.now' ?_))))
        rw [rdt t t0 t1]
        unfold treeV
        rw [if_pos rfl]; rfl
      | succ q ih =>
        intro j hj
        have nx' := ih (j + 1) (by omega)
        have j0 : (0 : Int) ≤ (j : Int) := by omega
        have j1 : (j : Int) < n := by omega
        obtain ⟨r, hr, _, hrl, _, hMr⟩ := nearWalk_ev n l (j : Int) t (by omega)
        obtain ⟨M2, b2, et2, er2⟩ := hMr (twoB_to hP j0 j1 t0 t1)
        rw [Ev.uniq et2 et] at er2
        subst er2
        refine Ev.step (fun k => laws_FnNearTree.l0.eq_2 _ _ _ _ _ _) (Ev.pos (by omega) ?_)
        by_cases hf : (atM M (j : Int)).f0 = 99999
        · have hjt : (j : Int) ≠ t := fun e => by rw [e, b.tgt] at hf; simp at hf
          refine Ev.step (fun k => laws_FnNearTree.l1.eq_2 _ _ _ _ _ _ _ _) (Ev.neg hjt (Ev.pos j0 (Ev.pos (by rw [hl]; omega) ?_)))
          rw [rdt _ j0 j1]
          refine Ev.neg (by unfold treeV; rw [if_neg hjt, if_pos hf]; omega) ?_
          refine Ev.step (fun k => laws_FnNearTree.j3.eq_2 _ _ _ _ _ _ _ _) (Ev.bnd hr ?_)
          rw [nxt j (by omega)]
          unfold wayR
          rw [if_pos hf]
          exact Ev.neg (by simp [hjt]) (Ev.neg (by simp) nx')
        · have bd := b.bounds hP (j : Int) j0 j1
          have sa := short_arcs hP b.toInv (j : Int) j0 j1 hf
          refine go ((atM M (j : Int)).f1).toNat (j : Int) (j : Int) [] j0 j1 hf (by omega) (by simp; omega) ?_
          rw [List.nil_append]
          refine Ev.step (fun k => laws_FnNearTree.j3.eq_2 _ _ _ _ _ _ _ _) (Ev.bnd hr ?_)
          rw [nxt j (by omega)]
          have hwl := way_len M l (j : Int)
          unfold wayR
          rw [if_neg hf]
          exact Ev.neg (by simp) (Ev.pos rfl (Ev.bnd (wkI_ev (way M l (j : Int)) (by omega)) (Ev.pos rfl nx')))
    exact loop n.toNat 0 (by omega)
end Go.Proofs.Ytbmoonciggfbpaa.Pure
