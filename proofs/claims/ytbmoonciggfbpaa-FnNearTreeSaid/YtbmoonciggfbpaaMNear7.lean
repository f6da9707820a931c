/- The best way itself: whole functions. -/
import Derived.Test.YtbmoonciggfbpaaMNear6
import Derived.Test.YtbmoonciggfbpaaPrintF29
import Derived.Test.YtbmoonciggfbpaaPrintF30
import Derived.Test.YtbmoonciggfbpaaPrintF32
import Derived.Test.YtbmoonciggfbpaaPrintF33
import Derived.Test.YtbmoonciggfbpaaPrintF38
import Derived.Test.YtbmoonciggfbpaaPrintF44
import Derived.Test.YtbmoonciggfbpaaPrintF46
set_option linter.unusedVariables false
set_option linter.unusedSimpArgs false
namespace Go.Proofs.Ytbmoonciggfbpaa.M
open Go.RowKit Go.Proofs.Ytbmoonciggfbpaa.Print Go.Proofs.YtbmoonciggfbpaaW.PrintWords Go.Proofs.YtbmoonciggfbpaaW.PrintLast Go.Proofs.YtbmoonciggfbpaaY
def twoB (n : Int) (l : List Ar) (u t : Int) : Bool := netOkB n l && (decide (0 ≤ u ∧ u ≤ wrap64 (n - 1)) && decide (0 ≤ t ∧ t ≤ wrap64 (n - 1)))
theorem twoB_of {n u t : Int} {l : List Ar} (h : twoB n l u t = true) : NetP n l ∧ (0 ≤ u ∧ u < n) ∧ 0 ≤ t ∧ t < n := by
  unfold twoB at h
  simp only [Bool.and_eq_true, decide_eq_true_eq] at h
  have hN := netP_of h.1
  have := hN.lo
  have := hN.hi
  rw [w64 (x := n - 1) (by omega) (by omega)] at h
  exact ⟨hN, by omega, by omega⟩
theorem twoB_to {n u t : Int} {l : List Ar} (hN : NetP n l) (h0 : 0 ≤ u) (h1 : u < n) (t0 : 0 ≤ t) (t1 : t < n) : twoB n l u t = true := by
  have := hN.lo
  have := hN.hi
  unfold twoB
  rw [ok_of hN, w64 (x := n - 1) (by omega) (by omega)]
  simp; omega
theorem nodesIn2_ev (n : Int) (l : List Ar) (u t : Int) : impl_nodesIn.f n l [u, t] = some (twoB n l u t) := by
  unfold impl_nodesIn.f twoB
  show (some (netOkB n l)).bind _ = _
  rw [Option.bind_some]
  cases netOkB n l with
  | false => rfl
  | true =>
    rw [if_pos rfl]
    show (some (!([u, t].any (n_no n)))).bind _ = _
    unfold n_no
    simp [Bool.not_or]
def wayR (M : List Me) (l : List Ar) (u : Int) : List Int × Bool := if (atM M u).f0 = 99999 then ([], false) else (way M l u, true)
theorem wayR_len {n : Int} {l : List Ar} (hN : NetP n l) {t : Int} {M : List Me} (b : Inv n l t M) {u : Int} (h0 : 0 ≤ u) (h1 : u < n) : (wayR M l u).1.length ≤ 8 := by
  have bd := b.bounds hN u h0 h1
  unfold wayR
  split
  · simp
  · show (way M l u).length ≤ 8
    rw [way_len]; omega
/-- What NearWalk answers. -/
theorem nearWalk_ev (n : Int) (l : List Ar) (u t : Int) (hl : l.length ≤ 1000000000) : ∃ r : List Int × Bool, Ev (fun k => impl_NearWalk.f k n l u t) r ∧ Ev (fun k => spec_NearWalk.f k n l u t) r ∧ r.1.length ≤ 8 ∧ (twoB n l u t = false → r = ([], false)) ∧ (twoB n l u t = true → ∃ M, Best n l t M ∧ Ev (fun k => impl_Net_toward.f k n l t) M ∧ r = wayR M l u) := by
  by_cases hb : twoB n l u t = true
  · obtain ⟨hN, ⟨h0, h1⟩, t0, t1⟩ := twoB_of hb
    obtain ⟨M, b, et, e⟩ := best_ev hN h0 h1 t0 t1
    have h8 := hN.hi
    have h1' := hN.lo
    refine ⟨wayR M l u, ?_, ?_, wayR_len hN b.toInv h0 h1, fun h => absurd (hb.symm.trans h) (by simp), fun _ => ⟨M, b, et, rfl⟩⟩
    · unfold impl_NearWalk.f
      exact Ev.bnd0 (nodesIn2_ev n l u t) (Ev.pos hb (Ev.bnd e (Ev.now _)))
    · unfold spec_NearWalk.f
      refine Ev.bnd (sok1_ev n l (by omega)) (Ev.pos (ok_of hN) (Ev.bnd0 (nIn _ _ _) (Ev.pos (by rw [w64 (x := n - 1) (by omega) (by omega)]; simp; omega) (Ev.bnd0 (nIn _ _ _) (Ev.pos (by rw [w64 (x := n - 1) (by omega) (by omega)]; simp; omega) (Ev.bnd (sWalk_ev hN h0 h1 t0 t1 b) (Ev.now _)))))))
  · have hb' : twoB n l u t = false := by simpa using hb
    refine ⟨([], false), ?_, ?_, by simp, fun _ => rfl, fun h => absurd h hb⟩
    · unfold impl_NearWalk.f
      exact Ev.bnd0 (nodesIn2_ev n l u t) (Ev.neg hb (Ev.now _))
    · unfold spec_NearWalk.f
      refine Ev.bnd (sok1_ev n l (by omega)) (Ev.ite (fun h => Ev.bnd0 (nIn _ _ _) (Ev.ite (fun h2 => Ev.bnd0 (nIn _ _ _) (Ev.neg (fun h3 => hb ?_) (Ev.now _))) (fun _ => Ev.now _))) (fun _ => Ev.now _))
      unfold twoB
      rw [h, h2, h3]; rfl
/-! ### The tree -/
def treeV (M : List Me) (l : List Ar) (t : Int) (v : Int) : Int := if v = t then -1 else if (atM M v).f0 = 99999 then -1 else fnd M l v
def treeL (M : List Me) (l : List Ar) (t : Int) (m : Nat) : List Int := (List.range m).map (fun (i : Nat) => treeV M l t (i : Int))
theorem treeL_len (M : List Me) (l : List Ar) (t : Int) (m : Nat) : (treeL M l t m).length = m := by simp [treeL]
theorem treeL_succ (M : List Me) (l : List Ar) (t : Int) (m : Nat) : treeL M l t (m + 1) = treeL M l t m ++ [treeV M l t (m : Int)] := by simp [treeL, List.range_succ]
theorem treeL_rd (M : List Me) (l : List Ar) (t : Int) (m : Nat) (v : Int) (h0 : 0 ≤ v) (h1 : v < m) : Go.Proofs.YtbmoonciggfbpaaW.PrintWords.rd (treeL M l t m) v = treeV M l t v := by
  unfold Go.Proofs.YtbmoonciggfbpaaW.PrintWords.rd
  rw [getDI _ _ (by rw [treeL_len]; omega)]
  unfold treeL
  rw [List.getElem_map, List.getElem_range, Int.toNat_of_nonneg h0]
theorem iTree_loop {n : Int} {l : List Ar} (hN : NetP n l) {t : Int} {M : List Me} (b : Inv n l t M) (q : Nat) : ∀ j : Nat, (j : Int) + q = n → Ev (fun k => impl_NearTree.l0 k t M (treeL M l t j) n (j : Int) n l) (treeL M l t n.toNat) := by
  have h8 := hN.hi
  have hl := b.len
  induction q with
  | zero => intro j hj; exact Ev.step (fun k => impl_NearTree.l0.eq_2 _ _ _ _ _ _ _ _) (Ev.neg (by omega) (Ev.now' (by rw [show j = n.toNat by omega])))
  | succ q ih =>
    intro j hj
    have nx := ih (j + 1) (by omega)
    rw [treeL_succ] at nx
    refine Ev.step (fun k => impl_NearTree.l0.eq_2 _ _ _ _ _ _ _ _) (Ev.pos (by omega) ?_)
    rw [nxt j (by omega)]
    refine Ev.ite (fun c => Ev.pos (by rw [treeL_len]; omega) ?_) (fun c => Ev.pos (by omega) (Ev.pos (by omega) ?_))
    · rw [show treeV M l t (j : Int) = -1 from by unfold treeV; rw [if_pos c]] at nx; exact nx
    · rw [rdM]
      refine Ev.ite (fun c2 => Ev.pos (by rw [treeL_len]; omega) ?_) (fun c2 => Ev.bnd0 (firstArc_eq hN b (show (0 : Int) ≤ (j : Int) by omega) (by omega)) (Ev.pos (by rw [treeL_len]; omega) ?_))
      · rw [show treeV M l t (j : Int) = -1 from by unfold treeV; rw [if_neg c, if_pos c2]] at nx; exact nx
      · rw [show treeV M l t (j : Int) = fnd M l (j : Int) from by unfold treeV; rw [if_neg c, if_neg c2]] at nx; exact nx
theorem sTree_loop {n : Int} {l : List Ar} (hN : NetP n l) {t : Int} (t0 : 0 ≤ t) (t1 : t < n) {M : List Me} (b : Best n l t M) (q : Nat) : ∀ j : Nat, (j : Int) + q = n → Ev (fun k => spec_NearTree.l0 k t (treeL M l t j) (j : Int) n l) (treeL M l t n.toNat) := by
  have h8 := hN.hi
  induction q with
  | zero => intro j hj; exact Ev.step (fun k => spec_NearTree.l0.eq_2 _ _ _ _ _ _) (Ev.neg (by omega) (Ev.now' (by rw [show j = n.toNat by omega])))
  | succ q ih =>
    intro j hj
    have nx := ih (j + 1) (by omega)
    rw [treeL_succ] at nx
    refine Ev.step (fun k => spec_NearTree.l0.eq_2 _ _ _ _ _ _) (Ev.pos (by omega) (Ev.bnd (sWalk_ev hN (show (0 : Int) ≤ (j : Int) by omega) (by omega) t0 t1 b) ?_))
    rw [nxt j (by omega)]
    have none_ : treeV M l t (j : Int) = -1 → (if (atM M (j : Int)).f0 = 99999 then (([] : List Int), false) else (way M l (j : Int), true)).1 = [] → Ev (fun k => if (((if (atM M (j : Int)).f0 = 99999 then (([] : List Int), false) else (way M l (j : Int), true)).1.length : Nat) : Int) > 0 then (if 0 < (((if (atM M (j : Int)).f0 = 99999 then (([] : List Int), false) else (way M l (j : Int), true)).1.length : Nat) : Int) then (if (treeL M l t j).length < 17592186044416 then spec_NearTree.l0 k t (treeL M l t j ++ [Go.Proofs.YtbmoonciggfbpaaW.PrintWords.rd (if (atM M (j : Int)).f0 = 99999 then (([] : List Int), false) else (way M l (j : Int), true)).1 0]) ((j + 1 : Nat) : Int) n l else none) else none) else (if (treeL M l t j).length < 17592186044416 then spec_NearTree.l0 k t (treeL M l t j ++ [-1]) ((j + 1 : Nat) : Int) n l else none)) (treeL M l t n.toNat) := fun h1 h2 => by
      rw [h2]
      rw [h1] at nx
      exact Ev.neg (by simp) (Ev.pos (by rw [treeL_len]; omega) nx)
    by_cases c : (j : Int) = t
    · refine none_ (by unfold treeV; rw [if_pos c]) ?_
      rw [c]
      split
      · rfl
      · exact way_self b
    · by_cases c2 : (atM M (j : Int)).f0 = 99999
      · exact none_ (by unfold treeV; rw [if_neg c, if_pos c2]) (by rw [if_pos c2])
      · rw [if_neg c2]
        have hw := way_step hN b (show (0 : Int) ≤ (j : Int) by omega) (by omega) c c2
        rw [show treeV M l t (j : Int) = fnd M l (j : Int) from by unfold treeV; rw [if_neg c, if_neg c2]] at nx
        show Ev (fun k => if ((way M l (j : Int)).length : Int) > 0 then _ else _) _
        rw [hw]
        exact Ev.pos (by simp) (Ev.pos (by simp) (Ev.pos (by rw [treeL_len]; omega) nx))
/-- What NearTree answers. -/
theorem nearTree_ev (n : Int) (l : List Ar) (v : Int) (hl : l.length ≤ 1000000000) : ∃ d, Ev (fun k => impl_NearTree.f k n l v) d ∧ Ev (fun k => spec_NearTree.f k n l v) d ∧ d.length ≤ 8 ∧ (nodeB n l v = false → d = []) ∧ (nodeB n l v = true → ∃ M, Best n l v M ∧ Ev (fun k => impl_Net_toward.f k n l v) M ∧ d = treeL M l v n.toNat) := by
  by_cases hb : nodeB n l v = true
  · obtain ⟨hN, h0, h1⟩ := nodeB_of hb
    obtain ⟨M, e, b⟩ := toward_ev hN h0 h1
    have hlen := b.len
    have h8 := hN.hi
    have h1' := hN.lo
    refine ⟨treeL M l v n.toNat, ?_, ?_, by rw [treeL_len]; omega, fun h => absurd (hb.symm.trans h) (by simp), fun _ => ⟨M, b, e, rfl⟩⟩
    · unfold impl_NearTree.f
      exact Ev.bnd0 (nodesIn_ev n l v) (Ev.pos hb (Ev.bnd e (Ev.pos (by omega) (Ev.pos (by omega) (iTree_loop hN b.toInv n.toNat 0 (by omega))))))
    · unfold spec_NearTree.f
      refine Ev.bnd (sok1_ev n l (by omega)) (Ev.pos (ok_of hN) (Ev.bnd0 (nIn _ _ _) ?_))
      refine Ev.step (fun k => spec_NearTree.j0.eq_2 _ _ _ _ _) (Ev.neg (by rw [w64 (x := n - 1) (by omega) (by omega)]; simp; omega) ?_)
      exact sTree_loop hN h0 h1 b n.toNat 0 (by omega)
  · have hb' : nodeB n l v = false := by simpa using hb
    refine ⟨[], ?_, ?_, by simp, fun _ => rfl, fun h => absurd h hb⟩
    · unfold impl_NearTree.f
      exact Ev.bnd0 (nodesIn_ev n l v) (Ev.neg hb (Ev.now _))
    · unfold spec_NearTree.f
      refine Ev.bnd (sok1_ev n l (by omega)) (Ev.ite (fun h => Ev.bnd0 (nIn _ _ _) (Ev.step (fun k => spec_NearTree.j0.eq_2 _ _ _ _ _) (Ev.pos ?_ (Ev.now _)))) (fun h => Ev.step (fun k => spec_NearTree.j0.eq_2 _ _ _ _ _) (Ev.pos rfl (Ev.now _))))
      have : decide (0 ≤ v ∧ v ≤ wrap64 (n - 1)) = false := by unfold nodeB at hb'; rw [h, Bool.true_and] at hb'; exact hb'
      rw [this]; rfl
end Go.Proofs.Ytbmoonciggfbpaa.M
