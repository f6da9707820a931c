/- For every code: what FnWalkPlain asks holds. No condition beyond those that the statement has. -/
import Derived.Test.YtpjmkghmjpbldaaPrintB
import Derived.Test.YtpjmkghmjpbldaaPrintF17
import Derived.Test.YtpjmkghmjpbldaaPrintF55
import Derived.Test.YtpjmkghmjpbldaaY
import Derived.Test.YtpjmkghmjpbldaaMWk
import Derived.Test.YtpjmkghmjpbldaaMDrawWalk
import Derived.Test.YtpjmkghmjpbldaaMPlainW
set_option linter.unusedVariables false
namespace Go.Proofs.Ytpjmkghmjpbldaa.Pure
open Go.RowKit Go.Proofs.Ytpjmkghmjpbldaa.Print Go.Proofs.YtpjmkghmjpbldaaW.PrintWords Go.Proofs.YtpjmkghmjpbldaaW.PrintLast Go.Proofs.YtpjmkghmjpbldaaY Go.Proofs.Ytpjmkghmjpbldaa.M
theorem wkIn_ev (l : List Int) (a : Int) (hl : l.length ≤ 1000000000) (h : ∀ j, j < l.length → l.getD j 0 ≠ a) (d : Nat) : ∀ i : Nat, i ≤ l.length → l.length - i = d → Ev (fun k => laws_wkIn.l0 k l a (i : Int)) false := by
  induction d with
  | zero => intro i hi hd; exact Ev.step (fun k => laws_wkIn.l0.eq_2 _ _ _ _) (Ev.neg (by omega) (Ev.now _))
  | succ d ih =>
    intro i hi hd
    refine Ev.step (fun k => laws_wkIn.l0.eq_2 _ _ _ _) (Ev.pos (by omega) (Ev.pos (by omega) ?_))
    rw [rdI, nxt i (by omega)]
    exact Ev.neg (h i (by omega)) (ih (i + 1) (by omega) (by omega))
theorem prv0 (i : Nat) (h1 : 1 ≤ i) (h : i ≤ 1000000000000) : wrap64 ((i : Int) - 1) = ((i - 1 : Nat) : Int) := by rw [w64 (by omega) (by omega)]; omega
theorem FnWalkPlain : laws_FnWalkPlain.Pure := by
  intro l0 hm hm2 hb
  refine Ev.rounds (g := fun k => laws_FnWalkPlain.f k l0) ?_
  unfold laws_FnWalkPlain.f
  refine Ev.ite (fun _ => Ev.now _) (fun hl => ?_)
  obtain ⟨n, l, w, ed, hD, hw, _⟩ := drawWalk_ev l0 hb
  have hw2 : w.length ≤ 1000000000000 := by omega
  have hi := iPlain_ev n l w hD.long hw2
  have hs := sPlain_ev n l w hD.long hw2
  refine Ev.bnd (a := (n, l, w)) ?_ (Ev.bnd hi (Ev.bnd hs ?_))
  · unfold spec_DrawWalkPlain.f
    exact Ev.bnd ed (Ev.now _)
  by_cases c : walkB n l w = true
  · obtain ⟨hP, hW⟩ := walkP_of c
    have h20 := hW.2
    have hJ := plJ_pl (nod l w) w.length (w.length + 1) 0 (by omega) (by omega)
    have hf := pl_few hJ (by omega)
    have ex : plainV n l w = (plJ (nod l w) w.length 0 (w.length + 1)).map (fun j => w.getD j 0) := by unfold plainV; rw [if_pos c]; rfl
    rw [ex] at hi hs ⊢
    generalize plJ (nod l w) w.length 0 (w.length + 1) = J at hJ hf hi hs ⊢
    have hxl : (J.map (fun j => w.getD j 0)).length = J.length := List.length_map _
    have hwk := wkI_ev (J.map (fun j => w.getD j 0)) (by omega)
    refine Ev.bnd hwk (Ev.pos rfl (Ev.bnd (iwok_ev n l w hD.long hw2) ?_))
    rw [c]
    show Ev (fun k => laws_FnWalkPlain.j0 k w (J.map (fun j => w.getD j 0)) (!true) n l) true
    refine Ev.step (fun k => laws_FnWalkPlain.j0.eq_2 _ _ _ _ _ _) (Ev.neg (by simp) ?_)
    by_cases h0 : J = []
    · refine Ev.pos (by rw [hxl, h0]; rfl) ?_
      by_cases hw0 : w.length = 0
      · exact Ev.pos (by omega) (Ev.now _)
      · have g0 := (hW.1 0 (by omega)).1
        have gl := (hW.1 (w.length - 1) (by omega)).1
        rw [prv0 w.length (by omega) (by omega), rdI, show Go.Proofs.YtpjmkghmjpbldaaW.PrintWords.rd w 0 = w.getD 0 0 from rfl, rdArc, rdArc]
        refine Ev.neg (by omega) (Ev.pos (by omega) (Ev.pos g0.1 (Ev.pos g0.2 (Ev.pos (by omega) (Ev.pos (by omega) (Ev.pos gl.1 (Ev.pos gl.2 (Ev.now' ?_))))))))
        rcases hJ.head with ⟨_, e⟩ | ⟨j, r, e, _⟩
        · have e1 := nod_at hW 0 (by omega)
          have e2 := nod_succ l w (w.length - 1) (by omega)
          rw [show w.length - 1 + 1 = w.length by omega] at e2
          rw [e1, ← e2, e]; simp
        · rw [h0] at e; cases e
    · have hp : 0 < J.length := List.length_pos_iff.2 h0
      have hX := plx_walk hW hJ
      have hwx : walkB n l (J.map (fun j => w.getD j 0)) = true := walkB_of hP hX
      have eN : nodesV n l (J.map (fun j => w.getD j 0)) = nodes l (J.map (fun j => w.getD j 0)) := by unfold nodesV; rw [if_pos ⟨hwx, by omega⟩]
      have eW : nodesV n l w = nodes l w := by unfold nodesV; rw [if_pos ⟨c, by omega⟩]
      have hdiff := plx_diff hW hJ h0
      have hnl := nodes_len l (J.map (fun j => w.getD j 0))
      have hnw := nodes_len l w
      refine Ev.neg (by omega) (Ev.bnd (inodesV_ev n l _ hD.long (by omega)) ?_)
      rw [eN]
      have loop : ∀ (d i : Nat), i ≤ (nodes l (J.map (fun j => w.getD j 0))).length → (nodes l (J.map (fun j => w.getD j 0))).length - i = d → Ev (fun k => laws_FnWalkPlain.l0 k w (J.map (fun j => w.getD j 0)) (nodes l (J.map (fun j => w.getD j 0))) (i : Int) n l) true := by
        intro d
        induction d with
        | zero =>
          intro i hi' hd
          have e0 : nod l (J.map (fun j => w.getD j 0)) 0 = nod l w 0 := by
            rcases hJ.head with ⟨e, _⟩ | ⟨j, r, e, e2⟩
            · exact absurd e h0
            · rw [plx_nod hW hJ 0 hp, e]; exact e2
          have e1 := plx_end hJ h0
          have hcost := plx_cost hP hW hJ (by omega)
          rw [List.drop_zero] at hcost
          have cx : costV n l (J.map (fun j => w.getD j 0)) = costS l (J.map (fun j => w.getD j 0)) := by unfold costV; rw [if_pos hwx]
          have cw : costV n l w = costS l w := by unfold costV; rw [if_pos c]
          refine Ev.step (fun k => laws_FnWalkPlain.l0.eq_2 _ _ _ _ _ _ _) (Ev.neg (by omega) (Ev.bnd (inodesV_ev n l w hD.long hw2) (Ev.bnd (iwok_ev n l _ hD.long (by omega)) (Ev.pos hwx ?_))))
          rw [eW]
          refine Ev.pos (by omega) (Ev.pos (by omega) (Ev.pos e0 ?_))
          rw [prv0 _ (by omega) (by omega), prv0 (nodes l w).length (by omega) (by omega), rdI, rdI]
          refine Ev.pos (by omega) (Ev.pos (by omega) (Ev.pos (by omega) (Ev.pos (by omega) (Ev.pos ?_ (Ev.bnd (icostV_ev n l _ hD.long (by omega)) (Ev.bnd (icostV_ev n l w hD.long hw2) (Ev.pos (by rw [cx, cw]; exact hcost) (Ev.bnd (iPlain_ev n l _ hD.long (by omega)) (Ev.bnd ?_ (Ev.now _))))))))))
          · rw [show (nodes l (J.map (fun j => w.getD j 0))).length - 1 = J.length by omega, show (nodes l w).length - 1 = w.length by omega]
            exact e1
          · have : plainV n l (J.map (fun j => w.getD j 0)) = J.map (fun j => w.getD j 0) := by
              unfold plainV
              rw [if_pos hwx]
              exact plain_same (fun a b hab hb => hdiff a b hab (by omega))
            rw [this]
            exact hwk
        | succ d ih =>
          intro i hi' hd
          refine Ev.step (fun k => laws_FnWalkPlain.l0.eq_2 _ _ _ _ _ _ _) (Ev.pos (by omega) (Ev.pos (by omega) (Ev.pos (by omega) (Ev.bnd (a := false) ?_ (Ev.neg (by simp) ?_)))))
          · unfold laws_wkIn.f
            rw [rdI, Int.toNat_natCast]
            refine wkIn_ev _ _ (by rw [List.length_take]; omega) (fun j hj => ?_) _ 0 (by omega) rfl
            rw [List.length_take] at hj
            have e : ((nodes l (J.map (fun j => w.getD j 0))).take i).getD j 0 = (nodes l (J.map (fun j => w.getD j 0))).getD j 0 := by
              rw [getDI _ _ (by rw [List.length_take]; omega), getDI _ _ (by omega), List.getElem_take]
            rw [e]
            exact hdiff j i (by omega) (by omega)
          · rw [nxt i (by omega)]
            exact ih (i + 1) (by omega) (by omega)
      exact loop _ 0 (by omega) rfl
  · have ex : plainV n l w = [] := by unfold plainV; rw [if_neg c]
    rw [ex] at hi hs ⊢
    refine Ev.bnd (wkI_ev [] (by simp)) (Ev.pos rfl (Ev.bnd (iwok_ev n l w hD.long hw2) ?_))
    rw [Bool.eq_false_iff.2 c]
    exact Ev.step (fun k => laws_FnWalkPlain.j0.eq_2 _ _ _ _ _ _) (Ev.pos rfl (Ev.bnd hs (Ev.bnd (wkI_ev [] (by simp)) (Ev.now _))))
end Go.Proofs.Ytpjmkghmjpbldaa.Pure
