/- For every code: what FnTurnNet asks holds. No condition beyond those that the statement has. -/
import Derived.Test.YtfijdkjibjdbiaaPrintF10
import Derived.Test.YtfijdkjibjdbiaaPrintF3
import Derived.Test.YtfijdkjibjdbiaaPrintF9
import Derived.Test.YtfijdkjibjdbiaaY
import Derived.Test.YtfijdkjibjdbiaaMWk
import Derived.Test.YtfijdkjibjdbiaaMTNet2
import Derived.Test.YtfijdkjibjdbiaaMDrawTN
import Derived.Test.YtfijdkjibjdbiaaMWkN
set_option linter.unusedVariables false
namespace Go.Proofs.Ytfijdkjibjdbiaa.Pure
open Go.RowKit Go.Proofs.Ytfijdkjibjdbiaa.Print Go.Proofs.YtfijdkjibjdbiaaW.PrintWords Go.Proofs.YtfijdkjibjdbiaaW.PrintLast Go.Proofs.YtfijdkjibjdbiaaY Go.Proofs.Ytfijdkjibjdbiaa.M
theorem FnTurnNet : laws_FnTurnNet.Pure := by
  intro l0 hm hm2 hb
  refine Ev.rounds (g := fun k => laws_FnTurnNet.f k l0) ?_
  unfold laws_FnTurnNet.f
  refine Ev.ite (fun _ => Ev.now _) (fun hl => ?_)
  obtain ⟨n, l, t, ed, hl13, ht⟩ := drawTN_ev l0 hb
  have hi := iTurnNet_ev n l t (by omega) (by omega)
  have hs := sTurnNet_ev n l t (by omega) (by omega)
  have hlen := tnetV_len n l t
  refine Ev.bnd ed (Ev.bnd hi (Ev.bnd hs (Ev.neg (by simp) (Ev.bnd (wkNet_ev _ _ (by omega)) (Ev.pos rfl ?_)))))
  by_cases hB : tnetB n l t = true ∧ netOkB (l.length : Int) (tnAll l t 0 l.length) = true
  · have eV : tnetV n l t = ((l.length : Int), tnAll l t 0 l.length, true) := by unfold tnetV netV; rw [if_pos hB.1, if_pos hB.2]
    rw [eV]
    have hX := netP_of hB.2
    obtain ⟨h1, h8⟩ : turnsB n l t = true ∧ (1 ≤ (l.length : Int) ∧ (l.length : Int) ≤ 8) := by
      have := hB.1
      unfold tnetB at this
      simp only [Bool.and_eq_true, decide_eq_true_eq] at this
      exact this
    have hN0 := netP_of (turns_net h1)
    have n1 := hN0.lo
    have n8 := hN0.hi
    -- how near each arc is, from each
    have near : ∀ i : Nat, i < l.length → ∃ M, Best (l.length : Int) (turnL (tnAll l t 0 l.length)) (i : Int) M ∧ Ev (fun k => impl_NearAll.f k (l.length : Int) (tnAll l t 0 l.length) (i : Int)) (costsL M) := fun i hi => by
      obtain ⟨d, e1, _, _, e2⟩ := inearAll_ev (l.length : Int) (tnAll l t 0 l.length) (i : Int)
      have hn : nodeB (l.length : Int) (tnAll l t 0 l.length) (i : Int) = true := by
        unfold nodeB
        rw [hB.2, w64 (x := (l.length : Int) - 1) (by omega) (by omega)]
        simp; omega
      obtain ⟨M, b, rfl⟩ := e2 hn
      exact ⟨M, b, e1⟩
    show Ev (fun k => laws_FnTurnNet.j0 k t true true (!true) n l (l.length : Int) (tnAll l t 0 l.length) (l.length : Int) (tnAll l t 0 l.length)) true
    refine Ev.step (fun k => laws_FnTurnNet.j0.eq_2 _ _ _ _ _ _ _ _ _ _ _) (Ev.neg (by simp) ?_)
    have froms : ∀ (d v : Nat), (v : Int) + d = n → Ev (fun k => laws_FnTurnNet.l0 k t (v : Int) n l (l.length : Int) (tnAll l t 0 l.length)) true := by
      intro d
      induction d with
      | zero =>
        intro v hv
        exact Ev.step (fun k => laws_FnTurnNet.l0.eq_2 _ _ _ _ _ _ _) (Ev.neg (by omega) (Ev.bnd0 (a := true) (by show some (netOkB _ _) = _; rw [hB.2]) (Ev.pos rfl (Ev.now' (by simp)))))
      | succ d ihv =>
        intro v hv
        obtain ⟨D, ei, _, _, hM⟩ := iturnAll_ev n l t (v : Int) (by omega) (by omega)
        obtain ⟨hN, B, g, f, rfl⟩ := hM (turnAllB_to h1 (by omega) (by omega))
        have hoB : (outA n l (v : Int) B).length = n.toNat := outA_len _ _ _ _
        refine Ev.step (fun k => laws_FnTurnNet.l0.eq_2 _ _ _ _ _ _ _) (Ev.pos (by omega) (Ev.bnd ei ?_))
        have tos : ∀ (d j : Nat), (j : Int) + d = n → Ev (fun k => laws_FnTurnNet.l1 k t (v : Int) (outA n l (v : Int) B) (j : Int) n l (l.length : Int) (tnAll l t 0 l.length)) true := by
          intro d
          induction d with
          | zero =>
            intro j hj
            refine Ev.step (fun k => laws_FnTurnNet.l1.eq_2 _ _ _ _ _ _ _ _ _) (Ev.neg (by omega) ?_)
            rw [nxt v (by omega)]
            exact ihv (v + 1) (by omega)
          | succ d ihj =>
            intro j hj
            have hjn : (j : Int) < n := by omega
            have hd0 := outA_rng g (by omega) (by omega) j hjn
            have htop := outA_top (l := l) (B := B) (v := (v : Int)) (n := n) (by omega) (by omega) j hjn
            -- one start
            have inner : ∀ (i : Nat), i < l.length → ∀ M, Best (l.length : Int) (turnL (tnAll l t 0 l.length)) (i : Int) M → ∀ (dd m : Nat) (b : Int), m + dd = l.length → (outA n l (v : Int) B).getD j 0 ≤ b → b ≤ 99999 →
                (∀ b', (outA n l (v : Int) B).getD j 0 ≤ b' → b' ≤ b → ((l.getD i arz).f0 = (v : Int) → ∀ q, m ≤ q → q < l.length → (l.getD q arz).f1 = (j : Int) → (atM M (q : Int)).f0 < 99999 → b' ≤ (l.getD i arz).f2 + (atM M (q : Int)).f0) →
                  Ev (fun k => laws_FnTurnNet.l2 k t (v : Int) (outA n l (v : Int) B) (j : Int) b' ((i + 1 : Nat) : Int) n l (l.length : Int) (tnAll l t 0 l.length)) true) →
                Ev (fun k => laws_FnTurnNet.l3 k t (v : Int) (outA n l (v : Int) B) (j : Int) b (i : Int) (costsL M) (m : Int) n l (l.length : Int) (tnAll l t 0 l.length)) true := by
              intro i hi M b dd
              have hlM : (costsL M).length = l.length := by unfold costsL; rw [List.length_map, b.len]; omega
              have rdc : ∀ q : Nat, q < l.length → (costsL M).getD q 0 = (atM M (q : Int)).f0 := fun q hq => by
                have := rd_costs b.toInv (q : Int) (by omega) (by omega)
                rw [← this]; exact (rdI (costsL M) q).symm
              induction dd with
              | zero =>
                intro m c hm hc1 hc2 h
                refine Ev.step (fun k => laws_FnTurnNet.l3.eq_2 _ _ _ _ _ _ _ _ _ _ _ _ _) (Ev.neg (by omega) ?_)
                rw [nxt i (by omega)]
                exact h c hc1 (Int.le_refl _) (fun _ q q1 q2 => by omega)
              | succ dd ih =>
                intro m c hm hc1 hc2 h
                have gm := arcAt hN m (by omega)
                have gi := arcAt hN i hi
                have tp := b.top (m : Int) (by omega) (by omega)
                have bb := b.bounds (turnP hX) (m : Int) (by omega) (by omega)
                refine Ev.step (fun k => laws_FnTurnNet.l3.eq_2 _ _ _ _ _ _ _ _ _ _ _ _ _) (Ev.pos (by omega) (Ev.pos (by omega) (Ev.pos (by omega) ?_)))
                rw [rdA, rdA, rdI, rdc m (by omega), nxt m (by omega), w64 (x := (l.getD i arz).f2 + (atM M (m : Int)).f0) (by omega) (by omega)]
                have skip : ∀ c' : Int, (outA n l (v : Int) B).getD j 0 ≤ c' → c' ≤ c → ((l.getD i arz).f0 = (v : Int) → (l.getD m arz).f1 = (j : Int) → (atM M (m : Int)).f0 < 99999 → c' ≤ (l.getD i arz).f2 + (atM M (m : Int)).f0) →
                    Ev (fun k => laws_FnTurnNet.l3 k t (v : Int) (outA n l (v : Int) B) (j : Int) c' (i : Int) (costsL M) ((m + 1 : Nat) : Int) n l (l.length : Int) (tnAll l t 0 l.length)) true := fun c' k1 k2 k3 =>
                  ih (m + 1) c' (by omega) k1 (by omega) (fun b' j1 j2 j3 => h b' j1 (by omega) (fun hv q q1 q2 q3 q4 => by
                    by_cases e : q = m
                    · subst e; exact Int.le_trans j2 (k3 hv q3 q4)
                    · exact j3 hv q (by omega) q2 q3 q4))
                by_cases c0 : (l.getD i arz).f0 = (v : Int)
                · refine Ev.pos c0 (Ev.pos (by omega) ?_)
                  by_cases c1 : (l.getD m arz).f1 = (j : Int)
                  · refine Ev.pos c1 (Ev.pos (by omega) ?_)
                    by_cases c2 : (atM M (m : Int)).f0 < 99999
                    · refine Ev.pos c2 ?_
                      have hle := (tn_le hN f hX hi (by omega : m < l.length) c0 b c2).1
                      have hout := outA_le (l := l) (B := B) (v := (v : Int)) (n := n) (by omega) (by omega) j hjn m (by omega) (by omega)
                      by_cases c3 : (l.getD i arz).f2 + (atM M (m : Int)).f0 < c
                      · exact Ev.pos c3 (skip _ (by omega) (by omega) (fun _ _ _ => Int.le_refl _))
                      · exact Ev.neg c3 (skip c hc1 (Int.le_refl _) (fun _ _ _ => by omega))
                    · exact Ev.neg c2 (skip c hc1 (Int.le_refl _) (fun _ _ z => absurd z c2))
                  · exact Ev.neg c1 (skip c hc1 (Int.le_refl _) (fun _ z _ => absurd z c1))
                · exact Ev.neg c0 (skip c hc1 (Int.le_refl _) (fun z _ _ => absurd z c0))
            -- all starts
            have outer : ∀ (dd i : Nat) (b : Int), i + dd = l.length → (outA n l (v : Int) B).getD j 0 ≤ b → b ≤ (if (v : Int) = (j : Int) then 0 else 99999) →
                (∀ p, p < i → ∀ M, Best (l.length : Int) (turnL (tnAll l t 0 l.length)) (p : Int) M → (l.getD p arz).f0 = (v : Int) → ∀ q, q < l.length → (l.getD q arz).f1 = (j : Int) → (atM M (q : Int)).f0 < 99999 → b ≤ (l.getD p arz).f2 + (atM M (q : Int)).f0) →
                Ev (fun k => laws_FnTurnNet.l2 k t (v : Int) (outA n l (v : Int) B) (j : Int) b (i : Int) n l (l.length : Int) (tnAll l t 0 l.length)) true := by
              intro dd
              induction dd with
              | zero =>
                intro i b hi hb1 hb2 hb3
                refine Ev.step (fun k => laws_FnTurnNet.l2.eq_2 _ _ _ _ _ _ _ _ _ _ _) (Ev.neg (by omega) (Ev.pos (by omega) (Ev.pos (by omega) ?_)))
                rw [rdI, nxt j (by omega)]
                refine Ev.pos ?_ (ihj (j + 1) (by omega))
                rcases outA_one (l := l) (B := B) (v := (v : Int)) (n := n) (by omega) (by omega) j hjn with e | ⟨m, m1, m2, m3⟩
                · rw [e] at hb1 ⊢; exact Int.le_antisymm hb2 hb1
                · have ga := arcAt hN m m1
                  by_cases c : B.getD m 0 < 99999
                  · obtain ⟨p, p1, p2, p3⟩ := tn_ge hN g hX m1 c
                    obtain ⟨M, bM, _⟩ := near p p1
                    obtain ⟨k1, k2⟩ := p3 M bM
                    have := hb3 p (by omega) M bM p2 m m1 (by omega) k1
                    omega
                  · have : b ≤ 99999 := by split at hb2 <;> omega
                    omega
              | succ dd ih =>
                intro i b hi hb1 hb2 hb3
                obtain ⟨M, bM, eM⟩ := near i (by omega)
                refine Ev.step (fun k => laws_FnTurnNet.l2.eq_2 _ _ _ _ _ _ _ _ _ _ _) (Ev.pos (by omega) (Ev.bnd eM ?_))
                have hb9 : b ≤ 99999 := by split at hb2 <;> omega
                refine inner i (by omega) M bM l.length 0 b (by omega) hb1 hb9 (fun b' j1 j2 j3 => ih (i + 1) b' (by omega) j1 (Int.le_trans j2 hb2) ?_)
                intro p hp M' bM' hv q q1 q2 q3
                by_cases e : p = i
                · subst e
                  have eqM : ∀ z : Nat, z < l.length → (atM M (z : Int)).f0 = (atM M' (z : Int)).f0 := fun z hz => by
                    have h1 := rd_costs bM.toInv (z : Int) (by omega) (by omega)
                    have h2 := rd_costs bM'.toInv (z : Int) (by omega) (by omega)
                    rw [best_uniq (turnP hX) (by omega) (by omega) bM bM'] at h1
                    exact h1.symm.trans h2
                  rw [← eqM q q1] at q3 ⊢
                  exact j3 hv q (by omega) q1 q2 q3
                · exact Int.le_trans j2 (hb3 p (by omega) M' bM' hv q q1 q2 q3)
            refine Ev.step (fun k => laws_FnTurnNet.l1.eq_2 _ _ _ _ _ _ _ _ _) (Ev.pos (by omega) (Ev.ite (fun e => ?_) (fun e => ?_)))
            · exact Ev.step (fun k => laws_FnTurnNet.j3.eq_2 _ _ _ _ _ _ _ _ _ _) (outer l.length 0 0 (by omega) (by rw [if_pos e.symm] at htop; exact htop) (by rw [if_pos e.symm]; omega) (fun p hp => by omega))
            · exact Ev.step (fun k => laws_FnTurnNet.j3.eq_2 _ _ _ _ _ _ _ _ _ _) (outer l.length 0 99999 (by omega) (by omega) (by rw [if_neg (fun z => e z.symm)]; omega) (fun p hp => by omega))
        exact tos n.toNat 0 (by omega)
    exact froms n.toNat 0 (by omega)
  · have eV : tnetV n l t = (0, [], false) := by
      unfold tnetV netV
      by_cases c : tnetB n l t = true
      · rw [if_pos c, if_neg (fun z => hB ⟨c, z⟩)]
      · rw [if_neg c]
    rw [eV]
    exact Ev.step (fun k => laws_FnTurnNet.j0.eq_2 _ _ _ _ _ _ _ _ _ _ _) (Ev.pos rfl (Ev.pos rfl (Ev.bnd (wkNet_ev 0 [] (by simp)) (Ev.now _))))
end Go.Proofs.Ytfijdkjibjdbiaa.Pure
