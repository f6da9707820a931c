/- For every code: what FnTurnLoad asks holds. No condition beyond those that the statement has. -/
import Derived.Test.YtcfmejfmjjgoaaaPrintF7
import Derived.Test.YtcfmejfmjjgoaaaY
import Derived.Test.YtcfmejfmjjgoaaaMWk
import Derived.Test.YtcfmejfmjjgoaaaMBell3
import Derived.Test.YtcfmejfmjjgoaaaMDrawTurns
import Derived.Test.YtcfmejfmjjgoaaaMBell
import Derived.Test.YtcfmejfmjjgoaaaMBell2
import Derived.Test.YtcfmejfmjjgoaaaMDrawNet
import Derived.Test.YtcfmejfmjjgoaaaMNet
import Derived.Test.YtcfmejfmjjgoaaaMTurns
import Derived.Test.YtcfmejfmjjgoaaaPrintF29
import Derived.Test.YtcfmejfmjjgoaaaPrintF30
import Derived.Test.YtcfmejfmjjgoaaaPrintF31
import Derived.Test.YtcfmejfmjjgoaaaPrintF32
set_option linter.unusedVariables false
namespace Go.Proofs.Ytcfmejfmjjgoaaa.Pure
open Go.RowKit Go.Proofs.Ytcfmejfmjjgoaaa.Print Go.Proofs.YtcfmejfmjjgoaaaW.PrintWords Go.Proofs.YtcfmejfmjjgoaaaW.PrintLast Go.Proofs.YtcfmejfmjjgoaaaY Go.Proofs.Ytcfmejfmjjgoaaa.M
theorem FnTurnLoad : laws_FnTurnLoad.Pure := by
  intro l0 hm hm2 hb
  refine Ev.rounds (g := fun k => laws_FnTurnLoad.f k l0) ?_
  unfold laws_FnTurnLoad.f
  refine Ev.ite (fun _ => Ev.now _) (fun hl => ?_)
  obtain ⟨n, l, t, v, ed, hD, ht⟩ := drawTA_ev l0 hb
  have hlen := hD.len
  obtain ⟨d, hi, hs, hd, hz, hM⟩ := turnAll_ev n l t v (by omega) (by omega)
  have bad : Ev (fun k => laws_FnTurnLoad.j0 k t v d true n l) true := Ev.step (fun k => laws_FnTurnLoad.j0.eq_2 _ _ _ _ _ _ _) (Ev.pos rfl (Ev.bnd hs (Ev.bnd (wkI_ev d (by omega)) (Ev.now _))))
  refine Ev.bnd ed (Ev.bnd hi (Ev.bnd hs (Ev.bnd (wkI_ev d (by omega)) (Ev.pos rfl ?_))))
  show Ev (fun k => laws_FnTurnLoad.j0 k t v d ((d.length : Int) == 0) n l) true
  cases hb1 : turnAllB n l t v with
  | false => rw [show ((d.length : Int) == 0) = true by rw [hz hb1]; rfl]; exact bad
  | true =>
    obtain ⟨h1, _, h2, h3⟩ := turnAllB_of hb1
    obtain ⟨hN, B, g, f, rfl⟩ := hM hb1
    have n1 := hN.lo
    have n8 := hN.hi
    have htl := turns_few h1
    have hoB : (outA n l v B).length = n.toNat := outA_len _ _ _ _
    rw [show (((outA n l v B).length : Int) == 0) = false by rw [hoB]; simp; omega]
    obtain ⟨e, hi', _, _, _, hM'⟩ := turnAll_ev n l (fewT t) v (by omega) (by have := List.length_filter_le (fun x : Tu => decide (x.f2 < 0)) t; unfold fewT; omega)
    obtain ⟨_, C, g', f', rfl⟩ := hM' (turnAllB_to (few_ok h1) h2 h3)
    have hoC : (outA n l v C).length = n.toNat := outA_len _ _ _ _
    -- the comparison
    have fin : ∀ (q j : Nat), (j : Int) + q = n → Ev (fun k => laws_FnTurnLoad.l1 k (outA n l v B) (outA n l v C) (j : Int) n l) true := by
      intro q
      induction q with
      | zero => intro j hj; exact Ev.step (fun k => laws_FnTurnLoad.l1.eq_2 _ _ _ _ _ _) (Ev.neg (by omega) (Ev.now' (by rw [hoC]; simp; omega)))
      | succ q ih =>
        intro j hj
        obtain ⟨k1, k2⟩ := few_out h1 hN h2 h3 g f g' f' j (by omega)
        refine Ev.step (fun k => laws_FnTurnLoad.l1.eq_2 _ _ _ _ _ _) (Ev.pos (by omega) (Ev.pos (by omega) (Ev.pos (by omega) (Ev.pos (by omega) ?_))))
        rw [rdI, rdI, nxt j (by omega)]
        refine Ev.neg (by omega) (Ev.neg ?_ (ih (j + 1) (by omega)))
        rw [show decide ((outA n l v C).getD j 0 < 99999) = decide ((outA n l v B).getD j 0 < 99999) from decide_eq_decide.2 k2]
        simp
    refine Ev.step (fun k => laws_FnTurnLoad.j0.eq_2 _ _ _ _ _ _ _) (Ev.neg (by simp) ?_)
    have loop : ∀ (q i : Nat), i ≤ t.length → t.length - i = q → Ev (fun k => laws_FnTurnLoad.l0 k t v (outA n l v B) (fewT (t.take i)) (i : Int) n l) true := by
      intro q
      induction q with
      | zero =>
        intro i hi2 hq
        rw [List.take_of_length_le (by omega)]
        exact Ev.step (fun k => laws_FnTurnLoad.l0.eq_2 _ _ _ _ _ _ _ _) (Ev.neg (by omega) (Ev.bnd hi' (fin n.toNat 0 (by omega))))
      | succ q ih =>
        intro i hi2 hq
        have hfl : (fewT (t.take i)).length ≤ 21 := Nat.le_trans (List.length_filter_le _ _) (by rw [List.length_take]; omega)
        refine Ev.step (fun k => laws_FnTurnLoad.l0.eq_2 _ _ _ _ _ _ _ _) (Ev.pos (by omega) (Ev.pos (by omega) ?_))
        rw [rdT, nxt i (by omega)]
        have ih' := ih (i + 1) (by omega) (by omega)
        rw [takeT t i (by omega)] at ih'
        have happ : fewT (t.take i ++ [t.getD i tuz]) = fewT (t.take i) ++ fewT [t.getD i tuz] := by unfold fewT; rw [List.filter_append]
        rw [happ] at ih'
        by_cases c : (t.getD i tuz).f2 < 0
        · refine Ev.pos c (Ev.pos (by omega) ?_)
          rw [show fewT [t.getD i tuz] = [t.getD i tuz] by unfold fewT; rw [List.filter_cons_of_pos (by simpa using c)]; rfl] at ih'
          exact ih'
        · refine Ev.neg c ?_
          rw [show fewT [t.getD i tuz] = [] by unfold fewT; rw [List.filter_cons_of_neg (by simpa using c)]; rfl, List.append_nil] at ih'
          exact ih'
    exact loop t.length 0 (by omega) (by omega)
end Go.Proofs.Ytcfmejfmjjgoaaa.Pure
