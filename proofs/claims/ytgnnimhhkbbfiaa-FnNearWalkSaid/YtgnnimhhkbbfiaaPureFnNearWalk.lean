/- For every code: what FnNearWalk asks holds. No condition beyond those that the statement has. -/
import Derived.Test.YtgnnimhhkbbfiaaMNear7
import Derived.Test.YtgnnimhhkbbfiaaMDrawNW
import Derived.Test.YtgnnimhhkbbfiaaMWk
import Derived.Test.YtgnnimhhkbbfiaaMWayN
import Derived.Test.YtgnnimhhkbbfiaaPrintF3
import Derived.Test.YtgnnimhhkbbfiaaPrintF8
set_option linter.unusedVariables false
namespace Go.Proofs.Ytgnnimhhkbbfiaa.Pure
open Go.RowKit Go.Proofs.Ytgnnimhhkbbfiaa.Print Go.Proofs.YtgnnimhhkbbfiaaW.PrintWords Go.Proofs.YtgnnimhhkbbfiaaW.PrintLast Go.Proofs.YtgnnimhhkbbfiaaY Go.Proofs.Ytgnnimhhkbbfiaa.M
theorem wkEnds_ev (n : Int) (l : List Ar) (w : List Int) (u t : Int) (hl : l.length ≤ 1000000000000) {M : List Me} (h : WayP l M t u w) (hP : NetP n l) (h8 : w.length ≤ 8) : Ev (fun k => laws_wkEnds.f k n l w u t) true := by
  have hW := h.walk (by omega)
  unfold laws_wkEnds.f
  refine Ev.ite (fun c => ?_) (fun c => Ev.bnd (iwok_ev n l w hl (by omega)) (Ev.pos (walkB_of hP hW) ?_))
  · have e : w.length = 0 := by omega
    have := h.fin
    rw [e] at this
    have t' : u = t := this
    exact Ev.now' (by simp [t'])
  · have c' : w.length ≠ 0 := by omega
    have g0 := h.inn 0 (by omega)
    have gl := h.inn (w.length - 1) (by omega)
    have hf := h.fin
    have e : w.length = w.length - 1 + 1 := by omega
    rw [e] at hf
    have hf' : (arc l (w.getD (w.length - 1) 0)).f1 = t := hf
    rw [w64 (x := (w.length : Int) - 1) (by omega) (by omega), show (w.length : Int) - 1 = ((w.length - 1 : Nat) : Int) by omega, rdI, show Go.Proofs.YtgnnimhhkbbfiaaW.PrintWords.rd w 0 = w.getD 0 0 from rfl, rdArc, rdArc]
    refine Ev.pos (by omega) (Ev.pos g0.1.1 (Ev.pos g0.1.2 (Ev.pos g0.2 (Ev.pos (by omega) (Ev.pos (by omega) (Ev.pos gl.1.1 (Ev.pos gl.1.2 (Ev.now' (by simpa using hf')))))))))
theorem FnNearWalk : laws_FnNearWalk.Pure := by
  intro l0 hm hm2 hb
  refine Ev.rounds (g := fun k => laws_FnNearWalk.f k l0) ?_
  unfold laws_FnNearWalk.f
  refine Ev.ite (fun _ => Ev.now _) (fun _ => ?_)
  obtain ⟨n, l, u, t, ed, hN⟩ := drawNW_ev l0 hb
  have hlen := hN.len
  obtain ⟨⟨w, o⟩, hi, hs, hd, hz, hM⟩ := nearWalk_ev n l u t (by omega)
  have hd' : w.length ≤ 8 := hd
  have hwk := wkI_ev w (by omega)
  refine Ev.bnd (a := (n, l, u, t)) ed (Ev.bnd hi (Ev.bnd hs (Ev.neg (by simp) (Ev.bnd hwk (Ev.pos rfl ?_)))))
  cases o with
  | false => exact Ev.step (fun k => laws_FnNearWalk.j0.eq_2 _ _ _ _ _ _ _ _ _ _) (Ev.pos rfl (Ev.pos (by simp) (Ev.bnd hwk (Ev.now _))))
  | true =>
    have hb1 : twoB n l u t = true := by
      by_cases h : twoB n l u t = true
      · exact h
      · have := hz (by simpa using h)
        cases this
    obtain ⟨hP, ⟨h0, h1⟩, t0, t1⟩ := twoB_of hb1
    obtain ⟨M, b, et, er⟩ := hM hb1
    have hf : (atM M u).f0 ≠ 99999 := fun e => by
      unfold wayR at er
      rw [if_pos e] at er
      cases er
    have e1 : w = way M l u := by unfold wayR at er; rw [if_neg hf] at er; exact (Prod.mk.inj er).1
    have bd := b.toInv.bounds hP u h0 h1
    have hP' := way_facts hP b (atM M u).f1.toNat u h0 h1 hf (by omega)
    rw [← e1] at hP'
    have hW := hP'.walk (by omega)
    have hwb := walkB_of hP hW
    have hnode : nodeB n l u = true := by
      have := hP.lo
      have := hP.hi
      unfold nodeB
      rw [ok_of hP, w64 (x := n - 1) (by omega) (by omega)]
      simp; omega
    obtain ⟨d, di, _, _, dM⟩ := inearAll_ev n l u
    obtain ⟨M2, b2, rfl⟩ := dM hnode
    have hlM2 : (costsL M2).length = n.toNat := by unfold costsL; rw [List.length_map]; exact b2.len
    have tb : t < ((costsL M2).length : Int) := by have := hP.lo; omega
    have e2 : Go.Proofs.YtgnnimhhkbbfiaaW.PrintWords.rd (costsL M2) t = (atM M2 t).f0 := rd_costs b2.toInv t t0 t1
    have hc : costV n l w = (atM M u).f0 := by unfold costV; rw [if_pos hwb, hP'.cst]
    have hp : plainV n l w = w := by unfold plainV; rw [if_pos hwb]; exact hP'.plain
    refine Ev.step (fun k => laws_FnNearWalk.j0.eq_2 _ _ _ _ _ _ _ _ _ _) (Ev.neg (by simp) (Ev.bnd (wkEnds_ev n l w u t (by omega) hP' hP hd') (Ev.pos rfl (Ev.bnd (icostV_ev n l w (by omega) (by omega)) (Ev.bnd di (Ev.pos t0 (Ev.pos tb ?_)))))))
    rw [e2, hc]
    refine Ev.pos (turn_dist hP h0 h1 t0 t1 b b2) (Ev.bnd (iPlain_ev n l w (by omega) (by omega)) ?_)
    rw [hp]
    exact Ev.bnd hwk (Ev.now _)
end Go.Proofs.Ytgnnimhhkbbfiaa.Pure
