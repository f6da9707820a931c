import Derived.Test.YtpjmkghmjpbldaaMOut
import Derived.Test.YtpjmkghmjpbldaaMDrawNet
import Derived.Test.YtpjmkghmjpbldaaPrintF22
import Derived.Test.YtpjmkghmjpbldaaPrintF28
import Derived.Test.YtpjmkghmjpbldaaPrintF5
set_option linter.unusedVariables false
namespace Go.Proofs.Ytpjmkghmjpbldaa.Pure
open Go.RowKit Go.Proofs.Ytpjmkghmjpbldaa.Print Go.Proofs.YtpjmkghmjpbldaaW.PrintWords Go.Proofs.YtpjmkghmjpbldaaW.PrintLast Go.Proofs.YtpjmkghmjpbldaaY Go.Proofs.Ytpjmkghmjpbldaa.M
theorem FnNetOut : laws_FnNetOut.Pure := by
  intro l0 hm hm2 hb
  suffices h : Ev (fun k => laws_FnNetOut.f k l0) true by
    obtain ⟨K, h⟩ := h
    exact ⟨K, h K (Nat.le_refl _)⟩
  unfold laws_FnNetOut.f
  by_cases hl : (l0.length : Int) > 1048576
  · exact Ev.pos hl (Ev.now _)
  obtain ⟨c, ec, hc⟩ := open_eq l0 hb
  obtain ⟨N, l, p', en, p0, p1, hN⟩ := anynet_ev c hc 0 (by omega) (by omega)
  obtain ⟨v, p2, ev, _, _, v0, v1⟩ := node_ev c hc p' N l (by omega) (by omega) hN
  have hlen := hN.len
  have n9 := hN.n9
  have hll : l.length ≤ 1000000000 := by omega
  refine Ev.neg hl (Ev.bnd (a := (N, l, v)) ?_ ?_)
  · unfold spec_DrawNetOut.f
    exact Ev.bnd0 ec (Ev.bnd en (Ev.bnd ev (Ev.now _)))
  have hol : ∀ v, (outV N l v).length ≤ 1000000000 := fun v => by
    unfold outV
    split
    · have := outU_len l v l.length; omega
    · simp
  refine Ev.bnd (iNetOut_ev N l v hll) (Ev.bnd (sNetOut_ev N l v hll) (Ev.bnd (wkI_ev _ (hol v)) (Ev.pos rfl (Ev.bnd0 (a := netOkB N l) rfl ?_))))
  by_cases h : netOkB N l = true
  · refine Ev.step (fun k => laws_FnNetOut.j0.eq_2 _ _ _ _ _ _) (Ev.neg (by simp [h]) ?_)
    have hP := netP_of h
    have ho : ∀ u, outV N l u = outU l u l.length := fun u => by unfold outV; rw [if_pos h]
    rw [ho]
    obtain ⟨n, rfl⟩ := Int.eq_ofNat_of_zero_le hN.n0
    have hall := cnt_all l n (fun a ha => ⟨(hP.arc a ha).1, (hP.arc a ha).2.1⟩) l.length (Nat.le_refl _)
    have hul := outU_len l v l.length
    have fin : ∀ (d j : Nat), j ≤ (outU l v l.length).length → (outU l v l.length).length - j = d → Ev (fun k => laws_FnNetOut.l1 k v (outU l v l.length) (l.length : Int) (j : Int) (n : Int) l) true := by
      intro d
      induction d with
      | zero =>
        intro j hj hd
        exact Ev.step (fun k => laws_FnNetOut.l1.eq_2 _ _ _ _ _ _ _) (Ev.neg (by omega) (Ev.now' (by simp)))
      | succ d ih =>
        intro j hj hd
        have hmem : (outU l v l.length).getD j 0 ∈ outU l v l.length := by rw [getDI _ _ (by omega)]; exact List.getElem_mem _
        obtain ⟨x0, x1, x2⟩ := outU_mem l v l.length _ hmem
        refine Ev.step (fun k => laws_FnNetOut.l1.eq_2 _ _ _ _ _ _ _) (Ev.pos (by omega) (Ev.pos (by omega) ?_))
        rw [rdI]
        refine Ev.pos x0 (Ev.pos x1 (Ev.pos x2 ?_))
        have hnext := ih (j + 1) (by omega) (by omega)
        rw [nxt j (by omega)]
        by_cases c0 : (j : Int) > 0
        · have e1 : wrap64 ((j : Int) - 1) = ((j - 1 : Nat) : Int) := by rw [w64 (by omega) (by omega)]; omega
          rw [e1, rdI]
          have hup := outU_up l v l.length (j - 1) (by omega)
          rw [show j - 1 + 1 = j by omega] at hup
          exact Ev.pos c0 (Ev.pos (by omega) (Ev.pos (by omega) (Ev.neg (by omega) hnext)))
        · exact Ev.neg c0 hnext
    have loop : ∀ (d u : Nat), u ≤ n → n - u = d → Ev (fun k => laws_FnNetOut.l0 k v (outU l v l.length) ((cnt l l.length u : Nat) : Int) (u : Int) (n : Int) l) true := by
      intro d
      induction d with
      | zero =>
        intro u hu hd
        have e : u = n := by omega
        subst e
        rw [hall]
        exact Ev.step (fun k => laws_FnNetOut.l0.eq_2 _ _ _ _ _ _ _) (Ev.neg (by omega) (fin (outU l v l.length).length 0 (by omega) (by omega)))
      | succ d ih =>
        intro u hu hd
        have hc2 := cnt_le l l.length u
        have hb2 : u * l.length ≤ 9 * 13 := Nat.mul_le_mul (by omega) hlen
        have hu2 := outU_len l (u : Int) l.length
        refine Ev.step (fun k => laws_FnNetOut.l0.eq_2 _ _ _ _ _ _ _) (Ev.pos (by omega) (Ev.bnd (iNetOut_ev _ l (u : Int) hll) ?_))
        rw [ho, nxt u (by omega), w64 (by omega) (by omega)]
        have := ih (u + 1) (by omega) (by omega)
        have e : ((cnt l l.length (u + 1) : Nat) : Int) = ((cnt l l.length u : Nat) : Int) + ((outU l (u : Int) l.length).length : Int) := by simp [cnt]
        rw [e] at this
        exact this
    exact loop n 0 (by omega) (by omega)
  · have hv : outV N l v = [] := by unfold outV; rw [if_neg h]
    refine Ev.step (fun k => laws_FnNetOut.j0.eq_2 _ _ _ _ _ _) (Ev.pos (by simp [h]) (Ev.bnd (sNetOut_ev N l v hll) ?_))
    exact Ev.bnd (wkI_ev _ (hol v)) (Ev.now _)
end Go.Proofs.Ytpjmkghmjpbldaa.Pure
