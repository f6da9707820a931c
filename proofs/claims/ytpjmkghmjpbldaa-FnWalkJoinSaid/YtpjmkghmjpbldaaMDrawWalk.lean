/- What is drawn as a walk: numbers of arcs, not many. -/
import Derived.Test.YtpjmkghmjpbldaaY
import Derived.Test.YtpjmkghmjpbldaaMDraw
import Derived.Test.YtpjmkghmjpbldaaMDrawNet
import Derived.Test.YtpjmkghmjpbldaaMNet
import Derived.Test.YtpjmkghmjpbldaaMFrom
import Derived.Test.YtpjmkghmjpbldaaPrint0
import Derived.Test.YtpjmkghmjpbldaaPrintF22
import Derived.Test.YtpjmkghmjpbldaaPrintF42
import Derived.Test.YtpjmkghmjpbldaaPrintF82
import Derived.Test.YtpjmkghmjpbldaaPrintF88
import Derived.Test.YtpjmkghmjpbldaaPrintF89
set_option linter.unusedVariables false
set_option linter.unusedSimpArgs false
namespace Go.Proofs.Ytpjmkghmjpbldaa.M
open Go.RowKit Go.Proofs.Ytpjmkghmjpbldaa.Print Go.Proofs.YtpjmkghmjpbldaaW.PrintWords Go.Proofs.YtpjmkghmjpbldaaW.PrintLast Go.Proofs.YtpjmkghmjpbldaaY
/-- What follows the inner loop. -/
def dtail (k : Nat) (c : List Int) (n : Int) (l : List Ar) (w : List Int) (m p : Int) (o : List Int) : Option (List Int × Int) :=
  if (o.length : Int) = 0 then some (w, p) else (spec_l30Rd_pick.f k c p (o.length : Int)).bind fun b => if 0 ≤ b.1 then (if b.1 < (o.length : Int) then (if w.length < 17592186044416 then (if 0 ≤ Go.Proofs.YtpjmkghmjpbldaaW.PrintWords.rd o b.1 then (if Go.Proofs.YtpjmkghmjpbldaaW.PrintWords.rd o b.1 < (l.length : Int) then spec_l30Walk.l0 k (w ++ [Go.Proofs.YtpjmkghmjpbldaaW.PrintWords.rd o b.1]) ((rd_T37 l (Go.Proofs.YtpjmkghmjpbldaaW.PrintWords.rd o b.1)).f1) (wrap64 (m - 1)) c b.2 n l else none) else none) else none) else none) else none
theorem dwalk_in (c : List Int) (n : Int) (l : List Ar) (hl : l.length ≤ 1000000000) (w : List Int) (at_ m p : Int) {r : List Int × Int} (h : Ev (fun k => dtail k c n l w m p (outU l at_ l.length)) r) (d : Nat) :
    ∀ i : Nat, i ≤ l.length → l.length - i = d → Ev (fun k => spec_l30Walk.l1 k w at_ m (outU l at_ i) (i : Int) c p n l) r := by
  induction d with
  | zero =>
    intro i hi hd
    have e : i = l.length := by omega
    subst e
    refine Ev.step (fun k => spec_l30Walk.l1.eq_2 _ _ _ _ _ _ _ _ _ _) (Ev.neg (by omega) ?_)
    exact h
  | succ d ih =>
    intro i hi hd
    have hlen := outU_len l at_ i
    refine Ev.step (fun k => spec_l30Walk.l1.eq_2 _ _ _ _ _ _ _ _ _ _) (Ev.pos (by omega) (Ev.pos (by omega) ?_))
    rw [nxt i (by omega), rdA]
    have h2 := ih (i + 1) (by omega) (by omega)
    by_cases c : (l.getD i arz).f0 = at_
    · refine Ev.pos c (Ev.pos (by omega) ?_)
      simp only [outU, if_pos c] at h2
      exact h2
    · refine Ev.neg c ?_
      simp only [outU, if_neg c] at h2
      exact h2
theorem dwalk_loop (c : List Int) (hc : Code c) (n : Int) (l : List Ar) (hl : l.length ≤ 1000) (m : Nat) : ∀ (w : List Int) (at_ p : Int), 0 ≤ p → p + m ≤ 10000 → w.length + m ≤ 100 → (∀ x ∈ w, 0 ≤ x ∧ x < (l.length : Int)) →
    ∃ w' p', Ev (fun k => spec_l30Walk.l0 k w at_ (m : Int) c p n l) (w', p') ∧ p ≤ p' ∧ p' ≤ p + m ∧ w'.length ≤ w.length + m ∧ ∀ x ∈ w', 0 ≤ x ∧ x < (l.length : Int) := by
  induction m with
  | zero =>
    intro w a p hp hm hw hx
    exact ⟨w, p, Ev.step (fun k => spec_l30Walk.l0.eq_2 _ _ _ _ _ _ _ _) (Ev.neg (by omega) (Ev.now _)), by omega, by omega, by omega, hx⟩
  | succ m ih =>
    intro w a p hp hm hw hx
    have hlen := outU_len l a l.length
    by_cases h0 : ((outU l a l.length).length : Int) = 0
    · refine ⟨w, p, Ev.step (fun k => spec_l30Walk.l0.eq_2 _ _ _ _ _ _ _ _) (Ev.pos (by omega) ?_), by omega, by omega, by omega, hx⟩
      exact dwalk_in c n l (by omega) w a _ p (Ev.pos h0 (Ev.now _)) l.length 0 (by omega) (by omega)
    · obtain ⟨b, eb, b0, b1, _⟩ := pick_ev c hc p ((outU l a l.length).length : Int) (by omega) (by omega) (by omega)
      have b1' := b1 (by omega)
      obtain ⟨q, rfl⟩ := Int.eq_ofNat_of_zero_le b0
      have hmem : (outU l a l.length).getD q 0 ∈ outU l a l.length := by rw [getDI _ _ (by omega)]; exact List.getElem_mem _
      obtain ⟨x0, x1, _⟩ := outU_mem l a l.length _ hmem
      obtain ⟨w', p', e, h1, h2, h3, h4⟩ := ih (w ++ [(outU l a l.length).getD q 0]) ((rd_T37 l ((outU l a l.length).getD q 0)).f1) (p + 1) (by omega) (by omega) (by rw [List.length_append, List.length_singleton]; omega) (by
        intro x hx2
        rcases List.mem_append.1 hx2 with hx2 | hx2
        · exact hx x hx2
        · obtain rfl := List.mem_singleton.1 hx2
          exact ⟨x0, x1⟩)
      rw [List.length_append, List.length_singleton] at h3
      refine ⟨w', p', Ev.step (fun k => spec_l30Walk.l0.eq_2 _ _ _ _ _ _ _ _) (Ev.pos (by omega) ?_), by omega, by omega, by omega, h4⟩
      have er : Go.Proofs.YtpjmkghmjpbldaaW.PrintWords.rd (outU l a l.length) (q : Int) = (outU l a l.length).getD q 0 := rdI _ q
      refine dwalk_in c n l (by omega) w a _ p ?_ l.length 0 (by omega) (by omega)
      refine Ev.neg h0 (Ev.bnd eb (Ev.pos (by omega) (Ev.pos b1' (Ev.pos (by omega) ?_))))
      rw [er, show wrap64 (((m + 1 : Nat) : Int) - 1) = (m : Int) from by rw [w64 (by omega) (by omega)]; omega]
      exact Ev.pos x0 (Ev.pos x1 e)
theorem walk_ev (c : List Int) (hc : Code c) (n : Int) (l : List Ar) (hl : l.length ≤ 1000) (p at_ most : Int) (hp : 0 ≤ p) (hp1 : p ≤ 5000) (h0 : 0 ≤ most) (h1 : most ≤ 50) :
    ∃ w' p', Ev (fun k => spec_l30Walk.f k c p n l at_ most) (w', p') ∧ p ≤ p' ∧ p' ≤ p + 1 + most ∧ (w'.length : Int) ≤ most ∧ ∀ x ∈ w', 0 ≤ x ∧ x < (l.length : Int) := by
  obtain ⟨m, em, m0, m1, _⟩ := pick_ev c hc p (most + 1) (by omega) (by omega) (by omega)
  have m1' := m1 (by omega)
  obtain ⟨q, rfl⟩ := Int.eq_ofNat_of_zero_le m0
  obtain ⟨w', p', e, g1, g2, g3, g4⟩ := dwalk_loop c hc n l hl q [] at_ (p + 1) (by omega) (by omega) (by simp; omega) (by intro x hx; cases hx)
  refine ⟨w', p', ?_, by omega, by omega, by simp at g3; omega, g4⟩
  unfold spec_l30Walk.f
  rw [w64 (x := most + 1) (by omega) (by omega)]
  exact Ev.bnd em e
theorem anywalk_ev (c : List Int) (hc : Code c) (p : Int) (n : Int) (l : List Ar) (hp : 0 ≤ p) (hp1 : p ≤ 3000) (h : DN n l) :
    ∃ w p', Ev (fun k => spec_l30AnyWalk.f k c p n l) (w, p') ∧ p ≤ p' ∧ p' ≤ p + 30 ∧ w.length ≤ 22 ∧ ∀ x ∈ w, -1 ≤ x ∧ x ≤ 16 := by
  have hl := h.len
  unfold spec_l30AnyWalk.f
  by_cases hk : netOkB n l = true
  · have hP := netP_of hk
    have h1 := hP.lo
    have h8 := hP.hi
    obtain ⟨f, ef, f0, f1, _⟩ := pick_ev c hc p n (by omega) (by omega) (by omega)
    obtain ⟨m, em, hm⟩ := one_ev c hc (p + 1) [3, 8, 21] (by omega) (by omega) (by simp) (by simp)
    simp only [List.mem_cons, List.not_mem_nil, or_false] at hm
    obtain ⟨w, q, ew, q0, q1, hw, hx⟩ := walk_ev c hc n l (by omega) (p + 1 + 1) f m (by omega) (by omega) (by omega) (by omega)
    obtain ⟨t, et, t0, t1, _⟩ := pick_ev c hc q 10 (by omega) (by omega) (by omega)
    by_cases ht : t = 0
    · obtain ⟨u, eu, u0, u1, _⟩ := pick_ev c hc (q + 1) 17 (by omega) (by omega) (by omega)
      have u1' := u1 (by omega)
      refine ⟨w ++ [wrap64 (u - 1)], q + 1 + 1, Ev.bnd (sok1_ev n l h.long) (Ev.pos hk (Ev.bnd ef (Ev.bnd em (Ev.bnd ew (Ev.bnd et (Ev.pos ht (Ev.bnd eu (Ev.pos (by show w.length < _; omega) (Ev.now _))))))))), by omega, by omega, by rw [List.length_append, List.length_singleton]; omega, ?_⟩
      intro x hx2
      rcases List.mem_append.1 hx2 with hx2 | hx2
      · have := hx x hx2; omega
      · obtain rfl := List.mem_singleton.1 hx2
        rw [w64 (by omega) (by omega)]
        omega
    · exact ⟨w, q + 1, Ev.bnd (sok1_ev n l h.long) (Ev.pos hk (Ev.bnd ef (Ev.bnd em (Ev.bnd ew (Ev.bnd et (Ev.neg ht (Ev.now _))))))), by omega, by omega, by omega, fun x hx2 => by have := hx x hx2; omega⟩
  · exact ⟨[0], p, Ev.bnd (sok1_ev n l h.long) (Ev.neg hk (Ev.now _)), by omega, by omega, by simp, by intro x hx; simp at hx; omega⟩
theorem drawWalk_ev (l0 : List Int) (hb : ∀ x ∈ l0, (Lit.int .u8 x).wf = true) : ∃ n l w, Ev (fun k => spec_DrawWalkOk.f k l0) (n, l, w) ∧ DN n l ∧ w.length ≤ 22 ∧ ∀ x ∈ w, -1 ≤ x ∧ x ≤ 16 := by
  obtain ⟨c, ec, hc⟩ := open_eq l0 hb
  obtain ⟨n, l, p, en, p0, p1, hN⟩ := anynet_ev c hc 0 (by omega) (by omega)
  obtain ⟨w, q, ew, _, _, hw, hx⟩ := anywalk_ev c hc p n l (by omega) (by omega) hN
  refine ⟨n, l, w, ?_, hN, hw, hx⟩
  unfold spec_DrawWalkOk.f
  exact Ev.bnd0 ec (Ev.bnd en (Ev.bnd ew (Ev.now _)))
end Go.Proofs.Ytpjmkghmjpbldaa.M
