/- For every code: what FnNearAll asks holds. No condition beyond those that the statement has. -/
import Derived.Test.YtbmoonciggfbpaaMNear4
import Derived.Test.YtbmoonciggfbpaaMDrawNO
import Derived.Test.YtbmoonciggfbpaaMWk
import Derived.Test.YtbmoonciggfbpaaPrintF13
import Derived.Test.YtbmoonciggfbpaaPrintF3
set_option linter.unusedVariables false
namespace Go.Proofs.Ytbmoonciggfbpaa.Pure
open Go.RowKit Go.Proofs.Ytbmoonciggfbpaa.Print Go.Proofs.YtbmoonciggfbpaaW.PrintWords Go.Proofs.YtbmoonciggfbpaaW.PrintLast Go.Proofs.YtbmoonciggfbpaaY Go.Proofs.Ytbmoonciggfbpaa.M
theorem rdB_set {h : List Bool} {i j : Int} {x : Bool} (hi0 : 0 ≤ i) (hi : i < h.length) (hj0 : 0 ≤ j) : rdOf false (h.set i.toNat x) j = if i = j then x else rdOf false h j := by
  unfold rdOf
  rw [List.getD_eq_getElem?_getD, List.getElem?_set]
  by_cases e : i = j
  · subst e; rw [if_pos rfl, if_pos rfl, if_pos (by omega)]; rfl
  · rw [if_neg (by omega), if_neg e, List.getD_eq_getElem?_getD]
theorem FnNearAll : laws_FnNearAll.Pure := by
  intro l0 hm hm2 hb
  suffices h : Ev (fun k => laws_FnNearAll.f k l0) true by
    obtain ⟨K, h⟩ := h
    exact ⟨K, h K (Nat.le_refl _)⟩
  unfold laws_FnNearAll.f
  refine Ev.ite (fun _ => Ev.now _) (fun _ => ?_)
  obtain ⟨n, l, v, ed, hN⟩ := drawNO_ev l0 hb
  have hlen := hN.len
  obtain ⟨d, hi, hs, hd, hz, hM⟩ := nearAll_ev n l v (by omega)
  refine Ev.bnd (a := (n, l, v)) ?_ (Ev.bnd hi (Ev.bnd hs (Ev.bnd (wkI_ev d (by omega)) (Ev.pos rfl ?_))))
  · unfold spec_DrawNearAll.f
    exact Ev.bnd ed (Ev.now _)
  have short : ((d.length : Int) == 0) = true → Ev (fun k => laws_FnNearAll.j0 k v d ((d.length : Int) == 0) n l) true := fun h => by
    rw [h]
    exact Ev.step (fun k => laws_FnNearAll.j0.eq_2 _ _ _ _ _ _) (Ev.pos rfl (Ev.bnd hs (Ev.bnd (wkI_ev d (by omega)) (Ev.now _))))
  cases hb1 : nodeB n l v with
  | false => exact short (by rw [hz hb1]; rfl)
  | true =>
    obtain ⟨hP, h0, h1⟩ := nodeB_of hb1
    obtain ⟨M, b, rfl⟩ := hM hb1
    have n1 := hP.lo
    have n8 := hP.hi
    have hlM : (costsL M).length = n.toNat := by unfold costsL; rw [List.length_map]; exact b.len
    rw [show (((costsL M).length : Int) == 0) = false from by rw [hlM]; simp; omega]
    have hP' := turnP hP
    have rdc : ∀ u : Int, 0 ≤ u → u < n → Go.Proofs.YtbmoonciggfbpaaW.PrintWords.rd (costsL M) u = (atM M u).f0 := fun u u0 u1 => rd_costs b.toInv u u0 u1
    have hrl : (List.replicate n.toNat false).length = n.toNat := List.length_replicate
    refine Ev.step (fun k => laws_FnNearAll.j0.eq_2 _ _ _ _ _ _) (Ev.neg (by simp) (Ev.pos (by omega) (Ev.pos (by omega) (Ev.bnd0 rfl (Ev.pos h0 (Ev.pos (show v < ((List.replicate n.toNat false).length : Int) by rw [hrl]; omega) ?_))))))
    -- what stands in 'has' behind so many arcs
    have tailL : ∀ (h : List Bool), h.length = n.toNat → rdOf false h v = true → (∀ a ∈ l, (atM M a.f0).f0 < 99999 → (atM M a.f1).f0 = (atM M a.f0).f0 + a.f2 → rdOf false h a.f1 = true) →
        ∀ (q j : Nat), (j : Int) + q = n → Ev (fun k => laws_FnNearAll.l1 k v (costsL M) h (j : Int) n l) true := by
      intro h hh hv ha q
      induction q with
      | zero =>
        intro j hj
        refine Ev.step (fun k => laws_FnNearAll.l1.eq_2 _ _ _ _ _ _ _) (Ev.neg (by omega) (Ev.pos h0 (Ev.pos (by omega) (Ev.pos ?_ (Ev.now' ?_)))))
        · rw [rdc v h0 h1, b.tgt]
        · rw [hlM]; simp; omega
      | succ q ih =>
        intro j hj
        have bd := b.bounds hP' (j : Int) (by omega) (by omega)
        refine Ev.step (fun k => laws_FnNearAll.l1.eq_2 _ _ _ _ _ _ _) (Ev.pos (by omega) (Ev.pos (by omega) (Ev.pos (by omega) ?_)))
        rw [rdc (j : Int) (by omega) (by omega), nxt j (by omega)]
        refine Ev.neg (by omega) (Ev.neg (by omega) (Ev.ite (fun c => Ev.pos (by omega) (Ev.pos ?_ (ih (j + 1) (by omega)))) (fun _ => ih (j + 1) (by omega))))
        by_cases e : (j : Int) = v
        · rw [e]; exact hv
        · obtain ⟨a', ha', q0, q1, q2, _⟩ := best_first hP' b (show (0 : Int) ≤ (j : Int) by omega) (by omega) e (by omega)
          obtain ⟨a, hal, rfl⟩ := List.mem_map.1 ha'
          have g := hP.arc a hal
          have top := b.top a.f0 (by omega) (by omega)
          have q1' : (atM M a.f0).f0 ≠ 99999 := q1
          have q0' : a.f1 = (j : Int) := q0
          have q2' : (atM M (j : Int)).f0 = (atM M a.f0).f0 + a.f2 := q2
          rw [← q0']
          exact ha a hal (by omega) (by rw [q0']; exact q2')
    have loop : ∀ (q i : Nat) (h : List Bool), i ≤ l.length → l.length - i = q → h.length = n.toNat → rdOf false h v = true → (∀ a ∈ l.take i, (atM M a.f0).f0 < 99999 → (atM M a.f1).f0 = (atM M a.f0).f0 + a.f2 → rdOf false h a.f1 = true) →
        Ev (fun k => laws_FnNearAll.l0 k v (costsL M) h (i : Int) n l) true := by
      intro q
      induction q with
      | zero =>
        intro i h hi hq hh hv ha
        rw [List.take_of_length_le (by omega)] at ha
        exact Ev.step (fun k => laws_FnNearAll.l0.eq_2 _ _ _ _ _ _ _) (Ev.neg (by omega) (tailL h hh hv ha n.toNat 0 (by omega)))
      | succ q ih =>
        intro i h hi hq hh hv ha
        have hmem : l.getD i arz ∈ l := by rw [getDA l i (by omega)]; exact List.getElem_mem _
        have g := hP.arc _ hmem
        have htk := takeA l i (by omega)
        refine Ev.step (fun k => laws_FnNearAll.l0.eq_2 _ _ _ _ _ _ _) (Ev.pos (by omega) (Ev.pos (by omega) ?_))
        rw [rdA, nxt i (by omega)]
        generalize l.getD i arz = a at *
        have b0 := b.bounds hP' a.f0 (by omega) (by omega)
        have b1 := b.bounds hP' a.f1 (by omega) (by omega)
        rw [rdc a.f0 (by omega) (by omega), rdc a.f1 (by omega) (by omega), w64 (x := (atM M a.f0).f0 + a.f2) (by omega) (by omega)]
        -- the next state: a.f1's cell says what it said or what this arc says
        have next : ∀ x : Bool, (rdOf false h a.f1 = true → x = true) → ((atM M a.f0).f0 < 99999 → (atM M a.f1).f0 = (atM M a.f0).f0 + a.f2 → x = true) → Ev (fun k => laws_FnNearAll.l0 k v (costsL M) (h.set a.f1.toNat x) ((i + 1 : Nat) : Int) n l) true := fun x hx1 hx2 => by
          have hset := fun j hj => rdB_set (h := h) (i := a.f1) (j := j) (x := x) (by omega) (by omega) hj
          refine ih (i + 1) _ (by omega) (by omega) (by rw [List.length_set]; exact hh) ?_ ?_
          · rw [hset v h0]; split
            · rename_i e; exact hx1 (by rw [e]; exact hv)
            · exact hv
          · intro c hc hc1 hc2
            rw [htk] at hc
            have gc : 0 ≤ c.f1 := by
              rcases List.mem_append.1 hc with hc | hc
              · have := hP.arc c (List.mem_of_mem_take hc); omega
              · obtain rfl := List.mem_singleton.1 hc; omega
            rw [hset c.f1 gc]
            rcases List.mem_append.1 hc with hc | hc
            · have := ha c hc hc1 hc2
              split
              · rename_i e; exact hx1 (by rw [e]; exact this)
              · exact this
            · obtain rfl := List.mem_singleton.1 hc
              rw [if_pos rfl]
              exact hx2 hc1 hc2
        refine Ev.pos (by omega) (Ev.pos (by omega) (Ev.ite (fun c => ?_) (fun c => ?_)))
        · have no : ¬ (atM M a.f1).f0 > (atM M a.f0).f0 + a.f2 := by
            have hfix := b.fix (turnA a) (List.mem_map.2 ⟨a, hmem, rfl⟩)
            unfold chgB at hfix
            rw [decide_eq_false (show ¬ (atM M (turnA a).f1).f0 = 99999 from by show ¬ (atM M a.f0).f0 = 99999; omega), Bool.not_false, Bool.true_and] at hfix
            intro hgt
            rw [ltB_iff.2 (show lt2 (nxM M (turnA a)) (atM M (turnA a).f0) from .inl hgt)] at hfix
            cases hfix
          refine Ev.pos (by omega) (Ev.pos (by omega) (Ev.neg no (Ev.pos (by omega) (Ev.ite (fun _ => next true (fun _ => rfl) (fun _ _ => rfl)) (fun c2 => next _ (fun e => absurd e c2) (fun _ e => by rw [e]; simp))))))
        · refine Ev.pos (by omega) (Ev.pos (by omega) (Ev.ite (fun _ => next true (fun _ => rfl) (fun _ _ => rfl)) (fun c2 => next false (fun e => absurd e c2) (fun e => absurd e c))))
    refine loop l.length 0 _ (by omega) (by omega) (by rw [List.length_set, hrl]) ?_ (fun a ha => by simp at ha)
    rw [rdB_set h0 (by rw [hrl]; omega) h0, if_pos rfl]
end Go.Proofs.Ytbmoonciggfbpaa.Pure
