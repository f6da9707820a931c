/- The best way itself: what the program and the reference come to. -/
import Derived.Test.YtgnnimhhkbbfiaaMNear5
import Derived.Test.YtgnnimhhkbbfiaaPrintF16
import Derived.Test.YtgnnimhhkbbfiaaPrintF19
import Derived.Test.YtgnnimhhkbbfiaaPrintF27
import Derived.Test.YtgnnimhhkbbfiaaPrintF29
import Derived.Test.YtgnnimhhkbbfiaaPrintF30
import Derived.Test.YtgnnimhhkbbfiaaPrintF33
set_option linter.unusedVariables false
set_option linter.unusedSimpArgs false
namespace Go.Proofs.Ytgnnimhhkbbfiaa.M
open Go.RowKit Go.Proofs.Ytgnnimhhkbbfiaa.Print Go.Proofs.YtgnnimhhkbbfiaaW.PrintWords Go.Proofs.YtgnnimhhkbbfiaaW.PrintLast Go.Proofs.YtgnnimhhkbbfiaaY
theorem idxF_spec {α : Type} (z : α) (p : α → Bool) (l : List α) : ∀ i : Int, (∃ x ∈ l, p x = true) → ∃ j : Nat, j < l.length ∧ idxF p i l = i + j ∧ p (l.getD j z) = true ∧ ∀ q, q < j → p (l.getD q z) = false := by
  induction l with
  | nil => intro i h; obtain ⟨x, hx, _⟩ := h; cases hx
  | cons a l ih =>
    intro i h
    by_cases ha : p a = true
    · refine ⟨0, by simp, ?_, ha, fun q hq => by omega⟩
      show (if p a = true then i else idxF p (i + 1) l) = _; rw [if_pos ha]; omega
    · have : ∃ x ∈ l, p x = true := by
        obtain ⟨x, hx, hp⟩ := h
        rcases List.mem_cons.1 hx with rfl | hx
        · exact absurd hp ha
        · exact ⟨x, hx, hp⟩
      obtain ⟨j, h1, h2, h3, h4⟩ := ih (i + 1) this
      refine ⟨j + 1, by simp; omega, ?_, h3, ?_⟩
      · show (if p a = true then i else idxF p (i + 1) l) = _; rw [if_neg ha, h2]; omega
      · intro q hq
        cases q with
        | zero => show p a = false; simpa using ha
        | succ q => exact h4 q (by omega)
theorem fa_iff {n : Int} {l : List Ar} (hN : NetP n l) {t : Int} {M : List Me} (h : Inv n l t M) {a : Ar} (ha : a ∈ l) (v : Int) : fa_ok M v a = true ↔ a.f0 = v ∧ (atM M a.f1).f0 ≠ 99999 ∧ (atM M a.f1).f0 + a.f2 = (atM M v).f0 ∧ (atM M a.f1).f1 + 1 = (atM M v).f1 := by
  have g := hN.arc a ha
  have b := h.bounds hN a.f1 (by omega) (by omega)
  unfold fa_ok
  rw [rdM, rdM, w64 (x := (atM M a.f1).f0 + a.f2) (by omega) (by omega), w64 (x := (atM M a.f1).f1 + 1) (by omega) (by omega)]
  simp
def fnd (M : List Me) (l : List Ar) (v : Int) : Int := idxF (fa_ok M v) 0 l
theorem fnd_spec {n : Int} {l : List Ar} (hN : NetP n l) {t : Int} {M : List Me} (h : Best n l t M) {v : Int} (h0 : 0 ≤ v) (h1 : v < n) (ht : v ≠ t) (hf : (atM M v).f0 ≠ 99999) :
    ∃ j : Nat, j < l.length ∧ fnd M l v = j ∧ (l.getD j arz).f0 = v ∧ (atM M (l.getD j arz).f1).f0 ≠ 99999 ∧ (atM M (l.getD j arz).f1).f0 + (l.getD j arz).f2 = (atM M v).f0 ∧ (atM M (l.getD j arz).f1).f1 + 1 = (atM M v).f1 ∧ ∀ q, q < j → fa_ok M v (l.getD q arz) = false := by
  obtain ⟨a, ha, q0, q1, q2, q3⟩ := best_first hN h h0 h1 ht hf
  obtain ⟨j, j1, j2, j3, j4⟩ := idxF_spec arz (fa_ok M v) l 0 ⟨a, ha, (fa_iff hN h.toInv ha v).2 ⟨q0, q1, q2.symm, q3.symm⟩⟩
  have hm : l.getD j arz ∈ l := by rw [getDA l j j1]; exact List.getElem_mem _
  obtain ⟨g0, g1, g2, g3⟩ := (fa_iff hN h.toInv hm v).1 j3
  exact ⟨j, j1, by unfold fnd; omega, g0, g1, g2, g3, j4⟩
def wlk (M : List Me) (l : List Ar) : Nat → Int → List Int
  | 0, _ => []
  | m + 1, v => fnd M l v :: wlk M l m (l.getD (fnd M l v).toNat arz).f1
theorem wlk_len (M : List Me) (l : List Ar) : ∀ (m : Nat) (v : Int), (wlk M l m v).length = m
  | 0, _ => rfl
  | m + 1, v => by simp [wlk, wlk_len M l m]
/-- The best way from a node. -/
def way (M : List Me) (l : List Ar) (v : Int) : List Int := wlk M l ((atM M v).f1).toNat v
theorem way_len (M : List Me) (l : List Ar) (v : Int) : (way M l v).length = ((atM M v).f1).toNat := wlk_len M l _ v
theorem way_self {n : Int} {l : List Ar} {t : Int} {M : List Me} (h : Best n l t M) : way M l t = [] := by unfold way; rw [h.tgt]; rfl
theorem way_step {n : Int} {l : List Ar} (hN : NetP n l) {t : Int} {M : List Me} (h : Best n l t M) {v : Int} (h0 : 0 ≤ v) (h1 : v < n) (ht : v ≠ t) (hf : (atM M v).f0 ≠ 99999) : way M l v = fnd M l v :: way M l (l.getD (fnd M l v).toNat arz).f1 := by
  obtain ⟨j, j1, j2, j3, j4, j5, j6, _⟩ := fnd_spec hN h h0 h1 ht hf
  have hm : l.getD j arz ∈ l := by rw [getDA l j j1]; exact List.getElem_mem _
  have g := hN.arc _ hm
  have b := h.bounds hN (l.getD j arz).f1 (by omega) (by omega)
  have e : ((atM M v).f1).toNat = ((atM M (l.getD j arz).f1).f1).toNat + 1 := by omega
  unfold way
  rw [e, wlk, j2, Int.toNat_natCast]
theorem firstArc_eq {n : Int} {l : List Ar} (hN : NetP n l) {t : Int} {M : List Me} (h : Inv n l t M) {v : Int} (h0 : 0 ≤ v) (h1 : v < n) : impl_Net_firstArc.f n l M v = some (fnd M l v) := by
  have hl := h.len
  unfold impl_Net_firstArc.f
  rw [if_pos h0, if_pos (by omega), if_pos]
  · rfl
  · rw [List.all_eq_true]
    intro a ha
    have g := hN.arc a ha
    simp; omega
theorem best_loop {n : Int} {l : List Ar} (hN : NetP n l) {t : Int} (ht0 : 0 ≤ t) (htn : t < n) {M : List Me} (h : Best n l t M) (m : Nat) : ∀ (v : Int) (acc : List Int), 0 ≤ v → v < n → (atM M v).f0 ≠ 99999 → (atM M v).f1 = m → acc.length + m ≤ 1000 → Ev (fun k => impl_Net_best.l0 k v t M acc n l) (acc ++ way M l v, true) := by
  induction m with
  | zero =>
    intro v acc h0 h1 hf hm ha
    have e : v = t := by
      by_cases e : v = t
      · exact e
      · obtain ⟨a, hal, rfl, q1, q2, q3⟩ := best_first hN h h0 h1 e hf
        have g := hN.arc a hal
        have := h.bounds hN a.f1 (by omega) (by omega)
        omega
    subst e
    rw [way_self h, List.append_nil]
    exact Ev.step (fun k => impl_Net_best.l0.eq_2 _ _ _ _ _ _ _) (Ev.pos rfl (Ev.now _))
  | succ m ih =>
    intro v acc h0 h1 hf hm ha
    have e : v ≠ t := fun e => by rw [e, h.tgt] at hm; simp at hm; omega
    obtain ⟨j, j1, j2, j3, j4, j5, j6, _⟩ := fnd_spec hN h h0 h1 e hf
    have hmem : l.getD j arz ∈ l := by rw [getDA l j j1]; exact List.getElem_mem _
    have g := hN.arc _ hmem
    refine Ev.step (fun k => impl_Net_best.l0.eq_2 _ _ _ _ _ _ _) (Ev.neg e (Ev.bnd0 (firstArc_eq hN h.toInv h0 h1) ?_))
    rw [way_step hN h h0 h1 e hf, j2, Int.toNat_natCast]
    refine Ev.pos (by omega) (Ev.pos (by omega) (Ev.pos (by omega) ?_))
    rw [rdA]
    have := ih (l.getD j arz).f1 (acc ++ [(j : Int)]) (by omega) (by omega) j4 (by omega) (by simp; omega)
    rw [List.append_assoc] at this
    exact this
theorem best_ev {n : Int} {l : List Ar} (hN : NetP n l) {u t : Int} (hu0 : 0 ≤ u) (hun : u < n) (ht0 : 0 ≤ t) (htn : t < n) : ∃ M, Best n l t M ∧ Ev (fun k => impl_Net_toward.f k n l t) M ∧ Ev (fun k => impl_Net_best.f k n l u t) (if (atM M u).f0 = 99999 then ([], false) else (way M l u, true)) := by
  obtain ⟨M, e, b⟩ := toward_ev hN ht0 htn
  have hl := b.len
  have bd := b.bounds hN u hu0 hun
  refine ⟨M, b, e, ?_⟩
  unfold impl_Net_best.f
  refine Ev.bnd e (Ev.pos hu0 (Ev.pos (by omega) ?_))
  rw [rdM]
  by_cases hf : (atM M u).f0 = 99999
  · rw [if_pos hf]; exact Ev.pos hf (Ev.now _)
  · rw [if_neg hf]
    refine Ev.neg hf (Ev.pos (by omega) (Ev.pos (by omega) ?_))
    have := best_loop hN ht0 htn b ((atM M u).f1).toNat u [] hu0 hun hf (by omega) (by simp; omega)
    rw [List.nil_append] at this
    exact this
/-! ### The reference -/
theorem sSt_in {n : Int} {l : List Ar} (hN : NetP n l) {t : Int} (ht0 : 0 ≤ t) (htn : t < n) {M : List Me} (b : Inv n l t M) (x : Int) {r : List Int} (dd : Nat) : ∀ (i : Nat) (s : List Int), i ≤ l.length → l.length - i = dd → CInv n l t M s →
    Ev (fun k => spec_l3Steps.l1 k (costsL M) ((l.drop i).foldl (rlS M) s) (wrap64 (x + 1)) n l) r → Ev (fun k => spec_l3Steps.l2 k (costsL M) s x (i : Int) n l) r := by
  have hfew := hN.few
  have hcl : (costsL M).length = n.toNat := by unfold costsL; rw [List.length_map]; exact b.len
  induction dd with
  | zero =>
    intro i s hi hd hS h
    rw [List.drop_eq_nil_of_le (by omega)] at h
    exact Ev.step (fun k => spec_l3Steps.l2.eq_2 _ _ _ _ _ _ _) (Ev.neg (by omega) h)
  | succ dd ih =>
    intro i s hi hd hS h
    have hmem : l.getD i arz ∈ l := by rw [getDA l i (by omega)]; exact List.getElem_mem _
    rw [dropA l i (by omega), List.foldl_cons] at h
    obtain ⟨a0, a1, a2, a3, a4, a5, a6, _⟩ := hN.arc _ hmem
    have hlen := hS.len
    have h1 := hN.lo
    refine Ev.step (fun k => spec_l3Steps.l2.eq_2 _ _ _ _ _ _ _) (Ev.pos (by omega) (Ev.pos (by omega) ?_))
    rw [rdA, nxt i (by omega)]
    generalize l.getD i arz = a at *
    have e1 : Go.Proofs.YtgnnimhhkbbfiaaW.PrintWords.rd (costsL M) a.f1 = (atM M a.f1).f0 := rd_costs b a.f1 a2 a3
    have e0 : Go.Proofs.YtgnnimhhkbbfiaaW.PrintWords.rd (costsL M) a.f0 = (atM M a.f0).f0 := rd_costs b a.f0 a0 a1
    have bd := b.bounds hN a.f1 a2 a3
    have lo := hS.lo a.f1 a2 a3
    have top := hS.top a.f1 a2 a3
    have hS' := cinv_rlS hN ht0 htn hS hmem
    rw [e1, e0, w64 (x := a.f2 + (atM M a.f1).f0) (by omega) (by omega)]
    show Ev (fun k => if 0 ≤ a.f1 then (if a.f1 < ((costsL M).length : Int) then (if (atM M a.f1).f0 < 99999 then (if 0 ≤ a.f0 then (if a.f0 < ((costsL M).length : Int) then (if (atM M a.f0).f0 = a.f2 + (atM M a.f1).f0 then (if a.f1 < (s.length : Int) then (if a.f0 < (s.length : Int) then (if wrap64 (rdD s a.f1 + 1) < rdD s a.f0 then spec_l3Steps.l2 k (costsL M) (s.set a.f0.toNat (wrap64 (rdD s a.f1 + 1))) x ((i + 1 : Nat) : Int) n l else spec_l3Steps.l2 k (costsL M) s x ((i + 1 : Nat) : Int) n l) else none) else none) else spec_l3Steps.l2 k (costsL M) s x ((i + 1 : Nat) : Int) n l) else none) else none) else spec_l3Steps.l2 k (costsL M) s x ((i + 1 : Nat) : Int) n l) else none) else none) r
    rw [w64 (x := rdD s a.f1 + 1) (by omega) (by omega)]
    have no : ¬ ((atM M a.f1).f0 < 99999 ∧ (atM M a.f0).f0 = a.f2 + (atM M a.f1).f0 ∧ rdD s a.f1 + 1 < rdD s a.f0) → Ev (fun k => spec_l3Steps.l2 k (costsL M) s x ((i + 1 : Nat) : Int) n l) r := fun hn => by
      have e : rlS M s a = s := by unfold rlS; rw [if_neg hn]
      rw [e] at h
      exact ih (i + 1) s (by omega) (by omega) hS h
    refine Ev.pos a2 (Ev.pos (by omega) (Ev.ite (fun c1 => Ev.pos a0 (Ev.pos (by omega) (Ev.ite (fun c2 => Ev.pos (by omega) (Ev.pos (by omega) (Ev.ite (fun c3 => ?_) (fun c3 => no (fun hh => c3 hh.2.2))))) (fun c2 => no (fun hh => c2 hh.2.1))))) (fun c1 => no (fun hh => c1 hh.1))))
    have e : rlS M s a = s.set a.f0.toNat (rdD s a.f1 + 1) := by unfold rlS; rw [if_pos ⟨c1, c2, c3⟩]
    rw [e] at h hS'
    exact ih (i + 1) _ (by omega) (by omega) hS' h
theorem sSt_rounds {n : Int} {l : List Ar} (hN : NetP n l) {t : Int} (ht0 : 0 ≤ t) (htn : t < n) {M : List Me} (b : Inv n l t M) (q : Nat) : ∀ (j : Nat) (s : List Int), (j : Int) + q = n → CInv n l t M s → Ev (fun k => spec_l3Steps.l1 k (costsL M) s (j : Int) n l) (roundsS l M q s) := by
  have h8 := hN.hi
  induction q with
  | zero => intro j d hj hS; exact Ev.step (fun k => spec_l3Steps.l1.eq_2 _ _ _ _ _ _) (Ev.neg (by omega) (Ev.now _))
  | succ q ih =>
    intro j d hj hS
    refine Ev.step (fun k => spec_l3Steps.l1.eq_2 _ _ _ _ _ _) (Ev.pos (by omega) (sSt_in hN ht0 htn b (j : Int) l.length 0 d (by omega) (by omega) hS ?_))
    rw [nxt j (by omega), List.drop_zero]
    exact ih (j + 1) _ (by omega) (cinv_fold hN ht0 htn l d (fun _ h => h) hS)
theorem sSt_fill {n : Int} {l : List Ar} (hN : NetP n l) {t : Int} (ht0 : 0 ≤ t) (htn : t < n) (c : List Int) {r : List Int} (h : Ev (fun k => spec_l3Steps.l1 k c (dinit n t) 0 n l) r) (q : Nat) : ∀ j : Nat, (j : Int) + q = n → Ev (fun k => spec_l3Steps.l0 k t c (List.replicate j (99999 : Int) ++ List.replicate q 0) (j : Int) n l) r := by
  have h8 := hN.hi
  induction q with
  | zero =>
    intro j hj
    have e : List.replicate j (99999 : Int) ++ List.replicate 0 0 = List.replicate n.toNat 99999 := by rw [List.replicate_zero, List.append_nil, show j = n.toNat by omega]
    rw [e]
    exact Ev.step (fun k => spec_l3Steps.l0.eq_2 _ _ _ _ _ _ _) (Ev.neg (by omega) (Ev.pos ht0 (Ev.pos (by rw [List.length_replicate]; omega) h)))
  | succ q ih =>
    intro j hj
    refine Ev.step (fun k => spec_l3Steps.l0.eq_2 _ _ _ _ _ _ _) (Ev.pos (by omega) (Ev.pos (by omega) (Ev.pos (by rw [List.length_append, List.length_replicate, List.length_replicate]; omega) ?_)))
    have e : (List.replicate j (99999 : Int) ++ List.replicate (q + 1) 0).set ((j : Int)).toNat 99999 = List.replicate (j + 1) 99999 ++ List.replicate q 0 := by
      rw [Int.toNat_natCast, List.set_append_right _ _ (by rw [List.length_replicate]; exact Nat.le_refl _), List.length_replicate, Nat.sub_self, List.replicate_succ, List.set_cons_zero, List.replicate_succ', List.append_assoc]; rfl
    rw [e, nxt j (by omega)]
    exact ih (j + 1) (by omega)
/-- The counts that the reference makes. -/
theorem sSt_ev {n : Int} {l : List Ar} (hN : NetP n l) {t : Int} (ht0 : 0 ≤ t) (htn : t < n) {M : List Me} (b : Best n l t M) : ∃ s, Ev (fun k => spec_l3Steps.f k n l t) s ∧ s.length = n.toNat ∧ ∀ v, 0 ≤ v → v < n → rdD s v = stp M v := by
  have h1 := hN.lo
  have h8 := hN.hi
  have hf := hN.few
  obtain ⟨i1, i2⟩ := cinit_inv (M := M) hN ht0 htn
  obtain ⟨c, cf⟩ := roundsS_cf hN ht0 htn b.toInv n.toNat 0 _ i1 i2
  rw [Nat.zero_add] at cf
  have hr := sSt_rounds hN ht0 htn b.toInv n.toNat 0 (dinit n t) (by omega) i1
  have h := sSt_fill hN ht0 htn (costsL M) hr n.toNat 0 (by omega)
  refine ⟨roundsS l M n.toNat (dinit n t), ?_, c.len, fun v h0 h1 => cnt_eq hN ht0 htn b c cf v h0 h1⟩
  unfold spec_l3Steps.f
  exact Ev.bnd (sback_ev n l (by omega)) (Ev.bnd (sAll_ev hN ht0 htn b) (Ev.pos (by omega) (Ev.pos (by omega) h)))
theorem sWk_scan {n : Int} {l : List Ar} (hN : NetP n l) {t : Int} {M : List Me} (b : Best n l t M) {s : List Int} (hs : s.length = n.toNat) (hst : ∀ v, 0 ≤ v → v < n → rdD s v = stp M v) {v : Int} (h0 : 0 ≤ v) (h1 : v < n) (hf : (atM M v).f0 ≠ 99999) {acc : List Int} (ha : acc.length ≤ 1000) {r : List Int × Bool} {j : Nat} (hj : j < l.length) (hfa : fa_ok M v (l.getD j arz) = true) (hno : ∀ q, q < j → fa_ok M v (l.getD q arz) = false)
    (h : Ev (fun k => spec_l3Walk.l0 k t (costsL M) s (acc ++ [(j : Int)]) (l.getD j arz).f1 n l) r) (d : Nat) : ∀ i : Nat, i ≤ j → j - i = d → Ev (fun k => spec_l3Walk.l1 k t (costsL M) s acc v (i : Int) n l) r := by
  have hfew := hN.few
  have hcl : (costsL M).length = n.toNat := by unfold costsL; rw [List.length_map]; exact b.len
  have hv := hst v h0 h1
  have ev : Go.Proofs.YtgnnimhhkbbfiaaW.PrintWords.rd (costsL M) v = (atM M v).f0 := rd_costs b.toInv v h0 h1
  have esv : Go.Proofs.YtgnnimhhkbbfiaaW.PrintWords.rd s v = (atM M v).f1 := by have := hst v h0 h1; unfold stp at this; rw [if_neg hf] at this; exact this
  have bv := b.bounds hN v h0 h1
  induction d with
  | zero =>
    intro i hi hd
    have e : i = j := by omega
    subst e
    have hm : l.getD i arz ∈ l := by rw [getDA l i hj]; exact List.getElem_mem _
    obtain ⟨g0, g1, g2, g3⟩ := (fa_iff hN b.toInv hm v).1 hfa
    obtain ⟨a0, a1, a2, a3, _⟩ := hN.arc _ hm
    have e1 : Go.Proofs.YtgnnimhhkbbfiaaW.PrintWords.rd (costsL M) (l.getD i arz).f1 = (atM M (l.getD i arz).f1).f0 := rd_costs b.toInv _ a2 a3
    have es1 : Go.Proofs.YtgnnimhhkbbfiaaW.PrintWords.rd s (l.getD i arz).f1 = (atM M (l.getD i arz).f1).f1 := by have := hst _ a2 a3; unfold stp at this; rw [if_neg g1] at this; exact this
    have ba := b.bounds hN _ a2 a3
    refine Ev.step (fun k => spec_l3Walk.l1.eq_2 _ _ _ _ _ _ _ _ _) (Ev.pos (by omega) (Ev.pos (by omega) ?_))
    rw [rdA, e1, es1, ev, esv]
    rw [w64 (x := (l.getD i arz).f2 + (atM M (l.getD i arz).f1).f0) (by omega) (by omega), w64 (x := (atM M (l.getD i arz).f1).f1 + 1) (by omega) (by omega)]
    exact Ev.pos g0 (Ev.pos a2 (Ev.pos (by omega) (Ev.pos (by omega) (Ev.pos h0 (Ev.pos (by omega) (Ev.pos (by omega) (Ev.pos (by omega) (Ev.pos (by omega) (Ev.pos (by omega) (Ev.pos (by omega) h))))))))))
  | succ d ih =>
    intro i hi hd
    have hm : l.getD i arz ∈ l := by rw [getDA l i (by omega)]; exact List.getElem_mem _
    have hn : ¬ fa_ok M v (l.getD i arz) = true := by rw [hno i (by omega)]; simp
    rw [fa_iff hN b.toInv hm v] at hn
    obtain ⟨a0, a1, a2, a3, a4, a5, a6, _⟩ := hN.arc _ hm
    have e1 : Go.Proofs.YtgnnimhhkbbfiaaW.PrintWords.rd (costsL M) (l.getD i arz).f1 = (atM M (l.getD i arz).f1).f0 := rd_costs b.toInv _ a2 a3
    have nx := ih (i + 1) (by omega) (by omega)
    have ba := b.bounds hN _ a2 a3
    refine Ev.step (fun k => spec_l3Walk.l1.eq_2 _ _ _ _ _ _ _ _ _) (Ev.pos (by omega) (Ev.pos (by omega) ?_))
    rw [rdA, e1, ev, esv, nxt i (by omega)]
    rw [w64 (x := (l.getD i arz).f2 + (atM M (l.getD i arz).f1).f0) (by omega) (by omega)]
    refine Ev.ite (fun c0 => Ev.pos a2 (Ev.pos (by omega) (Ev.ite (fun c1 => Ev.pos h0 (Ev.pos (by omega) (Ev.ite (fun c2 => Ev.pos (by omega) (Ev.pos (by omega) ?_)) (fun _ => nx)))) (fun _ => nx)))) (fun _ => nx)
    have es1 : Go.Proofs.YtgnnimhhkbbfiaaW.PrintWords.rd s (l.getD i arz).f1 = (atM M (l.getD i arz).f1).f1 := by have := hst _ a2 a3; unfold stp at this; rw [if_neg (by omega)] at this; exact this
    rw [es1, w64 (x := (atM M (l.getD i arz).f1).f1 + 1) (by omega) (by omega)]
    exact Ev.neg (fun c3 => hn ⟨c0, by omega, by omega, by omega⟩) nx
theorem sWk_loop {n : Int} {l : List Ar} (hN : NetP n l) {t : Int} (ht0 : 0 ≤ t) (htn : t < n) {M : List Me} (h : Best n l t M) {s : List Int} (hs : s.length = n.toNat) (hst : ∀ v, 0 ≤ v → v < n → rdD s v = stp M v) (m : Nat) : ∀ (v : Int) (acc : List Int), 0 ≤ v → v < n → (atM M v).f0 ≠ 99999 → (atM M v).f1 = m → acc.length + m ≤ 1000 → Ev (fun k => spec_l3Walk.l0 k t (costsL M) s acc v n l) (acc ++ way M l v, true) := by
  induction m with
  | zero =>
    intro v acc h0 h1 hf hm ha
    have e : v = t := by
      by_cases e : v = t
      · exact e
      · obtain ⟨a, hal, rfl, q1, q2, q3⟩ := best_first hN h h0 h1 e hf
        have g := hN.arc a hal
        have := h.bounds hN a.f1 (by omega) (by omega)
        omega
    subst e
    rw [way_self h, List.append_nil]
    exact Ev.step (fun k => spec_l3Walk.l0.eq_2 _ _ _ _ _ _ _ _) (Ev.pos rfl (Ev.now _))
  | succ m ih =>
    intro v acc h0 h1 hf hm ha
    have e : v ≠ t := fun e => by rw [e, h.tgt] at hm; simp at hm; omega
    obtain ⟨j, j1, j2, j3, j4, j5, j6, j7⟩ := fnd_spec hN h h0 h1 e hf
    have hmem : l.getD j arz ∈ l := by rw [getDA l j j1]; exact List.getElem_mem _
    have g := hN.arc _ hmem
    have hfa := (fa_iff hN h.toInv hmem v).2 ⟨j3, j4, j5, j6⟩
    refine Ev.step (fun k => spec_l3Walk.l0.eq_2 _ _ _ _ _ _ _ _) (Ev.neg e ?_)
    have := ih (l.getD j arz).f1 (acc ++ [(j : Int)]) (by omega) (by omega) j4 (by omega) (by simp; omega)
    rw [List.append_assoc] at this
    have hw := way_step hN h h0 h1 e hf
    rw [j2, Int.toNat_natCast] at hw
    rw [hw]
    exact sWk_scan hN h hs hst h0 h1 hf (by omega) j1 hfa j7 this j 0 (by omega) (by omega)
theorem sWalk_ev {n : Int} {l : List Ar} (hN : NetP n l) {u t : Int} (hu0 : 0 ≤ u) (hun : u < n) (ht0 : 0 ≤ t) (htn : t < n) {M : List Me} (b : Best n l t M) : Ev (fun k => spec_l3Walk.f k n l u t) (if (atM M u).f0 = 99999 then ([], false) else (way M l u, true)) := by
  obtain ⟨s, es, hs, hst⟩ := sSt_ev hN ht0 htn b
  have hf := hN.few
  have hcl : (costsL M).length = n.toNat := by unfold costsL; rw [List.length_map]; exact b.len
  have bd := b.bounds hN u hu0 hun
  have e1 : Go.Proofs.YtgnnimhhkbbfiaaW.PrintWords.rd (costsL M) u = (atM M u).f0 := rd_costs b.toInv u hu0 hun
  unfold spec_l3Walk.f
  refine Ev.bnd (sback_ev n l (by omega)) (Ev.bnd (sAll_ev hN ht0 htn b) (Ev.bnd es (Ev.bnd0 rfl (Ev.pos hu0 (Ev.pos (by omega) ?_)))))
  rw [e1]
  by_cases hfar : (atM M u).f0 = 99999
  · rw [if_pos hfar]; exact Ev.pos (by omega) (Ev.now _)
  · rw [if_neg hfar]
    refine Ev.neg (by omega) ?_
    have := sWk_loop hN ht0 htn b hs hst ((atM M u).f1).toNat u [] hu0 hun hfar (by omega) (by simp; omega)
    rw [List.nil_append] at this
    exact this
end Go.Proofs.Ytgnnimhhkbbfiaa.M
