/- The best way itself: how many arcs it has, arc by arc. No program here. -/
import Derived.Test.YtgnnimhhkbbfiaaMNear4
import Derived.Test.YtgnnimhhkbbfiaaMInts
set_option linter.unusedVariables false
set_option linter.unusedSimpArgs false
namespace Go.Proofs.Ytgnnimhhkbbfiaa.M
open Go.RowKit Go.Proofs.Ytgnnimhhkbbfiaa.Print Go.Proofs.YtgnnimhhkbbfiaaW.PrintWords Go.Proofs.YtgnnimhhkbbfiaaW.PrintLast Go.Proofs.YtgnnimhhkbbfiaaY
theorem best_le2 {n : Int} {l : List Ar} (hN : NetP n l) {t : Int} {M : List Me} (h : Best n l t M) : ∀ {p : List Ar} {v : Int}, 0 ≤ v → v < n → Pth l t v p → cst p < 99999 → le2 (atM M v) ⟨cst p, p.length⟩
  | [], v, _, _, hp, _ => by
    have e : v = t := hp
    subst e
    rw [h.tgt]; exact le2_refl _
  | a :: q, v, h0, h1, hp, hc => by
    obtain ⟨ha, rfl, hq⟩ := hp
    obtain ⟨a0, a1, a2, a3, a4, a5, a6, _⟩ := hN.arc a ha
    have hq0 := cst_nonneg hN hq
    simp only [cst] at hc
    have g1 := best_le2 hN h a2 a3 hq (by omega)
    have g2 := (best_le hN h a2 a3 hq (by omega)).2
    have hf := h.fix a ha
    unfold chgB at hf
    rw [decide_eq_false g2, Bool.not_false, Bool.true_and] at hf
    have hn : ¬ lt2 (nxM M a) (atM M a.f0) := fun hl => by rw [ltB_iff.2 hl] at hf; cases hf
    unfold lt2 nxM at hn
    unfold le2 at g1 ⊢
    simp only [cst, List.length_cons, Int.natCast_add, Int.cast_ofNat_Int] at hn g1 ⊢
    omega
/-- Along each arc it costs what the arc costs. -/
def Tight (M : List Me) : List Ar → Prop
  | [] => True
  | a :: q => (atM M a.f0).f0 = (atM M a.f1).f0 + a.f2 ∧ (atM M a.f1).f0 ≠ 99999 ∧ Tight M q
theorem tight_cost {l : List Ar} {t : Int} {M : List Me} (ht : atM M t = ⟨0, 0⟩) : ∀ {p : List Ar} {v : Int}, Pth l t v p → Tight M p → cst p = (atM M v).f0
  | [], v, hp, _ => by
    have e : v = t := hp
    subst e
    rw [ht]; rfl
  | a :: q, v, hp, h => by
    obtain ⟨_, rfl, hq⟩ := hp
    have := tight_cost ht hq h.2.2
    have := h.1
    simp only [cst]; omega
/-- A way with as many arcs as are told, tight. -/
theorem tight_way {n : Int} {l : List Ar} (hN : NetP n l) {t : Int} (ht0 : 0 ≤ t) (htn : t < n) {M : List Me} (h : Best n l t M) (m : Nat) : ∀ v : Int, 0 ≤ v → v < n → (atM M v).f0 ≠ 99999 → (atM M v).f1 = m → ∃ p, Pth l t v p ∧ Tight M p ∧ p.length = m := by
  induction m with
  | zero =>
    intro v h0 h1 hf hm
    by_cases e : v = t
    · subst e; exact ⟨[], rfl, trivial, rfl⟩
    · obtain ⟨a, ha, rfl, q1, q2, q3⟩ := best_first hN h h0 h1 e hf
      have g := hN.arc a ha
      have := h.bounds hN a.f1 (by omega) (by omega)
      omega
  | succ m ih =>
    intro v h0 h1 hf hm
    have e : v ≠ t := fun e => by rw [e, h.tgt] at hm; simp at hm; omega
    obtain ⟨a, ha, rfl, q1, q2, q3⟩ := best_first hN h h0 h1 e hf
    have g := hN.arc a ha
    obtain ⟨p, hp, htp, hl⟩ := ih a.f1 (by omega) (by omega) q1 (by omega)
    exact ⟨a :: p, ⟨ha, rfl, hp⟩, ⟨q2, q1, htp⟩, by simp [hl]⟩
/-! ### The reference's counts of arcs -/
def rlS (M : List Me) (s : List Int) (a : Ar) : List Int := if (atM M a.f1).f0 < 99999 ∧ (atM M a.f0).f0 = a.f2 + (atM M a.f1).f0 ∧ rdD s a.f1 + 1 < rdD s a.f0 then s.set a.f0.toNat (rdD s a.f1 + 1) else s
structure CInv (n : Int) (l : List Ar) (t : Int) (M : List Me) (s : List Int) : Prop where
  len : s.length = n.toNat
  top : ∀ v, 0 ≤ v → v < n → rdD s v ≤ 99999
  tgt : rdD s t ≤ 0
  snd : ∀ v, 0 ≤ v → v < n → rdD s v ≠ 99999 → ∃ p, Pth l t v p ∧ Tight M p ∧ (p.length : Int) = rdD s v
theorem CInv.lo {n : Int} {l : List Ar} {t : Int} {M : List Me} {s : List Int} (h : CInv n l t M s) (v : Int) (h0 : 0 ≤ v) (h1 : v < n) : 0 ≤ rdD s v := by
  by_cases e : rdD s v = 99999
  · omega
  · obtain ⟨p, _, _, hc⟩ := h.snd v h0 h1 e
    omega
theorem rlS_len (M : List Me) (s : List Int) (a : Ar) : (rlS M s a).length = s.length := by unfold rlS; split <;> simp
theorem rlS_le {n : Int} {l : List Ar} (hN : NetP n l) {M : List Me} {a : Ar} (ha : a ∈ l) {s : List Int} (hl : s.length = n.toNat) (v : Int) (h0 : 0 ≤ v) : rdD (rlS M s a) v ≤ rdD s v := by
  obtain ⟨a0, a1, a2, a3, _⟩ := hN.arc a ha
  unfold rlS
  split
  · rename_i h
    rw [rdD_set a0 (by omega) h0]
    split
    · rename_i e; subst e; omega
    · exact Int.le_refl _
  · exact Int.le_refl _
theorem cinv_rlS {n : Int} {l : List Ar} (hN : NetP n l) {t : Int} (ht0 : 0 ≤ t) (htn : t < n) {M : List Me} {s : List Int} (h : CInv n l t M s) {a : Ar} (ha : a ∈ l) : CInv n l t M (rlS M s a) := by
  obtain ⟨a0, a1, a2, a3, a4, a5, a6, _⟩ := hN.arc a ha
  have hlen := h.len
  have hle := fun v h0 => rlS_le hN (M := M) ha hlen v h0
  refine ⟨by rw [rlS_len]; exact hlen, fun v h0 h1 => Int.le_trans (hle v h0) (h.top v h0 h1), Int.le_trans (hle t ht0) h.tgt, ?_⟩
  intro v h0 h1 hf
  unfold rlS at hf ⊢
  by_cases hc : (atM M a.f1).f0 < 99999 ∧ (atM M a.f0).f0 = a.f2 + (atM M a.f1).f0 ∧ rdD s a.f1 + 1 < rdD s a.f0
  · rw [if_pos hc] at hf ⊢
    rw [rdD_set a0 (by omega) h0] at hf ⊢
    by_cases e : a.f0 = v
    · subst e
      rw [if_pos rfl] at hf ⊢
      have h5 := h.top a.f0 h0 h1
      obtain ⟨p, hp, htp, hcp⟩ := h.snd a.f1 a2 a3 (by omega)
      exact ⟨a :: p, ⟨ha, rfl, hp⟩, ⟨by omega, by omega, htp⟩, by rw [List.length_cons]; omega⟩
    · rw [if_neg e] at hf ⊢
      exact h.snd v h0 h1 hf
  · rw [if_neg hc] at hf ⊢
    exact h.snd v h0 h1 hf
theorem cinv_fold {n : Int} {l : List Ar} (hN : NetP n l) {t : Int} (ht0 : 0 ≤ t) (htn : t < n) {M : List Me} : ∀ (b : List Ar) (s : List Int), (∀ a ∈ b, a ∈ l) → CInv n l t M s → CInv n l t M (b.foldl (rlS M) s)
  | [], s, _, h => h
  | a :: b, s, hs, h => cinv_fold hN ht0 htn b (rlS M s a) (fun c hc => hs c (List.mem_cons_of_mem _ hc)) (cinv_rlS hN ht0 htn h (hs a List.mem_cons_self))
theorem foldS_le {n : Int} {l : List Ar} (hN : NetP n l) {M : List Me} : ∀ (b : List Ar) (s : List Int), (∀ a ∈ b, a ∈ l) → s.length = n.toNat → ∀ v : Int, 0 ≤ v → rdD (b.foldl (rlS M) s) v ≤ rdD s v
  | [], s, _, _, v, _ => Int.le_refl _
  | a :: b, s, hs, hl, v, h0 => Int.le_trans (foldS_le hN b (rlS M s a) (fun c hc => hs c (List.mem_cons_of_mem _ hc)) (by rw [rlS_len]; exact hl) v h0) (rlS_le hN (hs a List.mem_cons_self) hl v h0)
theorem foldS_len (M : List Me) (b : List Ar) : ∀ s : List Int, (b.foldl (rlS M) s).length = s.length := by
  induction b with
  | nil => intro s; rfl
  | cons a b ih => intro s; rw [List.foldl_cons, ih, rlS_len]
def CF (n : Int) (l : List Ar) (t : Int) (M : List Me) (s : List Int) (r : Nat) : Prop := ∀ (v : Int) (p : List Ar), 0 ≤ v → v < n → Pth l t v p → Tight M p → p.length ≤ r → p.length ≤ 8 → rdD s v ≤ p.length
theorem cf_round {n : Int} {l : List Ar} (hN : NetP n l) {t : Int} (ht0 : 0 ≤ t) (htn : t < n) {M : List Me} (hB : Inv n l t M) {s : List Int} (hlen : s.length = n.toNat) {r : Nat} (h : CF n l t M s r) : CF n l t M (l.foldl (rlS M) s) (r + 1) := by
  intro v p h0 h1 hp htp hr h8
  cases p with
  | nil => exact Int.le_trans (foldS_le hN l s (fun _ h => h) hlen v h0) (h v [] h0 h1 hp htp (Nat.zero_le _) (by simp))
  | cons a q =>
    obtain ⟨ha, rfl, hq⟩ := hp
    obtain ⟨t1, t2, t3⟩ := htp
    obtain ⟨a0, a1, a2, a3, a4, a5, a6, _⟩ := hN.arc a ha
    simp only [List.length_cons] at hr h8 ⊢
    have hd := h a.f1 q a2 a3 hq t3 (by omega) (by omega)
    have htop := hB.top a.f1 a2 a3
    obtain ⟨l1, l2, e⟩ := List.append_of_mem ha
    have m1 : ∀ b ∈ l1, b ∈ l := fun b hb => by rw [e]; exact List.mem_append_left _ hb
    have m2 : ∀ b ∈ l2, b ∈ l := fun b hb => by rw [e]; exact List.mem_append_right _ (List.mem_cons_of_mem _ hb)
    have f1 := foldS_le hN (M := M) l1 s m1 hlen a.f1 a2
    have hl1 : (l1.foldl (rlS M) s).length = n.toNat := by rw [foldS_len]; exact hlen
    have e2 : l.foldl (rlS M) s = l2.foldl (rlS M) (rlS M (l1.foldl (rlS M) s) a) := by
      have : l.foldl (rlS M) s = (l1 ++ a :: l2).foldl (rlS M) s := by rw [← e]
      rw [this, List.foldl_append, List.foldl_cons]
    rw [e2]
    clear e2
    generalize l1.foldl (rlS M) s = d1 at f1 hl1 ⊢
    have f2 := foldS_le hN (M := M) l2 (rlS M d1 a) m2 (by rw [rlS_len]; exact hl1) a.f0 a0
    have f3 : rdD (rlS M d1 a) a.f0 ≤ rdD d1 a.f1 + 1 := by
      unfold rlS
      split
      · rw [rdD_set a0 (by omega) a0, if_pos rfl]; exact Int.le_refl _
      · rename_i hn
        have : ¬ rdD d1 a.f1 + 1 < rdD d1 a.f0 := fun hh => hn ⟨by omega, by omega, hh⟩
        omega
    omega
def roundsS (l : List Ar) (M : List Me) : Nat → List Int → List Int
  | 0, d => d
  | r + 1, d => roundsS l M r (l.foldl (rlS M) d)
theorem roundsS_cf {n : Int} {l : List Ar} (hN : NetP n l) {t : Int} (ht0 : 0 ≤ t) (htn : t < n) {M : List Me} (hB : Inv n l t M) : ∀ (q r : Nat) (d : List Int), CInv n l t M d → CF n l t M d r → CInv n l t M (roundsS l M q d) ∧ CF n l t M (roundsS l M q d) (r + q)
  | 0, r, d, h, b => ⟨h, b⟩
  | q + 1, r, d, h, b => by
    have := roundsS_cf hN ht0 htn hB q (r + 1) (l.foldl (rlS M) d) (cinv_fold hN ht0 htn l d (fun _ h => h) h) (cf_round hN ht0 htn hB h.len b)
    rw [show r + (q + 1) = r + 1 + q by omega]
    exact this
theorem cinit_inv {n : Int} {l : List Ar} (hN : NetP n l) {t : Int} (ht0 : 0 ≤ t) (htn : t < n) {M : List Me} : CInv n l t M (dinit n t) ∧ CF n l t M (dinit n t) 0 := by
  have hr := fun v h0 h1 => dinit_rd ht0 htn v h0 h1
  refine ⟨⟨by unfold dinit; rw [List.length_set, List.length_replicate], ?_, by rw [hr t ht0 htn, if_pos rfl]; exact Int.le_refl _, ?_⟩, ?_⟩
  · intro v h0 h1; rw [hr v h0 h1]; split <;> omega
  · intro v h0 h1 hf
    rw [hr v h0 h1] at hf ⊢
    by_cases e : t = v
    · rw [if_pos e]; exact ⟨[], e.symm, trivial, rfl⟩
    · rw [if_neg e] at hf; exact absurd rfl hf
  · intro v p h0 h1 hp _ hl _
    cases p with
    | nil => rw [hr v h0 h1, if_pos (show t = v from Eq.symm hp)]; exact Int.le_refl _
    | cons a q => simp at hl
/-- The counts, of the measures. -/
def stp (M : List Me) (v : Int) : Int := if (atM M v).f0 = 99999 then 99999 else (atM M v).f1
theorem short_arcs {n : Int} {l : List Ar} (hN : NetP n l) {t : Int} {M : List Me} (h : Inv n l t M) (v : Int) (h0 : 0 ≤ v) (h1 : v < n) (hf : (atM M v).f0 ≠ 99999) : (atM M v).f1 ≤ n := by
  obtain ⟨p, w⟩ := h.wit v h0 h1 hf
  have := pth_short2 hN w.pth w.nod
  have := w.m
  have := hN.lo
  omega
theorem cnt_eq {n : Int} {l : List Ar} (hN : NetP n l) {t : Int} (ht0 : 0 ≤ t) (htn : t < n) {M : List Me} (h : Best n l t M) {s : List Int} (c : CInv n l t M s) (b : CF n l t M s n.toNat) (v : Int) (h0 : 0 ≤ v) (h1 : v < n) : rdD s v = stp M v := by
  unfold stp
  have dt := c.top v h0 h1
  by_cases e : (atM M v).f0 = 99999
  · rw [if_pos e]
    by_cases e2 : rdD s v = 99999
    · exact e2
    · obtain ⟨p, hp, htp, hc⟩ := c.snd v h0 h1 e2
      cases p with
      | nil =>
        have e3 : v = t := hp
        rw [e3, h.tgt] at e
        simp at e
      | cons a q =>
        obtain ⟨ha, rfl, hq⟩ := hp
        have g := hN.arc a ha
        have t5 := h.top a.f1 (by omega) (by omega)
        have := htp.1
        have := htp.2.1
        have hcq := tight_cost h.tgt hq htp.2.2
        have hcl := cst_le hN hq
        by_cases big : q.length ≤ 1000
        · omega
        · simp only [List.length_cons] at hc
          exfalso
          obtain ⟨p2, hp2, ht2, hl2⟩ := tight_way hN ht0 htn h ((atM M a.f1).f1).toNat a.f1 (by omega) (by omega) htp.2.1 (by have := h.bounds hN a.f1 (by omega) (by omega); omega)
          have := tight_cost h.tgt hp2 ht2
          have := cst_le hN hp2
          have := h.bounds hN a.f1 (by omega) (by omega)
          omega
  · rw [if_neg e]
    have bd := h.bounds hN v h0 h1
    have hsa := short_arcs hN h.toInv v h0 h1 e
    have h8 := hN.hi
    obtain ⟨p, hp, htp, hl⟩ := tight_way hN ht0 htn h ((atM M v).f1).toNat v h0 h1 e (by omega)
    have h5 := b v p h0 h1 hp htp (by omega) (by omega)
    obtain ⟨q, hq, htq, hlq⟩ := c.snd v h0 h1 (by omega)
    have hcq := tight_cost h.tgt hq htq
    have h6 := best_le2 hN h h0 h1 hq (by omega)
    unfold le2 at h6
    simp only at h6
    omega
end Go.Proofs.Ytgnnimhhkbbfiaa.M
