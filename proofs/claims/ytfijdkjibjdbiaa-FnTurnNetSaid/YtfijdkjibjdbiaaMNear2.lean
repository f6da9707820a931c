/- What is nearest, by rounds: the reference's distances are the costs of the best measures. No program here. -/
import Derived.Test.YtfijdkjibjdbiaaMNear
set_option linter.unusedVariables false
set_option linter.unusedSimpArgs false
namespace Go.Proofs.Ytfijdkjibjdbiaa.M
open Go.RowKit Go.Proofs.Ytfijdkjibjdbiaa.Print Go.Proofs.YtfijdkjibjdbiaaW.PrintWords Go.Proofs.YtfijdkjibjdbiaaW.PrintLast Go.Proofs.YtfijdkjibjdbiaaY
abbrev rdD (d : List Int) (i : Int) : Int := Go.Proofs.YtfijdkjibjdbiaaW.PrintWords.rd d i
theorem rdD_set {d : List Int} {i j x : Int} (hi0 : 0 ≤ i) (hi : i < d.length) (hj0 : 0 ≤ j) : rdD (d.set i.toNat x) j = if i = j then x else rdD d j := by
  unfold rdD Go.Proofs.YtfijdkjibjdbiaaW.PrintWords.rd
  rw [List.getD_eq_getElem?_getD, List.getElem?_set]
  by_cases h : i = j
  · subst h; rw [if_pos rfl, if_pos rfl, if_pos (by omega)]; rfl
  · rw [if_neg (by omega), if_neg h, List.getD_eq_getElem?_getD]
def rlD (d : List Int) (a : Ar) : List Int := if rdD d a.f1 < 99999 ∧ rdD d a.f1 + a.f2 < rdD d a.f0 then d.set a.f0.toNat (rdD d a.f1 + a.f2) else d
structure SInv (n : Int) (l : List Ar) (t : Int) (d : List Int) : Prop where
  len : d.length = n.toNat
  top : ∀ v, 0 ≤ v → v < n → rdD d v ≤ 99999
  tgt : rdD d t ≤ 0
  snd : ∀ v, 0 ≤ v → v < n → rdD d v ≠ 99999 → ∃ p, Pth l t v p ∧ cst p = rdD d v
theorem SInv.lo {n : Int} {l : List Ar} (hN : NetP n l) {t : Int} {d : List Int} (h : SInv n l t d) (v : Int) (h0 : 0 ≤ v) (h1 : v < n) : 0 ≤ rdD d v := by
  by_cases e : rdD d v = 99999
  · omega
  · obtain ⟨p, hp, hc⟩ := h.snd v h0 h1 e
    have := cst_nonneg hN hp
    omega
theorem rlD_le {n : Int} {l : List Ar} (hN : NetP n l) {a : Ar} (ha : a ∈ l) {d : List Int} (hl : d.length = n.toNat) (v : Int) (h0 : 0 ≤ v) : rdD (rlD d a) v ≤ rdD d v := by
  obtain ⟨a0, a1, a2, a3, _⟩ := hN.arc a ha
  unfold rlD
  split
  · rename_i h
    rw [rdD_set a0 (by omega) h0]
    split
    · rename_i e; subst e; omega
    · exact Int.le_refl _
  · exact Int.le_refl _
theorem rlD_len (d : List Int) (a : Ar) : (rlD d a).length = d.length := by unfold rlD; split <;> simp
theorem sinv_rlD {n : Int} {l : List Ar} (hN : NetP n l) {t : Int} (ht0 : 0 ≤ t) (htn : t < n) {d : List Int} (h : SInv n l t d) {a : Ar} (ha : a ∈ l) : SInv n l t (rlD d a) := by
  obtain ⟨a0, a1, a2, a3, a4, a5, a6, _⟩ := hN.arc a ha
  have hlen := h.len
  have hle := fun v h0 => rlD_le hN ha hlen v h0
  refine ⟨by rw [rlD_len]; exact hlen, fun v h0 h1 => Int.le_trans (hle v h0) (h.top v h0 h1), Int.le_trans (hle t ht0) h.tgt, ?_⟩
  intro v h0 h1 hf
  unfold rlD at hf ⊢
  by_cases hc : rdD d a.f1 < 99999 ∧ rdD d a.f1 + a.f2 < rdD d a.f0
  · rw [if_pos hc] at hf ⊢
    rw [rdD_set a0 (by omega) h0] at hf ⊢
    by_cases e : a.f0 = v
    · subst e
      rw [if_pos rfl] at hf ⊢
      obtain ⟨p, hp, hcp⟩ := h.snd a.f1 a2 a3 (by omega)
      exact ⟨a :: p, ⟨ha, rfl, hp⟩, by simp only [cst]; omega⟩
    · rw [if_neg e] at hf ⊢
      exact h.snd v h0 h1 hf
  · rw [if_neg hc] at hf ⊢
    exact h.snd v h0 h1 hf
theorem sinv_fold {n : Int} {l : List Ar} (hN : NetP n l) {t : Int} (ht0 : 0 ≤ t) (htn : t < n) : ∀ (s : List Ar) (d : List Int), (∀ a ∈ s, a ∈ l) → SInv n l t d → SInv n l t (s.foldl rlD d)
  | [], d, _, h => h
  | a :: s, d, hs, h => sinv_fold hN ht0 htn s (rlD d a) (fun b hb => hs b (List.mem_cons_of_mem _ hb)) (sinv_rlD hN ht0 htn h (hs a List.mem_cons_self))
theorem fold_le {n : Int} {l : List Ar} (hN : NetP n l) : ∀ (s : List Ar) (d : List Int), (∀ a ∈ s, a ∈ l) → d.length = n.toNat → ∀ v : Int, 0 ≤ v → rdD (s.foldl rlD d) v ≤ rdD d v
  | [], d, _, _, v, _ => Int.le_refl _
  | a :: s, d, hs, hl, v, h0 => Int.le_trans (fold_le hN s (rlD d a) (fun b hb => hs b (List.mem_cons_of_mem _ hb)) (by rw [rlD_len]; exact hl) v h0) (rlD_le hN (hs a List.mem_cons_self) hl v h0)
theorem fold_len (s : List Ar) : ∀ d : List Int, (s.foldl rlD d).length = d.length := by
  induction s with
  | nil => intro d; rfl
  | cons a s ih => intro d; rw [List.foldl_cons, ih, rlD_len]
def BF (n : Int) (l : List Ar) (t : Int) (d : List Int) (r : Nat) : Prop := ∀ (v : Int) (p : List Ar), 0 ≤ v → v < n → Pth l t v p → p.length ≤ r → cst p < 99999 → rdD d v ≤ cst p
theorem bf_round {n : Int} {l : List Ar} (hN : NetP n l) {t : Int} (ht0 : 0 ≤ t) (htn : t < n) {d : List Int} (hlen : d.length = n.toNat) {r : Nat} (h : BF n l t d r) : BF n l t (l.foldl rlD d) (r + 1) := by
  intro v p h0 h1 hp hr hc
  cases p with
  | nil => exact Int.le_trans (fold_le hN l d (fun _ h => h) hlen v h0) (h v [] h0 h1 hp (Nat.zero_le _) hc)
  | cons a q =>
    obtain ⟨ha, rfl, hq⟩ := hp
    obtain ⟨a0, a1, a2, a3, a4, a5, a6, _⟩ := hN.arc a ha
    simp only [cst] at hc ⊢
    have hd := h a.f1 q a2 a3 hq (by simpa using hr) (by omega)
    obtain ⟨l1, l2, e⟩ := List.append_of_mem ha
    have m1 : ∀ b ∈ l1, b ∈ l := fun b hb => by rw [e]; exact List.mem_append_left _ hb
    have m2 : ∀ b ∈ l2, b ∈ l := fun b hb => by rw [e]; exact List.mem_append_right _ (List.mem_cons_of_mem _ hb)
    have f1 := fold_le hN l1 d m1 hlen a.f1 a2
    have hl1 : (l1.foldl rlD d).length = n.toNat := by rw [fold_len]; exact hlen
    have e2 : l.foldl rlD d = l2.foldl rlD (rlD (l1.foldl rlD d) a) := by
      have : l.foldl rlD d = (l1 ++ a :: l2).foldl rlD d := by rw [← e]
      rw [this, List.foldl_append, List.foldl_cons]
    rw [e2]
    clear e2
    generalize l1.foldl rlD d = d1 at f1 hl1 ⊢
    have f2 := fold_le hN l2 (rlD d1 a) m2 (by rw [rlD_len]; exact hl1) a.f0 a0
    have f3 : rdD (rlD d1 a) a.f0 ≤ rdD d1 a.f1 + a.f2 := by
      unfold rlD
      split
      · rw [rdD_set a0 (by omega) a0, if_pos rfl]; exact Int.le_refl _
      · rename_i hn; omega
    omega
def rounds (l : List Ar) : Nat → List Int → List Int
  | 0, d => d
  | r + 1, d => rounds l r (l.foldl rlD d)
theorem rounds_bf {n : Int} {l : List Ar} (hN : NetP n l) {t : Int} (ht0 : 0 ≤ t) (htn : t < n) : ∀ (q r : Nat) (d : List Int), SInv n l t d → BF n l t d r → SInv n l t (rounds l q d) ∧ BF n l t (rounds l q d) (r + q)
  | 0, r, d, h, b => ⟨h, b⟩
  | q + 1, r, d, h, b => by
    have := rounds_bf hN ht0 htn q (r + 1) (l.foldl rlD d) (sinv_fold hN ht0 htn l d (fun _ h => h) h) (bf_round hN ht0 htn h.len b)
    rw [show r + (q + 1) = r + 1 + q by omega]
    exact this
def dinit (n t : Int) : List Int := (List.replicate n.toNat (99999 : Int)).set t.toNat 0
theorem dinit_rd {n t : Int} (ht0 : 0 ≤ t) (htn : t < n) (v : Int) (h0 : 0 ≤ v) (h1 : v < n) : rdD (dinit n t) v = if t = v then 0 else 99999 := by
  unfold dinit
  rw [rdD_set ht0 (by rw [List.length_replicate]; omega) h0]
  congr 1
  unfold rdD Go.Proofs.YtfijdkjibjdbiaaW.PrintWords.rd
  rw [List.getD_eq_getElem?_getD, List.getElem?_replicate, if_pos (by omega)]; rfl
theorem dinit_inv {n : Int} {l : List Ar} (hN : NetP n l) {t : Int} (ht0 : 0 ≤ t) (htn : t < n) : SInv n l t (dinit n t) ∧ BF n l t (dinit n t) 0 := by
  have hr := fun v h0 h1 => dinit_rd ht0 htn v h0 h1
  refine ⟨⟨by unfold dinit; rw [List.length_set, List.length_replicate], ?_, by rw [hr t ht0 htn, if_pos rfl]; exact Int.le_refl _, ?_⟩, ?_⟩
  · intro v h0 h1; rw [hr v h0 h1]; split <;> omega
  · intro v h0 h1 hf
    rw [hr v h0 h1] at hf ⊢
    by_cases e : t = v
    · rw [if_pos e]; exact ⟨[], e.symm, rfl⟩
    · rw [if_neg e] at hf; exact absurd rfl hf
  · intro v p h0 h1 hp hl hc
    cases p with
    | nil => rw [hr v h0 h1, if_pos (show t = v from Eq.symm hp)]; exact Int.le_refl _
    | cons a q => simp at hl
theorem pth_short2 {n : Int} {l : List Ar} (hN : NetP n l) {t v : Int} {p : List Ar} (h : Pth l t v p) (hd : (p.map (·.f0)).Nodup) : p.length ≤ n.toNat := by
  have h1 : ∀ a ∈ p, 0 ≤ a.f0 ∧ a.f0 < n := fun a ha => by have := hN.arc a (pth_mem h a ha); omega
  have h2 : ((p.map (·.f0)).map Int.toNat).Nodup := by
    refine List.Pairwise.map _ ?_ (List.Pairwise.and_mem.1 hd)
    intro a b ⟨ha, hb, hne⟩
    obtain ⟨x, hx, rfl⟩ := List.mem_map.1 ha
    obtain ⟨y, hy, rfl⟩ := List.mem_map.1 hb
    have := h1 x hx
    have := h1 y hy
    omega
  have h3 := nodup_len n.toNat _ h2 (fun x hx => by
    obtain ⟨y, hy, rfl⟩ := List.mem_map.1 hx
    obtain ⟨a, ha, rfl⟩ := List.mem_map.1 hy
    have := h1 a ha
    omega)
  rw [List.length_map, List.length_map] at h3
  exact h3
def costsL (M : List Me) : List Int := M.map (·.f0)
theorem rd_costs {n : Int} {l : List Ar} {t : Int} {M : List Me} (h : Inv n l t M) (v : Int) (h0 : 0 ≤ v) (h1 : v < n) : rdD (costsL M) v = (atM M v).f0 := by
  have hl := h.len
  have hi : v.toNat < M.length := by omega
  unfold rdD Go.Proofs.YtfijdkjibjdbiaaW.PrintWords.rd costsL atM
  rw [List.getD_eq_getElem?_getD, List.getElem?_map, List.getD_eq_getElem?_getD, List.getElem?_eq_getElem hi]; rfl
theorem rd_eq {n : Int} {l : List Ar} (hN : NetP n l) {t : Int} (ht0 : 0 ≤ t) (htn : t < n) {M : List Me} (h : Best n l t M) {d : List Int} (s : SInv n l t d) (b : BF n l t d n.toNat) (v : Int) (h0 : 0 ≤ v) (h1 : v < n) : rdD d v = (atM M v).f0 := by
  have dt := s.top v h0 h1
  have mt := h.top v h0 h1
  by_cases e : (atM M v).f0 = 99999
  · by_cases e2 : rdD d v = 99999
    · omega
    · obtain ⟨p, hp, hc⟩ := s.snd v h0 h1 e2
      exact absurd e (best_le hN h h0 h1 hp (by omega)).2
  · obtain ⟨p, w⟩ := h.wit v h0 h1 e
    have hc := w.c
    have h5 := b v p h0 h1 w.pth (pth_short2 hN w.pth w.nod) (by omega)
    obtain ⟨q, hq, hc2⟩ := s.snd v h0 h1 (by omega)
    have := (best_le hN h h0 h1 hq (by omega)).1
    omega
theorem dist_eq {n : Int} {l : List Ar} (hN : NetP n l) {t : Int} (ht0 : 0 ≤ t) (htn : t < n) {M : List Me} (h : Best n l t M) : rounds l n.toNat (dinit n t) = costsL M := by
  obtain ⟨i1, i2⟩ := dinit_inv hN ht0 htn
  obtain ⟨s, b⟩ := rounds_bf hN ht0 htn n.toNat 0 _ i1 i2
  rw [Nat.zero_add] at b
  apply List.ext_getElem
  · rw [s.len]; unfold costsL; rw [List.length_map, h.len]
  · intro i hi1 hi2
    have hi : (i : Int) < n := by have := s.len; omega
    have e := rd_eq hN ht0 htn h s b (i : Int) (by omega) hi
    rw [← rd_costs h.toInv (i : Int) (by omega) hi] at e
    unfold rdD Go.Proofs.YtfijdkjibjdbiaaW.PrintWords.rd at e
    rw [Int.toNat_natCast, getDI _ i hi1, getDI _ i hi2] at e
    exact e
end Go.Proofs.Ytfijdkjibjdbiaa.M
