/- What is nearest: rows of measures, walks of arcs, and what no arc makes less. No program here. -/
import Derived.Test.YtfijdkjibjdbiaaY
import Derived.Test.YtfijdkjibjdbiaaMNet
import Derived.Test.YtfijdkjibjdbiaaMTurn
set_option linter.unusedVariables false
set_option linter.unusedSimpArgs false
namespace Go.Proofs.Ytfijdkjibjdbiaa.M
open Go.RowKit Go.Proofs.Ytfijdkjibjdbiaa.Print Go.Proofs.YtfijdkjibjdbiaaW.PrintWords Go.Proofs.YtfijdkjibjdbiaaW.PrintLast Go.Proofs.YtfijdkjibjdbiaaY
abbrev Me := S81
abbrev mez : Me := z81
def atM (M : List Me) (i : Int) : Me := M.getD i.toNat mez
theorem atM_set {M : List Me} {i j : Int} {x : Me} (hi0 : 0 ≤ i) (hi : i < M.length) (hj0 : 0 ≤ j) : atM (M.set i.toNat x) j = if i = j then x else atM M j := by
  unfold atM
  rw [List.getD_eq_getElem?_getD, List.getElem?_set]
  by_cases h : i = j
  · subst h; rw [if_pos rfl, if_pos rfl, if_pos (by omega)]; rfl
  · rw [if_neg (by omega), if_neg h, List.getD_eq_getElem?_getD]
def lt2 (x y : Me) : Prop := x.f0 < y.f0 ∨ x.f0 = y.f0 ∧ x.f1 < y.f1
def le2 (x y : Me) : Prop := x.f0 < y.f0 ∨ x.f0 = y.f0 ∧ x.f1 ≤ y.f1
theorem le2_refl (x : Me) : le2 x x := .inr ⟨rfl, Int.le_refl _⟩
theorem le2_trans {x y z : Me} (h : le2 x y) (k : le2 y z) : le2 x z := by unfold le2 at *; omega
theorem lt2_le {x y : Me} (h : lt2 x y) : le2 x y := by unfold le2 lt2 at *; omega
theorem le2_lt {x y z : Me} (h : le2 x y) (k : lt2 y z) : lt2 x z := by unfold le2 lt2 at *; omega
theorem lt2_irr {x : Me} (h : lt2 x x) : False := by unfold lt2 at h; omega
theorem lt2_trans {x y z : Me} (h : lt2 x y) (k : lt2 y z) : lt2 x z := by unfold lt2 at *; omega
def nxM (M : List Me) (a : Ar) : Me := ⟨(atM M a.f1).f0 + a.f2, (atM M a.f1).f1 + 1⟩
def ltB (x y : Me) : Bool := decide (x.f0 < y.f0) || (decide (x.f0 = y.f0) && decide (x.f1 < y.f1))
theorem ltB_iff {x y : Me} : ltB x y = true ↔ lt2 x y := by unfold ltB lt2; simp
def chgB (M : List Me) (a : Ar) : Bool := !decide ((atM M a.f1).f0 = 99999) && ltB (nxM M a) (atM M a.f0)
def rlx (M : List Me) (a : Ar) : List Me := if chgB M a = true then M.set a.f0.toNat (nxM M a) else M
def pass : List Me → Bool → List Ar → List Me × Bool
  | M, c, [] => (M, c)
  | M, c, a :: t => pass (rlx M a) (c || chgB M a) t
/-- A walk of arcs from a node to t. -/
def Pth (l : List Ar) (t : Int) : Int → List Ar → Prop
  | v, [] => v = t
  | v, a :: q => a ∈ l ∧ a.f0 = v ∧ Pth l t a.f1 q
def cst : List Ar → Int
  | [] => 0
  | a :: q => a.f2 + cst q
def low (M : List Me) : List Ar → Prop
  | [] => True
  | a :: q => le2 (atM M a.f0) ⟨a.f2 + cst q, (q.length : Int) + 1⟩ ∧ low M q
theorem cst_nonneg {n : Int} {l : List Ar} (hN : NetP n l) {t : Int} : ∀ {p : List Ar} {v : Int}, Pth l t v p → 0 ≤ cst p
  | [], _, _ => by simp [cst]
  | a :: q, v, h => by
    have := cst_nonneg hN h.2.2
    have := hN.arc a h.1
    simp only [cst]; omega
theorem cst_le {n : Int} {l : List Ar} (hN : NetP n l) {t : Int} : ∀ {p : List Ar} {v : Int}, Pth l t v p → cst p ≤ 99 * p.length
  | [], _, _ => by simp [cst]
  | a :: q, v, h => by
    have := cst_le hN h.2.2
    have := hN.arc a h.1
    simp only [cst, List.length_cons]; omega
theorem low_mem {n : Int} {l : List Ar} (hN : NetP n l) {M : List Me} {t : Int} : ∀ {p : List Ar} {v : Int}, Pth l t v p → low M p → ∀ b ∈ p, le2 (atM M b.f0) ⟨cst p, p.length⟩
  | [], _, _, _, b, hb => by cases hb
  | a :: q, v, h, hl, b, hb => by
    rcases List.mem_cons.1 hb with rfl | hb
    · exact hl.1
    · have h1 := low_mem hN h.2.2 hl.2 b hb
      have := hN.arc a h.1
      refine le2_trans h1 ?_
      unfold le2
      simp only [cst, List.length_cons]
      omega
theorem low_mono {M M' : List Me} (h : ∀ v : Int, 0 ≤ v → le2 (atM M' v) (atM M v)) : ∀ {p : List Ar}, (∀ a ∈ p, 0 ≤ a.f0) → low M p → low M' p
  | [], _, _ => trivial
  | a :: q, h0, hl => ⟨le2_trans (h _ (h0 a List.mem_cons_self)) hl.1, low_mono h (fun b hb => h0 b (List.mem_cons_of_mem _ hb)) hl.2⟩
theorem pth_mem {l : List Ar} {t : Int} : ∀ {p : List Ar} {v : Int}, Pth l t v p → ∀ a ∈ p, a ∈ l
  | [], _, _, a, ha => by cases ha
  | b :: q, v, h, a, ha => by
    rcases List.mem_cons.1 ha with rfl | ha
    · exact h.1
    · exact pth_mem h.2.2 a ha
/-- Numbers below n, none twice: at most n. -/
theorem nodup_len : ∀ (n : Nat) (s : List Nat), s.Nodup → (∀ x ∈ s, x < n) → s.length ≤ n
  | 0, s, _, h => by
    cases s with
    | nil => simp
    | cons x s => exact absurd (h x List.mem_cons_self) (by omega)
  | n + 1, s, hd, h => by
    by_cases hm : n ∈ s
    · have h1 := nodup_len n (s.erase n) (hd.erase n) (fun x hx => by
        have h2 := h x (List.mem_of_mem_erase hx)
        have h3 : x ≠ n := fun e => by subst e; exact (List.Nodup.not_mem_erase hd) hx
        omega)
      rw [List.length_erase_of_mem hm] at h1
      omega
    · have h1 := nodup_len n s hd (fun x hx => by
        have h2 := h x hx
        have h3 : x ≠ n := fun e => by subst e; exact hm hx
        omega)
      omega
theorem pth_short {n : Int} {l : List Ar} (hN : NetP n l) {t v : Int} {p : List Ar} (h : Pth l t v p) (hd : (p.map (·.f0)).Nodup) : p.length ≤ 8 := by
  have h1 : ∀ a ∈ p, 0 ≤ a.f0 ∧ a.f0 < n := fun a ha => by have := hN.arc a (pth_mem h a ha); omega
  have h2 : ((p.map (·.f0)).map Int.toNat).Nodup := by
    refine List.Pairwise.map _ ?_ (List.Pairwise.and_mem.1 hd)
    intro a b ⟨ha, hb, hne⟩
    obtain ⟨x, hx, rfl⟩ := List.mem_map.1 ha
    obtain ⟨y, hy, rfl⟩ := List.mem_map.1 hb
    have := h1 x hx
    have := h1 y hy
    omega
  have h3 := nodup_len n.toNat _ h2 (fun x hx => by
    obtain ⟨y, hy, rfl⟩ := List.mem_map.1 hx
    obtain ⟨a, ha, rfl⟩ := List.mem_map.1 hy
    have := h1 a ha
    omega)
  rw [List.length_map, List.length_map] at h3
  have := hN.hi
  omega
structure Wit (l : List Ar) (t : Int) (M : List Me) (v : Int) (p : List Ar) : Prop where
  pth : Pth l t v p
  nod : (p.map (·.f0)).Nodup
  off : ∀ a ∈ p, a.f0 ≠ t
  c : (atM M v).f0 = cst p
  m : (atM M v).f1 = p.length
  low : low M p
structure Inv (n : Int) (l : List Ar) (t : Int) (M : List Me) : Prop where
  len : M.length = n.toNat
  tgt : atM M t = ⟨0, 0⟩
  far : ∀ v, 0 ≤ v → v < n → (atM M v).f0 = 99999 → (atM M v).f1 = 0
  top : ∀ v, 0 ≤ v → v < n → (atM M v).f0 ≤ 99999
  wit : ∀ v, 0 ≤ v → v < n → (atM M v).f0 ≠ 99999 → ∃ p, Wit l t M v p
theorem Inv.bounds {n : Int} {l : List Ar} (hN : NetP n l) {t : Int} {M : List Me} (h : Inv n l t M) (v : Int) (h0 : 0 ≤ v) (h1 : v < n) : 0 ≤ (atM M v).f0 ∧ (atM M v).f0 ≤ 99999 ∧ 0 ≤ (atM M v).f1 ∧ (atM M v).f1 ≤ 8 := by
  have ht := h.top v h0 h1
  by_cases hf : (atM M v).f0 = 99999
  · have := h.far v h0 h1 hf; omega
  · obtain ⟨p, w⟩ := h.wit v h0 h1 hf
    have := cst_nonneg hN w.pth
    have := pth_short hN w.pth w.nod
    have := w.c
    have := w.m
    omega
theorem inv_rlx {n : Int} {l : List Ar} (hN : NetP n l) {t : Int} (ht0 : 0 ≤ t) (htn : t < n) {M : List Me} (h : Inv n l t M) {a : Ar} (ha : a ∈ l) : Inv n l t (rlx M a) := by
  unfold rlx
  by_cases hc : chgB M a = true
  · rw [if_pos hc]
    obtain ⟨a0, a1, a2, a3, a4, a5, a6, _⟩ := hN.arc a ha
    have hlen := h.len
    have h1 := hN.lo
    unfold chgB at hc
    simp only [Bool.and_eq_true, Bool.not_eq_true', decide_eq_false_iff_not] at hc
    obtain ⟨hfin, hlt⟩ := hc
    rw [ltB_iff] at hlt
    obtain ⟨p, w⟩ := h.wit a.f1 a2 a3 hfin
    have hb := h.bounds hN a.f1 a2 a3
    have hbu := h.bounds hN a.f0 a0 a1
    have hut : a.f0 ≠ t := fun e => by
      rw [e, h.tgt] at hlt
      unfold lt2 nxM at hlt
      simp only at hlt
      omega
    have hvn : lt2 (atM M a.f1) (nxM M a) := by unfold lt2 nxM; simp only; omega
    have hnot : ∀ b ∈ p, b.f0 ≠ a.f0 := fun b hb e => by
      have h2 := low_mem hN w.pth w.low b hb
      rw [e, ← w.c, ← w.m] at h2
      exact lt2_irr (lt2_trans hlt (le2_lt h2 hvn))
    have nfar : (nxM M a).f0 ≠ 99999 := fun e => by
      have h5 := h.top a.f0 a0 a1
      have h6 : 0 ≤ (nxM M a).f1 := by unfold nxM; simp only; omega
      unfold lt2 at hlt
      rw [e] at hlt
      rcases hlt with h7 | ⟨h7, h8⟩
      · omega
      · have := h.far a.f0 a0 a1 h7.symm; omega
    have hset : ∀ j : Int, 0 ≤ j → atM (M.set a.f0.toNat (nxM M a)) j = if a.f0 = j then nxM M a else atM M j := fun j hj => atM_set a0 (by omega) hj
    have hmono : ∀ v : Int, 0 ≤ v → le2 (atM (M.set a.f0.toNat (nxM M a)) v) (atM M v) := fun v hv => by
      rw [hset v hv]
      split
      · rename_i e; subst e; exact lt2_le hlt
      · exact le2_refl _
    have hp0 : ∀ {q : List Ar} {v : Int}, Pth l t v q → ∀ b ∈ q, 0 ≤ b.f0 := fun hq b hb => (hN.arc b (pth_mem hq b hb)).1
    refine ⟨by rw [List.length_set]; exact hlen, ?_, ?_, ?_, ?_⟩
    · rw [hset t ht0, if_neg hut]; exact h.tgt
    · intro v hv0 hvn2 hf
      rw [hset v hv0] at hf ⊢
      split
      · rename_i e; rw [if_pos e] at hf; exact absurd hf nfar
      · rename_i e; rw [if_neg e] at hf; exact h.far v hv0 hvn2 hf
    · intro v hv0 hvn2
      have := hmono v hv0
      have h5 := h.top v hv0 hvn2
      unfold le2 at this
      omega
    · intro v hv0 hvn2 hf
      by_cases e : a.f0 = v
      · subst e
        refine ⟨a :: p, ⟨⟨ha, rfl, w.pth⟩, ?_, ?_, ?_, ?_, ?_⟩⟩
        · rw [List.map_cons, List.nodup_cons]
          exact ⟨fun hm => by obtain ⟨b, hb, e⟩ := List.mem_map.1 hm; exact hnot b hb e, w.nod⟩
        · intro b hb
          rcases List.mem_cons.1 hb with rfl | hb
          · exact hut
          · exact w.off b hb
        · rw [hset _ hv0, if_pos rfl]
          have := w.c
          unfold nxM; simp only [cst]; omega
        · rw [hset _ hv0, if_pos rfl]
          have := w.m
          unfold nxM; simp only [List.length_cons]; omega
        · refine ⟨?_, low_mono hmono (hp0 w.pth) w.low⟩
          rw [hset _ hv0, if_pos rfl]
          have := w.c
          have := w.m
          unfold le2 nxM; simp only; omega
      · rw [hset v hv0, if_neg e] at hf
        obtain ⟨q, wq⟩ := h.wit v hv0 hvn2 hf
        exact ⟨q, ⟨wq.pth, wq.nod, wq.off, by rw [hset v hv0, if_neg e]; exact wq.c, by rw [hset v hv0, if_neg e]; exact wq.m, low_mono hmono (hp0 wq.pth) wq.low⟩⟩
  · rw [if_neg hc]; exact h
/-! ### That it comes to an end -/
def sc (M : List Me) : Nat := (M.map (fun m => m.f0.toNat)).sum
def sa (M : List Me) : Nat := (M.map (fun m => m.f1.toNat)).sum
theorem sum_set {α : Type} (f : α → Nat) : ∀ (L : List α) (i : Nat) (x : α) (h : i < L.length), ((L.set i x).map f).sum + f L[i] = (L.map f).sum + f x
  | [], i, x, h => by simp at h
  | y :: L, 0, x, _ => by simp; omega
  | y :: L, i + 1, x, h => by
    have := sum_set f L i x (by simpa using h)
    simp only [List.set_cons_succ, List.map_cons, List.sum_cons, List.getElem_cons_succ] at *
    omega
def less2 (M' M : List Me) : Prop := sc M' < sc M ∨ sc M' = sc M ∧ sa M' < sa M
theorem rlx_less {n : Int} {l : List Ar} (hN : NetP n l) {t : Int} (ht0 : 0 ≤ t) (htn : t < n) {M : List Me} (h : Inv n l t M) {a : Ar} (ha : a ∈ l) (hc : chgB M a = true) : less2 (rlx M a) M := by
  have h' := inv_rlx hN ht0 htn h ha
  unfold rlx at h' ⊢
  rw [if_pos hc] at h' ⊢
  obtain ⟨a0, a1, a2, a3, a4, a5, a6, _⟩ := hN.arc a ha
  have hlen := h.len
  have h1 := hN.lo
  have hi : a.f0.toNat < M.length := by omega
  have e1 := sum_set (fun m : Me => m.f0.toNat) M a.f0.toNat (nxM M a) hi
  have e2 := sum_set (fun m : Me => m.f1.toNat) M a.f0.toNat (nxM M a) hi
  have e3 : M[a.f0.toNat] = atM M a.f0 := by unfold atM; rw [List.getD_eq_getElem?_getD, List.getElem?_eq_getElem hi]; rfl
  rw [e3] at e1 e2
  have b1 := h.bounds hN a.f0 a0 a1
  have b2 := h.bounds hN a.f1 a2 a3
  unfold chgB at hc
  simp only [Bool.and_eq_true] at hc
  have hlt := ltB_iff.1 hc.2
  have hn0 : 0 ≤ (nxM M a).f0 ∧ 0 ≤ (nxM M a).f1 := by unfold nxM; simp only; omega
  unfold less2 sc sa
  unfold lt2 at hlt
  omega
theorem less2_trans {A B C : List Me} (h : less2 A B) (k : less2 B C) : less2 A C := by unfold less2 at *; omega
theorem pass_spec {n : Int} {l : List Ar} (hN : NetP n l) {t : Int} (ht0 : 0 ≤ t) (htn : t < n) : ∀ (s : List Ar) (M : List Me) (c : Bool), (∀ a ∈ s, a ∈ l) → Inv n l t M →
    Inv n l t (pass M c s).1 ∧ ((pass M c s).1 = M ∨ less2 (pass M c s).1 M) ∧ (c = true → (pass M c s).2 = true) ∧ (c = false → (pass M c s).2 = true → less2 (pass M c s).1 M) ∧ ((pass M c s).2 = false → (pass M c s).1 = M ∧ ∀ a ∈ s, chgB M a = false)
  | [], M, c, _, h => ⟨h, .inl rfl, fun e => e, fun e e2 => absurd (e.symm.trans e2) (by simp), fun _ => ⟨rfl, fun a ha => absurd ha (by simp)⟩⟩
  | a :: s, M, c, hs, h => by
    have ha := hs a List.mem_cons_self
    have hs' : ∀ b ∈ s, b ∈ l := fun b hb => hs b (List.mem_cons_of_mem _ hb)
    have h' := inv_rlx hN ht0 htn h ha
    obtain ⟨i1, i2, i3, i4, i5⟩ := pass_spec hN ht0 htn s (rlx M a) (c || chgB M a) hs' h'
    have hl : rlx M a = M ∨ less2 (rlx M a) M := by
      by_cases hc : chgB M a = true
      · exact .inr (rlx_less hN ht0 htn h ha hc)
      · exact .inl (by unfold rlx; rw [if_neg hc])
    show Inv n l t (pass (rlx M a) (c || chgB M a) s).1 ∧ _
    refine ⟨i1, ?_, ?_, ?_, ?_⟩
    · show (pass (rlx M a) (c || chgB M a) s).1 = M ∨ less2 (pass (rlx M a) (c || chgB M a) s).1 M
      rcases i2 with e | e
      · rw [e]; exact hl
      · rcases hl with e2 | e2
        · rw [e2] at e ⊢; exact .inr e
        · exact .inr (less2_trans e e2)
    · intro e; exact i3 (by rw [e]; rfl)
    · intro e e2
      by_cases hc : chgB M a = true
      · have hL := rlx_less hN ht0 htn h ha hc
        rcases i2 with e3 | e3
        · show less2 (pass (rlx M a) (c || chgB M a) s).1 M; rw [e3]; exact hL
        · exact less2_trans e3 hL
      · have hc' : chgB M a = false := by simpa using hc
        have e4 : rlx M a = M := by unfold rlx; rw [if_neg hc]
        have := i4 (by rw [e, hc']; rfl) e2
        show less2 (pass (rlx M a) (c || chgB M a) s).1 M
        rw [e4] at this ⊢; exact this
    · intro e
      obtain ⟨e1, e2⟩ := i5 e
      have hc' : chgB M a = false := by
        cases hq : chgB M a with
        | false => rfl
        | true => exact absurd (i3 (by rw [hq, Bool.or_true])) (by rw [show (pass (rlx M a) (c || chgB M a) s).2 = false from e]; simp)
      have e4 : rlx M a = M := by unfold rlx; rw [if_neg (by rw [hc']; simp)]
      rw [e4] at e1 e2
      refine ⟨?_, ?_⟩
      · show (pass (rlx M a) (c || chgB M a) s).1 = M; rw [e4]; exact e1
      · intro b hb
        rcases List.mem_cons.1 hb with rfl | hb
        · exact hc'
        · exact e2 b hb
/-- What no arc makes less. -/
structure Best (n : Int) (l : List Ar) (t : Int) (M : List Me) : Prop extends Inv n l t M where
  fix : ∀ a ∈ l, chgB M a = false
def init (n t : Int) : List Me := (List.replicate n.toNat (⟨99999, 0⟩ : Me)).set t.toNat ⟨0, 0⟩
theorem init_inv {n : Int} {l : List Ar} (hN : NetP n l) {t : Int} (ht0 : 0 ≤ t) (htn : t < n) : Inv n l t (init n t) := by
  have hlen : (List.replicate n.toNat (⟨99999, 0⟩ : Me)).length = n.toNat := List.length_replicate
  have hset : ∀ j : Int, 0 ≤ j → atM (init n t) j = if t = j then ⟨0, 0⟩ else atM (List.replicate n.toNat (⟨99999, 0⟩ : Me)) j := fun j hj => atM_set ht0 (by rw [hlen]; omega) hj
  have hr : ∀ j : Int, 0 ≤ j → j < n → atM (List.replicate n.toNat (⟨99999, 0⟩ : Me)) j = ⟨99999, 0⟩ := fun j h0 h1 => by
    unfold atM
    rw [List.getD_eq_getElem?_getD, List.getElem?_replicate, if_pos (by omega)]; rfl
  refine ⟨by unfold init; rw [List.length_set, hlen], by rw [hset t ht0, if_pos rfl], ?_, ?_, ?_⟩
  · intro v h0 h1 hf
    rw [hset v h0] at hf ⊢
    split
    · rfl
    · rw [hr v h0 h1]
  · intro v h0 h1
    rw [hset v h0]
    split
    · simp
    · rw [hr v h0 h1]; exact Int.le_refl _
  · intro v h0 h1 hf
    rw [hset v h0] at hf
    by_cases e : t = v
    · subst e
      exact ⟨[], ⟨rfl, List.nodup_nil, fun a ha => absurd ha (by simp), by rw [hset _ h0, if_pos rfl]; rfl, by rw [hset _ h0, if_pos rfl]; rfl, trivial⟩⟩
    · rw [if_neg e, hr v h0 h1] at hf
      exact absurd rfl hf
/-- The row of measures that no arc makes less costs no more than any walk. -/
theorem best_le {n : Int} {l : List Ar} (hN : NetP n l) {t : Int} {M : List Me} (h : Best n l t M) : ∀ {p : List Ar} {v : Int}, 0 ≤ v → v < n → Pth l t v p → cst p < 99999 → (atM M v).f0 ≤ cst p ∧ (atM M v).f0 ≠ 99999
  | [], v, _, _, hp, _ => by
    have e : v = t := hp
    subst e
    rw [h.tgt]; simp [cst]
  | a :: q, v, h0, h1, hp, hc => by
    obtain ⟨ha, rfl, hq⟩ := hp
    obtain ⟨a0, a1, a2, a3, a4, a5, a6, _⟩ := hN.arc a ha
    have hq0 := cst_nonneg hN hq
    simp only [cst] at hc ⊢
    obtain ⟨g1, g2⟩ := best_le hN h a2 a3 hq (by omega)
    have hf := h.fix a ha
    unfold chgB at hf
    rw [decide_eq_false g2, Bool.not_false, Bool.true_and] at hf
    have hn : ¬ lt2 (nxM M a) (atM M a.f0) := fun hl => by rw [ltB_iff.2 hl] at hf; cases hf
    unfold lt2 nxM at hn
    simp only at hn
    have ht := h.top a.f0 h0 h1
    omega
end Go.Proofs.Ytfijdkjibjdbiaa.M
