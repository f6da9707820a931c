/- Least costs over a graph: rows that no edge makes less, and rounds over all edges. Plain: no program in sight. -/
import Derived.Test.YtfijdkjibjdbiaaY
set_option linter.unusedVariables false
set_option linter.unusedSimpArgs false
namespace Go.Proofs.Ytfijdkjibjdbiaa.M
/-- A graph: what it costs to begin at a node (99999: one cannot), which edges there are, what they cost. -/
structure Gr where
  m : Nat
  S : Nat → Int
  E : Nat → Nat → Bool
  W : Nat → Nat → Int
  hS : ∀ i, i < m → 0 ≤ S i ∧ S i ≤ 99999
  hW : ∀ k i, k < m → i < m → E k i = true → 0 ≤ W k i
variable (G : Gr)
/-- A path, its last node first. -/
def gP : List Nat → Prop
  | [] => False
  | [i] => i < G.m ∧ G.S i < 99999
  | i :: k :: q => i < G.m ∧ G.E k i = true ∧ gP (k :: q)
def gC : List Nat → Int
  | [] => 0
  | [i] => G.S i
  | i :: k :: q => gC (k :: q) + G.W k i
def gLow (d : List Int) : List Nat → Prop
  | [] => True
  | i :: q => d.getD i 0 ≤ gC G (i :: q) ∧ gLow d q
variable {G}
theorem gP_lt : ∀ {p : List Nat} {i : Nat}, gP G (i :: p) → i < G.m
  | [], _, h => h.1
  | _ :: _, _, h => h.1
theorem gP_all : ∀ {p : List Nat}, gP G p → ∀ j ∈ p, j < G.m
  | [], h, _, _ => h.elim
  | [i], h, j, hj => by rw [List.mem_singleton.1 hj]; exact h.1
  | i :: k :: q, h, j, hj => by
    rcases List.mem_cons.1 hj with rfl | hj
    · exact h.1
    · exact gP_all h.2.2 j hj
theorem gC_nn : ∀ {p : List Nat}, gP G p → 0 ≤ gC G p
  | [], h => h.elim
  | [i], h => (G.hS i h.1).1
  | i :: k :: q, h => by
    have h1 := gC_nn h.2.2
    have h2 := G.hW k i (gP_lt h.2.2) h.1 h.2.1
    unfold gC; omega
theorem gC_tail {i k : Nat} {q : List Nat} (h : gP G (i :: k :: q)) : gC G (k :: q) ≤ gC G (i :: k :: q) := by
  have h2 := G.hW k i (gP_lt h.2.2) h.1 h.2.1
  conv => rhs; unfold gC
  omega
theorem low_in {d : List Int} : ∀ {p : List Nat}, gP G p → gLow G d p → ∀ j ∈ p, d.getD j 0 ≤ gC G p
  | [], h, _, _, _ => h.elim
  | [i], h, l, j, hj => by rw [List.mem_singleton.1 hj]; exact l.1
  | i :: k :: q, h, l, j, hj => by
    rcases List.mem_cons.1 hj with rfl | hj
    · exact l.1
    · exact Int.le_trans (low_in h.2.2 l.2 j hj) (gC_tail h)
theorem low_le {d d' : List Int} (h : ∀ j, d'.getD j 0 ≤ d.getD j 0) : ∀ {p : List Nat}, gLow G d p → gLow G d' p
  | [], _ => trivial
  | i :: q, l => ⟨Int.le_trans (h i) l.1, low_le h l.2⟩
theorem getS (d : List Int) (i j : Nat) (b : Int) (hi : i < d.length) : (d.set i b).getD j 0 = if i = j then b else d.getD j 0 := by
  simp only [List.getD_eq_getElem?_getD, List.getElem?_set]
  by_cases e : i = j
  · subst e; rw [if_pos rfl, if_pos rfl, if_pos hi]; rfl
  · rw [if_neg e, if_neg e]
structure GInv (G : Gr) (d : List Int) : Prop where
  len : d.length = G.m
  rng : ∀ i, i < G.m → 0 ≤ d.getD i 0 ∧ d.getD i 0 ≤ 99999
  wit : ∀ i, i < G.m → d.getD i 0 < 99999 → ∃ p, gP G (i :: p) ∧ (i :: p).Nodup ∧ gC G (i :: p) = d.getD i 0 ∧ gLow G d (i :: p)
/-- One cost made less. -/
theorem GInv.set {d : List Int} (h : GInv G d) {i : Nat} (hi : i < G.m) {b : Int} (hb : b < d.getD i 0)
    (hw : b = G.S i ∨ ∃ k, k < G.m ∧ G.E k i = true ∧ d.getD k 0 < 99999 ∧ b = d.getD k 0 + G.W k i) : GInv G (d.set i b) := by
  have hl := h.len
  have g := fun j => getS d i j b (by omega)
  have hle : ∀ j, (d.set i b).getD j 0 ≤ d.getD j 0 := fun j => by rw [g j]; split <;> rename_i e <;> first | (subst e; omega) | omega
  have hbF := (h.rng i hi).2
  have b0 : 0 ≤ b := by
    rcases hw with e | ⟨k, hk, he, _, e⟩
    · have := (G.hS i hi).1; omega
    · have := (h.rng k hk).1; have := G.hW k i hk hi he; omega
  refine ⟨by rw [List.length_set]; exact hl, fun j hj => ?_, fun j hj hF => ?_⟩
  · rw [g j]; have := h.rng j hj; split <;> omega
  · by_cases e : i = j
    · subst e
      rw [g i, if_pos rfl]
      rcases hw with e | ⟨k, hk, he, hkF, e⟩
      · exact ⟨[], ⟨hi, by omega⟩, by simp, e.symm, by rw [g i, if_pos rfl, e]; exact Int.le_refl _, trivial⟩
      · obtain ⟨p, h1, h2, h3, h4⟩ := h.wit k hk hkF
        have hni : i ∉ k :: p := fun hm => by
          have := low_in h1 h4 i hm
          have := G.hW k i hk hi he
          omega
        refine ⟨k :: p, ⟨hi, he, h1⟩, List.nodup_cons.2 ⟨hni, h2⟩, ?_, ?_, low_le hle h4⟩
        · show gC G (k :: p) + G.W k i = b
          omega
        · show _ ≤ gC G (k :: p) + G.W k i
          rw [g i, if_pos rfl]; omega
    · rw [g j, if_neg e] at hF ⊢
      obtain ⟨p, h1, h2, h3, h4⟩ := h.wit j hj hF
      exact ⟨p, h1, h2, h3, low_le hle h4⟩
theorem ginv_far : GInv G (List.replicate G.m 99999) := by
  have g : ∀ i, i < G.m → (List.replicate G.m (99999 : Int)).getD i 0 = 99999 := fun i hi => by rw [List.getD_eq_getElem?_getD, List.getElem?_replicate, if_pos hi]; rfl
  exact ⟨by simp, fun i hi => by rw [g i hi]; omega, fun i hi hF => by rw [g i hi] at hF; omega⟩
theorem ginv_start {d : List Int} (hl : d.length = G.m) (h : ∀ i, i < G.m → d.getD i 0 = G.S i) : GInv G d :=
  ⟨hl, fun i hi => by rw [h i hi]; exact G.hS i hi, fun i hi hF => ⟨[], ⟨hi, by rw [← h i hi]; exact hF⟩, by simp, (h i hi).symm, by rw [h i hi]; exact Int.le_refl _, trivial⟩⟩
/-! ### What no edge makes less -/
structure GFix (G : Gr) (d : List Int) : Prop where
  st : ∀ i, i < G.m → d.getD i 0 ≤ G.S i
  ed : ∀ k i, k < G.m → i < G.m → G.E k i = true → d.getD k 0 < 99999 → d.getD i 0 ≤ d.getD k 0 + G.W k i
theorem fix_le {d : List Int} (h : GFix G d) : ∀ {p : List Nat} {i : Nat}, gP G (i :: p) → gC G (i :: p) < 99999 → d.getD i 0 ≤ gC G (i :: p)
  | [], i, hp, _ => h.st i hp.1
  | k :: q, i, hp, hC => by
    have h1 := gC_tail hp
    have h2 := fix_le h hp.2.2 (by omega)
    have h3 := h.ed k i (gP_lt hp.2.2) hp.1 hp.2.1 (by omega)
    show _ ≤ gC G (k :: q) + G.W k i
    omega
/-! ### Rounds over all edges -/
def gR (G : Gr) (d : List Int) (i k : Nat) : List Int := if G.E i k = true ∧ d.getD i 0 < 99999 ∧ d.getD i 0 + G.W i k < d.getD k 0 then d.set k (d.getD i 0 + G.W i k) else d
theorem gR_inv {d : List Int} (h : GInv G d) {i k : Nat} (hi : i < G.m) (hk : k < G.m) : GInv G (gR G d i k) := by
  unfold gR
  split
  · rename_i c
    exact h.set hk c.2.2 (.inr ⟨i, hi, c.1, c.2.1, rfl⟩)
  · exact h
theorem gR_le {d : List Int} (h : d.length = G.m) (i k : Nat) (hk : k < G.m) (j : Nat) : (gR G d i k).getD j 0 ≤ d.getD j 0 := by
  unfold gR
  split
  · rename_i c
    rw [getS d k j _ (by omega)]
    split
    · rename_i e; subst e; omega
    · omega
  · omega
theorem gR_len (d : List Int) (i k : Nat) : (gR G d i k).length = d.length := by unfold gR; split <;> simp
def gRk (G : Gr) (d : List Int) (i : Nat) : Nat → Nat → List Int
  | _, 0 => d
  | k, n + 1 => gRk G (gR G d i k) i (k + 1) n
def gRi (G : Gr) (d : List Int) : Nat → Nat → List Int
  | _, 0 => d
  | i, n + 1 => gRi G (gRk G d i 0 G.m) (i + 1) n
def gRs (G : Gr) (d : List Int) : Nat → List Int
  | 0 => d
  | n + 1 => gRs G (gRi G d 0 G.m) n
theorem gRk_inv (n : Nat) : ∀ {d : List Int} {i k : Nat}, GInv G d → i < G.m → k + n = G.m → GInv G (gRk G d i k n) ∧ ∀ j, (gRk G d i k n).getD j 0 ≤ d.getD j 0 := by
  induction n with
  | zero => intro d i k h _ _; exact ⟨h, fun j => Int.le_refl _⟩
  | succ n ih =>
    intro d i k h hi hk
    obtain ⟨h1, h2⟩ := ih (k := k + 1) (gR_inv h hi (by omega : k < G.m)) hi (by omega)
    exact ⟨h1, fun j => Int.le_trans (h2 j) (gR_le h.len i k (by omega) j)⟩
theorem gRk_relax (n : Nat) : ∀ {d : List Int} {i k : Nat}, GInv G d → i < G.m → k + n = G.m → ∀ q, k ≤ q → q < G.m → G.E i q = true → ∀ b, d.getD i 0 ≤ b → b < 99999 → (gRk G d i k n).getD q 0 ≤ b + G.W i q := by
  induction n with
  | zero => intro d i k h _ hk q h1 h2; omega
  | succ n ih =>
    intro d i k h hi hk q h1 h2 he b hb hF
    have hinv := gR_inv h hi (by omega : k < G.m)
    by_cases e : q = k
    · subst e
      refine Int.le_trans ((gRk_inv n (k := q + 1) hinv hi (by omega)).2 q) ?_
      unfold gR
      split
      · rw [getS d q q _ (by have := h.len; omega), if_pos rfl]; omega
      · rename_i c
        have : ¬ (d.getD i 0 + G.W i q < d.getD q 0) := fun z => c ⟨he, by omega, z⟩
        omega
    · exact ih hinv hi (by omega) q (by omega) h2 he b (Int.le_trans (gR_le h.len i k (by omega) i) hb) hF
theorem gRi_inv (n : Nat) : ∀ {d : List Int} {i : Nat}, GInv G d → i + n = G.m → GInv G (gRi G d i n) ∧ ∀ j, (gRi G d i n).getD j 0 ≤ d.getD j 0 := by
  induction n with
  | zero => intro d i h _; exact ⟨h, fun j => Int.le_refl _⟩
  | succ n ih =>
    intro d i h hi
    obtain ⟨a1, a2⟩ := gRk_inv G.m h (by omega : i < G.m) (by omega : 0 + G.m = G.m)
    obtain ⟨h1, h2⟩ := ih (i := i + 1) a1 (by omega)
    exact ⟨h1, fun j => Int.le_trans (h2 j) (a2 j)⟩
theorem gRi_relax (n : Nat) : ∀ {d : List Int} {i : Nat}, GInv G d → i + n = G.m → ∀ k q, i ≤ k → k < G.m → q < G.m → G.E k q = true → ∀ b, d.getD k 0 ≤ b → b < 99999 → (gRi G d i n).getD q 0 ≤ b + G.W k q := by
  induction n with
  | zero => intro d i h hi k q h1 h2; omega
  | succ n ih =>
    intro d i h hi k q h1 h2 h3 he b hb hF
    obtain ⟨a1, a2⟩ := gRk_inv G.m h (by omega : i < G.m) (by omega : 0 + G.m = G.m)
    by_cases e : k = i
    · subst e
      exact Int.le_trans ((gRi_inv n (i := k + 1) a1 (by omega)).2 q) (gRk_relax G.m h h2 (by omega) q (by omega) h3 he b hb hF)
    · exact ih a1 (by omega) k q (by omega) h2 h3 he b (Int.le_trans (a2 k) hb) hF
/-- Paths of few edges are no cheaper. -/
def GB (G : Gr) (d : List Int) (r : Nat) : Prop := ∀ (p : List Nat) (i : Nat), gP G (i :: p) → p.length ≤ r → gC G (i :: p) < 99999 → d.getD i 0 ≤ gC G (i :: p)
theorem gb_round {d : List Int} (h : GInv G d) {r : Nat} (hb : GB G d r) : GB G (gRi G d 0 G.m) (r + 1) := by
  intro p i hp hl hC
  have mono := (gRi_inv G.m h (by omega : 0 + G.m = G.m)).2
  cases p with
  | nil => exact Int.le_trans (mono i) (hb [] i hp (by simp) hC)
  | cons k q =>
    have h1 := gC_tail hp
    have h2 := hb q k hp.2.2 (by simp at hl; omega) (by omega)
    exact gRi_relax G.m h (by omega) k i (by omega) (gP_lt hp.2.2) hp.1 hp.2.1 _ h2 (by omega)
theorem gRs_spec (n : Nat) : ∀ {d : List Int} {r : Nat}, GInv G d → GB G d r → GInv G (gRs G d n) ∧ GB G (gRs G d n) (r + n) := by
  induction n with
  | zero => intro d r h b; exact ⟨h, b⟩
  | succ n ih =>
    intro d r h b
    have := ih (gRi_inv G.m h (by omega : 0 + G.m = G.m)).1 (gb_round h b)
    rw [show r + 1 + n = r + (n + 1) by omega] at this
    exact this
theorem nodup_few : ∀ (n : Nat) (s : List Nat), s.Nodup → (∀ x ∈ s, x < n) → s.length ≤ n
  | 0, s, _, h => by
    cases s with
    | nil => simp
    | cons x s => exact absurd (h x List.mem_cons_self) (by omega)
  | n + 1, s, hd, h => by
    by_cases hm : n ∈ s
    · have h1 := nodup_few n (s.erase n) (hd.erase n) (fun x hx => by
        have h2 := h x (List.mem_of_mem_erase hx)
        have h3 : x ≠ n := fun e => by subst e; exact (List.Nodup.not_mem_erase hd) hx
        omega)
      rw [List.length_erase_of_mem hm] at h1
      omega
    · have h1 := nodup_few n s hd (fun x hx => by
        have h2 := h x hx
        have h3 : x ≠ n := fun e => by subst e; exact hm hx
        omega)
      omega
/-- As many rounds as nodes tell what no edge makes less. -/
theorem rounds_fix {d d' : List Int} (h : GInv G d) (f : GFix G d) (h' : GInv G d') {r : Nat} (b : GB G d' r) (hr : G.m ≤ r + 1) : d' = d := by
  refine List.ext_getElem (by rw [h.len, h'.len]) (fun i h1 h2 => ?_)
  have hi : i < G.m := by rw [← h.len]; exact h2
  have e1 : d[i] = d.getD i 0 := by rw [List.getD_eq_getElem?_getD, List.getElem?_eq_getElem h2]; rfl
  have e2 : d'[i] = d'.getD i 0 := by rw [List.getD_eq_getElem?_getD, List.getElem?_eq_getElem h1]; rfl
  rw [e1, e2]
  have r1 := h.rng i hi
  have r2 := h'.rng i hi
  have a1 : d.getD i 0 < 99999 → d'.getD i 0 ≤ d.getD i 0 := fun hF => by
    obtain ⟨p, p1, p2, p3, _⟩ := h.wit i hi hF
    have hl := nodup_few G.m _ p2 (gP_all p1)
    simp only [List.length_cons] at hl
    have := b p i p1 (by omega) (by omega)
    omega
  have a2 : d'.getD i 0 < 99999 → d.getD i 0 ≤ d'.getD i 0 := fun hF => by
    obtain ⟨p, p1, p2, p3, _⟩ := h'.wit i hi hF
    have := fix_le f p1 (by omega)
    omega
  by_cases c1 : d.getD i 0 < 99999
  · have := a1 c1; have := a2 (by omega); omega
  · by_cases c2 : d'.getD i 0 < 99999
    · have := a2 c2; omega
    · omega
/-! ### Passes until nothing is made less -/
def gB (G : Gr) (d : List Int) (i : Nat) : Int → Nat → Nat → Int
  | b, _, 0 => b
  | b, k, n + 1 => gB G d i (if G.E k i = true ∧ d.getD k 0 < 99999 then min b (d.getD k 0 + G.W k i) else b) (k + 1) n
theorem gB_spec (d : List Int) (i : Nat) (n : Nat) : ∀ (b : Int) (k : Nat), gB G d i b k n ≤ b ∧ (∀ q, k ≤ q → q < k + n → G.E q i = true → d.getD q 0 < 99999 → gB G d i b k n ≤ d.getD q 0 + G.W q i) ∧ (gB G d i b k n = b ∨ ∃ q, k ≤ q ∧ q < k + n ∧ G.E q i = true ∧ d.getD q 0 < 99999 ∧ gB G d i b k n = d.getD q 0 + G.W q i) := by
  induction n with
  | zero => intro b k; exact ⟨Int.le_refl _, fun q h1 h2 => by omega, .inl rfl⟩
  | succ n ih =>
    intro b k
    unfold gB
    by_cases c : G.E k i = true ∧ d.getD k 0 < 99999
    · rw [if_pos c]
      obtain ⟨h1, h2, h3⟩ := ih (min b (d.getD k 0 + G.W k i)) (k + 1)
      refine ⟨by omega, fun q q1 q2 qe qF => ?_, ?_⟩
      · by_cases e : q = k
        · subst e; omega
        · exact h2 q (by omega) (by omega) qe qF
      · rcases h3 with h3 | ⟨q, q1, q2, q3⟩
        · by_cases e : b ≤ d.getD k 0 + G.W k i
          · left; omega
          · right; exact ⟨k, by omega, by omega, c.1, c.2, by omega⟩
        · right; exact ⟨q, by omega, by omega, q3⟩
    · rw [if_neg c]
      obtain ⟨h1, h2, h3⟩ := ih b (k + 1)
      refine ⟨h1, fun q q1 q2 qe qF => ?_, ?_⟩
      · by_cases e : q = k
        · subst e; exact absurd ⟨qe, qF⟩ c
        · exact h2 q (by omega) (by omega) qe qF
      · rcases h3 with h3 | ⟨q, q1, q2, q3⟩
        · exact .inl h3
        · right; exact ⟨q, by omega, by omega, q3⟩
def gL (G : Gr) (d : List Int) (i : Nat) : Int := gB G d i (G.S i) 0 G.m
def gPass (G : Gr) : List Int → Bool → Nat → Nat → List Int × Bool
  | d, c, _, 0 => (d, c)
  | d, c, i, n + 1 => if gL G d i < d.getD i 0 then gPass G (d.set i (gL G d i)) true (i + 1) n else gPass G d c (i + 1) n
def dSum (d : List Int) : Nat := (d.map Int.toNat).sum
theorem dSum_set : ∀ (d : List Int) (i : Nat) (b : Int), i < d.length → dSum (d.set i b) + (d.getD i 0).toNat = dSum d + b.toNat
  | x :: d, 0, b, _ => by simp [dSum]; omega
  | x :: d, i + 1, b, h => by
    have := dSum_set d i b (by simpa using h)
    simp [dSum] at this ⊢
    omega
theorem gL_set {d : List Int} (h : GInv G d) {i : Nat} (hi : i < G.m) (hb : gL G d i < d.getD i 0) : GInv G (d.set i (gL G d i)) ∧ dSum (d.set i (gL G d i)) < dSum d := by
  obtain ⟨_, _, h3⟩ := gB_spec (G := G) d i G.m (G.S i) 0
  have hinv : GInv G (d.set i (gL G d i)) := by
    refine h.set hi hb ?_
    rcases h3 with e | ⟨q, _, q2, q3, q4, q5⟩
    · exact .inl e
    · exact .inr ⟨q, by omega, q3, q4, q5⟩
  refine ⟨hinv, ?_⟩
  have h1 := dSum_set d i (gL G d i) (by rw [h.len]; exact hi)
  have h2 := (hinv.rng i hi).1
  rw [getS d i i _ (by rw [h.len]; exact hi), if_pos rfl] at h2
  omega
theorem gPass_spec (n : Nat) : ∀ {d : List Int} {c : Bool} {i : Nat}, GInv G d → i + n = G.m → GInv G (gPass G d c i n).1 ∧ ((gPass G d c i n).2 = false → c = false ∧ (gPass G d c i n).1 = d ∧ ∀ j, i ≤ j → j < G.m → d.getD j 0 ≤ gL G d j) ∧ ((gPass G d c i n).2 = true → c = true ∨ dSum (gPass G d c i n).1 < dSum d) ∧ dSum (gPass G d c i n).1 ≤ dSum d := by
  induction n with
  | zero => intro d c i h hi; exact ⟨h, fun e => ⟨e, rfl, fun j h1 h2 => by omega⟩, fun e => .inl e, Nat.le_refl _⟩
  | succ n ih =>
    intro d c i h hi
    unfold gPass
    by_cases hb : gL G d i < d.getD i 0
    · rw [if_pos hb]
      obtain ⟨h1, h2⟩ := gL_set h (by omega) hb
      obtain ⟨a1, a2, a3, a4⟩ := ih (c := true) (i := i + 1) h1 (by omega)
      exact ⟨a1, fun e => absurd (a2 e).1 (by simp), fun _ => .inr (by omega), by omega⟩
    · rw [if_neg hb]
      obtain ⟨a1, a2, a3, a4⟩ := ih (c := c) (i := i + 1) h (by omega)
      refine ⟨a1, fun e => ?_, a3, a4⟩
      obtain ⟨b1, b2, b3⟩ := a2 e
      refine ⟨b1, b2, fun j h1 h2 => ?_⟩
      by_cases e2 : j = i
      · subst e2; omega
      · exact b3 j (by omega) h2
theorem gFix_of {d : List Int} (h : ∀ j, j < G.m → d.getD j 0 ≤ gL G d j) : GFix G d := by
  refine ⟨fun i hi => ?_, fun k i hk hi he hF => ?_⟩
  · have := (gB_spec (G := G) d i G.m (G.S i) 0).1
    have := h i hi
    unfold gL at this; omega
  · have := (gB_spec (G := G) d i G.m (G.S i) 0).2.1 k (by omega) (by omega) he hF
    have := h i hi
    unfold gL at this; omega
end Go.Proofs.Ytfijdkjibjdbiaa.M
