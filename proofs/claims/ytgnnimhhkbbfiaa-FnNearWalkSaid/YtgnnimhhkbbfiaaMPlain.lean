/- A row of nodes without its rings: from each node on as it goes on from there last. Plain: no program in sight. -/
import Derived.Test.YtgnnimhhkbbfiaaY
set_option linter.unusedVariables false
set_option linter.unusedSimpArgs false
namespace Go.Proofs.Ytgnnimhhkbbfiaa.M
/-- j is the last place, up to m, where there stands what stands at i. -/
structure LastAt (N : Nat → Int) (m i j : Nat) : Prop where
  lo : i ≤ j
  hi : j ≤ m
  eq : N j = N i
  no : ∀ q, j < q → q ≤ m → N q ≠ N i
theorem LastAt.uniq {N : Nat → Int} {m i j k : Nat} (h : LastAt N m i j) (g : LastAt N m i k) : j = k := by
  rcases Nat.lt_trichotomy j k with c | c | c
  · exact absurd g.eq (h.no k c g.hi)
  · exact c
  · exact absurd h.eq (g.no j c h.hi)
/-- Looked for from place k on, d places: what is found last, or j. -/
def scanL (N : Nat → Int) (x : Int) : Nat → Nat → Nat → Nat
  | j, _, 0 => j
  | j, k, d + 1 => scanL N x (if N k = x then max j k else j) (k + 1) d
theorem scanL_spec (N : Nat → Int) (x : Int) (d : Nat) : ∀ (j k : Nat), j ≤ scanL N x j k d ∧ (scanL N x j k d = j ∨ (k ≤ scanL N x j k d ∧ scanL N x j k d < k + d ∧ N (scanL N x j k d) = x)) ∧ ∀ q, scanL N x j k d < q → k ≤ q → q < k + d → N q ≠ x := by
  induction d with
  | zero => intro j k; exact ⟨Nat.le_refl _, .inl rfl, fun q _ h1 h2 => by omega⟩
  | succ d ih =>
    intro j k
    unfold scanL
    by_cases c : N k = x
    · rw [if_pos c]
      obtain ⟨h1, h2, h3⟩ := ih (max j k) (k + 1)
      refine ⟨by omega, ?_, fun q q0 q1 q2 => h3 q q0 (by omega) (by omega)⟩
      rcases h2 with h2 | ⟨a, b, e⟩
      · by_cases hjk : k ≤ j
        · left; omega
        · right
          have : scanL N x (max j k) (k + 1) d = k := by omega
          exact ⟨by omega, by omega, by rw [this]; exact c⟩
      · exact .inr ⟨by omega, by omega, e⟩
    · rw [if_neg c]
      obtain ⟨h1, h2, h3⟩ := ih j (k + 1)
      refine ⟨h1, ?_, fun q q0 q1 q2 => ?_⟩
      · rcases h2 with h2 | ⟨a, b, e⟩
        · exact .inl h2
        · exact .inr ⟨by omega, by omega, e⟩
      · by_cases e : q = k
        · subst e; exact c
        · exact h3 q q0 (by omega) (by omega)
def lastF (N : Nat → Int) (m i : Nat) : Nat := scanL N (N i) i 0 (m + 1)
theorem lastF_at (N : Nat → Int) {m i : Nat} (hi : i ≤ m) : LastAt N m i (lastF N m i) := by
  obtain ⟨h1, h2, h3⟩ := scanL_spec N (N i) (m + 1) i 0
  refine ⟨h1, ?_, ?_, fun q q1 q2 => h3 q q1 (by omega) (by omega)⟩
  · rcases h2 with h2 | ⟨_, b, _⟩
    · show scanL N (N i) i 0 (m + 1) ≤ m; omega
    · show scanL N (N i) i 0 (m + 1) ≤ m; omega
  · rcases h2 with h2 | ⟨_, _, e⟩
    · show N (scanL N (N i) i 0 (m + 1)) = N i; rw [h2]
    · exact e
/-- The places from which it goes on. -/
def plJ (N : Nat → Int) (m : Nat) : Nat → Nat → List Nat
  | _, 0 => []
  | i, d + 1 => if lastF N m i < m then lastF N m i :: plJ N m (lastF N m i + 1) d else []
/-- What holds of these places: each is the last one of its node; the next one's node is the one behind it. -/
inductive Pl (N : Nat → Int) (m : Nat) : Nat → List Nat → Prop
  | stop {i : Nat} (h : LastAt N m i m) : Pl N m i []
  | go {i j : Nat} {r : List Nat} (h : LastAt N m i j) (hj : j < m) (k : Pl N m (j + 1) r) : Pl N m i (j :: r)
theorem plJ_pl (N : Nat → Int) (m : Nat) (d : Nat) : ∀ i, i ≤ m → m + 1 ≤ i + d → Pl N m i (plJ N m i d) := by
  induction d with
  | zero => intro i h1 h2; omega
  | succ d ih =>
    intro i h1 h2
    have hL := lastF_at N h1
    have lo := hL.lo
    have hi := hL.hi
    unfold plJ
    by_cases c : lastF N m i < m
    · rw [if_pos c]
      exact .go hL c (ih _ (by omega) (by omega))
    · rw [if_neg c]
      have e : lastF N m i = m := by omega
      rw [e] at hL
      exact .stop hL
section
variable {N : Nat → Int} {m : Nat}
theorem Pl.lo {i : Nat} {J : List Nat} (h : Pl N m i J) : ∀ j ∈ J, i ≤ j ∧ j < m := by
  induction h with
  | stop h => intro j hj; cases hj
  | go h hj k ih =>
    intro q hq
    rcases List.mem_cons.1 hq with rfl | hq
    · exact ⟨h.lo, hj⟩
    · have := ih q hq; have := h.lo; exact ⟨by omega, by omega⟩
/-- Each is the last place of its node. -/
theorem Pl.last {i : Nat} {J : List Nat} (h : Pl N m i J) : ∀ j ∈ J, ∀ q, j < q → q ≤ m → N q ≠ N j := by
  induction h with
  | stop h => intro j hj; cases hj
  | go h hj k ih =>
    intro x hx q q1 q2
    rcases List.mem_cons.1 hx with rfl | hx
    · rw [h.eq]; exact h.no q q1 q2
    · exact ih x hx q q1 q2
theorem Pl.asc {i : Nat} {J : List Nat} (h : Pl N m i J) : J.Pairwise (· < ·) := by
  induction h with
  | stop h => exact List.Pairwise.nil
  | go h hj k ih => exact List.Pairwise.cons (fun q hq => by have := k.lo q hq; omega) ih
/-- The first one's node; the last one leads to where all ends. -/
theorem Pl.head {i : Nat} {J : List Nat} (h : Pl N m i J) : (J = [] ∧ N i = N m) ∨ ∃ j r, J = j :: r ∧ N j = N i := by
  cases h with
  | stop h => exact .inl ⟨rfl, h.eq.symm⟩
  | go h hj k => exact .inr ⟨_, _, rfl, h.eq⟩
theorem Pl.end {i : Nat} {J : List Nat} (h : Pl N m i J) (hi : i ≤ m) : ∀ hne : J ≠ [], N (J.getLast hne + 1) = N m := by
  induction h with
  | stop h => intro hne; exact absurd rfl hne
  | @go i j r h hj k ih =>
    intro hne
    cases k with
    | stop g => exact g.eq.symm
    | @go _ j2 r2 g hj2 k2 =>
      have := ih (by omega) (by simp)
      rw [List.getLast_cons (by simp)]
      exact this
/-- From one to the next. -/
theorem Pl.chain {i : Nat} {J : List Nat} (h : Pl N m i J) : ∀ a, a + 1 < J.length → N (J.getD (a + 1) 0) = N (J.getD a 0 + 1) := by
  induction h with
  | stop h => intro a ha; simp at ha
  | @go i j r h hj k ih =>
    intro a ha
    cases a with
    | zero =>
      cases k with
      | stop g => simp at ha
      | go g _ _ => exact g.eq
    | succ a => exact ih a (by simpa using ha)
end
end Go.Proofs.Ytgnnimhhkbbfiaa.M
