/- Words of this session's own for rows over structs: an argument that is a slice of structs of whole numbers, laid open. -/
import Derived.Test.YtppjelkljihdoaaDoorWWords
import Derived.Deep.Slices
import Derived.Deep.Fields
import Derived.ChangeSame
import Derived.Lib.SmallJoins
set_option linter.unusedVariables false
set_option linter.unusedSimpArgs false
namespace Go.Proofs.YtppjelkljihdoaaDoorR
open Go.ChangeShapes Go.WideShapes Go.RowKit Go.Deep Go.Proofs.YtppjelkljihdoaaDoorW.PrintWords
theorem exists_list {β : Type} (n : Nat) (Q : Nat → β → Prop) (h : ∀ i, i < n → ∃ b, Q i b) : ∃ l : List β, l.length = n ∧ ∀ i b, l[i]? = some b → Q i b := by
  induction n with
  | zero => exact ⟨[], rfl, fun i b hi => by simp at hi⟩
  | succ n ih =>
    obtain ⟨l, hl, hq⟩ := ih (fun i hi => h i (by omega))
    obtain ⟨b, hb⟩ := h n (by omega)
    refine ⟨l ++ [b], by simp [hl], fun i c hi => ?_⟩
    rcases Nat.lt_or_ge i l.length with h1 | h1
    · rw [List.getElem?_append_left h1] at hi
      exact hq i c hi
    · have h2 : i = l.length := by
        have := (List.getElem?_eq_some_iff.1 hi).1
        rw [List.length_append, List.length_singleton] at this
        omega
      subst h2
      have h3 : b = c := by simpa using hi
      subst h3
      rw [hl]
      exact hb
section
variable {H : Type} {enc : TypeId × Value → H} {P : Program} {w : World} {base : Nat} {spare : Nat → Bool} {held : Bool} {α : Type}
theorem open_flat (d : Kd α) (f : List Int → α) {t e : TypeId} {fs : Array Field} (ht : P.underlying t = some (.slice e)) (he : P.underlying e = some (.struct fs)) (hone : oneCellFields P fs = true) (hC : P.cellsOf e = fs.size)
    (hint : ∀ (j : Nat) (g : Field), fs[j]? = some g → P.underlying g.type = some (.int .i64)) (hsz : d.sz = fs.size) (hK : ∀ (w : World) (r : List Int), r.length = fs.size → d.K w (f r) (r.map (Value.int .i64)))
    {fuel : Nat} {cs : List Value} {x : DataW H × List MemPlace} (h : DataW.trod enc P w base spare held fuel t cs = some x) :
    ∃ (A : Option Addr) (len cap : Nat) (rows : List (List Int)), cs = [.slice A len cap] ∧ rows.length = len ∧ len ≤ cap ∧ len ≤ maxLen ∧ (∀ r ∈ rows, r.length = fs.size ∧ ∀ n ∈ r, (Lit.int .i64 n).wf = true) ∧ Kd.C d w A len (rows.map f) := by
  rcases open_slice ht h with ⟨rfl, _⟩ | ⟨a, len, cap, m, n, D, Pl, hcs, hb, hl, hm, hmm, hx, hi⟩
  · exact ⟨none, 0, 0, [], rfl, rfl, Nat.le_refl _, Nat.zero_le _, by simp, rfl, by omega, fun h => absurd h (by omega)⟩
  · have hlm : len ≤ m := by rw [hmm]; split <;> omega
    have one : ∀ i, i < len → ∃ r : List Int, r.length = fs.size ∧ (∀ n ∈ r, (Lit.int .i64 n).wf = true) ∧ ∀ j z, r[j]? = some z → w.cell? (a.add (i * fs.size + j)) = some (.int .i64 z) := by
      intro i hil
      obtain ⟨cs', hc, ht'⟩ := hi i (by omega)
      rw [hC] at hc
      obtain ⟨ys, n', hn', hy, hlen, hyl, hf⟩ := DataW.trod_struct he ht'
      obtain ⟨_, hcl, hat⟩ := World.cells?_some hc
      obtain ⟨r, hr, hq⟩ := exists_list fs.size (fun (j : Nat) (z : Int) => w.cell? (a.add (i * fs.size + j)) = some (.int .i64 z) ∧ (Lit.int .i64 z).wf = true) (fun j hj => by
        have hg : fs[j]? = some fs[j] := Array.getElem?_eq_getElem hj
        obtain ⟨ho, hk⟩ := hone_of hone j fs[j] hg
        have hcell := hat j hj
        have hv : cs'[j]? = some (cs'[j]'(by omega)) := List.getElem?_eq_getElem (by omega)
        have h1 := hf j fs[j] hg
        rw [ho, hk] at h1
        have hone' : (cs'.drop j).take 1 = [cs'[j]'(by omega)] := by
          rw [List.drop_eq_getElem_cons (by omega)]
          rfl
        rw [hone'] at h1
        have hys : ys[j]? = some (ys[j]'(by omega)) := List.getElem?_eq_getElem (by omega)
        obtain ⟨z, hz, _, hw⟩ := DataW.trod_int (hint j fs[j] hg) (h1.trans hys)
        have hz' : cs'[j]'(by omega) = .int .i64 z := by simpa using hz
        refine ⟨z, ?_, hw⟩
        rw [← Go.Deep.add_add, hcell, hv, hz'])
      refine ⟨r, hr, fun z hz => ?_, fun j z hj => (hq j z hj).1⟩
      obtain ⟨j, hj, rfl⟩ := List.getElem_of_mem hz
      exact (hq j _ (List.getElem?_eq_getElem hj)).2
    obtain ⟨rows, hrl, hq⟩ := exists_list len (fun (i : Nat) (r : List Int) => r.length = fs.size ∧ (∀ n ∈ r, (Lit.int .i64 n).wf = true) ∧ ∀ j z, r[j]? = some z → w.cell? (a.add (i * fs.size + j)) = some (.int .i64 z)) one
    refine ⟨some a, len, cap, rows, hcs, hrl, hl, Nat.le_trans hl hm, fun r hr => ?_, by rw [List.length_map, hrl], by have := Nat.le_trans hl hm; simpa [maxLen] using this, fun _ => ⟨a, rfl, fun j p hj => ?_⟩⟩
    · obtain ⟨j, hj, rfl⟩ := List.getElem_of_mem hr
      have := hq j _ (List.getElem?_eq_getElem hj)
      exact ⟨this.1, this.2.1⟩
    · rw [List.getElem?_map] at hj
      obtain ⟨r, hr, rfl⟩ := Option.map_eq_some_iff.1 hj
      obtain ⟨h1, h2, h3⟩ := hq j r hr
      refine ⟨r.map (Value.int .i64), by rw [List.length_map, h1, hsz], hK w r h1, fun i u hu => ?_⟩
      rw [List.getElem?_map] at hu
      obtain ⟨z, hz, rfl⟩ := Option.map_eq_some_iff.1 hu
      rw [hsz]
      exact h3 i z hz
theorem wf_at {r : List Int} (h : ∀ n ∈ r, (Lit.int .i64 n).wf = true) (j : Nat) (hj : j < r.length) : (Lit.int .i64 (r.getD j 0)).wf = true := by
  rw [List.getD_eq_getElem?_getD, List.getElem?_eq_getElem hj]
  exact h _ (List.getElem_mem _)
end
end Go.Proofs.YtppjelkljihdoaaDoorR
