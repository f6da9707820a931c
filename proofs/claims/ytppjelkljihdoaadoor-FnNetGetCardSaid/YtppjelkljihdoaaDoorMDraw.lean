/- What the drawing functions draw: a number below n; the place moves on. -/
import Derived.Test.YtppjelkljihdoaaDoorY
import Derived.Test.YtppjelkljihdoaaDoorPrintF22
import Derived.Test.YtppjelkljihdoaaDoorPrintF39
import Derived.Test.YtppjelkljihdoaaDoorPrintF48
set_option linter.unusedVariables false
set_option linter.unusedSimpArgs false
namespace Go.Proofs.YtppjelkljihdoaaDoor.M
open Go.RowKit Go.Proofs.YtppjelkljihdoaaDoor.Print Go.Proofs.YtppjelkljihdoaaDoorW.PrintWords Go.Proofs.YtppjelkljihdoaaDoorW.PrintLast Go.Proofs.YtppjelkljihdoaaDoorY
theorem xor_k (k : IntKind) (j : Nat) (hj : j ≤ k.bits) (hk : ∀ n : Int, 0 ≤ n → n < 2 ^ j → k.wrap n = n) (a b : Nat) (ha : a < 2 ^ j) (hb : b < 2 ^ j) : Go.bits .xor k a b = ((a ^^^ b : Nat) : Int) := by
  have hp : 2 ^ j ≤ 2 ^ k.bits := Nat.pow_le_pow_right (by decide) hj
  have ha' : a % 2 ^ k.bits = a := Nat.mod_eq_of_lt (Nat.lt_of_lt_of_le ha hp)
  have hb' : b % 2 ^ k.bits = b := Nat.mod_eq_of_lt (Nat.lt_of_lt_of_le hb hp)
  have cast : ∀ n : Nat, n < 2 ^ j → ((n : Nat) : Int) < 2 ^ j := fun n h => by exact_mod_cast h
  simp only [Go.bits, BitVec.ofInt_natCast, BitVec.toNat_xor, BitVec.toNat_ofNat, ha', hb']
  exact hk _ (Int.natCast_nonneg _) (cast _ (Nat.xor_lt_two_pow ha hb))
theorem xor_nat (a b : Nat) (ha : a < 2 ^ 62) (hb : b < 2 ^ 62) : Go.bits .xor .i64 (a : Int) (b : Int) = ((a ^^^ b : Nat) : Int) :=
  xor_k .i64 62 (by decide) (fun n h0 h1 => by rw [IntKind.wrap_i64]; omega) a b ha hb
/-- A code: bytes, not too many. -/
def Code (l : List Int) : Prop := l.length ≤ 2000 ∧ ∀ x ∈ l, 0 ≤ x ∧ x ≤ 255
theorem Code.rd {l : List Int} (h : Code l) (i : Int) : 0 ≤ rd l i ∧ rd l i ≤ 255 := by
  unfold Go.Proofs.YtppjelkljihdoaaDoorW.PrintWords.rd
  rw [List.getD_eq_getElem?_getD]
  cases e : l[i.toNat]? with
  | none => simp
  | some x => exact h.2 x (List.mem_of_getElem? e)
theorem tmod_nn {a b : Int} (ha : 0 ≤ a) : Int.tmod a b = a % b := Int.tmod_eq_emod_of_nonneg ha
theorem tdiv_nn {a b : Int} (ha : 0 ≤ a) : Int.tdiv a b = a / b := Int.tdiv_eq_ediv_of_nonneg ha
theorem pick_ev (l : List Int) (hl : Code l) (p n : Int) (hp0 : 0 ≤ p) (hp : p ≤ 1000000) (hn1 : n ≤ 1000000) :
    ∃ r, Ev (fun k => spec_l30Rd_pick.f k l p n) (r, p + 1) ∧ 0 ≤ r ∧ (1 ≤ n → r < n) ∧ (n ≤ 1 → r = 0) := by
  unfold spec_l30Rd_pick.f
  rw [w64 (x := p + 1) (by omega) (by omega)]
  by_cases h1 : n < 1
  · refine ⟨0, Ev.pos h1 (Ev.step (fun k => spec_l30Rd_pick.j0.eq_2 _ _ _ _ _) ?_), by omega, by omega, by omega⟩
    exact Ev.pos rfl (Ev.now _)
  by_cases h2 : (l.length : Int) = 0
  · refine ⟨0, Ev.neg h1 (Ev.step (fun k => spec_l30Rd_pick.j0.eq_2 _ _ _ _ _) ?_), by omega, by omega, by omega⟩
    exact Ev.pos (by simpa using h2) (Ev.now _)
  have hlen : (l.length : Int) ≤ 2000 := by have := hl.1; omega
  have hpos : 0 < (l.length : Int) := by omega
  by_cases h3 : p < (l.length : Int)
  · obtain ⟨b0, b1⟩ := hl.rd p
    have e : Int.tmod (rd l p) n = rd l p % n := tmod_nn b0
    refine ⟨rd l p % n, Ev.neg h1 (Ev.step (fun k => spec_l30Rd_pick.j0.eq_2 _ _ _ _ _) ?_), Int.emod_nonneg _ (by omega), fun h => Int.emod_lt_of_pos _ (by omega), fun h => ?_⟩
    · refine Ev.neg (by simpa using h2) ?_
      rw [w64 (x := p + 1 - 1) (by omega) (by omega), show p + 1 - 1 = p by omega]
      refine Ev.pos h3 (Ev.pos hp0 (Ev.neg (by omega) (Ev.now' ?_)))
      rw [w64 (by omega) (by omega), e]
    · have : n = 1 := by omega
      subst this
      omega
  · have m0 := Int.emod_nonneg p (show (l.length : Int) ≠ 0 by omega)
    have m1 := Int.emod_lt_of_pos p hpos
    have q0 := Int.emod_nonneg (p * 7 + 3) (show (l.length : Int) ≠ 0 by omega)
    have q1 := Int.emod_lt_of_pos (p * 7 + 3) hpos
    obtain ⟨b0, b1⟩ := hl.rd (p % (l.length : Int))
    obtain ⟨d0, d1⟩ := hl.rd ((p * 7 + 3) % (l.length : Int))
    have v0 : 0 ≤ p / (l.length : Int) := Int.ediv_nonneg hp0 (by omega)
    have v1 : p / (l.length : Int) ≤ p := Int.ediv_le_self _ hp0
    obtain ⟨X, hX⟩ : ∃ X : Int, X = rd l (p % (l.length : Int)) * 131 + rd l ((p * 7 + 3) % (l.length : Int)) * 1117 + p * 29 + p / (l.length : Int) * 53 := ⟨_, rfl⟩
    have x0 : 0 ≤ X := by omega
    have x1 : X ≤ 1000000000 := by omega
    have hxor : ∃ z : Int, Go.bits .xor .i64 X (X / 64) = z ∧ 0 ≤ z := by
      obtain ⟨a, rfl⟩ := Int.eq_ofNat_of_zero_le x0
      have : ((a : Int) / 64) = ((a / 64 : Nat) : Int) := by omega
      rw [this]
      refine ⟨_, xor_nat a (a / 64) (by omega) (by omega), Int.natCast_nonneg _⟩
    obtain ⟨z, hz, z0⟩ := hxor
    refine ⟨z % n, Ev.neg h1 (Ev.step (fun k => spec_l30Rd_pick.j0.eq_2 _ _ _ _ _) ?_), Int.emod_nonneg _ (by omega), fun h => Int.emod_lt_of_pos _ (by omega), fun h => ?_⟩
    · refine Ev.neg (by simpa using h2) ?_
      rw [w64 (x := p + 1 - 1) (by omega) (by omega), show p + 1 - 1 = p by omega]
      rw [w64 (x := p * 7) (by omega) (by omega), w64 (x := p * 7 + 3) (by omega) (by omega)]
      rw [tmod_nn (a := p) hp0, tmod_nn (a := p * 7 + 3) (by omega), tdiv_nn hp0]
      rw [w64 (x := rd l (p % (l.length : Int))) (by omega) (by omega), w64 (x := rd l ((p * 7 + 3) % (l.length : Int))) (by omega) (by omega)]
      rw [w64 (x := rd l (p % (l.length : Int)) * 131) (by omega) (by omega), w64 (x := rd l ((p * 7 + 3) % (l.length : Int)) * 1117) (by omega) (by omega), w64 (x := p * 29) (by omega) (by omega), w64 (x := p / (l.length : Int)) (by omega) (by omega)]
      rw [w64 (x := p / (l.length : Int) * 53) (by omega) (by omega)]
      rw [w64 (x := rd l (p % (l.length : Int)) * 131 + rd l ((p * 7 + 3) % (l.length : Int)) * 1117) (by omega) (by omega)]
      rw [w64 (x := rd l (p % (l.length : Int)) * 131 + rd l ((p * 7 + 3) % (l.length : Int)) * 1117 + p * 29) (by omega) (by omega)]
      rw [w64 (x := rd l (p % (l.length : Int)) * 131 + rd l ((p * 7 + 3) % (l.length : Int)) * 1117 + p * 29 + p / (l.length : Int) * 53) (by omega) (by omega)]
      rw [← hX, tdiv_nn x0, w64 (x := X / 64) (by omega) (by omega), hz, tmod_nn z0]
      refine Ev.neg h3 (Ev.neg h2 (Ev.pos m0 (Ev.pos m1 (Ev.pos q0 (Ev.pos q1 (Ev.neg (by omega) (Ev.now _)))))))
    · have : n = 1 := by omega
      subst this
      omega
theorem one_ev (l : List Int) (hl : Code l) (p : Int) (xs : List Int) (hp0 : 0 ≤ p) (hp : p ≤ 1000000) (hx : 1 ≤ xs.length) (hx1 : xs.length ≤ 1000) :
    ∃ r, Ev (fun k => spec_l30Rd_one.f k l p xs) (r, p + 1) ∧ r ∈ xs := by
  obtain ⟨r, hr, r0, r1, _⟩ := pick_ev l hl p (xs.length : Int) hp0 hp (by omega)
  have r2 := r1 (by omega)
  refine ⟨rd xs r, ?_, ?_⟩
  · unfold spec_l30Rd_one.f
    exact Ev.bnd hr (Ev.pos r0 (Ev.pos r2 (Ev.now _)))
  · unfold Go.Proofs.YtppjelkljihdoaaDoorW.PrintWords.rd
    rw [List.getD_eq_getElem?_getD, List.getElem?_eq_getElem (by omega)]
    exact List.getElem_mem _
theorem open_eq (l : List Int) (hb : ∀ x ∈ l, (Lit.int .u8 x).wf = true) : ∃ c, spec_l30Open.f l = some (c, 0) ∧ Code c := by
  have hb' : ∀ x ∈ l, 0 ≤ x ∧ x ≤ 255 := fun x hx => by
    have := hb x hx
    simp [Lit.wf, IntKind.min, IntKind.max, IntKind.signed, IntKind.bits] at this
    omega
  unfold spec_l30Open.f
  by_cases h : (l.length : Int) > 2000
  · rw [if_pos h, if_pos (by omega)]
    exact ⟨_, rfl, by rw [List.length_take]; omega, fun x hx => hb' x (List.mem_of_mem_take hx)⟩
  · rw [if_neg h]
    exact ⟨_, rfl, by omega, hb'⟩
end Go.Proofs.YtppjelkljihdoaaDoor.M
