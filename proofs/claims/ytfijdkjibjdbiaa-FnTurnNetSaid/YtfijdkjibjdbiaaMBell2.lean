/- Costs with turns: what the program's passes and the reference's rounds come to. -/
import Derived.Test.YtfijdkjibjdbiaaY
import Derived.Test.YtfijdkjibjdbiaaMNet
import Derived.Test.YtfijdkjibjdbiaaMTurns
import Derived.Test.YtfijdkjibjdbiaaMTurns2
import Derived.Test.YtfijdkjibjdbiaaMBell
import Derived.Test.YtfijdkjibjdbiaaMEdge
import Derived.Test.YtfijdkjibjdbiaaPrintF10
import Derived.Test.YtfijdkjibjdbiaaPrintF8
set_option linter.unusedVariables false
set_option linter.unusedSimpArgs false
namespace Go.Proofs.Ytfijdkjibjdbiaa.M
open Go.RowKit Go.Proofs.Ytfijdkjibjdbiaa.Print Go.Proofs.YtfijdkjibjdbiaaW.PrintWords Go.Proofs.YtfijdkjibjdbiaaW.PrintLast Go.Proofs.YtfijdkjibjdbiaaY
def tG {n : Int} {l : List Ar} (hN : NetP n l) (t : List Tu) (v : Int) : Gr where
  m := l.length
  S := tS l v
  E := tE l t
  W := tW l t
  hS := fun i hi => by have := arcAt hN i hi; unfold tS; split <;> omega
  hW := fun k i hk hi he => by have := arcAt hN i hi; have := (tE_iff.1 he).2; unfold tW; omega
theorem mn_eq (a b : Int) : mn a b = min a b := by unfold mn; split <;> omega
section
variable {n : Int} {l : List Ar} (hN : NetP n l) (t : List Tu) (v : Int) (ht : t.length ≤ 1000000000) (hb : ∀ x ∈ t, -1 ≤ x.f2 ∧ x.f2 ≤ 99)
include ht hb
/-! ### The program -/
theorem iA_in {d : List Int} (hd : GInv (tG hN t v) d) (c : Bool) (i : Nat) (hi : i < l.length) {r : List Int} (x3 x4 : Int) (dd : Nat) : ∀ (q : Nat) (b : Int), q ≤ l.length → l.length - q = dd →
    Ev (fun k => impl_TurnAll.l1 k t v (if gB (tG hN t v) d i b q dd < d.getD i 0 then d.set i (gB (tG hN t v) d i b q dd) else d) (if gB (tG hN t v) d i b q dd < d.getD i 0 then true else c) l (l.length : Int) ((i + 1 : Nat) : Int) n l) r →
    Ev (fun k => impl_TurnAll.l2 k t v d c (i : Int) b l (l.length : Int) (i : Int) l (l.length : Int) (q : Int) n l (l.getD i arz).f0 (l.getD i arz).f1 (l.getD i arz).f2 x3 x4) r := by
  have hl : d.length = l.length := hd.len
  have hfew := hN.few
  have ga := arcAt hN i hi
  induction dd with
  | zero =>
    intro q b hq hdd h
    refine Ev.step (fun k => impl_TurnAll.l2.eq_2 _ _ _ _ _ _ _ _ _ _ _ _ _ _ _ _ _ _ _ _) (Ev.neg (by omega) (Ev.pos (by omega) (Ev.pos (by omega) ?_)))
    rw [rdI, nxt i (by omega), Int.toNat_natCast]
    unfold gB at h
    by_cases hc : b < d.getD i 0
    · rw [if_pos hc, if_pos hc] at h; exact Ev.pos hc h
    · rw [if_neg hc, if_neg hc] at h; exact Ev.neg hc h
  | succ dd ih =>
    intro q b hq hdd h
    have rq := hd.rng q (show q < l.length by omega)
    have bc := tCost_bd (q : Int) (i : Int) t hb
    refine Ev.step (fun k => impl_TurnAll.l2.eq_2 _ _ _ _ _ _ _ _ _ _ _ _ _ _ _ _ _ _ _ _) (Ev.pos (by omega) (Ev.pos (by omega) (Ev.pos (by omega) (Ev.bnd (iturning_ev _ _ t ht) ?_))))
    rw [rdI, rdA, nxt q (by omega), w64 (x := d.getD q 0 + tCost (q : Int) (i : Int) t) (by omega) (by omega), w64 (x := d.getD q 0 + tCost (q : Int) (i : Int) t + (l.getD i arz).f2) (by omega) (by omega), mn_eq]
    unfold gB at h
    have no : ¬ ((tG hN t v).E q i = true ∧ d.getD q 0 < 99999) → Ev (fun k => impl_TurnAll.l2 k t v d c (i : Int) b l (l.length : Int) (i : Int) l (l.length : Int) ((q + 1 : Nat) : Int) n l (l.getD i arz).f0 (l.getD i arz).f1 (l.getD i arz).f2 x3 x4) r := fun hn => by
      rw [if_neg hn] at h
      exact ih (q + 1) b (by omega) (by omega) h
    by_cases c0 : (l.getD q arz).f1 = (l.getD i arz).f0
    · refine Ev.pos c0 (Ev.pos (by omega) ?_)
      by_cases c1 : d.getD q 0 < 99999
      · refine Ev.pos c1 ?_
        by_cases c2 : tCost (q : Int) (i : Int) t ≥ 0
        · refine Ev.pos c2 ?_
          rw [if_pos (show (tG hN t v).E q i = true ∧ d.getD q 0 < 99999 from ⟨tE_iff.2 ⟨c0, c2⟩, c1⟩)] at h
          have e : d.getD q 0 + tCost (q : Int) (i : Int) t + (l.getD i arz).f2 = d.getD q 0 + (tG hN t v).W q i := by show _ = d.getD q 0 + (tCost (q : Int) (i : Int) t + (l.getD i arz).f2); omega
          rw [e]
          exact ih (q + 1) _ (by omega) (by omega) h
        · exact Ev.neg c2 (no (fun z => c2 (tE_iff.1 z.1).2))
      · exact Ev.neg c1 (no (fun z => c1 z.2))
    · exact Ev.neg c0 (no (fun z => c0 (tE_iff.1 z.1).1))
theorem iA_pass {r : List Int} (dd : Nat) : ∀ (i : Nat) (d : List Int) (c : Bool), i ≤ l.length → l.length - i = dd → GInv (tG hN t v) d →
    Ev (fun k => impl_TurnAll.l0 k t v (gPass (tG hN t v) d c i dd).1 (gPass (tG hN t v) d c i dd).2 n l) r → Ev (fun k => impl_TurnAll.l1 k t v d c l (l.length : Int) (i : Int) n l) r := by
  have hfew := hN.few
  induction dd with
  | zero =>
    intro i d c hi hdd hd h
    unfold gPass at h
    exact Ev.step (fun k => impl_TurnAll.l1.eq_2 _ _ _ _ _ _ _ _ _ _) (Ev.neg (by omega) h)
  | succ dd ih =>
    intro i d c hi hdd hd h
    have hi' : i < (tG hN t v).m := by show i < l.length; omega
    refine Ev.step (fun k => impl_TurnAll.l1.eq_2 _ _ _ _ _ _ _ _ _ _) (Ev.pos (by omega) (Ev.pos (by omega) (Ev.pos (by omega) ?_)))
    rw [rdA]
    have go : ∀ b : Int, b = (tG hN t v).S i → Ev (fun k => impl_TurnAll.j3 k t v d c (i : Int) b l (l.length : Int) (i : Int) n l (l.getD i arz).f0 (l.getD i arz).f1 (l.getD i arz).f2 (l.getD i arz).f3 (l.getD i arz).f4) r := fun b hbS => by
      subst hbS
      refine Ev.step (fun k => impl_TurnAll.j3.eq_2 _ _ _ _ _ _ _ _ _ _ _ _ _ _ _ _ _) (iA_in hN t v ht hb hd c i (by omega) _ _ l.length 0 _ (by omega) (by omega) ?_)
      unfold gPass at h
      by_cases hc : gL (tG hN t v) d i < d.getD i 0
      · rw [if_pos hc] at h
        have hset := gL_set hd hi' hc
        have hc' : gB (tG hN t v) d i ((tG hN t v).S i) 0 l.length < d.getD i 0 := hc
        rw [if_pos hc', if_pos hc']
        exact ih (i + 1) _ true (by omega) (by omega) hset.1 h
      · rw [if_neg hc] at h
        have hc' : ¬ gB (tG hN t v) d i ((tG hN t v).S i) 0 l.length < d.getD i 0 := hc
        rw [if_neg hc', if_neg hc']
        exact ih (i + 1) d c (by omega) (by omega) hd h
    refine Ev.ite (fun e => go _ ?_) (fun e => go _ ?_)
    · show _ = tS l v i; unfold tS; rw [if_pos e]
    · show _ = tS l v i; unfold tS; rw [if_neg e]
theorem iA_loop (s : Nat) : ∀ d : List Int, dSum d = s → GInv (tG hN t v) d → ∃ d', GInv (tG hN t v) d' ∧ GFix (tG hN t v) d' ∧ ∀ r, Ev (fun k => impl_TurnAll.l0 k t v d' false n l) r → Ev (fun k => impl_TurnAll.l0 k t v d true n l) r := by
  induction s using Nat.strongRecOn with
  | ind s ih =>
    intro d hs hd
    obtain ⟨a1, a2, a3, a4⟩ := gPass_spec (G := tG hN t v) l.length (d := d) (c := false) (i := 0) hd (by show 0 + l.length = l.length; omega)
    have go : ∀ r, Ev (fun k => impl_TurnAll.l0 k t v (gPass (tG hN t v) d false 0 l.length).1 (gPass (tG hN t v) d false 0 l.length).2 n l) r → Ev (fun k => impl_TurnAll.l0 k t v d true n l) r := fun r h =>
      Ev.step (fun k => impl_TurnAll.l0.eq_2 _ _ _ _ _ _ _) (Ev.pos rfl (iA_pass hN t v ht hb l.length 0 d false (by omega) (by omega) hd h))
    cases hp : (gPass (tG hN t v) d false 0 l.length).2 with
    | false =>
      obtain ⟨_, e, hf⟩ := a2 hp
      refine ⟨d, hd, gFix_of (fun j hj => hf j (by omega) hj), fun r h => go r ?_⟩
      rw [hp, e]; exact h
    | true =>
      have hlt := (a3 hp).resolve_left (by simp)
      obtain ⟨d', h1, h2, h3⟩ := ih _ (by omega) _ rfl a1
      exact ⟨d', h1, h2, fun r h => go r (by rw [hp]; exact h3 r h)⟩
end
/-! ### From the arcs to the nodes -/
def finG (l : List Ar) (B : List Int) (o : List Int) : Nat → Nat → List Int
  | _, 0 => o
  | i, d + 1 => finG l B (o.set (l.getD i arz).f1.toNat (min (o.getD (l.getD i arz).f1.toNat 0) (B.getD i 0))) (i + 1) d
theorem finG_len (l : List Ar) (B : List Int) (d : Nat) : ∀ (o : List Int) (i : Nat), (finG l B o i d).length = o.length := by
  induction d with
  | zero => intro o i; rfl
  | succ d ih => intro o i; unfold finG; rw [ih, List.length_set]
theorem getS2 (d : List Int) (i j : Nat) (b : Int) : (d.set i b).getD j 0 = if i = j ∧ i < d.length then b else d.getD j 0 := by
  simp only [List.getD_eq_getElem?_getD, List.getElem?_set]
  by_cases e : i = j
  · subst e
    by_cases h : i < d.length
    · rw [if_pos rfl, if_pos h, if_pos ⟨rfl, h⟩]; rfl
    · rw [if_pos rfl, if_neg h, if_neg (fun z => h z.2), List.getElem?_eq_none (by omega)]
  · rw [if_neg e, if_neg (fun z => e z.1)]
/-- What stands at a node: no more than what stood there, nor than what any arc to it costs; and it is one of these. -/
theorem finG_spec (l : List Ar) (B : List Int) (d : Nat) : ∀ (o : List Int) (i j : Nat), (finG l B o i d).getD j 0 ≤ o.getD j 0 ∧
    (∀ q, i ≤ q → q < i + d → (l.getD q arz).f1.toNat = j → j < o.length → (finG l B o i d).getD j 0 ≤ B.getD q 0) ∧
    ((finG l B o i d).getD j 0 = o.getD j 0 ∨ ∃ q, i ≤ q ∧ q < i + d ∧ (l.getD q arz).f1.toNat = j ∧ (finG l B o i d).getD j 0 = B.getD q 0) := by
  induction d with
  | zero => intro o i j; exact ⟨Int.le_refl _, fun q h1 h2 => by omega, .inl rfl⟩
  | succ d ih =>
    intro o i j
    unfold finG
    obtain ⟨h1, h2, h3⟩ := ih (o.set (l.getD i arz).f1.toNat (min (o.getD (l.getD i arz).f1.toNat 0) (B.getD i 0))) (i + 1) j
    rw [List.length_set] at h2
    rw [getS2] at h1 h3
    by_cases e : (l.getD i arz).f1.toNat = j ∧ (l.getD i arz).f1.toNat < o.length
    · rw [if_pos e] at h1 h3
      obtain ⟨e1, e2⟩ := e
      rw [e1] at h1 h3 h2 ⊢
      have m1 : min (o.getD j 0) (B.getD i 0) ≤ o.getD j 0 := Int.min_le_left _ _
      have m2 : min (o.getD j 0) (B.getD i 0) ≤ B.getD i 0 := Int.min_le_right _ _
      have m3 : min (o.getD j 0) (B.getD i 0) = o.getD j 0 ∨ min (o.getD j 0) (B.getD i 0) = B.getD i 0 := by
        rcases Int.le_total (o.getD j 0) (B.getD i 0) with c | c
        · left; exact Int.min_eq_left c
        · right; exact Int.min_eq_right c
      refine ⟨Int.le_trans h1 m1, fun q q1 q2 qe qj => ?_, ?_⟩
      · by_cases eq : q = i
        · subst eq; exact Int.le_trans h1 m2
        · exact h2 q (by omega) (by omega) qe qj
      · rcases h3 with h3 | ⟨q, q1, q2, q3, q4⟩
        · rcases m3 with m3 | m3
          · exact .inl (h3.trans m3)
          · exact .inr ⟨i, Nat.le_refl _, by omega, e1, h3.trans m3⟩
        · exact .inr ⟨q, by omega, by omega, q3, q4⟩
    · rw [if_neg e] at h1 h3
      refine ⟨h1, fun q q1 q2 qe qj => ?_, ?_⟩
      · by_cases eq : q = i
        · subst eq; exact absurd ⟨qe, by omega⟩ e
        · exact h2 q (by omega) (by omega) qe qj
      · rcases h3 with h3 | ⟨q, q1, q2, q3, q4⟩
        · exact .inl h3
        · right; exact ⟨q, by omega, by omega, q3, q4⟩
def outA (n : Int) (l : List Ar) (v : Int) (B : List Int) : List Int := finG l B ((List.replicate n.toNat (99999 : Int)).set v.toNat 0) 0 l.length
theorem outA_len (n : Int) (l : List Ar) (v : Int) (B : List Int) : (outA n l v B).length = n.toNat := by unfold outA; rw [finG_len]; simp
theorem outA_init {n v : Int} (h0 : 0 ≤ v) (h1 : v < n) (j : Nat) (hj : (j : Int) < n) : ((List.replicate n.toNat (99999 : Int)).set v.toNat 0).getD j 0 = if v = j then 0 else 99999 := by
  rw [getS2, List.length_replicate]
  by_cases e : v = j
  · rw [if_pos ⟨by omega, by omega⟩, if_pos e]
  · rw [if_neg (fun z => e (by omega)), if_neg e, List.getD_eq_getElem?_getD, List.getElem?_replicate, if_pos (by omega)]; rfl
theorem iA_fin {n : Int} {l : List Ar} (hN : NetP n l) (B : List Int) (hB : B.length = l.length) (dd : Nat) : ∀ (i : Nat) (o : List Int), i ≤ l.length → l.length - i = dd → o.length = n.toNat →
    Ev (fun k => impl_TurnAll.l3 k B o l (l.length : Int) (i : Int)) (finG l B o i dd) := by
  have hfew := hN.few
  induction dd with
  | zero =>
    intro i o hi hdd ho
    refine Ev.step (fun k => impl_TurnAll.l3.eq_2 _ _ _ _ _ _) (Ev.neg (by omega) (Ev.bnd0 (a := o) rfl (Ev.now' rfl)))
  | succ dd ih =>
    intro i o hi hdd ho
    have ga := arcAt hN i (by omega)
    refine Ev.step (fun k => impl_TurnAll.l3.eq_2 _ _ _ _ _ _) (Ev.pos (by omega) (Ev.pos (by omega) (Ev.pos (by omega) ?_)))
    rw [rdA, nxt i (by omega), mn_eq]
    refine Ev.pos (by omega) (Ev.pos (by omega) (Ev.pos (by omega) ?_))
    unfold finG
    rw [rdI]
    exact ih (i + 1) _ (by omega) (by omega) (by rw [List.length_set]; exact ho)
/-! ### Whole functions -/
def turnAllB (n : Int) (l : List Ar) (t : List Tu) (v : Int) : Bool := turnsB n l t && decide (0 ≤ v ∧ v ≤ wrap64 (n - 1))
theorem turnAllB_of {n v : Int} {l : List Ar} {t : List Tu} (h : turnAllB n l t v = true) : turnsB n l t = true ∧ NetP n l ∧ 0 ≤ v ∧ v < n := by
  unfold turnAllB at h
  simp only [Bool.and_eq_true, decide_eq_true_eq] at h
  have hN := netP_of (turns_net h.1)
  have := hN.lo
  have := hN.hi
  rw [w64 (x := n - 1) (by omega) (by omega)] at h
  exact ⟨h.1, hN, by omega, by omega⟩
theorem turnAllB_to {n v : Int} {l : List Ar} {t : List Tu} (h : turnsB n l t = true) (h0 : 0 ≤ v) (h1 : v < n) : turnAllB n l t v = true := by
  have hN := netP_of (turns_net h)
  have := hN.lo
  have := hN.hi
  unfold turnAllB
  rw [h, w64 (x := n - 1) (by omega) (by omega)]
  simp; omega
theorem iturnAll_ev (n : Int) (l : List Ar) (t : List Tu) (v : Int) (hl : l.length ≤ 1000000000) (ht : t.length ≤ 1000000000) : ∃ d, Ev (fun k => impl_TurnAll.f k n l t v) d ∧ d.length ≤ 8 ∧ (turnAllB n l t v = false → d = []) ∧
    (turnAllB n l t v = true → ∃ (hN : NetP n l) (B : List Int), GInv (tG hN t v) B ∧ GFix (tG hN t v) B ∧ d = outA n l v B) := by
  have hasE : ∀ n : Int, impl_Net_has.f n l [v] = some (decide (0 ≤ v ∧ v ≤ wrap64 (n - 1))) := fun n => by
    show some (!([v].any (n_no n))) = _
    unfold n_no
    simp
  by_cases hb : turnAllB n l t v = true
  · obtain ⟨h1, hN, h2, h3⟩ := turnAllB_of hb
    have hfew := hN.few
    have n1 := hN.lo
    have n8 := hN.hi
    have hbd : ∀ x ∈ t, -1 ≤ x.f2 ∧ x.f2 ≤ 99 := fun x hx => (turns_in h1 x hx).2.2.2.2.2
    have hhas : decide (0 ≤ v ∧ v ≤ wrap64 (n - 1)) = true := by rw [w64 (x := n - 1) (by omega) (by omega)]; simp; omega
    obtain ⟨B, g, f, e⟩ := iA_loop hN t v ht hbd _ (List.replicate l.length 99999) rfl (ginv_far (G := tG hN t v))
    have hB : B.length = l.length := g.len
    refine ⟨outA n l v B, ?_, by rw [outA_len]; omega, fun h => absurd (hb.symm.trans h) (by simp), fun _ => ⟨hN, B, g, f, rfl⟩⟩
    · unfold impl_TurnAll.f
      refine Ev.bnd (iturns_ev n l t hl ht) (Ev.pos h1 (Ev.bnd0 (hasE n) ?_))
      rw [hhas]
      refine Ev.step (fun k => impl_TurnAll.j0.eq_2 _ _ _ _ _ _) (Ev.neg (by simp) (Ev.bnd0 (a := List.replicate l.length 99999) ?_ (e _ ?_)))
      · show (if (0 : Int) ≤ (l.length : Int) then (if (l.length : Int) ≤ 64 then some (List.replicate ((l.length : Int)).toNat (99999 : Int)) else none) else none) = _
        rw [if_pos (by omega), if_pos (by omega), Int.toNat_natCast]
      · refine Ev.step (fun k => impl_TurnAll.l0.eq_2 _ _ _ _ _ _ _) (Ev.neg (by simp) (Ev.bnd0 (a := List.replicate n.toNat 99999) ?_ (Ev.pos h2 (Ev.pos (by rw [List.length_replicate]; omega) ?_))))
        · show (if (0 : Int) ≤ n then (if n ≤ 64 then some (List.replicate n.toNat (99999 : Int)) else none) else none) = _
          rw [if_pos (by omega), if_pos (by omega)]
        · exact iA_fin hN B hB l.length 0 _ (by omega) (by omega) (by simp)
  · have hb' : turnAllB n l t v = false := by simpa using hb
    refine ⟨[], ?_, by simp, fun _ => rfl, fun h => absurd h hb⟩
    · unfold impl_TurnAll.f
      have no : Ev (fun k => impl_TurnAll.j0 k t v true n l) [] := Ev.step (fun k => impl_TurnAll.j0.eq_2 _ _ _ _ _ _) (Ev.pos rfl (Ev.now _))
      refine Ev.bnd (iturns_ev n l t hl ht) (Ev.ite (fun h => Ev.bnd0 (hasE n) ?_) (fun _ => no))
      have : decide (0 ≤ v ∧ v ≤ wrap64 (n - 1)) = false := by
        rw [Bool.eq_false_iff]; intro z; exact hb (by unfold turnAllB; rw [h, z]; rfl)
      rw [this]
      exact no
end Go.Proofs.Ytfijdkjibjdbiaa.M
