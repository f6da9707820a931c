/- A walk without its rings: what the program and the reference make of it. -/
import Derived.Test.YtgnnimhhkbbfiaaY
import Derived.Test.YtgnnimhhkbbfiaaMNet
import Derived.Test.YtgnnimhhkbbfiaaMWalk
import Derived.Test.YtgnnimhhkbbfiaaMWalk2
import Derived.Test.YtgnnimhhkbbfiaaMAlong
import Derived.Test.YtgnnimhhkbbfiaaMPlain
import Derived.Test.YtgnnimhhkbbfiaaPrintF11
set_option linter.unusedVariables false
set_option linter.unusedSimpArgs false
namespace Go.Proofs.Ytgnnimhhkbbfiaa.M
open Go.RowKit Go.Proofs.Ytgnnimhhkbbfiaa.Print Go.Proofs.YtgnnimhhkbbfiaaW.PrintWords Go.Proofs.YtgnnimhhkbbfiaaW.PrintLast Go.Proofs.YtgnnimhhkbbfiaaY
def nod (l : List Ar) (w : List Int) (i : Nat) : Int := (nodes l w).getD i 0
theorem nodes_len (l : List Ar) (w : List Int) : (nodes l w).length = w.length + 1 := by simp [nodes, tos]
theorem nod_succ (l : List Ar) (w : List Int) (i : Nat) (hi : i < w.length) : nod l w (i + 1) = (arc l (w.getD i 0)).f1 := by
  unfold nod nodes tos
  rw [List.getD_cons_succ, getDI _ _ (by rw [List.length_map]; exact hi), List.getElem_map, getDI w i hi]
theorem nod_at {l : List Ar} {w : List Int} (h : WalkP l w) (i : Nat) (hi : i < w.length) : (arc l (w.getD i 0)).f0 = nod l w i := by
  cases i with
  | zero => rfl
  | succ i => rw [nod_succ l w i (by omega)]; exact ((h.1 (i + 1) hi).2 (by omega)).symm
def plW (l : List Ar) (w : List Int) : List Int := (plJ (nod l w) w.length 0 (w.length + 1)).map (fun j => w.getD j 0)
theorem mx_nat (a b : Nat) : mx (a : Int) (b : Int) = ((max a b : Nat) : Int) := by unfold mx; split <;> omega
section
variable {l : List Ar} {w : List Int} (h : WalkP l w)
include h
/-! ### The program -/
theorem iPl_in {x : Int} {out : List Int} {r : List Int} (d : Nat) : ∀ (k j : Nat), k ≤ w.length + 1 → w.length + 1 - k = d → j ≤ w.length → nod l w j = x → out.length ≤ 1000 →
    (scanL (nod l w) x j k d = w.length → r = out) → (scanL (nod l w) x j k d < w.length → Ev (fun z => impl_WalkPlain.l0 z w (nodes l w) (out ++ [w.getD (scanL (nod l w) x j k d) 0]) ((scanL (nod l w) x j k d + 1 : Nat) : Int)) r) →
    Ev (fun z => impl_WalkPlain.l1 z w (nodes l w) out (j : Int) (nodes l w) ((nodes l w).length : Int) (k : Int)) r := by
  have h20 := h.2
  have hl := nodes_len l w
  induction d with
  | zero =>
    intro k j hk hd hj hx ho h1 h2
    unfold scanL at h1 h2
    refine Ev.step (fun z => impl_WalkPlain.l1.eq_2 _ _ _ _ _ _ _ _) (Ev.neg (by omega) ?_)
    by_cases c : j = w.length
    · exact Ev.pos (by omega) (Ev.now' (h1 c).symm)
    · refine Ev.neg (by omega) (Ev.pos (by omega) (Ev.pos (by omega) (Ev.pos (by omega) ?_)))
      rw [rdI, nxt j (by omega)]
      exact h2 (by omega)
  | succ d ih =>
    intro k j hk hd hj hx ho h1 h2
    refine Ev.step (fun z => impl_WalkPlain.l1.eq_2 _ _ _ _ _ _ _ _) (Ev.pos (by omega) (Ev.pos (by omega) (Ev.pos (by omega) (Ev.pos (by omega) (Ev.pos (by omega) ?_)))))
    rw [rdI, rdI, nxt k (by omega), mx_nat]
    unfold scanL at h1 h2
    by_cases c : nod l w k = x
    · rw [if_pos c] at h1 h2
      refine Ev.pos (show (nodes l w).getD k 0 = (nodes l w).getD j 0 from c.trans hx.symm) (ih (k + 1) (max j k) (by omega) (by omega) (by omega) ?_ ho h1 h2)
      by_cases e : j ≤ k
      · rw [Nat.max_eq_right e]; exact c
      · rw [Nat.max_eq_left (by omega)]; exact hx
    · rw [if_neg c] at h1 h2
      exact Ev.neg (fun z => c (show nod l w k = x from z.trans hx)) (ih (k + 1) j (by omega) (by omega) hj hx ho h1 h2)
theorem iPl_out (d : Nat) : ∀ (i : Nat) (out : List Int), i ≤ w.length → w.length + 1 ≤ i + d → out.length + d ≤ 500 →
    Ev (fun z => impl_WalkPlain.l0 z w (nodes l w) out (i : Int)) (out ++ (plJ (nod l w) w.length i d).map (fun j => w.getD j 0)) := by
  have h20 := h.2
  induction d with
  | zero => intro i out h1 h2; omega
  | succ d ih =>
    intro i out hi hd ho
    have hL := lastF_at (nod l w) hi
    have lo := hL.lo
    have hh := hL.hi
    refine Ev.step (fun z => impl_WalkPlain.l0.eq_2 _ _ _ _ _) (iPl_in h (w.length + 1) 0 i (by omega) (by omega) hi rfl (by omega) (fun e => ?_) (fun e => ?_))
    · unfold plJ
      rw [if_neg (show ¬ lastF (nod l w) w.length i < w.length by show ¬ scanL (nod l w) (nod l w i) i 0 (w.length + 1) < w.length; omega)]
      simp
    · have e' : lastF (nod l w) w.length i < w.length := e
      unfold plJ
      rw [if_pos e']
      refine Ev.to (ih (lastF (nod l w) w.length i + 1) _ (by omega) (by omega) (by rw [List.length_append, List.length_singleton]; omega)) ?_
      rw [List.append_assoc]; rfl
end
/-! ### Whole functions -/
noncomputable def plainV (n : Int) (l : List Ar) (w : List Int) : List Int := if walkB n l w = true then plW l w else []
theorem plW_nil {l : List Ar} {w : List Int} (h : w.length = 0) : plW l w = [] := by
  unfold plW plJ
  rw [if_neg (by rw [h]; omega)]; rfl
theorem iPlain_ev (n : Int) (l : List Ar) (w : List Int) (hl : l.length ≤ 1000000000000) (hw : w.length ≤ 1000000000000) : Ev (fun k => impl_WalkPlain.f k n l w) (plainV n l w) := by
  unfold impl_WalkPlain.f plainV
  refine Ev.bnd (iwok_ev n l w hl hw) ?_
  by_cases c : walkB n l w = true
  · obtain ⟨hP, hW⟩ := walkP_of c
    have h20 := hW.2
    rw [if_pos c]
    refine Ev.pos c ?_
    by_cases h0 : w.length = 0
    · rw [show ((w.length : Int) == 0) = true by rw [h0]; rfl, plW_nil h0]
      exact Ev.step (fun k => impl_WalkPlain.j0.eq_2 _ _ _ _ _) (Ev.pos rfl (Ev.now _))
    · rw [show ((w.length : Int) == 0) = false from beq_eq_false_iff_ne.2 (by omega)]
      exact Ev.step (fun k => impl_WalkPlain.j0.eq_2 _ _ _ _ _) (Ev.neg (by simp) (Ev.bnd (ialong_ev n l w hW h0) (Ev.pos (by omega) (Ev.pos (by omega) (iPl_out hW (w.length + 1) 0 [] (by omega) (by omega) (by simp; omega))))))
  · rw [if_neg c]
    exact Ev.neg c (Ev.step (fun k => impl_WalkPlain.j0.eq_2 _ _ _ _ _) (Ev.pos rfl (Ev.now _)))
/-! ### What holds of it -/
theorem plx_at {w : List Int} {J : List Nat} (a : Nat) (ha : a < J.length) : (J.map (fun j => w.getD j 0)).getD a 0 = w.getD (J.getD a 0) 0 := by
  rw [getDI _ _ (by rw [List.length_map]; exact ha), List.getElem_map, List.getD_eq_getElem?_getD (l := J), List.getElem?_eq_getElem ha]; rfl
section
variable {l : List Ar} {w : List Int} (h : WalkP l w) {J : List Nat} (hJ : Pl (nod l w) w.length 0 J)
theorem pl_few {N : Nat → Int} {m i : Nat} {J : List Nat} (h : Pl N m i J) (hi : i ≤ m) : i + J.length ≤ m := by
  induction h with
  | stop h => simpa using hi
  | go h hj k ih =>
    have := ih (by omega)
    have := h.lo
    simp only [List.length_cons]
    omega
include h hJ
omit h in
theorem plj_lt (a : Nat) (ha : a < J.length) : J.getD a 0 < w.length := by
  rw [List.getD_eq_getElem?_getD, List.getElem?_eq_getElem ha]
  exact (hJ.lo _ (List.getElem_mem ha)).2
theorem plx_walk : WalkP l (J.map (fun j => w.getD j 0)) := by
  have hf := pl_few hJ (by omega)
  have h20 := h.2
  refine ⟨fun a ha => ?_, by rw [List.length_map]; omega⟩
  rw [List.length_map] at ha
  refine ⟨?_, fun h0 => ?_⟩
  · rw [plx_at a ha]; exact (h.1 _ (plj_lt hJ a ha)).1
  · obtain ⟨b, rfl⟩ : ∃ b, a = b + 1 := ⟨a - 1, by omega⟩
    rw [show b + 1 - 1 = b from rfl, plx_at b (by omega), plx_at (b + 1) ha, nod_at h _ (plj_lt hJ (b + 1) ha), hJ.chain b ha]
    exact (nod_succ l w _ (plj_lt hJ b (by omega))).symm
/-- Its nodes. -/
theorem plx_nod (a : Nat) (ha : a < J.length) : nod l (J.map (fun j => w.getD j 0)) a = nod l w (J.getD a 0) := by
  have hx := plx_walk h hJ
  rw [← nod_at hx a (by rw [List.length_map]; exact ha), plx_at a ha, nod_at h _ (plj_lt hJ a ha)]
omit h in
theorem plx_end (h0 : J ≠ []) : nod l (J.map (fun j => w.getD j 0)) J.length = nod l w w.length := by
  have hp : 0 < J.length := List.length_pos_iff.2 h0
  obtain ⟨b, hb⟩ : ∃ b, J.length = b + 1 := ⟨J.length - 1, by omega⟩
  rw [hb, nod_succ l _ b (by rw [List.length_map]; omega), plx_at b (by omega), ← nod_succ l w _ (plj_lt hJ b (by omega)), ← hJ.end (by omega) h0]
  congr 2
  rw [List.getLast_eq_getElem, List.getD_eq_getElem?_getD, List.getElem?_eq_getElem (by omega)]
  simp [hb]
theorem plx_diff (h0 : J ≠ []) (a b : Nat) (hab : a < b) (hb : b ≤ J.length) : nod l (J.map (fun j => w.getD j 0)) a ≠ nod l (J.map (fun j => w.getD j 0)) b := by
  have ha : a < J.length := by omega
  rw [plx_nod h hJ a ha]
  have hm : J.getD a 0 ∈ J := by rw [List.getD_eq_getElem?_getD, List.getElem?_eq_getElem ha]; exact List.getElem_mem ha
  have hlast := hJ.last _ hm
  by_cases e : b = J.length
  · subst e
    rw [plx_end hJ h0]
    exact fun z => hlast w.length (plj_lt hJ a ha) (Nat.le_refl _) z.symm
  · have hb' : b < J.length := by omega
    rw [plx_nod h hJ b hb']
    have hlt : J.getD a 0 < J.getD b 0 := by
      have := hJ.asc
      rw [List.pairwise_iff_getElem] at this
      have := this a b ha hb' hab
      rw [List.getD_eq_getElem?_getD, List.getElem?_eq_getElem ha, List.getD_eq_getElem?_getD, List.getElem?_eq_getElem hb']
      exact this
    exact fun z => hlast _ hlt (Nat.le_of_lt (plj_lt hJ b hb')) z.symm
end
/-- It costs no more. -/
theorem drop_cost {n : Int} {l : List Ar} (hn : NetP n l) {w : List Int} (h : WalkP l w) (i d : Nat) (hi : i + d ≤ w.length) : costS l (w.drop (i + d)) ≤ costS l (w.drop i) := by
  induction d with
  | zero => exact Int.le_refl _
  | succ d ih =>
    have h1 := ih (by omega)
    rw [dropI w (i + d) (by omega)] at h1
    have hmem := arc_mem (h.1 (i + d) (by omega)).1
    have := hn.arc _ hmem
    have e : costS l (w.getD (i + d) 0 :: w.drop (i + d + 1)) = (arc l (w.getD (i + d) 0)).f2 + costS l (w.drop (i + d + 1)) := rfl
    rw [e] at h1
    rw [show i + (d + 1) = i + d + 1 by omega]
    omega
theorem plx_cost {n : Int} {l : List Ar} (hn : NetP n l) {w : List Int} (h : WalkP l w) {i : Nat} {J : List Nat} (hJ : Pl (nod l w) w.length i J) (hi : i ≤ w.length) : costS l (J.map (fun j => w.getD j 0)) ≤ costS l (w.drop i) := by
  induction hJ with
  | stop g =>
    show (0 : Int) ≤ _
    exact (costS_bd hn (w.drop _) (fun k hk => In_drop h k (List.mem_of_mem_drop hk))).1
  | @go i j r g hj k ih =>
    have h1 := ih (by omega)
    have lo := g.lo
    have e : costS l ((j :: r).map (fun j => w.getD j 0)) = (arc l (w.getD j 0)).f2 + costS l (r.map (fun j => w.getD j 0)) := rfl
    have e2 : costS l (w.drop j) = (arc l (w.getD j 0)).f2 + costS l (w.drop (j + 1)) := by rw [dropI w j hj]; rfl
    have h2 := drop_cost hn h i (j - i) (by omega)
    rw [show i + (j - i) = j by omega] at h2
    omega
/-- A walk that comes to no node twice is as it was. -/
theorem plain_same {l : List Ar} {x : List Int} (hd : ∀ a b, a < b → b ≤ x.length → nod l x a ≠ nod l x b) : plW l x = x := by
  have go : ∀ (d i : Nat), i ≤ x.length → x.length + 1 ≤ i + d → (plJ (nod l x) x.length i d).map (fun j => x.getD j 0) = x.drop i := by
    intro d
    induction d with
    | zero => intro i h1 h2; omega
    | succ d ih =>
      intro i h1 h2
      have e : lastF (nod l x) x.length i = i := LastAt.uniq (lastF_at _ h1) ⟨Nat.le_refl _, h1, rfl, fun q q1 q2 z => hd i q q1 q2 z.symm⟩
      unfold plJ
      rw [e]
      by_cases c : i < x.length
      · rw [if_pos c, List.map_cons, ih (i + 1) (by omega) (by omega), ← dropI x i c]
      · rw [if_neg c, List.drop_eq_nil_of_le (by omega)]; rfl
  have := go (x.length + 1) 0 (by omega) (by omega)
  rw [List.drop_zero] at this
  exact this
end Go.Proofs.Ytgnnimhhkbbfiaa.M
