/- For every input the law function FnExactWalkJoin returns true, and each argument reads behind the call as it read before (the given statement Rows.FnExactWalkJoinSaid, whole; no condition of ours). Laid by this session's own program. -/
import Derived.Test.YtpjmkghmjpbldaaRows
import Derived.Test.YtpjmkghmjpbldaaPrintF16
import Derived.Test.YtpjmkghmjpbldaaPureFnExactWalkJoin
import Derived.Test.YtpjmkghmjpbldaaR
import Derived.WalkKit
import Derived.ProofKit
import Derived.OpenShut
import Derived.ShutString
import Derived.ChangeOld
import Derived.Below
import Derived.SizedLaws
import Derived.Lib.SmallJoins
namespace Go.Proofs.Ytpjmkghmjpbldaa.fnExactWalkJoin
open Go.ChangeShapes Go.WideShapes Go.ChangeAt Go.RowKit Go.Joins Go.Proofs.YtpjmkghmjpbldaaW.PrintWords
open Go.Proofs.Ytpjmkghmjpbldaa.Print
open Go.ChangeMaps (open_string shut_string)
set_option linter.unusedVariables false
set_option linter.unusedSimpArgs false
theorem own : ownKnob Try.prog.godebug = none := by kernel_rfl
theorem laidOut : laidOutB Try.prog = true := by kernel_rfl
def mk101 (r : List Int) : S101 := ⟨r.getD 0 0, r.getD 1 0, r.getD 2 0, r.getD 3 0, r.getD 4 0⟩
theorem mkK101 (w : World) (r : List Int) (h : r.length = 5) : Kd.K k101 w (mk101 r) (r.map (Value.int .i64)) := by
  match r, h with
  | [x0, x1, x2, x3, x4], _ => exact k101_mk w ⟨x0, x1, x2, x3, x4⟩
theorem mkW101 {rows : List (List Int)} (h : ∀ r ∈ rows, r.length = 5 ∧ ∀ n ∈ r, (Lit.int .i64 n).wf = true) : ∀ x ∈ rows.map mk101, (Lit.int .i64 x.f0).wf = true ∧ (Lit.int .i64 x.f1).wf = true ∧ (Lit.int .i64 x.f2).wf = true ∧ (Lit.int .i64 x.f3).wf = true ∧ (Lit.int .i64 x.f4).wf = true := by
  intro x hx
  obtain ⟨r, hr, rfl⟩ := List.mem_map.1 hx
  obtain ⟨h1, h2⟩ := h r hr
  exact ⟨Go.Proofs.YtpjmkghmjpbldaaR.wf_at h2 0 (by omega), Go.Proofs.YtpjmkghmjpbldaaR.wf_at h2 1 (by omega), Go.Proofs.YtpjmkghmjpbldaaR.wf_at h2 2 (by omega), Go.Proofs.YtpjmkghmjpbldaaR.wf_at h2 3 (by omega), Go.Proofs.YtpjmkghmjpbldaaR.wf_at h2 4 (by omega)⟩
set_option maxRecDepth 100000 in
theorem lifted (os : Os) (started : os.Started) (H : Type) (enc : TypeId × Value → H) :
    ReturnsInHanded {} Try.checked os 16 .any (Rows.fnExactWalkJoinSpec.pre6 enc Try.prog Try.f16 Rows.fnExactWalkJoinRow.domain false) (Rows.fnExactWalkJoinSpec.post enc Try.prog Try.f16 false true false false) := by
  refine returnsInHanded_of_change_sized (C := Try.checked) own started (by kernel_rfl) Try.func16
    (ChangeSpec.witness6 (enc := enc) (C := Try.checked) false ⟨#[], #[.agg #[.int .i64 0, .slice none 0 0], .slice none 0 0, .slice none 0 0], []⟩ 8 (by kernel_rfl) (by kernel_rfl) (by kernel_rfl) (by kernel_rfl)) ?_
  intro W base args ds gs before hval0 hW hcnd hsz0 _
  have hval : ∀ (j : Nat) t v, Try.f16.params[j]? = some t → args[j]? = some v → Value.okWide Try.prog W .any base t v := hval0
  have hW' := hW
  obtain ⟨p, q, hA0, hV, rfl, hfz, hnd⟩ := hW
  have hA : DataW.TrodAll enc Try.prog W 0 (fun _ => true) true Try.f16.params.toList args.toList ds p := hA0
  rw [Try.params16] at hA hval
  obtain ⟨v0, vs0, d0, ds0, p0, q0, hargs, rfl, rfl, h0, r0⟩ := trodAll_cons hA
  obtain ⟨v1, vs1, d1, ds1, p1, q1, rfl, rfl, rfl, h1, r1⟩ := trodAll_cons r0
  obtain ⟨v2, vs2, d2, ds2, p2, q2, rfl, rfl, rfl, h2, r2⟩ := trodAll_cons r1
  obtain ⟨rfl, rfl, rfl⟩ := trodAll_nil r2
  obtain rfl : args = #[v0, v1, v2] := by cases args; simp_all
  obtain ⟨rfl, rfl⟩ := trodVars_none hV
  have k0 := h0
  have lt0 : ∀ x ∈ p0, x.block < W.heap.size := by obtain ⟨m, hm⟩ := k0; exact DataW.trod_lt m _ _ _ hm
  obtain ⟨u0_0, u0_1, y0_0, y0_1, n0, rfl, _, _, g0_0, g0_1⟩ := open_agg2 Try.underlying24 (by kernel_rfl) (by kernel_rfl) (hval 0 24 v0 rfl rfl) h0
  obtain ⟨a0_0, hcs0_0, _, hw0_0⟩ := DataW.trod_int Try.underlying3 g0_0
  obtain rfl := List.head_eq_of_cons_eq hcs0_0
  obtain ⟨A0_1, len0_1, c0_1, rows0_1, hcs0_1, hrl0_1, hc0_1, hm0_1, hq0_1, hr0_1⟩ := Go.Proofs.YtpjmkghmjpbldaaR.open_flat k101 mk101 Try.underlying22 Try.underlying101 (by kernel_rfl) (by kernel_rfl) (fun j g h => by rcases j with _ | _ | _ | _ | _ | j <;> simp at h <;> subst h <;> exact Try.underlying3) rfl mkK101 g0_1
  have hw0_1 := mkW101 hq0_1
  obtain rfl : (rows0_1.map mk101).length = len0_1 := by rw [List.length_map]; exact hrl0_1
  obtain rfl := List.head_eq_of_cons_eq hcs0_1
  have k1 := h1
  have lt1 : ∀ x ∈ p1, x.block < W.heap.size := by obtain ⟨m, hm⟩ := k1; exact DataW.trod_lt m _ _ _ hm
  obtain ⟨a1, len01, cap01, rfl⟩ := okWide_slice Try.underlying41 (hval 1 41 v1 rfl rfl)
  obtain ⟨fuel1, hf1⟩ := h1
  obtain ⟨A1, len1, c1, hcs1, hcl1⟩ : ∃ A len cap, (Value.slice a1 len01 cap01).cells.toList = [.slice A len cap] ∧ ∃ l : List Int, l.length = len ∧ Kd.C (Kd.int .i64) W A len l ∧ len ≤ maxLen ∧ (∀ n ∈ l, (Lit.int .i64 n).wf = true) ∧ len ≤ cap := by
    rcases open_ints Try.underlying41 Try.underlying3 (by kernel_rfl) hf1 with ⟨hcs, _⟩ | ⟨x, l, c, zs, hcs, _, hl, hm, hz, _, hcell, hwz⟩
    · exact ⟨none, 0, 0, hcs, [], rfl, Kd.C_nil _ _, by simp [maxLen], by simp, Nat.le_refl _⟩
    · refine ⟨some x, l, c, hcs, ?_⟩
      obtain ⟨z, h1, h2, h3, h4, h5⟩ := ReadsInt.ofRowC (w := W) (k := .i64) (a := some x) (len := l) (cap := c) (zs := zs) (.inr ⟨x, rfl, hl, hm, by simpa using hz, hcell, hwz⟩)
      subst h1
      exact ⟨z, rfl, Kd.C_of_reads (d := (0 : Int)) (h1 := fun _ => rfl) h2, h3, h4, h5⟩
  obtain ⟨l1, rfl, hr1, hm1, hw1, hc1⟩ := hcl1
  obtain ⟨rfl, rfl, rfl⟩ : a1 = A1 ∧ len01 = l1.length ∧ cap01 = c1 := by simpa [Value.cells] using hcs1
  have k2 := h2
  have lt2 : ∀ x ∈ p2, x.block < W.heap.size := by obtain ⟨m, hm⟩ := k2; exact DataW.trod_lt m _ _ _ hm
  obtain ⟨a2, len02, cap02, rfl⟩ := okWide_slice Try.underlying41 (hval 2 41 v2 rfl rfl)
  obtain ⟨fuel2, hf2⟩ := h2
  obtain ⟨A2, len2, c2, hcs2, hcl2⟩ : ∃ A len cap, (Value.slice a2 len02 cap02).cells.toList = [.slice A len cap] ∧ ∃ l : List Int, l.length = len ∧ Kd.C (Kd.int .i64) W A len l ∧ len ≤ maxLen ∧ (∀ n ∈ l, (Lit.int .i64 n).wf = true) ∧ len ≤ cap := by
    rcases open_ints Try.underlying41 Try.underlying3 (by kernel_rfl) hf2 with ⟨hcs, _⟩ | ⟨x, l, c, zs, hcs, _, hl, hm, hz, _, hcell, hwz⟩
    · exact ⟨none, 0, 0, hcs, [], rfl, Kd.C_nil _ _, by simp [maxLen], by simp, Nat.le_refl _⟩
    · refine ⟨some x, l, c, hcs, ?_⟩
      obtain ⟨z, h1, h2, h3, h4, h5⟩ := ReadsInt.ofRowC (w := W) (k := .i64) (a := some x) (len := l) (cap := c) (zs := zs) (.inr ⟨x, rfl, hl, hm, by simpa using hz, hcell, hwz⟩)
      subst h1
      exact ⟨z, rfl, Kd.C_of_reads (d := (0 : Int)) (h1 := fun _ => rfl) h2, h3, h4, h5⟩
  obtain ⟨l2, rfl, hr2, hm2, hw2, hc2⟩ := hcl2
  obtain ⟨rfl, rfl, rfl⟩ : a2 = A2 ∧ len02 = l2.length ∧ cap02 = c2 := by simpa [Value.cells] using hcs2
  clear hA0 hval0 hsz0
  refine (Print.laws_FnExactWalkJoin.walk Pure.FnExactWalkJoin a0_0 _ _ (rows0_1.map mk101) _ _ l1 _ _ l2 W hw0_0 hr0_1 hm0_1 hw0_1 hc0_1 hr1 hm1 hw1 hc1 hr2 hm2 hw2 hc2).mono fun e W' ⟨he, bel⟩ => ?_
  subst he
  exact ⟨_, rfl, _, _, _, [], _, [], hW', trodAll_mk1 (shut_bool Try.underlying4 _), (trodAll_cons_mk (Below.trod laidOut (by kernel_rfl) (of_decide_eq_true (by kernel_rfl)) k0 bel lt0) (trodAll_cons_mk (Below.trod laidOut (by kernel_rfl) (of_decide_eq_true (by kernel_rfl)) k1 bel lt1) (trodAll_cons_mk (Below.trod laidOut (by kernel_rfl) (of_decide_eq_true (by kernel_rfl)) k2 bel lt2) trodAll_mk0))), rfl, bel.frame _, fun h => by cases h⟩
theorem over : Rows.fnExactWalkJoinRow.holds Try.pinned (OpenSpec.ofChange Rows.fnExactWalkJoinSpec) :=
  OpenClaim.holds_of_wide 16 Try.f16 rfl rfl rfl rfl rfl rfl rfl ⟨rfl, rfl, rfl, rfl, rfl⟩ rfl rfl rfl rfl rfl (by kernel_rfl) Try.func16 (by kernel_rfl)
    (of_decide_eq_true (by kernel_rfl)) (by unfold Func.isWrapper; first | (rw [if_pos (by decide +kernel)]; kernel_rfl) | (rw [if_neg (by decide +kernel)]; exact ⟨rfl, rfl⟩))
    (fun os started H enc _ => lifted os started H enc)
theorem proved : Rows.FnExactWalkJoinSaid := over
#print axioms proved
end Go.Proofs.Ytpjmkghmjpbldaa.fnExactWalkJoin
namespace Go.Proofs.Ytpjmkghmjpbldaa
/-- The row, under a short name, for the claim. -/
theorem fnExactWalkJoin_holds : Rows.FnExactWalkJoinSaid := fnExactWalkJoin.proved
end Go.Proofs.Ytpjmkghmjpbldaa
