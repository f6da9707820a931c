/- For every input the law function FnExactPlanOk returns true, and each argument reads behind the call as it read before (the given statement Rows.FnExactPlanOkSaid, whole; no condition of ours). Laid by this session's own program. -/
import Derived.Test.YtpjmkghmjpbldaaRows
import Derived.Test.YtpjmkghmjpbldaaPrintF8
import Derived.Test.YtpjmkghmjpbldaaPureFnExactPlanOk
import Derived.Test.YtpjmkghmjpbldaaR
import Derived.WalkKit
import Derived.ProofKit
import Derived.OpenShut
import Derived.ShutString
import Derived.ChangeOld
import Derived.Below
import Derived.SizedLaws
import Derived.Lib.SmallJoins
namespace Go.Proofs.Ytpjmkghmjpbldaa.fnExactPlanOk
open Go.ChangeShapes Go.WideShapes Go.ChangeAt Go.RowKit Go.Joins Go.Proofs.YtpjmkghmjpbldaaW.PrintWords
open Go.Proofs.Ytpjmkghmjpbldaa.Print
open Go.ChangeMaps (open_string shut_string)
set_option linter.unusedVariables false
set_option linter.unusedSimpArgs false
theorem own : ownKnob Try.prog.godebug = none := by kernel_rfl
theorem laidOut : laidOutB Try.prog = true := by kernel_rfl
def mk109 (r : List Int) : S109 := ⟨r.getD 0 0, r.getD 1 0, r.getD 2 0, r.getD 3 0, r.getD 4 0⟩
theorem mkK109 (w : World) (r : List Int) (h : r.length = 5) : Kd.K k109 w (mk109 r) (r.map (Value.int .i64)) := by
  match r, h with
  | [x0, x1, x2, x3, x4], _ => exact k109_mk w ⟨x0, x1, x2, x3, x4⟩
theorem mkW109 {rows : List (List Int)} (h : ∀ r ∈ rows, r.length = 5 ∧ ∀ n ∈ r, (Lit.int .i64 n).wf = true) : ∀ x ∈ rows.map mk109, (Lit.int .i64 x.f0).wf = true ∧ (Lit.int .i64 x.f1).wf = true ∧ (Lit.int .i64 x.f2).wf = true ∧ (Lit.int .i64 x.f3).wf = true ∧ (Lit.int .i64 x.f4).wf = true := by
  intro x hx
  obtain ⟨r, hr, rfl⟩ := List.mem_map.1 hx
  obtain ⟨h1, h2⟩ := h r hr
  exact ⟨Go.Proofs.YtpjmkghmjpbldaaR.wf_at h2 0 (by omega), Go.Proofs.YtpjmkghmjpbldaaR.wf_at h2 1 (by omega), Go.Proofs.YtpjmkghmjpbldaaR.wf_at h2 2 (by omega), Go.Proofs.YtpjmkghmjpbldaaR.wf_at h2 3 (by omega), Go.Proofs.YtpjmkghmjpbldaaR.wf_at h2 4 (by omega)⟩
set_option maxRecDepth 100000 in
theorem lifted (os : Os) (started : os.Started) (H : Type) (enc : TypeId × Value → H) :
    ReturnsInHanded {} Try.checked os 8 .any (Rows.fnExactPlanOkSpec.pre6 enc Try.prog Try.f8 Rows.fnExactPlanOkRow.domain false) (Rows.fnExactPlanOkSpec.post enc Try.prog Try.f8 false true false false) := by
  refine returnsInHanded_of_change_sized (C := Try.checked) own started (by kernel_rfl) Try.func8
    (ChangeSpec.witness6 (enc := enc) (C := Try.checked) false ⟨#[], #[.agg #[.int .i64 0, .int .i64 0, .slice none 0 0]], []⟩ 8 (by kernel_rfl) (by kernel_rfl) (by kernel_rfl) (by kernel_rfl)) ?_
  intro W base args ds gs before hval0 hW hcnd hsz0 _
  have hval : ∀ (j : Nat) t v, Try.f8.params[j]? = some t → args[j]? = some v → Value.okWide Try.prog W .any base t v := hval0
  have hW' := hW
  obtain ⟨p, q, hA0, hV, rfl, hfz, hnd⟩ := hW
  have hA : DataW.TrodAll enc Try.prog W 0 (fun _ => true) true Try.f8.params.toList args.toList ds p := hA0
  rw [Try.params8] at hA hval
  obtain ⟨v0, vs0, d0, ds0, p0, q0, hargs, rfl, rfl, h0, r0⟩ := trodAll_cons hA
  obtain ⟨rfl, rfl, rfl⟩ := trodAll_nil r0
  obtain rfl : args = #[v0] := by cases args; simp_all
  obtain ⟨rfl, rfl⟩ := trodVars_none hV
  have k0 := h0
  have lt0 : ∀ x ∈ p0, x.block < W.heap.size := by obtain ⟨m, hm⟩ := k0; exact DataW.trod_lt m _ _ _ hm
  obtain ⟨u0_0, u0_1, u0_2, y0_0, y0_1, y0_2, n0, rfl, _, _, g0_0, g0_1, g0_2⟩ := open_agg3 Try.underlying49 (by kernel_rfl) (by kernel_rfl) (hval 0 49 v0 rfl rfl) h0
  obtain ⟨a0_0, hcs0_0, _, hw0_0⟩ := DataW.trod_int Try.underlying3 g0_0
  obtain rfl := List.head_eq_of_cons_eq hcs0_0
  obtain ⟨a0_1, hcs0_1, _, hw0_1⟩ := DataW.trod_int Try.underlying3 g0_1
  obtain rfl := List.head_eq_of_cons_eq hcs0_1
  obtain ⟨A0_2, len0_2, c0_2, rows0_2, hcs0_2, hrl0_2, hc0_2, hm0_2, hq0_2, hr0_2⟩ := Go.Proofs.YtpjmkghmjpbldaaR.open_flat k109 mk109 Try.underlying47 Try.underlying109 (by kernel_rfl) (by kernel_rfl) (fun j g h => by rcases j with _ | _ | _ | _ | _ | j <;> simp at h <;> subst h <;> exact Try.underlying3) rfl mkK109 g0_2
  have hw0_2 := mkW109 hq0_2
  obtain rfl : (rows0_2.map mk109).length = len0_2 := by rw [List.length_map]; exact hrl0_2
  obtain rfl := List.head_eq_of_cons_eq hcs0_2
  clear hA0 hval0 hsz0
  refine (Print.laws_FnExactPlanOk.walk Pure.FnExactPlanOk a0_0 a0_1 _ _ (rows0_2.map mk109) W hw0_0 hw0_1 hr0_2 hm0_2 hw0_2 hc0_2).mono fun e W' ⟨he, bel⟩ => ?_
  subst he
  exact ⟨_, rfl, _, _, _, [], _, [], hW', trodAll_mk1 (shut_bool Try.underlying4 _), (trodAll_cons_mk (Below.trod laidOut (by kernel_rfl) (of_decide_eq_true (by kernel_rfl)) k0 bel lt0) trodAll_mk0), rfl, bel.frame _, fun h => by cases h⟩
theorem over : Rows.fnExactPlanOkRow.holds Try.pinned (OpenSpec.ofChange Rows.fnExactPlanOkSpec) :=
  OpenClaim.holds_of_wide 8 Try.f8 rfl rfl rfl rfl rfl rfl rfl ⟨rfl, rfl, rfl, rfl, rfl⟩ rfl rfl rfl rfl rfl (by kernel_rfl) Try.func8 (by kernel_rfl)
    (of_decide_eq_true (by kernel_rfl)) (by unfold Func.isWrapper; first | (rw [if_pos (by decide +kernel)]; kernel_rfl) | (rw [if_neg (by decide +kernel)]; exact ⟨rfl, rfl⟩))
    (fun os started H enc _ => lifted os started H enc)
theorem proved : Rows.FnExactPlanOkSaid := over
#print axioms proved
end Go.Proofs.Ytpjmkghmjpbldaa.fnExactPlanOk
namespace Go.Proofs.Ytpjmkghmjpbldaa
/-- The row, under a short name, for the claim. -/
theorem fnExactPlanOk_holds : Rows.FnExactPlanOkSaid := fnExactPlanOk.proved
end Go.Proofs.Ytpjmkghmjpbldaa
