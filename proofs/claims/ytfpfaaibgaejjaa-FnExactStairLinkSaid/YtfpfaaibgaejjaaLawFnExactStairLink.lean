/- For every input the law function FnExactStairLink returns true, and each argument reads behind the call as it read before (the given statement Rows.FnExactStairLinkSaid, whole; no condition of ours). Laid by this session's own program. -/
import Derived.Test.YtfpfaaibgaejjaaRows
import Derived.Test.YtfpfaaibgaejjaaPrintF7
import Derived.Test.YtfpfaaibgaejjaaPureFnExactStairLink
import Derived.Test.YtfpfaaibgaejjaaR
import Derived.WalkKit
import Derived.ProofKit
import Derived.OpenShut
import Derived.ShutString
import Derived.ChangeOld
import Derived.Below
import Derived.SizedLaws
import Derived.Lib.SmallJoins
namespace Go.Proofs.Ytfpfaaibgaejjaa.fnExactStairLink
open Go.ChangeShapes Go.WideShapes Go.ChangeAt Go.RowKit Go.Joins Go.Proofs.YtfpfaaibgaejjaaW.PrintWords
open Go.Proofs.Ytfpfaaibgaejjaa.Print
open Go.ChangeMaps (open_string shut_string)
set_option linter.unusedVariables false
set_option linter.unusedSimpArgs false
theorem own : ownKnob Try.prog.godebug = none := by kernel_rfl
theorem laidOut : laidOutB Try.prog = true := by kernel_rfl
def mk49 (r : List Int) : S49 := ⟨r.getD 0 0, r.getD 1 0⟩
theorem mkK49 (w : World) (r : List Int) (h : r.length = 2) : Kd.K k49 w (mk49 r) (r.map (Value.int .i64)) := by
  match r, h with
  | [x0, x1], _ => exact k49_mk w ⟨x0, x1⟩
theorem mkW49 {rows : List (List Int)} (h : ∀ r ∈ rows, r.length = 2 ∧ ∀ n ∈ r, (Lit.int .i64 n).wf = true) : ∀ x ∈ rows.map mk49, (Lit.int .i64 x.f0).wf = true ∧ (Lit.int .i64 x.f1).wf = true := by
  intro x hx
  obtain ⟨r, hr, rfl⟩ := List.mem_map.1 hx
  obtain ⟨h1, h2⟩ := h r hr
  exact ⟨Go.Proofs.YtfpfaaibgaejjaaR.wf_at h2 0 (by omega), Go.Proofs.YtfpfaaibgaejjaaR.wf_at h2 1 (by omega)⟩
set_option maxRecDepth 100000 in
theorem lifted (os : Os) (started : os.Started) (H : Type) (enc : TypeId × Value → H) :
    ReturnsInHanded {} Try.checked os 7 .any (Rows.fnExactStairLinkSpec.pre6 enc Try.prog Try.f7 Rows.fnExactStairLinkRow.domain false) (Rows.fnExactStairLinkSpec.post enc Try.prog Try.f7 false true false false) := by
  refine returnsInHanded_of_change_sized (C := Try.checked) own started (by kernel_rfl) Try.func7
    (ChangeSpec.witness6 (enc := enc) (C := Try.checked) false ⟨#[], #[.slice none 0 0, .slice none 0 0], []⟩ 8 (by kernel_rfl) (by kernel_rfl) (by kernel_rfl) (by kernel_rfl)) ?_
  intro W base args ds gs before hval0 hW hcnd hsz0 _
  have hval : ∀ (j : Nat) t v, Try.f7.params[j]? = some t → args[j]? = some v → Value.okWide Try.prog W .any base t v := hval0
  have hW' := hW
  obtain ⟨p, q, hA0, hV, rfl, hfz, hnd⟩ := hW
  have hA : DataW.TrodAll enc Try.prog W 0 (fun _ => true) true Try.f7.params.toList args.toList ds p := hA0
  rw [Try.params7] at hA hval
  obtain ⟨v0, vs0, d0, ds0, p0, q0, hargs, rfl, rfl, h0, r0⟩ := trodAll_cons hA
  obtain ⟨v1, vs1, d1, ds1, p1, q1, rfl, rfl, rfl, h1, r1⟩ := trodAll_cons r0
  obtain ⟨rfl, rfl, rfl⟩ := trodAll_nil r1
  obtain rfl : args = #[v0, v1] := by cases args; simp_all
  obtain ⟨rfl, rfl⟩ := trodVars_none hV
  have k0 := h0
  have lt0 : ∀ x ∈ p0, x.block < W.heap.size := by obtain ⟨m, hm⟩ := k0; exact DataW.trod_lt m _ _ _ hm
  obtain ⟨a0, len00, cap00, rfl⟩ := okWide_slice Try.underlying27 (hval 0 27 v0 rfl rfl)
  obtain ⟨fuel0, hf0⟩ := h0
  obtain ⟨A0, len0, c0, rows0, hcs0, hrl0, hc0, hm0, hq0, hr0⟩ := Go.Proofs.YtfpfaaibgaejjaaR.open_flat k49 mk49 Try.underlying27 Try.underlying49 (by kernel_rfl) (by kernel_rfl) (fun j g h => by rcases j with _ | _ | j <;> simp at h <;> subst h <;> exact Try.underlying3) rfl mkK49 hf0
  have hw0 := mkW49 hq0
  obtain rfl : (rows0.map mk49).length = len0 := by rw [List.length_map]; exact hrl0
  obtain ⟨rfl, rfl, rfl⟩ : a0 = A0 ∧ len00 = (rows0.map mk49).length ∧ cap00 = c0 := by simpa [Value.cells] using hcs0
  have k1 := h1
  have lt1 : ∀ x ∈ p1, x.block < W.heap.size := by obtain ⟨m, hm⟩ := k1; exact DataW.trod_lt m _ _ _ hm
  obtain ⟨a1, len01, cap01, rfl⟩ := okWide_slice Try.underlying27 (hval 1 27 v1 rfl rfl)
  obtain ⟨fuel1, hf1⟩ := h1
  obtain ⟨A1, len1, c1, rows1, hcs1, hrl1, hc1, hm1, hq1, hr1⟩ := Go.Proofs.YtfpfaaibgaejjaaR.open_flat k49 mk49 Try.underlying27 Try.underlying49 (by kernel_rfl) (by kernel_rfl) (fun j g h => by rcases j with _ | _ | j <;> simp at h <;> subst h <;> exact Try.underlying3) rfl mkK49 hf1
  have hw1 := mkW49 hq1
  obtain rfl : (rows1.map mk49).length = len1 := by rw [List.length_map]; exact hrl1
  obtain ⟨rfl, rfl, rfl⟩ : a1 = A1 ∧ len01 = (rows1.map mk49).length ∧ cap01 = c1 := by simpa [Value.cells] using hcs1
  clear hA0 hval0 hsz0
  refine (Print.laws_FnExactStairLink.walk Pure.FnExactStairLink _ _ (rows0.map mk49) _ _ (rows1.map mk49) W hr0 hm0 hw0 hc0 hr1 hm1 hw1 hc1).mono fun e W' ⟨he, bel⟩ => ?_
  subst he
  exact ⟨_, rfl, _, _, _, [], _, [], hW', trodAll_mk1 (shut_bool Try.underlying4 _), (trodAll_cons_mk (Below.trod laidOut (by kernel_rfl) (of_decide_eq_true (by kernel_rfl)) k0 bel lt0) (trodAll_cons_mk (Below.trod laidOut (by kernel_rfl) (of_decide_eq_true (by kernel_rfl)) k1 bel lt1) trodAll_mk0)), rfl, bel.frame _, fun h => by cases h⟩
theorem over : Rows.fnExactStairLinkRow.holds Try.pinned (OpenSpec.ofChange Rows.fnExactStairLinkSpec) :=
  OpenClaim.holds_of_wide 7 Try.f7 rfl rfl rfl rfl rfl rfl rfl ⟨rfl, rfl, rfl, rfl, rfl⟩ rfl rfl rfl rfl rfl (by kernel_rfl) Try.func7 (by kernel_rfl)
    (of_decide_eq_true (by kernel_rfl)) (by unfold Func.isWrapper; first | (rw [if_pos (by decide +kernel)]; kernel_rfl) | (rw [if_neg (by decide +kernel)]; exact ⟨rfl, rfl⟩))
    (fun os started H enc _ => lifted os started H enc)
theorem proved : Rows.FnExactStairLinkSaid := over
#print axioms proved
end Go.Proofs.Ytfpfaaibgaejjaa.fnExactStairLink
namespace Go.Proofs.Ytfpfaaibgaejjaa
/-- The row, under a short name, for the claim. -/
theorem fnExactStairLink_holds : Rows.FnExactStairLinkSaid := fnExactStairLink.proved
end Go.Proofs.Ytfpfaaibgaejjaa
