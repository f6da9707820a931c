/- For every input the law function FnExactNetPut returns true, and each argument reads behind the call as it read before: the given statement Rows.FnExactNetPutCardSaid, whole: the row lists variables of Go's library with what they hold, and the card ties this to the program's text by the given tie; no condition of ours. Laid by this session's own program. -/
import Derived.Test.YtppjelkljihdoaaDoorCards
import Derived.Test.YtppjelkljihdoaaDoorTie
import Derived.Test.YtppjelkljihdoaaDoorL
import Derived.SevenTiedAt
import Derived.Test.YtppjelkljihdoaaDoorPrintF6
import Derived.Test.YtppjelkljihdoaaDoorPureFnExactNetPut
import Derived.Test.YtppjelkljihdoaaDoorR
import Derived.WalkKit
import Derived.ProofKit
import Derived.OpenShut
import Derived.ShutString
import Derived.ChangeOld
import Derived.Below
import Derived.SizedLaws
import Derived.Lib.SmallJoins
namespace Go.Proofs.YtppjelkljihdoaaDoor.fnExactNetPut
open Go.ChangeShapes Go.WideShapes Go.ChangeAt Go.RowKit Go.Joins Go.Proofs.YtppjelkljihdoaaDoorW.PrintWords
open Go.Proofs.YtppjelkljihdoaaDoor.Print
open Go.ChangeMaps (open_string shut_string)
set_option linter.unusedVariables false
set_option linter.unusedSimpArgs false
theorem own : ownKnob Tryd.prog.godebug = none := by kernel_rfl
theorem laidOut : laidOutB Tryd.prog = true := by kernel_rfl
def mk88 (r : List Int) : S88 := ⟨r.getD 0 0, r.getD 1 0, r.getD 2 0, r.getD 3 0, r.getD 4 0⟩
theorem mkK88 (w : World) (r : List Int) (h : r.length = 5) : Kd.K k88 w (mk88 r) (r.map (Value.int .i64)) := by
  match r, h with
  | [x0, x1, x2, x3, x4], _ => exact k88_mk w ⟨x0, x1, x2, x3, x4⟩
theorem mkW88 {rows : List (List Int)} (h : ∀ r ∈ rows, r.length = 5 ∧ ∀ n ∈ r, (Lit.int .i64 n).wf = true) : ∀ x ∈ rows.map mk88, (Lit.int .i64 x.f0).wf = true ∧ (Lit.int .i64 x.f1).wf = true ∧ (Lit.int .i64 x.f2).wf = true ∧ (Lit.int .i64 x.f3).wf = true ∧ (Lit.int .i64 x.f4).wf = true := by
  intro x hx
  obtain ⟨r, hr, rfl⟩ := List.mem_map.1 hx
  obtain ⟨h1, h2⟩ := h r hr
  exact ⟨Go.Proofs.YtppjelkljihdoaaDoorR.wf_at h2 0 (by omega), Go.Proofs.YtppjelkljihdoaaDoorR.wf_at h2 1 (by omega), Go.Proofs.YtppjelkljihdoaaDoorR.wf_at h2 2 (by omega), Go.Proofs.YtppjelkljihdoaaDoorR.wf_at h2 3 (by omega), Go.Proofs.YtppjelkljihdoaaDoorR.wf_at h2 4 (by omega)⟩
set_option maxRecDepth 100000 in
theorem lifted (os : Os) (started : os.Started) (H : Type) (enc : TypeId × Value → H) :
    ReturnsInHanded {} Tryd.checked os 6 .any (fun w args => (Rows.fnExactNetPutSpec.pre enc Tryd.prog Tryd.f6 Rows.fnExactNetPutRow.domain false w args ∧ laidMetH Tryd.prog Rows.fnExactNetPutRow.laid w) ∧ sizedMet enc Tryd.prog Tryd.f6 (OpenSpec.ofChange Rows.fnExactNetPutSpec) false w args) (Rows.fnExactNetPutSpec.post enc Tryd.prog Tryd.f6 false true false false) := by
  refine Go.Proofs.YtppjelkljihdoaaDoorL.wrap (C := Tryd.checked) (X := fun w _ => laidMetH Tryd.prog Rows.fnExactNetPutRow.laid w) (fun _ _ _ hh h => h.of_heap hh) own started (by kernel_rfl) Tryd.func6
    (ChangeSpec.witness_shaped (enc := enc) (C := Tryd.checked) (os := os) (X := fun w _ => laidMetH Tryd.prog Rows.fnExactNetPutRow.laid w) false (World.laidAll Tryd.prog os Rows.fnExactNetPutRow.laid) #[.agg #[.int .i64 0, .slice none 0 0]] 8 (World.laidAll_os _ _ _)
      (World.shaped_of_ZipB (by kernel_rfl) (by kernel_rfl)) (by kernel_rfl) (by kernel_rfl) (by kernel_rfl)
      (by rw [MakeChecks.laidMetH_plain _ _ _ (by kernel_rfl)]; exact laidMet_laidAll _ (by kernel_rfl) (by kernel_rfl))) ?_
  intro W base args ds gs before hval0 hW hcnd hsz0 hL hsh
  have hval : ∀ (j : Nat) t v, Tryd.f6.params[j]? = some t → args[j]? = some v → Value.okWide Tryd.prog W .any base t v := hval0
  have hW' := hW
  obtain ⟨p, q, hA0, hV, rfl, hfz, hnd⟩ := hW
  have hA : DataW.TrodAll enc Tryd.prog W 0 (fun _ => true) true Tryd.f6.params.toList args.toList ds p := hA0
  rw [Tryd.params6] at hA hval
  obtain ⟨v0, vs0, d0, ds0, p0, q0, hargs, rfl, rfl, h0, r0⟩ := trodAll_cons hA
  obtain ⟨rfl, rfl, rfl⟩ := trodAll_nil r0
  obtain rfl : args = #[v0] := by cases args; simp_all
  obtain ⟨rfl, rfl⟩ := trodVars_none hV
  have k0 := h0
  have lt0 : ∀ x ∈ p0, x.block < W.heap.size := by obtain ⟨m, hm⟩ := k0; exact DataW.trod_lt m _ _ _ hm
  obtain ⟨u0_0, u0_1, y0_0, y0_1, n0, rfl, _, _, g0_0, g0_1⟩ := open_agg2 Tryd.underlying38 (by kernel_rfl) (by kernel_rfl) (hval 0 38 v0 rfl rfl) h0
  obtain ⟨a0_0, hcs0_0, _, hw0_0⟩ := DataW.trod_int Tryd.underlying3 g0_0
  obtain rfl := List.head_eq_of_cons_eq hcs0_0
  obtain ⟨A0_1, len0_1, c0_1, rows0_1, hcs0_1, hrl0_1, hc0_1, hm0_1, hq0_1, hr0_1⟩ := Go.Proofs.YtppjelkljihdoaaDoorR.open_flat k88 mk88 Tryd.underlying36 Tryd.underlying88 (by kernel_rfl) (by kernel_rfl) (fun j g h => by rcases j with _ | _ | _ | _ | _ | j <;> simp at h <;> subst h <;> exact Tryd.underlying3) rfl mkK88 g0_1
  have hw0_1 := mkW88 hq0_1
  obtain rfl : (rows0_1.map mk88).length = len0_1 := by rw [List.length_map]; exact hrl0_1
  obtain rfl := List.head_eq_of_cons_eq hcs0_1
  clear hA0 hval0 hsz0
  refine (Print.laws_FnExactNetPut.walk Pure.FnExactNetPut a0_0 _ _ (rows0_1.map mk88) W hw0_0 hr0_1 hm0_1 hw0_1 hc0_1).mono fun e W' ⟨he, bel⟩ => ?_
  subst he
  exact ⟨_, rfl, _, _, _, [], _, [], hW', trodAll_mk1 (shut_bool Tryd.underlying4 _), (trodAll_cons_mk (Below.trod laidOut (by kernel_rfl) (of_decide_eq_true (by kernel_rfl)) k0 bel lt0) trodAll_mk0), rfl, bel.frame _, fun h => by cases h⟩
theorem over : Rows.fnExactNetPutRow.holds Tryd.pinned (OpenSpec.ofChange Rows.fnExactNetPutSpec) :=
  OpenClaim.holds_of_wide 6 Tryd.f6 rfl rfl rfl rfl rfl rfl rfl ⟨rfl, rfl, rfl, rfl, rfl⟩ rfl rfl rfl rfl rfl (by kernel_rfl) Tryd.func6 (by kernel_rfl)
    (of_decide_eq_true (by kernel_rfl)) (by unfold Func.isWrapper; first | (rw [if_pos (by decide +kernel)]; kernel_rfl) | (rw [if_neg (by decide +kernel)]; exact ⟨rfl, rfl⟩))
    (fun os started H enc _ => lifted os started H enc)
theorem said : Rows.FnExactNetPutSaid := over
theorem plain (f : FuncId) (fn : Func) (hf : Tryd.pinned.checked.prog.funcNamed "loop.example/waymark/laws.FnExactNetPut" = some f) (hfn : Tryd.pinned.checked.prog.funcs[f]? = some fn) :
    true = Tryd.pinned.checked.prog.looks [] ∧ ∀ (j : Nat) t, fn.params[j]? = some t → Tryd.pinned.checked.prog.wantsStandIn t = false := by
  obtain rfl : f = 6 := Option.some.inj ((show Tryd.prog.funcNamed "loop.example/waymark/laws.FnExactNetPut" = some 6 by kernel_rfl).symm.trans hf) |>.symm
  obtain rfl : fn = Tryd.f6 := (Option.some.inj (Tryd.func6.symm.trans hfn)).symm
  refine ⟨by kernel_rfl, fun j t ht => ?_⟩
  rw [Tryd.params6] at ht
  obtain rfl : t = 38 := by simpa using Array.mem_of_getElem? ht
  exact (show Tryd.prog.wantsStandIn 38 = false by kernel_rfl)
theorem proved : Rows.FnExactNetPutCardSaid :=
  Claim7.holds_tied_plain_at .later [] _ _ _ _ said (fun _ h => by cases h) (by kernel_rfl) (fun _ h => by cases h) fnExactNetPut_row_tie rfl ⟨rfl, rfl⟩ (by kernel_rfl) rfl plain (by kernel_rfl)
#print axioms proved
end Go.Proofs.YtppjelkljihdoaaDoor.fnExactNetPut
namespace Go.Proofs.YtppjelkljihdoaaDoor
/-- The card, under a short name, for the claim. -/
theorem fnExactNetPut_holds : Rows.FnExactNetPutCardSaid := fnExactNetPut.proved
end Go.Proofs.YtppjelkljihdoaaDoor
