-- Made by this session's own program (wip/patch_print.py, over the kit's print). Lean checks it.
import Derived.Test.YtfpfaaibgaejjaaPrint0
import Derived.Test.YtfpfaaibgaejjaaPrintF51
import Derived.Shelf.SlicesQ.Reverse
namespace Go.Proofs.Ytfpfaaibgaejjaa.Print
open Go.RowKit Go.Proofs.YtfpfaaibgaejjaaW.PrintWords Go.Proofs.YtfpfaaibgaejjaaW.PrintLast Go.Proofs.YtfpfaaibgaejjaaW.PrintMore Go.Proofs.YtfpfaaibgaejjaaX
attribute [local go_sem] max2_int min2_int max_two min_two max_three min_three max_four min_four   -- for this text's walks alone
set_option linter.unusedVariables false
set_option linter.unusedSimpArgs false

/-! ### impl_Step_55: function 55 -/
def so_rlays_ren : Go.Shelf.Ren := ⟨fun | 35 => 55 | n => n, fun | 22 => 22 | 23 => 36 | 3 => 3 | 4 => 4 | 0 => 0 | n => n, fun | n => n⟩
theorem so_rlays : SlLaysE0.n35 Try.prog so_rlays_ren := {
  mixed := by kernel_rfl
  f35 := ⟨Try.f55.name, by decide, Try.func55.trans (congrArg some (by kernel_rfl))⟩
  t0 := Try.underlying0
  a0 := Try.isAgg0
  z0 := Try.sizeOf0
  v0 := Try.zeroValue0
  t3 := Try.underlying3
  a3 := Try.isAgg3
  z3 := Try.sizeOf3
  v3 := Try.zeroValue3
  t4 := Try.underlying4
  a4 := Try.isAgg4
  z4 := Try.sizeOf4
  v4 := Try.zeroValue4
  t22 := Try.underlying22
  a22 := Try.isAgg22
  z22 := Try.sizeOf22
  v22 := Try.zeroValue22 }

def impl_Step_55.f (l0 : List S36) : Option (List S36) := if l0.length ≤ 9223372036854775807 then some l0.reverse else none
set_option maxHeartbeats 2000000 in
theorem impl_Step_55.calls (P0_ : Nat → Prop) (u9000_ : Value) (l0 : List (S36)) (r : List (S36)) (w0 w : World) (hB : Below w0.heap.size w0 w) (ho0 : Kd.R k36 36 w w0.heap.size P0_ u9000_ l0) (h : impl_Step_55.f l0 = some r) :
    Calls Try.prog 55 #[u9000_] w fun e w' => e = .returned (.tuple #[]) ∧ Kd.R k36 36 w' w0.heap.size (fun k_ => (P0_ k_ ∨ w.heap.size ≤ k_)) u9000_ r ∧ Below w0.heap.size w0 w' ∧ Kept w w' (fun k_ => P0_ k_) := by
  unfold impl_Step_55.f at h
  split at h
  · rename_i hl
    obtain rfl := Option.some.inj h
    obtain ⟨hp, inner, ⟨hlen, hown⟩, hreps⟩ := ho0
    rcases hown with ⟨rfl, h0⟩ | ⟨g, cap, cur, rfl, hbase, hb, h1, h2, h3, h4⟩
    · have : l0 = [] := List.eq_nil_of_length_eq_zero h0
      subst this
      have hc := AnyQ.slices_Reverse_empty so_rlays none 0 w
      change Calls Try.prog 55 _ _ _ at hc
      refine hc.mono ?_
      rintro e w' ⟨rfl, rfl⟩
      exact ⟨rfl, by simpa using Kd.R_nil _ _ _ _ _, hB, Kept.refl _ _⟩
    · have hi := so_reps hreps
      have hg : g < w.heap.size := (Array.getElem?_eq_some_iff.1 hb).1
      have hF : (Go.Sort.flatK so_enc 2 l0.toArray).toList = inner := by rw [so_flat, hi]
      have hH : Go.Sort.HoldsK so_enc 2 w g 0 l0.toArray := by
        intro j hj
        have hj' : j < l0.length * 2 := by simpa using hj
        refine ⟨?_, by simp [World.frozen?, hb]⟩
        have e1 : cur[j]? = some (Go.Sort.flatK so_enc 2 l0.toArray)[j]! := by
          have e2 : (cur.toList.take (l0.length * 2))[j]? = cur.toList[j]? := List.getElem?_take_of_lt hj'
          have e3 : cur.toList.take (l0.length * 2) = inner := h4
          rw [getElem!_pos _ j hj, ← Array.getElem?_toList, ← e2, e3, ← hF, Array.getElem?_toList, getElem?_pos _ j hj]
        simp only [World.cell?, hb, Nat.zero_add, Option.isSome_none, Bool.false_eq_true, if_false]
        exact e1
      have hc := AnyQ.slices_Reverse so_rlays 2 Try.isAgg36 Try.sizeOf36 so_enc (fun _ => rfl) (fun x v hv => by simp [so_enc] at hv; rcases hv with rfl | rfl <;> rfl) g 0 cap l0.toArray w hH (by simpa using hl)
      change Calls Try.prog 55 _ _ _ at hc
      simp only [List.size_toArray] at hc
      refine hc.mono ?_
      rintro e w' ⟨rfl, n, rfl⟩
      have hw : Go.Sort.putRowK so_enc 2 (Go.Sort.ahead w n) g 0 l0.toArray.reverse = sortWorldK so_enc 2 w g 0 n l0.reverse.toArray #[] := by unfold sortWorldK; rw [Go.Sort.grow_empty, List.reverse_toArray]
      rw [hw]
      generalize hr : l0.reverse = r
      have hrl : r.length = l0.length := by rw [← hr, List.length_reverse]
      have G := so_grown (w := w) (g := g) (n := n) (os := #[]) r.toArray
      have hcs : l0.length * 2 ≤ cur.size := Nat.le_trans (Nat.mul_le_mul_right _ h1) h3
      have hsz : (Go.Sort.flatK so_enc 2 r.toArray).size = l0.length * 2 := by rw [Go.Sort.size_flatK, List.size_toArray, hrl]
      refine ⟨rfl, ⟨fun k hk => .inl (hp k hk), so_F r, ⟨by rw [so_F_len]; rfl, .inr ⟨g, cap, _, by rw [hrl], hbase, so_heap _ hb, by rw [hrl]; exact h1, h2, ?_, ?_⟩⟩, so_reps' r⟩, ?_, ?_⟩
      · simpa [Go.Sort.putCells] using h3
      · show List.take (r.length * 2) _ = _
        rw [hrl, ← hsz, so_take _ _ (by rw [hsz]; exact hcs), so_flat]
      · exact hB.trans ⟨G.os, G.tape, G.output, G.size, fun i hi' => G.block i (Nat.lt_of_lt_of_le hi' hB.size) (by intro e; injection e with e; omega)⟩
      · exact ⟨G.size, fun i hi' hn => G.block i hi' (fun e => hn (hp i (by rw [e]; rfl)))⟩
  · cases h

end Go.Proofs.Ytfpfaaibgaejjaa.Print
