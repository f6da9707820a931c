-- Made by this session's own program (wip/patch_print.py, over the kit's print). Lean checks it.
import Derived.Test.YtfpfaaibgaejjaaPrint0
namespace Go.Proofs.Ytfpfaaibgaejjaa.Print
open Go.RowKit Go.Proofs.YtfpfaaibgaejjaaW.PrintWords Go.Proofs.YtfpfaaibgaejjaaW.PrintLast Go.Proofs.YtfpfaaibgaejjaaW.PrintMore Go.Proofs.YtfpfaaibgaejjaaX
attribute [local go_sem] max2_int min2_int max_two min_two max_three min_three max_four min_four   -- for this text's walks alone
set_option linter.unusedVariables false
set_option linter.unusedSimpArgs false

/-! ### impl_Step_59: function 59 -/
theorem gr_info36 : (Try.prog.info? 36).map (fun i => (i.zero, i.size, i.bytes)) = some (some (.agg #[(.int .i64 0), (.int .i64 0)]), 2, 16) := by kernel_rfl
/-- Room made for so many elements behind no slice at all. -/
def impl_Step_59.f (l : List S36) (n : Int) : Option (List S36) := if l.length = 0 then (if 0 ≤ n then (if n.toNat * 16 ≤ 140737488355328 then some [] else none) else none) else none
set_option maxRecDepth 100000 in
set_option maxHeartbeats 4000000 in
theorem gr_go36 (n : Nat) (h : n * 16 ≤ 140737488355328) (w : World) :
    Calls Try.prog 59 #[.slice none 0 0, .int .i64 (n : Int)] w fun e w' => ∃ v0_ : Value, e = .returned (v0_) ∧ Kd.R k36 36 w' w.heap.size (fun _ => True) v0_ ([] : List S36) ∧ Below w.heap.size w w' := by
  have hneg : ¬ (n : Int) < 0 := by omega
  have hw1 : IntKind.i64.wrap (n : Int) = (n : Int) := by rw [i64_w]; unfold wrap64; omega
  have hw2 : IntKind.i64.wrap ((n : Int) - 0) = (n : Int) := by rw [i64_w]; unfold wrap64; omega
  have hw3 : wrap64 (n : Int) = (n : Int) := by unfold wrap64; omega
  obtain ⟨i0, hi0, _, hsz, _⟩ := info_parts gr_info36
  have hcutA : ∀ W : World, (Instr.slice 22 (.slice none 0 0) none (some (.int .i64 0)) none).run Try.prog W = .ok (.slice none 0 0) W := fun W => by
    have h1 := cut_to (P := Try.prog) 22 36 .i64 Try.underlying22 hi0 none 0 0 0 (by omega) (by omega) (by omega) W
    simpa using h1
  have hcutB : ∀ (A : Option Addr) (m c : Nat) (W : World), m ≤ c → (Instr.slice 22 (.slice A m c) none (some (.int .i64 0)) none).run Try.prog W = .ok (.slice A 0 c) W := fun A m c W hc => by
    have h1 := cut_to (P := Try.prog) 22 36 .i64 Try.underlying22 hi0 A m c 0 (by omega) (by omega) hc W
    simpa using h1
  have HB := Aside0.mk (Below.refl w.heap.size w)
  by_cases hn : n = 0
  · subst hn
    clear hw1 hw2 hw3 hneg hcutA hcutB
    show Calls Try.prog 59 #[.slice none 0 0, .int .i64 0] w _
    go_enter Try.func59, Try.ntmps59
    go_wp2
    go_ret
    exact ⟨_, rfl, Kd.R_nil _ _ _ _ _, HB.out⟩
  · have hpos : (n : Int) > 0 := by omega
    have hpos2 : (0 : Int) < (n : Int) := by omega
    have HCB := Aside0.mk hcutB
    clear hcutB
    go_enter Try.func59, Try.ntmps59
    go_wp2_with ((with_reducible refine gate_dst (N := 22) rfl ?_); refine Kd.R_append_zeros k36 (w0 := w) w.heap.size rfl (.tmp 20) (.tmp 21) 22 3 36 (.agg #[(.int .i64 0), (.int .i64 0)]) 16 rfl Try.underlying22 Try.underlying3 gr_info36 rfl (by decide) (by decide) (.slice none 0 0) ([] : List S36) z36 (n : Int) (fun _ => True) rfl rfl (k36_mkM _ _ _ _) (fun _ _ => trivial) (Kd.R_nil _ _ _ _ _) (by omega) (ne_ HB.out) (Nat.le_refl _) (by rw [Int.toNat_natCast]; simpa using h) ?_; intro v1 w1 hr hb _ hat_; clear hat_; obtain ⟨A, c, e1⟩ := Kd.R_slice hr; subst e1; have hcutC := fun W => HCB.out A (([] : List S36) ++ List.replicate (n : Int).toNat z36).length c W (Kd.R_reads' hr).2.1; have HR := Aside0.mk hr; have HB2 := Aside0.mk hb; clear hr hb)
    go_ret
    exact ⟨_, rfl, by simpa using Kd.R_take (m := 0) HR.out (Nat.zero_le _), HB2.out⟩
theorem impl_Step_59.calls (A0 : Option Addr) (c0 : Nat) (l0 : List S36) (a1 : Int) (r : List S36) (w : World) (hr0 : Kd.C k36 w A0 l0.length l0) (hc0 : l0.length ≤ c0) (h : impl_Step_59.f l0 a1 = some r) (hA : A0 = none := by rfl) (hcc : c0 = 0 := by rfl) :
    Calls Try.prog 59 #[.slice A0 l0.length c0, .int .i64 a1] w fun e w' => ∃ v0_ : Value, e = .returned (v0_) ∧ Kd.R k36 36 w' w.heap.size (fun _ => True) v0_ r ∧ Below w.heap.size w w' := by
  subst hA
  subst hcc
  unfold impl_Step_59.f at h
  split at h
  · rename_i h0
    split at h
    · split at h
      · rename_i h1 h2
        obtain rfl := Option.some.inj h
        obtain ⟨N, rfl⟩ := Int.eq_ofNat_of_zero_le h1
        rw [h0]
        exact gr_go36 N (by simpa using h2) w
      · cases h
    · cases h
  · cases h

end Go.Proofs.Ytfpfaaibgaejjaa.Print
