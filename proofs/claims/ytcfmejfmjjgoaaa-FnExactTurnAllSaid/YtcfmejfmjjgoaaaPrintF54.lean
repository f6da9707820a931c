-- Made by this session's own program (wip/patch_print.py, over the kit's print). Lean checks it.
import Derived.Test.YtcfmejfmjjgoaaaPrint0
namespace Go.Proofs.Ytcfmejfmjjgoaaa.Print
open Go.RowKit Go.Proofs.YtcfmejfmjjgoaaaW.PrintWords Go.Proofs.YtcfmejfmjjgoaaaW.PrintLast Go.Proofs.YtcfmejfmjjgoaaaW.PrintMore Go.Proofs.YtcfmejfmjjgoaaaX
attribute [local go_sem] max2_int min2_int max_two min_two max_three min_three max_four min_four   -- for this text's walks alone
set_option linter.unusedVariables false
set_option linter.unusedSimpArgs false

/-! ### laws_toTurn: function 54 -/
def laws_toTurn.f (a0_0 : Int) (a0_1 : Int) (a0_2 : Int) : Option (Int × Int × Int) := some (a0_0, a0_1, a0_2)
set_option maxHeartbeats 200000000 in
set_option maxRecDepth 100000 in
theorem laws_toTurn.calls (a0_0 : Int) (a0_1 : Int) (a0_2 : Int) (r1 : Int) (r2 : Int) (r3 : Int) (w : World) (h : laws_toTurn.f a0_0 a0_1 a0_2 = some (r1, r2, r3)) :
    Calls Try.prog 54 #[.agg #[.int .i64 a0_0, .int .i64 a0_1, .int .i64 a0_2]] w fun e w' => e = .returned (.agg #[.int .i64 r1, .int .i64 r2, .int .i64 r3]) ∧ Below w.heap.size w w' := by
  have hu76 := Try.underlying76
  have hu31 := Try.underlying31
  have HB := Aside0.mk (Below.refl w.heap.size w)
  have H : (some (a0_0, a0_1, a0_2)) = some (r1, r2, r3) := h
  clear h
  simp only [Option.some.injEq, Prod.mk.injEq] at H
  obtain ⟨rfl, rfl, rfl⟩ := H
  go_enter Try.func54, Try.ntmps54
  go_wp2_with (first | ((with_reducible refine gate_dst (N := 1) rfl ?_); refine bx_ 1 #[.int .i64 a0_0, .int .i64 a0_1, .int .i64 a0_2] 76 ?_; intro gb331 hg w2 hbox hb; have BK331 := Aside0.mk (hbox); have GW331 := Aside0.mk (zs_ hg (ne_ HB.out)); have GE331 := Aside0.mk (zs_ hg (ne_ HB.out)); replace HB := kB_ HB hb; clear hb hbox hg) | ((with_reducible refine gate_dst (N := 2) rfl ?_); refine bx_ 2 #[.int .i64 0, .int .i64 0, .int .i64 0] 31 ?_; intro gb332 hg w3 hbox hb; have BK332 := Aside0.mk (hbox); have GW332 := Aside0.mk (zs_ hg (ne_ HB.out)); have GE332 := Aside0.mk (zs_ hg (ne_ HB.out)); have NB331_332 := Aside0.mk (nl_ BK331.out hg); have NB332_331 := Aside0.mk (nm_ BK331.out hg); replace BK331 := kb_ BK331 hb; replace HB := kB_ HB hb; clear hb hbox hg) | ((with_reducible refine gate_dst (N := 3) rfl ?_); refine bx_ 3 #[.int .i64 0, .int .i64 0, .int .i64 0] 31 ?_; intro gb333 hg w4 hbox hb; have BK333 := Aside0.mk (hbox); have GW333 := Aside0.mk (zs_ hg (ne_ HB.out)); have GE333 := Aside0.mk (zs_ hg (ne_ HB.out)); have NB331_333 := Aside0.mk (nl_ BK331.out hg); have NB333_331 := Aside0.mk (nm_ BK331.out hg); have NB332_333 := Aside0.mk (nl_ BK332.out hg); have NB333_332 := Aside0.mk (nm_ BK332.out hg); replace BK331 := kb_ BK331 hb; replace BK332 := kb_ BK332 hb; replace HB := kB_ HB hb; clear hb hbox hg; have hnb5 := NB331_332.out; have hnc5 := NB332_331.out; have hnb6 := NB331_333.out; have hnc6 := NB333_331.out; obtain ⟨hcz7_0, hcz7_1, hcz7_2, hfz7_0, hfz7_1, hfz7_2⟩ := cz3_ BK331.out; have hnb8 := NB333_332.out; have hnc8 := NB332_333.out; obtain ⟨hcz9_0, hcz9_1, hcz9_2, hfz9_0, hfz9_1, hfz9_2⟩ := cz3_ BK333.out; obtain ⟨hcz10_0, hcz10_1, hcz10_2, hfz10_0, hfz10_1, hfz10_2⟩ := cz3_ BK332.out))
  refine bodyPost_ret (results_cell_row rfl _ _ gb332 31 #[.int .i64 a0_0, .int .i64 a0_1, .int .i64 a0_2] (0, 0) _ rfl (np_ BK332.out) Try.underlying31 rfl (by kernel_rfl)) rfl ?_
  exact ⟨nw_, ne_ HB.out⟩

end Go.Proofs.Ytcfmejfmjjgoaaa.Print
