-- Made by this session's own program (wip/patch_print.py, over the kit's print). Lean checks it.
import Derived.Test.YtcfmejfmjjgoaaaPrint0
import Derived.Test.YtcfmejfmjjgoaaaPrintF53
namespace Go.Proofs.Ytcfmejfmjjgoaaa.Print
open Go.RowKit Go.Proofs.YtcfmejfmjjgoaaaW.PrintWords Go.Proofs.YtcfmejfmjjgoaaaW.PrintLast Go.Proofs.YtcfmejfmjjgoaaaW.PrintMore Go.Proofs.YtcfmejfmjjgoaaaX
attribute [local go_sem] max2_int min2_int max_two min_two max_three min_three max_four min_four   -- for this text's walks alone
set_option linter.unusedVariables false
set_option linter.unusedSimpArgs false

/-! ### laws_toNet: function 18 -/
def laws_toNet.f (k : Nat) (a0_0 : Int) (l0_1 : List (S97)) : Option (Int × (List (S33))) := (laws_toArcS.f k l0_1).bind fun t328 => (some (a0_0, t328))
set_option maxHeartbeats 200000000 in
set_option maxRecDepth 100000 in
theorem laws_toNet.calls (k : Nat) (a0_0 : Int) (A0_1 : Option Addr) (c0_1 : Nat) (l0_1 : List (S97)) (r1 : Int) (r2 : List (S33)) (w : World) (hr0_1 : Kd.C k97 w A0_1 l0_1.length l0_1) (hc0_1 : l0_1.length ≤ c0_1) (h : laws_toNet.f k a0_0 l0_1 = some (r1, r2)) :
    Calls Try.prog 18 #[.agg #[.int .i64 a0_0, .slice A0_1 l0_1.length c0_1]] w fun e w' => ∃ v1_ : Value, e = .returned (.agg #[.int .i64 r1, v1_]) ∧ Kd.R k33 33 w' w.heap.size (fun _ => True) v1_ r2 ∧ Below w.heap.size w w' := by
  have hu37 := Try.underlying37
  have hu25 := Try.underlying25
  have HR0_1 := Aside0.mk hr0_1
  have HC0_1 := Aside0.mk hc0_1
  clear hr0_1 hc0_1
  have HB := Aside0.mk (Below.refl w.heap.size w)
  have H : ((laws_toArcS.f k l0_1).bind fun t328 => (some (a0_0, t328))) = some (r1, r2) := h
  clear h
  replace H := Option.bind_eq_some_iff.mp H
  obtain ⟨t328, A20, H⟩ := H
  replace H : (some (a0_0, t328)) = some (r1, r2) := H
  have A2 := Aside0.mk A20
  clear A20
  simp only [Option.some.injEq, Prod.mk.injEq] at H
  obtain ⟨rfl, rfl⟩ := H
  go_enter Try.func18, Try.ntmps18
  go_wp2_with (first | ((with_reducible refine gate_dst (N := 1) rfl ?_); refine bx_ 1 #[.int .i64 a0_0, .slice A0_1 l0_1.length c0_1] 37 ?_; intro gb325 hg w3 hbox hb; have BK325 := Aside0.mk (hbox); have GW325 := Aside0.mk (zs_ hg (ne_ HB.out)); have GE325 := Aside0.mk (zs_ hg (ne_ HB.out)); replace HB := kB_ HB hb; clear hb hbox hg) | ((with_reducible refine gate_dst (N := 2) rfl ?_); refine bx_ 2 #[.int .i64 0, .slice none 0 0] 25 ?_; intro gb326 hg w4 hbox hb; have BK326 := Aside0.mk (hbox); have GW326 := Aside0.mk (zs_ hg (ne_ HB.out)); have GE326 := Aside0.mk (zs_ hg (ne_ HB.out)); have NB325_326 := Aside0.mk (nl_ BK325.out hg); have NB326_325 := Aside0.mk (nm_ BK325.out hg); replace BK325 := kb_ BK325 hb; replace HB := kB_ HB hb; clear hb hbox hg) | ((with_reducible refine gate_dst (N := 3) rfl ?_); refine bx_ 3 #[.int .i64 0, .slice none 0 0] 25 ?_; intro gb327 hg w5 hbox hb; have BK327 := Aside0.mk (hbox); have GW327 := Aside0.mk (zs_ hg (ne_ HB.out)); have GE327 := Aside0.mk (zs_ hg (ne_ HB.out)); have NB325_327 := Aside0.mk (nl_ BK325.out hg); have NB327_325 := Aside0.mk (nm_ BK325.out hg); have NB326_327 := Aside0.mk (nl_ BK326.out hg); have NB327_326 := Aside0.mk (nm_ BK326.out hg); replace BK325 := kb_ BK325 hb; replace BK326 := kb_ BK326 hb; replace HB := kB_ HB hb; clear hb hbox hg; have hnb6 := NB325_326.out; have hnc6 := NB326_325.out; have hnb7 := NB325_327.out; have hnc7 := NB327_325.out; obtain ⟨hcz8_0, hcz8_1, hfz8_0, hfz8_1⟩ := cz2_ BK325.out; have hnb9 := NB327_326.out; have hnc9 := NB326_327.out; obtain ⟨hcz10_0, hcz10_1, hfz10_0, hfz10_1⟩ := cz2_ BK327.out) | ((with_reducible refine gate_callee (f := 53) rfl ?_); refine gl_ (some 9) Try.func53 #[.slice A0_1 l0_1.length c0_1] ?_; (with_reducible refine (laws_toArcS.calls k _ _ l0_1 t328 _ ?side1 ?side2 A2.out).mono ?_); (case side1 => exact Kd.C_below HR0_1.out (ne_ HB.out)); (case side2 => exact HC0_1.out); rintro e w11 ⟨v329, rfl, ho0, hb⟩; refine ⟨_, rfl, ?_⟩; have HO330 := Aside0.mk (Kd.R_lower ho0 (below_size (ne_ HB.out))); replace BK325 := kf_ BK325 hb; replace BK326 := kf_ BK326 hb; replace BK327 := Aside0.mk (blk_below (g := gb327) (o := .cells #[.int .i64 a0_0, .slice none 0 0] 25 (0, 0)) (np_ BK327.out) hb); replace HB := kB_ HB hb; (try clear hb); (try clear hb2); (try clear hk); (try clear hi); (try clear ho0); obtain ⟨Ao12, co12, eo12⟩ := Kd.R_slice HO330.out; subst eo12; obtain ⟨hcz13_0, hcz13_1, hfz13_0, hfz13_1⟩ := cz2_ BK327.out; obtain ⟨hcz14_0, hcz14_1, hfz14_0, hfz14_1⟩ := cz2_ BK326.out))
  refine bodyPost_ret (results_cell_row rfl _ _ gb326 25 #[.int .i64 a0_0, .slice Ao12 t328.length co12] (0, 0) _ rfl (np_ BK326.out) Try.underlying25 rfl (by kernel_rfl)) rfl ?_
  exact ⟨_, nw_, by (with_reducible repeat (first | apply Kd.R_alloc | apply Kd.R_drewN | apply Kd.R_drew)); exact Kd.R_mono (rf2_ (Kd.R_far (p := ⟨gb327, 1, none⟩) (Kd.R_types (Kd.R_types HO330.out BK327.out (by decide)) BK326.out (by decide)) (fun _ hk => hk.1.2) (.slice Ao12 t328.length co12))) (fun _ hk => trivial), ne_ HB.out⟩

end Go.Proofs.Ytcfmejfmjjgoaaa.Print
