-- Made by this session's own program (wip/patch_print.py, over the kit's print). Lean checks it.
import Derived.Test.YtbmoonciggfbpaaPrint0
import Derived.Test.YtbmoonciggfbpaaPrintF52
import Derived.Test.YtbmoonciggfbpaaPrintF53
import Derived.Test.YtbmoonciggfbpaaPrintF54
namespace Go.Proofs.Ytbmoonciggfbpaa.Print
open Go.RowKit Go.Proofs.YtbmoonciggfbpaaW.PrintWords Go.Proofs.YtbmoonciggfbpaaW.PrintLast Go.Proofs.YtbmoonciggfbpaaW.PrintMore Go.Proofs.YtbmoonciggfbpaaX
attribute [local go_sem] max2_int min2_int max_two min_two max_three min_three max_four min_four   -- for this text's walks alone
set_option linter.unusedVariables false
set_option linter.unusedSimpArgs false

theorem ng87_37 {B : Nat} {w W W' : World} (h : Below B w W) (e : Below B w W → Below B w W' := by intro h_; repeat (first | (with_reducible first | exact h_ | apply below_alloc | apply pw_below_drewN | apply below_drew1 | refine below_set ?_ (IsS87.ge (Aside0.out (by with_reducible assumption))) | refine below_set ?_ (Aside0.out (by with_reducible assumption))) | exact h_)) : Below B w W' := e h
theorem ni87_37 {p q : Prop} (h : p) (e : p → q := by intro h_; repeat (first | (with_reducible first | exact h_ | apply IsS87.alloc | apply IsS87.drewN | apply IsS87.drew | apply IsS87.set_1 | refine IsS87.far ?_ (Aside0.out (by with_reducible assumption)) _) | exact h_)) : q := e h
/-! ### spec_DrawNetOut: function 37 -/
def spec_DrawNetOut.f (k : Nat) (l0 : List Int) : Option (Int × (List (S33)) × Int) := (spec_l30Open.f l0).bind fun bt181 => ((spec_l30AnyNet.f k bt181.1 bt181.2).bind fun bt184 => ((spec_l30Node.f k bt181.1 bt184.2.2 bt184.1 bt184.2.1).bind fun bt190 => (some (bt184.1, bt184.2.1, bt190.1))))
theorem spec_DrawNetOut.mono : ∀ a0 k, LeO (spec_DrawNetOut.f k a0) (spec_DrawNetOut.f (k + 1) a0) := by
  intro a0 k
  unfold spec_DrawNetOut.f
  repeat' first | (with_reducible first | exact spec_l30AnyNet.mono _ _ _ | exact spec_l30Node.mono _ _ _ _ _ | exact LeO.refl _ | exact LeO.none _ | refine LeO.ite ?_ ?_ | refine LeO.bind ?_ (fun _ => ?_)) | exact spec_l30AnyNet.mono _ _ _ | exact spec_l30Node.mono _ _ _ _ _ | exact LeO.none _ | refine LeO.ite ?_ ?_ | refine LeO.bind ?_ (fun _ => ?_)
set_option maxHeartbeats 200000000 in
set_option maxRecDepth 100000 in
theorem spec_DrawNetOut.calls (k : Nat) (A0 : Option Addr) (c0 : Nat) (l0 : List Int) (r1 : Int) (r2 : List (S33)) (r3 : Int) (w : World) (hr0 : Kd.C (Kd.int .u8) w A0 l0.length l0) (hc0 : l0.length ≤ c0) (h : spec_DrawNetOut.f k l0 = some (r1, r2, r3)) :
    Calls Try.prog 37 #[.slice A0 l0.length c0] w fun e w' => ∃ v1_ : Value, e = .returned (.tuple #[.agg #[.int .i64 r1, v1_], .int .i64 r3]) ∧ Kd.R k33 33 w' w.heap.size (fun _ => True) v1_ r2 ∧ Below w.heap.size w w' := by
  have hu25 := Try.underlying25
  have HR0 := Aside0.mk hr0
  have HC0 := Aside0.mk hc0
  clear hr0 hc0
  have HB := Aside0.mk (Below.refl w.heap.size w)
  have H : ((spec_l30Open.f l0).bind fun bt181 => ((spec_l30AnyNet.f k bt181.1 bt181.2).bind fun bt184 => ((spec_l30Node.f k bt181.1 bt184.2.2 bt184.1 bt184.2.1).bind fun bt190 => (some (bt184.1, bt184.2.1, bt190.1))))) = some (r1, r2, r3) := h
  clear h
  replace H := Option.bind_eq_some_iff.mp H
  obtain ⟨⟨t181, t182⟩, A20, H⟩ := H
  replace H : ((spec_l30AnyNet.f k t181 t182).bind fun bt184 => ((spec_l30Node.f k t181 bt184.2.2 bt184.1 bt184.2.1).bind fun bt190 => (some (bt184.1, bt184.2.1, bt190.1)))) = some (r1, r2, r3) := H
  have A2 := Aside0.mk A20
  clear A20
  replace H := Option.bind_eq_some_iff.mp H
  obtain ⟨⟨t184, t185, t188⟩, A30, H⟩ := H
  replace H : ((spec_l30Node.f k t181 t188 t184 t185).bind fun bt190 => (some (t184, t185, bt190.1))) = some (r1, r2, r3) := H
  have A3 := Aside0.mk A30
  clear A30
  replace H := Option.bind_eq_some_iff.mp H
  obtain ⟨⟨t190, t191⟩, A40, H⟩ := H
  replace H : (some (t184, t185, t190)) = some (r1, r2, r3) := H
  have A4 := Aside0.mk A40
  clear A40
  simp only [Option.some.injEq, Prod.mk.injEq] at H
  obtain ⟨rfl, rfl, rfl⟩ := H
  go_enter Try.func37, Try.ntmps37
  try go_wp2_with (first | ((with_reducible refine gate_dst (N := 2) rfl ?_); refine bx_ 2 #[.int .i64 0, .slice none 0 0] 25 ?_; intro gb180 hg w5 hbox hb; have BK180 := Aside0.mk (hbox); have GW180 := Aside0.mk (zs_ hg (ne_ HB.out)); have GE180 := Aside0.mk (zs_ hg (ne_ HB.out)); replace HB := kB_ HB hb; clear hb hbox hg) | ((with_reducible refine gate_callee (f := 52) rfl ?_); refine gl_ (some 7) Try.func52 #[.slice A0 l0.length c0] ?_; (with_reducible refine (spec_l30Open.calls _ _ l0 t181 t182 w _ ?side1 ?side2 ?side3 A2.out).mono ?_); (case side1 => exact ne_ HB.out); (case side2 => exact HR0.out); (case side3 => exact HC0.out); rintro e w6 ⟨g183, rfl, hi, hb, hb2⟩; refine ⟨_, rfl, ?_⟩; have HI183 := Aside0.mk (hi); have NB183_180 := Aside0.mk (IsS87.ne_blk hi (blk_below (g := gb180) (o := .cells #[.int .i64 0, .slice none 0 0] 25 (0, 0)) (nb_ BK180.out) hb2) (by decide)); have NB180_183 := Aside0.mk (Ne.symm (IsS87.ne_blk hi (blk_below (g := gb180) (o := .cells #[.int .i64 0, .slice none 0 0] 25 (0, 0)) (nb_ BK180.out) hb2) (by decide))); replace BK180 := kb_ BK180 hb2; replace HB := Aside0.mk (hb); (try clear hb); (try clear hb2); (try clear hk); (try clear hi)) | ((with_reducible refine gate_callee (f := 53) rfl ?_); refine gl_ (some 9) Try.func53 #[.pointer (some ⟨g183, 0, none⟩)] ?_; (with_reducible refine (spec_l30AnyNet.calls k g183 t181 t182 t184 t185 t188 w _ ?side1 ?side2 A3.out).mono ?_); (case side1 => repeat (first | (with_reducible first | exact HI183.out | apply IsS87.alloc | apply IsS87.drewN | apply IsS87.drew | apply IsS87.set_1 | refine IsS87.far ?_ NB183_180.out _) | exact HI183.out)); (case side2 => repeat (first | (with_reducible first | exact HB.out | apply below_alloc | apply pw_below_drewN | apply below_drew1 | refine below_set ?_ (IsS87.ge HI183.out) | refine below_set ?_ GE180.out) | exact HB.out)); rintro e w7 ⟨v186, rfl, ho0, hi, hb, hk⟩; refine ⟨_, rfl, ?_⟩; have HO187 := Aside0.mk (Kd.R_lower ho0 (below_size (ng87_37 HB.out))); replace BK180 := Aside0.mk (KeepBut.blk hk (g' := gb180) (o := .cells #[.int .i64 0, .slice none 0 0] 25 (0, 0)) (nb_ BK180.out) NB180_183.out (by simp)); replace HB := Aside0.mk (hb); replace HI183 := Aside0.mk (hi); (try clear hb); (try clear hb2); (try clear hk); (try clear hi); (try clear ho0)) | ((with_reducible refine gate_dst (N := 5) rfl ?_); refine bx_ 5 #[.int .i64 0, .slice none 0 0] 25 ?_; intro gb189 hg w8 hbox hb; have BK189 := Aside0.mk (hbox); have GW189 := Aside0.mk (zs_ hg (ng87_37 HB.out)); have GE189 := Aside0.mk (zs_ hg (ng87_37 HB.out)); have NB180_189 := Aside0.mk (nl_ BK180.out hg); have NB189_180 := Aside0.mk (nm_ BK180.out hg); have NB183_189 := Aside0.mk ((by rw [hg]; exact Nat.ne_of_lt (IsS87.lt (show IsS87 w _ g183 t181 t188 from ni87_37 HI183.out)) : g183 ≠ gb189)); have NB189_183 := Aside0.mk ((by rw [hg]; exact Nat.ne_of_gt (IsS87.lt (show IsS87 w _ g183 t181 t188 from ni87_37 HI183.out)) : gb189 ≠ g183)); replace HO187 := kR_ HO187 hb; replace BK180 := kb_ BK180 hb; replace HI183 := Aside0.mk (IsS87.below (ni87_37 HI183.out) hb); replace HB := Aside0.mk (below_step (ng87_37 HB.out) hb); clear hb hbox hg; have hnb9 := NB189_180.out; have hnc9 := NB180_189.out; have hnb10 := NB189_183.out; have hnc10 := NB183_189.out; obtain ⟨hcz11_0, hcz11_1, hfz11_0, hfz11_1⟩ := cz2_ BK189.out; obtain ⟨Ao12, co12, eo12⟩ := Kd.R_slice HO187.out; subst eo12))
  have n0_ : Aside0 (Kd.R k33 33 ((w8.setCell ⟨gb189, 0, none⟩ (.int .i64 t184)).setCell ⟨gb189, 1, none⟩ (.slice Ao12 t185.length co12)) w.heap.size (fun _ => True) (.slice Ao12 t185.length co12) t185) := ⟨by (with_reducible repeat (first | apply Kd.R_alloc | apply Kd.R_drewN | apply Kd.R_drew)); exact Kd.R_mono (rf2_ (Kd.R_types HO187.out BK189.out (by decide))) (fun _ hk => trivial)⟩
  have n1_ : Aside0 (((w8.setCell ⟨gb189, 0, none⟩ (.int .i64 t184)).setCell ⟨gb189, 1, none⟩ (.slice Ao12 t185.length co12)).heap[gb180]? = some (.cells #[.int .i64 0, .slice none 0 0] 25 (0, 0))) := ⟨np_ BK180.out⟩
  have n2_ : Aside0 (((w8.setCell ⟨gb189, 0, none⟩ (.int .i64 t184)).setCell ⟨gb189, 1, none⟩ (.slice Ao12 t185.length co12)).heap[gb189]? = some (.cells #[.int .i64 t184, .slice Ao12 t185.length co12] 25 (0, 0))) := ⟨np_ BK189.out⟩
  have n3_ : Aside0 (IsS87 w ((w8.setCell ⟨gb189, 0, none⟩ (.int .i64 t184)).setCell ⟨gb189, 1, none⟩ (.slice Ao12 t185.length co12)) g183 t181 t188) := ⟨ni87_37 HI183.out⟩
  have n4_ : Aside0 (Below w.heap.size w ((w8.setCell ⟨gb189, 0, none⟩ (.int .i64 t184)).setCell ⟨gb189, 1, none⟩ (.slice Ao12 t185.length co12))) := ⟨by repeat (first | (with_reducible first | exact HB.out | apply below_alloc | apply pw_below_drewN | apply below_drew1 | refine below_set ?_ (IsS87.ge HI183.out) | refine below_set ?_ GE180.out | refine below_set ?_ GE189.out) | exact HB.out)⟩
  (try clear HO187)
  (try clear BK180)
  (try clear BK189)
  (try clear HI183)
  (try clear HB)
  generalize ((w8.setCell ⟨gb189, 0, none⟩ (.int .i64 t184)).setCell ⟨gb189, 1, none⟩ (.slice Ao12 t185.length co12)) = w13 at n0_ n1_ n2_ n3_ n4_ ⊢
  have HO187 := n0_
  have BK180 := n1_
  have BK189 := n2_
  have HI183 := n3_
  have HB := n4_
  clear n0_ n1_ n2_ n3_ n4_
  have n0_ := Aside0.mk (Kd.R_drew HO187.out)
  have n1_ := Aside0.mk (blk_drew BK180.out)
  have n2_ := Aside0.mk (blk_drew BK189.out)
  have n3_ := Aside0.mk (IsS87.drew HI183.out)
  have n4_ := Aside0.mk (below_drew1 HB.out)
  clear HO187
  clear BK180
  clear BK189
  clear HI183
  clear HB
  have HO187 := n0_
  have BK180 := n1_
  have BK189 := n2_
  have HI183 := n3_
  have HB := n4_
  clear n0_ n1_ n2_ n3_ n4_
  refine start_ (n := 6) (S := fun w' => w'.cell? ⟨gb189, 0, none⟩ = some (.int .i64 t184) ∧ w'.cell? ⟨gb189, 1, none⟩ = some (.slice Ao12 t185.length co12)) (ds := []) #[false, false, false, false, false, false] (by kernel_rfl) rfl rfl ⟨(blk_cell BK189.out 0).trans rfl, (blk_cell BK189.out 1).trans rfl⟩ (fun hHeld => ?_)
  generalize w13.drew = w14 at HO187 BK180 BK189 HI183 HB hHeld ⊢
  refine pure_ (i := 1) (N := some 11) (v := ?_) (a' := ?_) #[false, true, false, false, false, false] rfl rfl (by kernel_rfl) (fun _ _ _ h => h) (Or.inl ⟨by rfl, ?_⟩) ?_ ?_
  rotate_left
  ·intro w'
   go_simp
   with_reducible rfl
  rotate_left
  ·simp only [Act.put, List.setIfInBounds_toArray, List.set_cons_zero, List.set_cons_succ, i64_w, i32_w]
   rfl
  refine take_ (i := 0) (N := some 10) (v := ?_) (a' := ?_) #[true, true, false, false, false, false] rfl rfl (by kernel_rfl) (fun _ _ _ h => h) (Or.inl ⟨by rfl, ?_⟩) hHeld ?_ ?_
  rotate_left
  ·rintro w' ⟨s0, s1⟩
   go_simp
   with_reducible rfl
  rotate_left
  ·simp only [Act.put, List.setIfInBounds_toArray, List.set_cons_zero, List.set_cons_succ, i64_w, i32_w]
   rfl
  refine take_ (i := 2) (N := some 12) (v := ?_) (a' := ?_) #[true, true, true, false, false, false] rfl rfl (by kernel_rfl) (fun _ _ _ h => h) (Or.inl ⟨by rfl, ?_⟩) hHeld ?_ ?_
  rotate_left
  ·rintro w' ⟨s0, s1⟩
   go_simp
   with_reducible rfl
  rotate_left
  ·simp only [Act.put, List.setIfInBounds_toArray, List.set_cons_zero, List.set_cons_succ, i64_w, i32_w]
   rfl
  refine one_ (i := 3) (N := some 13) #[true, true, true, true, false, false] rfl rfl (by kernel_rfl) (by decide) (fun K hK => ?_)
  refine goes_ Try.func54 (by kernel_rfl) rfl #[.pointer (some ⟨g183, 0, none⟩), .agg #[.int .i64 t184, .slice Ao12 t185.length co12]] (by rfl) rfl rfl na_ ?_
  with_reducible refine (spec_l30Node.calls k g183 t181 t188 t184 _ _ t185 t190 t191 w _ ?side1 ?side2 ?side3 ?side4 A4.out).mono ?_
  (case side1 => repeat (first | (with_reducible first | exact HI183.out | apply IsS87.alloc | apply IsS87.drewN | apply IsS87.drew | apply IsS87.set_1 | refine IsS87.far ?_ NB183_180.out _ | refine IsS87.far ?_ NB183_189.out _) | exact HI183.out))
  (case side2 => repeat (first | (with_reducible first | exact HB.out | apply below_alloc | apply pw_below_drewN | apply below_drew1 | refine below_set ?_ (IsS87.ge HI183.out) | refine below_set ?_ GE180.out | refine below_set ?_ GE189.out) | exact HB.out))
  (case side3 => exact Kd.C_foot_own (IsS87.apart (show IsS87 w _ g183 t181 t188 from ni87_37 HI183.out) (nr_ HO187.out) (by decide)) (fun _ h_ => h_.2))
  (case side4 => exact (Kd.R_reads' HO187.out).2.1)
  rintro e w15 ⟨rfl, hi, hb, hk⟩
  refine ⟨_, rfl, ?_⟩
  have n0_ := Aside0.mk (KeepBut.blk hk (g' := gb180) (o := .cells #[.int .i64 0, .slice none 0 0] 25 (0, 0)) (nb_ BK180.out) NB180_183.out (by simp))
  have n1_ := Aside0.mk (Kd.R_mono (Kd.R_keep (IsS87.apart (show IsS87 w _ g183 t181 t188 from ni87_37 HI183.out) (nr_ HO187.out) (by decide)) hk (fun _ h => h.2)) (fun _ h => h.1))
  have n2_ := Aside0.mk (KeepBut.blk hk (g' := gb189) (o := .cells #[.int .i64 t184, .slice Ao12 t185.length co12] 25 (0, 0)) (nb_ BK189.out) NB189_183.out (by simp))
  have n3_ := Aside0.mk (hb)
  have n4_ := Aside0.mk (hi)
  clear BK180
  clear HO187
  clear BK189
  clear HB
  clear HI183
  have BK180 := n0_
  have HO187 := n1_
  have BK189 := n2_
  have HB := n3_
  have HI183 := n4_
  clear n0_ n1_ n2_ n3_ n4_
  (try clear hb)
  (try clear hb2)
  (try clear hk)
  (try clear hi)
  refine hK.out _ _ ⟨(blk_cell BK189.out 0).trans rfl, (blk_cell BK189.out 1).trans rfl⟩ (fun hHeld => ?_)
  clear hK K
  refine norm_ (a' := ?_) ?_ ?_
  rotate_left
  ·show Act.put _ (some 13) _ = _
   simp only [Act.put, List.setIfInBounds_toArray, List.set_cons_zero, List.set_cons_succ, i64_w, i32_w]
   rfl
  refine one_ (i := 4) (N := none) #[true, true, true, true, true, false] rfl rfl (by kernel_rfl) (by decide) (fun K hK => ?_)
  have hs16 : w15.cell? ⟨gb180, 0, none⟩ = some (.int .i64 0) := (blk_cell BK180.out 0).trans rfl
  have hfs16 := blk_frozen BK180.out 0
  have hns16_1 := NB189_180.out
  have hms16_1 := NB180_189.out
  have hs17 : w15.cell? ⟨gb180, 1, none⟩ = some (.slice none 0 0) := (blk_cell BK180.out 1).trans rfl
  have hfs17 := blk_frozen BK180.out 1
  have hns17_1 := NB189_180.out
  have hms17_1 := NB180_189.out
  refine skip_ (w1 := ?_) (by rfl) rfl ?_ ?_
  rotate_left
  ·go_simp
   rfl
  refine hK.out _ _ ⟨((cell_far (p := ⟨gb180, _, none⟩) NB189_180.out _).trans (((cell_far (p := ⟨gb180, _, none⟩) NB189_180.out _).trans (hHeld.1)))), ((cell_far (p := ⟨gb180, _, none⟩) NB189_180.out _).trans (((cell_far (p := ⟨gb180, _, none⟩) NB189_180.out _).trans (hHeld.2))))⟩ (fun hHeld => ?_)
  clear hK K
  refine pure_ (i := 5) (N := some 3) (v := ?_) (a' := ?_) #[true, true, true, true, true, true] rfl rfl (by kernel_rfl) (fun _ _ _ h => h) (Or.inl ⟨by rfl, ?_⟩) ?_ ?_
  rotate_left
  ·intro w'
   go_simp
   with_reducible rfl
  rotate_left
  ·simp only [Act.put, List.setIfInBounds_toArray, List.set_cons_zero, List.set_cons_succ, i64_w, i32_w]
   rfl
  refine done_ (by kernel_rfl) ?_
  try go_wp2
  refine bodyPost_ret (results_ct rfl _ _ gb180 25 #[.int .i64 t184, .slice Ao12 t185.length co12] (0, 0) _ rfl (np_ BK180.out) Try.underlying25 rfl (by kernel_rfl)) rfl ?_
  exact ⟨_, nw_, by (with_reducible repeat (first | apply Kd.R_alloc | apply Kd.R_drewN | apply Kd.R_drew)); exact Kd.R_mono (rf2_ (Kd.R_types HO187.out BK180.out (by decide))) (fun _ hk => trivial), by repeat (first | (with_reducible first | exact HB.out | apply below_alloc | apply pw_below_drewN | apply below_drew1 | refine below_set ?_ (IsS87.ge HI183.out) | refine below_set ?_ GE180.out | refine below_set ?_ GE189.out) | exact HB.out)⟩

end Go.Proofs.Ytbmoonciggfbpaa.Print
