-- Made by this session's own program (wip/patch_print.py, over the kit's print). Lean checks it.
import Derived.Test.YtahcomglicodlaaPrint0
import Derived.Test.YtahcomglicodlaaPrintB
import Derived.Test.YtahcomglicodlaaPrintF8
import Derived.Test.YtahcomglicodlaaPrintF9
namespace Go.Proofs.Ytahcomglicodlaa.Print
open Go.RowKit Go.Proofs.YtahcomglicodlaaW.PrintWords Go.Proofs.YtahcomglicodlaaW.PrintLast Go.Proofs.YtahcomglicodlaaW.PrintMore Go.Proofs.YtahcomglicodlaaX
attribute [local go_sem] max2_int min2_int max_two min_two max_three min_three max_four min_four   -- for this text's walks alone
set_option linter.unusedVariables false
set_option linter.unusedSimpArgs false

theorem ng44_4 {B : Nat} {w W W' : World} (h : Below B w W) (e : Below B w W → Below B w W' := by intro h_; repeat (first | (with_reducible first | exact h_ | apply below_alloc | apply pw_below_drewN | apply below_drew1 | refine below_set ?_ (IsS44.ge (Aside0.out (by with_reducible assumption))) | refine below_set ?_ (Aside0.out (by with_reducible assumption))) | exact h_)) : Below B w W' := e h
theorem ni44_4 {p q : Prop} (h : p) (e : p → q := by intro h_; repeat (first | (with_reducible first | exact h_ | apply IsS44.alloc | apply IsS44.drewN | apply IsS44.drew | apply IsS44.set_1 | refine IsS44.far ?_ (Aside0.out (by with_reducible assumption)) _) | exact h_)) : q := e h
/-! ### spec_DrawTurnsOk: function 4 -/
def spec_DrawTurnsOk.f (k : Nat) (l0 : List Int) : Option (Int × (List (S33)) × (List (S31))) := (spec_l30Open.f l0).bind fun bt208 => ((spec_l30AnyNet.f k bt208.1 bt208.2).bind fun bt211 => ((spec_l30Turns.f k bt208.1 bt211.2.2 bt211.1 bt211.2.1).bind fun bt217 => (some (bt211.1, bt211.2.1, bt217.1))))
theorem spec_DrawTurnsOk.mono : ∀ a0 k, LeO (spec_DrawTurnsOk.f k a0) (spec_DrawTurnsOk.f (k + 1) a0) := by
  intro a0 k
  unfold spec_DrawTurnsOk.f
  repeat' first | (with_reducible first | exact spec_l30AnyNet.mono _ _ _ | exact spec_l30Turns.mono _ _ _ _ _ | exact LeO.refl _ | exact LeO.none _ | refine LeO.ite ?_ ?_ | refine LeO.bind ?_ (fun _ => ?_)) | exact spec_l30AnyNet.mono _ _ _ | exact spec_l30Turns.mono _ _ _ _ _ | exact LeO.none _ | refine LeO.ite ?_ ?_ | refine LeO.bind ?_ (fun _ => ?_)
set_option maxHeartbeats 200000000 in
set_option maxRecDepth 100000 in
theorem spec_DrawTurnsOk.calls (k : Nat) (A0 : Option Addr) (c0 : Nat) (l0 : List Int) (r1 : Int) (r2 : List (S33)) (r3 : List (S31)) (w : World) (hr0 : Kd.C (Kd.int .u8) w A0 l0.length l0) (hc0 : l0.length ≤ c0) (h : spec_DrawTurnsOk.f k l0 = some (r1, r2, r3)) :
    Calls Try.prog 4 #[.slice A0 l0.length c0] w fun e w' => ∃ v1_ v2_ : Value, e = .returned (.tuple #[.agg #[.int .i64 r1, v1_], v2_]) ∧ Kd.R k33 33 w' w.heap.size (fun _ => True) v1_ r2 ∧ Kd.R k31 31 w' w.heap.size (fun _ => True) v2_ r3 ∧ Below w.heap.size w w' := by
  have hu25 := Try.underlying25
  have HR0 := Aside0.mk hr0
  have HC0 := Aside0.mk hc0
  clear hr0 hc0
  have HB := Aside0.mk (Below.refl w.heap.size w)
  have H : ((spec_l30Open.f l0).bind fun bt208 => ((spec_l30AnyNet.f k bt208.1 bt208.2).bind fun bt211 => ((spec_l30Turns.f k bt208.1 bt211.2.2 bt211.1 bt211.2.1).bind fun bt217 => (some (bt211.1, bt211.2.1, bt217.1))))) = some (r1, r2, r3) := h
  clear h
  replace H := Option.bind_eq_some_iff.mp H
  obtain ⟨⟨t208, t209⟩, A20, H⟩ := H
  try dsimp only at H
  have A2 := Aside0.mk A20
  clear A20
  replace H := Option.bind_eq_some_iff.mp H
  obtain ⟨⟨t211, t212, t215⟩, A30, H⟩ := H
  replace H : ((spec_l30Turns.f k t208 t215 t211 t212).bind fun bt217 => (some (t211, t212, bt217.1))) = some (r1, r2, r3) := H
  have A3 := Aside0.mk A30
  clear A30
  replace H := Option.bind_eq_some_iff.mp H
  obtain ⟨⟨t217, t220⟩, A40, H⟩ := H
  replace H : (some (t211, t212, t217)) = some (r1, r2, r3) := H
  have A4 := Aside0.mk A40
  clear A40
  simp only [Option.some.injEq, Prod.mk.injEq] at H
  obtain ⟨rfl, rfl, rfl⟩ := H
  go_enter Try.func4, Try.ntmps4
  try go_wp2_with (first | ((with_reducible refine gate_dst (N := 2) rfl ?_); refine bx_ 2 #[.int .i64 0, .slice none 0 0] 25 ?_; intro gb207 hg w5 hbox hb; have BK207 := Aside0.mk (hbox); have GW207 := Aside0.mk (zs_ hg (ne_ HB.out)); have GE207 := Aside0.mk (zs_ hg (ne_ HB.out)); replace HB := kB_ HB hb; clear hb hbox hg) | ((with_reducible refine gate_callee (f := 7) rfl ?_); refine gl_ (some 7) Try.func7 #[.slice A0 l0.length c0] ?_; (with_reducible refine (spec_l30Open.calls _ _ l0 t208 t209 w _ ?side1 ?side2 ?side3 A2.out).mono ?_); (case side1 => exact (ne_ HB.out)); (case side2 => exact HR0.out); (case side3 => exact HC0.out); rintro e w6 ⟨g210, rfl, hi, hb, hb2⟩; refine ⟨_, rfl, ?_⟩; have HI210 := Aside0.mk (hi); have NB210_207 := Aside0.mk (IsS44.ne_blk hi (blk_below (g := gb207) (o := .cells #[.int .i64 0, .slice none 0 0] 25 (0, 0)) (nb_ BK207.out) hb2) (by decide)); have NB207_210 := Aside0.mk (Ne.symm (IsS44.ne_blk hi (blk_below (g := gb207) (o := .cells #[.int .i64 0, .slice none 0 0] 25 (0, 0)) (nb_ BK207.out) hb2) (by decide))); replace BK207 := kb_ BK207 hb2; replace HB := Aside0.mk (hb); (try clear hb); (try clear hb2); (try clear hk); (try clear hi)) | ((with_reducible refine gate_callee (f := 8) rfl ?_); refine gl_ (some 9) Try.func8 #[.pointer (some ⟨g210, 0, none⟩)] ?_; (with_reducible refine (spec_l30AnyNet.calls k g210 t208 t209 t211 t212 t215 w _ ?side1 ?side2 A3.out).mono ?_); (case side1 => repeat (first | (with_reducible first | exact HI210.out | apply IsS44.alloc | apply IsS44.drewN | apply IsS44.drew | apply IsS44.set_1 | refine IsS44.far ?_ NB210_207.out _) | exact HI210.out)); (case side2 => exact (ng44_4 HB.out)); rintro e w7 ⟨v213, rfl, ho0, hi, hb, hk⟩; refine ⟨_, rfl, ?_⟩; have HO214 := Aside0.mk (Kd.R_lower ho0 (below_size (ng44_4 HB.out))); replace BK207 := kk_ BK207 hk NB207_210; replace HB := Aside0.mk (hb); replace HI210 := Aside0.mk (hi); (try clear hb); (try clear hb2); (try clear hk); (try clear hi); (try clear ho0)) | ((with_reducible refine gate_dst (N := 5) rfl ?_); refine bx_ 5 #[.int .i64 0, .slice none 0 0] 25 ?_; intro gb216 hg w8 hbox hb; have BK216 := Aside0.mk (hbox); have GW216 := Aside0.mk (zs_ hg (ng44_4 HB.out)); have GE216 := Aside0.mk (zs_ hg (ng44_4 HB.out)); have NB207_216 := Aside0.mk (nl_ BK207.out hg); have NB216_207 := Aside0.mk (nm_ BK207.out hg); have NB210_216 := Aside0.mk ((by rw [hg]; exact Nat.ne_of_lt (IsS44.lt (show IsS44 w _ g210 t208 t215 from ni44_4 HI210.out)) : g210 ≠ gb216)); have NB216_210 := Aside0.mk ((by rw [hg]; exact Nat.ne_of_gt (IsS44.lt (show IsS44 w _ g210 t208 t215 from ni44_4 HI210.out)) : gb216 ≠ g210)); replace HO214 := kR_ HO214 hb; replace BK207 := kb_ BK207 hb; replace HI210 := Aside0.mk (IsS44.below (ni44_4 HI210.out) hb); replace HB := Aside0.mk (below_step (ng44_4 HB.out) hb); clear hb hbox hg; have hnb9 := NB216_207.out; have hnc9 := NB207_216.out; have hnb10 := NB216_210.out; have hnc10 := NB210_216.out; obtain ⟨hcz11_0, hcz11_1, hfz11_0, hfz11_1⟩ := cz2_ BK216.out; obtain ⟨Ao12, co12, eo12⟩ := Kd.R_slice HO214.out; subst eo12))
  have n0_ : Aside0 (Kd.R k33 33 ((w8.setCell ⟨gb216, 0, none⟩ (.int .i64 t211)).setCell ⟨gb216, 1, none⟩ (.slice Ao12 t212.length co12)) w.heap.size (fun _ => True) (.slice Ao12 t212.length co12) t212) := ⟨by (with_reducible repeat (first | apply Kd.R_alloc | apply Kd.R_drewN | apply Kd.R_drew)); exact Kd.R_mono (rf2_ (Kd.R_types HO214.out BK216.out (by decide))) (fun _ hk => trivial)⟩
  have n1_ : Aside0 (((w8.setCell ⟨gb216, 0, none⟩ (.int .i64 t211)).setCell ⟨gb216, 1, none⟩ (.slice Ao12 t212.length co12)).heap[gb207]? = some (.cells #[.int .i64 0, .slice none 0 0] 25 (0, 0))) := ⟨np_ BK207.out⟩
  have n2_ : Aside0 (((w8.setCell ⟨gb216, 0, none⟩ (.int .i64 t211)).setCell ⟨gb216, 1, none⟩ (.slice Ao12 t212.length co12)).heap[gb216]? = some (.cells #[.int .i64 t211, .slice Ao12 t212.length co12] 25 (0, 0))) := ⟨np_ BK216.out⟩
  have n3_ : Aside0 (IsS44 w ((w8.setCell ⟨gb216, 0, none⟩ (.int .i64 t211)).setCell ⟨gb216, 1, none⟩ (.slice Ao12 t212.length co12)) g210 t208 t215) := ⟨ni44_4 HI210.out⟩
  have n4_ : Aside0 (Below w.heap.size w ((w8.setCell ⟨gb216, 0, none⟩ (.int .i64 t211)).setCell ⟨gb216, 1, none⟩ (.slice Ao12 t212.length co12))) := ⟨by repeat (first | (with_reducible first | exact HB.out | apply below_alloc | apply pw_below_drewN | apply below_drew1 | refine below_set ?_ (IsS44.ge HI210.out) | refine below_set ?_ GE207.out | refine below_set ?_ GE216.out) | exact HB.out)⟩
  (try clear HO214)
  (try clear BK207)
  (try clear BK216)
  (try clear HI210)
  (try clear HB)
  generalize ((w8.setCell ⟨gb216, 0, none⟩ (.int .i64 t211)).setCell ⟨gb216, 1, none⟩ (.slice Ao12 t212.length co12)) = w13 at n0_ n1_ n2_ n3_ n4_ ⊢
  have HO214 := n0_
  have BK207 := n1_
  have BK216 := n2_
  have HI210 := n3_
  have HB := n4_
  clear n0_ n1_ n2_ n3_ n4_
  replace HO214 := Aside0.mk (Kd.R_drew HO214.out)
  replace BK207 := Aside0.mk (blk_drew BK207.out)
  replace BK216 := Aside0.mk (blk_drew BK216.out)
  replace HI210 := Aside0.mk (IsS44.drew HI210.out)
  replace HB := Aside0.mk (below_drew1 HB.out)
  refine start_ (n := 6) (S := fun w' => w'.cell? ⟨gb216, 0, none⟩ = some (.int .i64 t211) ∧ w'.cell? ⟨gb216, 1, none⟩ = some (.slice Ao12 t212.length co12)) (ds := []) #[false, false, false, false, false, false] (by kernel_rfl) rfl rfl ⟨ct_ BK216.out 0, ct_ BK216.out 1⟩ (fun hHeld => ?_)
  generalize w13.drew = w14 at HO214 BK207 BK216 HI210 HB hHeld ⊢
  refine pure_ (i := 1) (N := some 11) (v := ?_) (a' := ?_) #[false, true, false, false, false, false] rfl rfl (by kernel_rfl) (fun _ _ _ h => h) (Or.inl ⟨by rfl, ?_⟩) ?_ ?_
  rotate_left
  ·intro w'
   go_simp
   with_reducible rfl
  rotate_left
  ·simp only [Act.put, List.setIfInBounds_toArray, List.set_cons_zero, List.set_cons_succ, i64_w, i32_w]
   rfl
  refine take_ (i := 0) (N := some 10) (v := ?_) (a' := ?_) #[true, true, false, false, false, false] rfl rfl (by kernel_rfl) (fun _ _ _ h => h) (Or.inl ⟨by rfl, ?_⟩) hHeld ?_ ?_
  rotate_left
  ·rintro w' ⟨s0, s1⟩
   go_simp
   with_reducible rfl
  rotate_left
  ·simp only [Act.put, List.setIfInBounds_toArray, List.set_cons_zero, List.set_cons_succ, i64_w, i32_w]
   rfl
  refine take_ (i := 2) (N := some 12) (v := ?_) (a' := ?_) #[true, true, true, false, false, false] rfl rfl (by kernel_rfl) (fun _ _ _ h => h) (Or.inl ⟨by rfl, ?_⟩) hHeld ?_ ?_
  rotate_left
  ·rintro w' ⟨s0, s1⟩
   go_simp
   with_reducible rfl
  rotate_left
  ·simp only [Act.put, List.setIfInBounds_toArray, List.set_cons_zero, List.set_cons_succ, i64_w, i32_w]
   rfl
  refine one_ (i := 3) (N := some 13) #[true, true, true, true, false, false] rfl rfl (by kernel_rfl) (by decide) (fun K hK => ?_)
  refine go_ Try.func9 #[.pointer (some ⟨g210, 0, none⟩), .agg #[.int .i64 t211, .slice Ao12 t212.length co12]] ?_
  with_reducible refine (spec_l30Turns.calls k g210 t208 t215 t211 _ _ t212 t217 t220 w _ ?side1 ?side2 ?side3 ?side4 A4.out).mono ?_
  (case side1 => repeat (first | (with_reducible first | exact HI210.out | apply IsS44.alloc | apply IsS44.drewN | apply IsS44.drew | apply IsS44.set_1 | refine IsS44.far ?_ NB210_207.out _ | refine IsS44.far ?_ NB210_216.out _) | exact HI210.out))
  (case side2 => exact (ng44_4 HB.out))
  (case side3 => exact Kd.C_foot_own (IsS44.apart (show IsS44 w _ g210 t208 t215 from ni44_4 HI210.out) (nr_ HO214.out) (by decide)) (fun _ h_ => h_.2))
  (case side4 => exact (Kd.R_reads' HO214.out).2.1)
  rintro e w15 ⟨v218, rfl, ho0, hi, hb, hk⟩
  refine ⟨_, rfl, ?_⟩
  replace BK207 := kk_ BK207 hk NB207_210
  replace HO214 := Aside0.mk (Kd.R_mono (Kd.R_keep (IsS44.apart (show IsS44 w _ g210 t208 t215 from ni44_4 HI210.out) (nr_ HO214.out) (by decide)) hk (fun _ h => h.2)) (fun _ h => h.1))
  replace BK216 := kk_ BK216 hk NB216_210
  have HO219 := Aside0.mk (Kd.R_lower ho0 (below_size (ng44_4 HB.out)))
  replace HB := Aside0.mk (hb)
  replace HI210 := Aside0.mk (hi)
  (try clear hb)
  (try clear hb2)
  (try clear hk)
  (try clear hi)
  (try clear ho0)
  refine hK.out _ _ ⟨ct_ BK216.out 0, ct_ BK216.out 1⟩ (fun hHeld => ?_)
  clear hK K
  refine nm1_ (some 13) ?_
  refine one_ (i := 4) (N := none) #[true, true, true, true, true, false] rfl rfl (by kernel_rfl) (by decide) (fun K hK => ?_)
  have hs16 : w15.cell? ⟨gb207, 0, none⟩ = some (.int .i64 0) := ct_ BK207.out 0
  have hfs16 := blk_frozen BK207.out 0
  have hns16_1 := NB216_207.out
  have hms16_1 := NB207_216.out
  have hs17 : w15.cell? ⟨gb207, 1, none⟩ = some (.slice none 0 0) := ct_ BK207.out 1
  have hfs17 := blk_frozen BK207.out 1
  have hns17_1 := NB216_207.out
  have hms17_1 := NB207_216.out
  refine skip_ (w1 := ?_) (by rfl) rfl ?_ ?_
  rotate_left
  ·go_simp
   rfl
  refine hK.out _ _ ⟨((cell_far (p := ⟨gb207, _, none⟩) NB216_207.out _).trans (((cell_far (p := ⟨gb207, _, none⟩) NB216_207.out _).trans (hHeld.1)))), ((cell_far (p := ⟨gb207, _, none⟩) NB216_207.out _).trans (((cell_far (p := ⟨gb207, _, none⟩) NB216_207.out _).trans (hHeld.2))))⟩ (fun hHeld => ?_)
  clear hK K
  refine pure_ (i := 5) (N := some 3) (v := ?_) (a' := ?_) #[true, true, true, true, true, true] rfl rfl (by kernel_rfl) (fun _ _ _ h => h) (Or.inl ⟨by rfl, ?_⟩) ?_ ?_
  rotate_left
  ·intro w'
   go_simp
   with_reducible rfl
  rotate_left
  ·simp only [Act.put, List.setIfInBounds_toArray, List.set_cons_zero, List.set_cons_succ, i64_w, i32_w]
   rfl
  refine done_ (by kernel_rfl) ?_
  try go_wp2
  refine bodyPost_ret (results_ct rfl _ _ gb207 25 #[.int .i64 t211, .slice Ao12 t212.length co12] (0, 0) _ rfl (np_ BK207.out) Try.underlying25 rfl (by kernel_rfl)) rfl ?_
  exact ⟨_, _, nw_, by (with_reducible repeat (first | apply Kd.R_alloc | apply Kd.R_drewN | apply Kd.R_drew)); exact Kd.R_mono (rf2_ (Kd.R_types HO214.out BK207.out (by decide))) (fun _ hk => trivial), by (with_reducible repeat (first | apply Kd.R_alloc | apply Kd.R_drewN | apply Kd.R_drew)); exact Kd.R_mono (rf2_ (Kd.R_types HO219.out BK207.out (by decide))) (fun _ hk => trivial), by repeat (first | (with_reducible first | exact HB.out | apply below_alloc | apply pw_below_drewN | apply below_drew1 | refine below_set ?_ (IsS44.ge HI210.out) | refine below_set ?_ GE207.out | refine below_set ?_ GE216.out) | exact HB.out)⟩

end Go.Proofs.Ytahcomglicodlaa.Print
