-- Made by this session's own program (wip/patch_print.py, over the kit's print). Lean checks it.
import Derived.Test.YtgnnimhhkbbfiaaPrint0
import Derived.Test.YtgnnimhhkbbfiaaPrintB
import Derived.Test.YtgnnimhhkbbfiaaPrintF13
import Derived.Test.YtgnnimhhkbbfiaaPrintF14
namespace Go.Proofs.Ytgnnimhhkbbfiaa.Print
open Go.RowKit Go.Proofs.YtgnnimhhkbbfiaaW.PrintWords Go.Proofs.YtgnnimhhkbbfiaaW.PrintLast Go.Proofs.YtgnnimhhkbbfiaaW.PrintMore Go.Proofs.YtgnnimhhkbbfiaaX
attribute [local go_sem] max2_int min2_int max_two min_two max_three min_three max_four min_four   -- for this text's walks alone
set_option linter.unusedVariables false
set_option linter.unusedSimpArgs false

theorem ng52_4 {B : Nat} {w W W' : World} (h : Below B w W) (e : Below B w W → Below B w W' := by intro h_; repeat (first | (with_reducible first | exact h_ | apply below_alloc | apply pw_below_drewN | apply below_drew1 | refine below_set ?_ (IsS52.ge (Aside0.out (by with_reducible assumption))) | refine below_set ?_ (Aside0.out (by with_reducible assumption))) | exact h_)) : Below B w W' := e h
theorem ni52_4 {p q : Prop} (h : p) (e : p → q := by intro h_; repeat (first | (with_reducible first | exact h_ | apply IsS52.alloc | apply IsS52.drewN | apply IsS52.drew | apply IsS52.set_1 | refine IsS52.far ?_ (Aside0.out (by with_reducible assumption)) _) | exact h_)) : q := e h
/-! ### spec_DrawNearWalk: function 4 -/
def spec_DrawNearWalk.f (k : Nat) (l0 : List Int) : Option (Int × (List (S47)) × Int × Int) := (spec_l30Open.f l0).bind fun bt181 => ((spec_l30AnyNet.f k bt181.1 bt181.2).bind fun bt184 => ((spec_l30Node.f k bt181.1 bt184.2.2 bt184.1 bt184.2.1).bind fun bt190 => ((spec_l30Node.f k bt181.1 bt190.2 bt184.1 bt184.2.1).bind fun bt192 => (some (bt184.1, bt184.2.1, bt190.1, bt192.1)))))
theorem spec_DrawNearWalk.mono : ∀ a0 k, LeO (spec_DrawNearWalk.f k a0) (spec_DrawNearWalk.f (k + 1) a0) := by
  intro a0 k
  unfold spec_DrawNearWalk.f
  repeat' first | (with_reducible first | exact spec_l30AnyNet.mono _ _ _ | exact spec_l30Node.mono _ _ _ _ _ | exact LeO.refl _ | exact LeO.none _ | refine LeO.ite ?_ ?_ | refine LeO.bind ?_ (fun _ => ?_)) | exact spec_l30AnyNet.mono _ _ _ | exact spec_l30Node.mono _ _ _ _ _ | exact LeO.none _ | refine LeO.ite ?_ ?_ | refine LeO.bind ?_ (fun _ => ?_)
def spec_DrawNearWalk.T4 : Bool × List (List Nat × List Nat) := (true, [([], []), ([], []), ([], []), ([], []), ([2, 3], [2, 3]), ([0, 4, 0], [0]), ([1, 5, 0, 1, 5], [1]), ([4, 6, 0, 1, 2, 3, 4, 5, 6], [4])])
def spec_DrawNearWalk.B4 : List Nat := [0, 0, 0, 0, 12, 29, 63, 127]
theorem spec_DrawNearWalk.tab4 : rtab .any (opsOf Try.f4 4) = spec_DrawNearWalk.T4 := by kernel_rfl
theorem spec_DrawNearWalk.bits4 : waitsOk spec_DrawNearWalk.T4.2 spec_DrawNearWalk.B4 = true := by kernel_rfl
set_option maxHeartbeats 200000000 in
set_option maxRecDepth 100000 in
theorem spec_DrawNearWalk.calls (k : Nat) (A0 : Option Addr) (c0 : Nat) (l0 : List Int) (r1 : Int) (r2 : List (S47)) (r3 : Int) (r4 : Int) (w : World) (hr0 : Kd.C (Kd.int .u8) w A0 l0.length l0) (hc0 : l0.length ≤ c0) (h : spec_DrawNearWalk.f k l0 = some (r1, r2, r3, r4)) :
    Calls Try.prog 4 #[.slice A0 l0.length c0] w fun e w' => ∃ v1_ : Value, e = .returned (.tuple #[.agg #[.int .i64 r1, v1_], .int .i64 r3, .int .i64 r4]) ∧ Kd.R k47 47 w' w.heap.size (fun _ => True) v1_ r2 ∧ Below w.heap.size w w' := by
  have hu25 := Try.underlying25
  have HR0 := Aside0.mk hr0
  have HC0 := Aside0.mk hc0
  clear hr0 hc0
  have HB := Aside0.mk (Below.refl w.heap.size w)
  have H : ((spec_l30Open.f l0).bind fun bt181 => ((spec_l30AnyNet.f k bt181.1 bt181.2).bind fun bt184 => ((spec_l30Node.f k bt181.1 bt184.2.2 bt184.1 bt184.2.1).bind fun bt190 => ((spec_l30Node.f k bt181.1 bt190.2 bt184.1 bt184.2.1).bind fun bt192 => (some (bt184.1, bt184.2.1, bt190.1, bt192.1)))))) = some (r1, r2, r3, r4) := h
  clear h
  replace H := Option.bind_eq_some_iff.mp H
  obtain ⟨⟨t181, t182⟩, A20, H⟩ := H
  try dsimp only at H
  have A2 := Aside0.mk A20
  clear A20
  replace H := Option.bind_eq_some_iff.mp H
  obtain ⟨⟨t184, t185, t188⟩, A30, H⟩ := H
  try dsimp only at H
  have A3 := Aside0.mk A30
  clear A30
  replace H := Option.bind_eq_some_iff.mp H
  obtain ⟨⟨t190, t191⟩, A40, H⟩ := H
  replace H : ((spec_l30Node.f k t181 t191 t184 t185).bind fun bt192 => (some (t184, t185, t190, bt192.1))) = some (r1, r2, r3, r4) := H
  have A4 := Aside0.mk A40
  clear A40
  replace H := Option.bind_eq_some_iff.mp H
  obtain ⟨⟨t192, t193⟩, A50, H⟩ := H
  replace H : (some (t184, t185, t190, t192)) = some (r1, r2, r3, r4) := H
  have A5 := Aside0.mk A50
  clear A50
  simp only [Option.some.injEq, Prod.mk.injEq] at H
  obtain ⟨rfl, rfl, rfl, rfl⟩ := H
  go_enter Try.func4, Try.ntmps4
  try go_wp2_with (first | ((with_reducible refine gate_dst (N := 2) rfl ?_); refine bx_ 2 #[.int .i64 0, .slice none 0 0] 25 ?_; intro gb180 hg w6 hbox hb; have BK180 := Aside0.mk (hbox); have GW180 := Aside0.mk (zs_ hg (ne_ HB.out)); have GE180 := Aside0.mk (zs_ hg (ne_ HB.out)); replace HB := kB_ HB hb; clear hb hbox hg) | ((with_reducible refine gate_callee (f := 12) rfl ?_); refine gl_ (some 9) Try.func12 #[.slice A0 l0.length c0] ?_; (with_reducible refine (spec_l30Open.calls _ _ l0 t181 t182 w _ ?side1 ?side2 ?side3 A2.out).mono ?_); (case side1 => exact (ne_ HB.out)); (case side2 => exact HR0.out); (case side3 => exact HC0.out); rintro e w7 ⟨g183, rfl, hi, hb, hb2⟩; refine ⟨_, rfl, ?_⟩; have HI183 := Aside0.mk (hi); have NB183_180 := Aside0.mk (IsS52.ne_blk hi (blk_below (g := gb180) (o := .cells #[.int .i64 0, .slice none 0 0] 25 (0, 0)) (nb_ BK180.out) hb2) (by decide)); have NB180_183 := Aside0.mk (Ne.symm (IsS52.ne_blk hi (blk_below (g := gb180) (o := .cells #[.int .i64 0, .slice none 0 0] 25 (0, 0)) (nb_ BK180.out) hb2) (by decide))); replace BK180 := kb_ BK180 hb2; replace HB := Aside0.mk (hb); (try clear hb); (try clear hb2); (try clear hk); (try clear hi)) | ((with_reducible refine gate_callee (f := 13) rfl ?_); refine gl_ (some 11) Try.func13 #[.pointer (some ⟨g183, 0, none⟩)] ?_; (with_reducible refine (spec_l30AnyNet.calls k g183 t181 t182 t184 t185 t188 w _ ?side1 ?side2 A3.out).mono ?_); (case side1 => repeat (first | (with_reducible first | exact HI183.out | apply IsS52.alloc | apply IsS52.drewN | apply IsS52.drew | apply IsS52.set_1 | refine IsS52.far ?_ NB183_180.out _) | exact HI183.out)); (case side2 => exact (ng52_4 HB.out)); rintro e w8 ⟨v186, rfl, ho0, hi, hb, hk⟩; refine ⟨_, rfl, ?_⟩; have HO187 := Aside0.mk (Kd.R_lower ho0 (below_size (ng52_4 HB.out))); replace BK180 := kk_ BK180 hk NB180_183; replace HB := Aside0.mk (hb); replace HI183 := Aside0.mk (hi); (try clear hb); (try clear hb2); (try clear hk); (try clear hi); (try clear ho0)) | ((with_reducible refine gate_dst (N := 6) rfl ?_); refine bx_ 6 #[.int .i64 0, .slice none 0 0] 25 ?_; intro gb189 hg w9 hbox hb; have BK189 := Aside0.mk (hbox); have GW189 := Aside0.mk (zs_ hg (ng52_4 HB.out)); have GE189 := Aside0.mk (zs_ hg (ng52_4 HB.out)); have NB180_189 := Aside0.mk (nl_ BK180.out hg); have NB189_180 := Aside0.mk (nm_ BK180.out hg); have NB183_189 := Aside0.mk ((by rw [hg]; exact Nat.ne_of_lt (IsS52.lt (show IsS52 w _ g183 t181 t188 from ni52_4 HI183.out)) : g183 ≠ gb189)); have NB189_183 := Aside0.mk ((by rw [hg]; exact Nat.ne_of_gt (IsS52.lt (show IsS52 w _ g183 t181 t188 from ni52_4 HI183.out)) : gb189 ≠ g183)); replace HO187 := kR_ HO187 hb; replace BK180 := kb_ BK180 hb; replace HI183 := Aside0.mk (IsS52.below (ni52_4 HI183.out) hb); replace HB := Aside0.mk (below_step (ng52_4 HB.out) hb); clear hb hbox hg; have hnb10 := NB189_180.out; have hnc10 := NB180_189.out; have hnb11 := NB189_183.out; have hnc11 := NB183_189.out; obtain ⟨hcz12_0, hcz12_1, hfz12_0, hfz12_1⟩ := cz2_ BK189.out; obtain ⟨Ao13, co13, eo13⟩ := Kd.R_slice HO187.out; subst eo13) | ((with_reducible refine gate_callee (f := 14) rfl ?_); refine gl_ (some 14) Try.func14 #[.pointer (some ⟨g183, 0, none⟩), .agg #[.int .i64 t184, .slice Ao13 t185.length co13]] ?_; (with_reducible refine (spec_l30Node.calls k g183 t181 t188 t184 _ _ t185 t190 t191 w _ ?side1 ?side2 ?side3 ?side4 A4.out).mono ?_); (case side1 => repeat (first | (with_reducible first | exact HI183.out | apply IsS52.alloc | apply IsS52.drewN | apply IsS52.drew | apply IsS52.set_1 | refine IsS52.far ?_ NB183_180.out _ | refine IsS52.far ?_ NB183_189.out _) | exact HI183.out)); (case side2 => exact (ng52_4 HB.out)); (case side3 => exact Kd.C_foot_own (IsS52.apart (show IsS52 w _ g183 t181 t188 from ni52_4 HI183.out) (by (with_reducible repeat (first | apply Kd.R_alloc | apply Kd.R_drewN | apply Kd.R_drew)); exact (Kd.R_mono (rf2_ (Kd.R_types HO187.out BK189.out (by decide))) (fun _ h_ => h_.1))) (by decide)) (fun _ h_ => h_.2)); (case side4 => exact (Kd.R_reads' HO187.out).2.1); rintro e w14 ⟨rfl, hi, hb, hk⟩; refine ⟨_, rfl, ?_⟩; replace BK180 := Aside0.mk (KeepBut.blk hk (g' := gb180) (o := .cells #[.int .i64 0, .slice none 0 0] 25 (0, 0)) (nbf_ BK180.out) NB180_183.out (by simp)); replace HO187 := Aside0.mk (Kd.R_mono (Kd.R_keep (IsS52.apart (show IsS52 w _ g183 t181 t188 from ni52_4 HI183.out) (by (with_reducible repeat (first | apply Kd.R_alloc | apply Kd.R_drewN | apply Kd.R_drew)); exact (Kd.R_mono (rf2_ (Kd.R_types HO187.out BK189.out (by decide))) (fun _ h_ => h_.1))) (by decide)) hk (fun _ h => h.2)) (fun _ h => h.1)); replace BK189 := Aside0.mk (KeepBut.blk hk (g' := gb189) (o := .cells #[.int .i64 t184, .slice Ao13 t185.length co13] 25 (0, 0)) (np_ BK189.out) NB189_183.out (by simp)); replace HB := Aside0.mk (hb); replace HI183 := Aside0.mk (hi); (try clear hb); (try clear hb2); (try clear hk); (try clear hi)))
  replace HO187 := Aside0.mk (Kd.R_drew HO187.out)
  replace BK180 := Aside0.mk (blk_drew BK180.out)
  replace BK189 := Aside0.mk (blk_drew BK189.out)
  replace HI183 := Aside0.mk (IsS52.drew HI183.out)
  replace HB := Aside0.mk (below_drew1 HB.out)
  refine start_ (n := 8) (S := fun w' => w'.cell? ⟨gb189, 0, none⟩ = some (.int .i64 t184) ∧ w'.cell? ⟨gb189, 1, none⟩ = some (.slice Ao13 t185.length co13)) (ds := []) (bm_ 8 0) (by kernel_rfl) rfl rfl ⟨ct_ BK189.out 0, ct_ BK189.out 1⟩ (fun hHeld => ?_); refine with_tabW spec_DrawNearWalk.tab4 spec_DrawNearWalk.bits4 (fun HT_ HW_ => ?_)
  generalize w14.drew = w15 at HO187 BK180 BK189 HI183 HB hHeld ⊢
  refine pu_ 1 16 (bm_ 8 2) HT_.out ?_
  refine pu_ 2 17 (bm_ 8 6) HT_.out ?_
  refine tk_ 0 15 (bm_ 8 7) HT_.out HW_.out hHeld ?_
  refine tk_ 3 18 (bm_ 8 15) HT_.out HW_.out hHeld ?_
  refine one_ (i := 4) (N := some 19) (bm_ 8 31) rfl rfl (one_of HT_.out (by kernel_rfl)) (by decide) (fun K hK => ?_)
  refine go_ Try.func14 #[.pointer (some ⟨g183, 0, none⟩), .agg #[.int .i64 t184, .slice Ao13 t185.length co13]] ?_
  with_reducible refine (spec_l30Node.calls k g183 t181 t191 t184 _ _ t185 t192 t193 w _ ?side1 ?side2 ?side3 ?side4 A5.out).mono ?_
  (case side1 => repeat (first | (with_reducible first | exact HI183.out | apply IsS52.alloc | apply IsS52.drewN | apply IsS52.drew | apply IsS52.set_1 | refine IsS52.far ?_ NB183_180.out _ | refine IsS52.far ?_ NB183_189.out _) | exact HI183.out))
  (case side2 => exact (ng52_4 HB.out))
  (case side3 => exact Kd.C_foot_own (IsS52.apart (show IsS52 w _ g183 t181 t191 from ni52_4 HI183.out) (nr_ HO187.out) (by decide)) (fun _ h_ => h_.2))
  (case side4 => exact (Kd.R_reads' HO187.out).2.1)
  rintro e w16 ⟨rfl, hi, hb, hk⟩
  refine ⟨_, rfl, ?_⟩
  replace BK180 := kk_ BK180 hk NB180_183
  replace HO187 := Aside0.mk (Kd.R_mono (Kd.R_keep (IsS52.apart (show IsS52 w _ g183 t181 t191 from ni52_4 HI183.out) (nr_ HO187.out) (by decide)) hk (fun _ h => h.2)) (fun _ h => h.1))
  replace BK189 := kk_ BK189 hk NB189_183
  replace HB := Aside0.mk (hb)
  replace HI183 := Aside0.mk (hi)
  (try clear hb)
  (try clear hb2)
  (try clear hk)
  (try clear hi)
  refine hK.out _ _ ⟨ct_ BK189.out 0, ct_ BK189.out 1⟩ (fun hHeld => ?_)
  clear hK K
  refine nm1_ (some 19) ?_
  refine one_ (i := 5) (N := none) (bm_ 8 63) rfl rfl (one_of HT_.out (by kernel_rfl)) (by decide) (fun K hK => ?_)
  have hs17 : w16.cell? ⟨gb180, 0, none⟩ = some (.int .i64 0) := ct_ BK180.out 0
  have hfs17 := blk_frozen BK180.out 0
  have hns17_1 := NB189_180.out
  have hms17_1 := NB180_189.out
  have hs18 : w16.cell? ⟨gb180, 1, none⟩ = some (.slice none 0 0) := ct_ BK180.out 1
  have hfs18 := blk_frozen BK180.out 1
  have hns18_1 := NB189_180.out
  have hms18_1 := NB180_189.out
  refine skip_ (w1 := ?_) (by rfl) rfl ?_ ?_
  rotate_left
  ·go_simp
   rfl
  refine hK.out _ _ ⟨((cell_far (p := ⟨gb180, _, none⟩) NB189_180.out _).trans (((cell_far (p := ⟨gb180, _, none⟩) NB189_180.out _).trans (hHeld.1)))), ((cell_far (p := ⟨gb180, _, none⟩) NB189_180.out _).trans (((cell_far (p := ⟨gb180, _, none⟩) NB189_180.out _).trans (hHeld.2))))⟩ (fun hHeld => ?_)
  clear hK K
  refine pu_ 6 3 (bm_ 8 127) HT_.out ?_
  refine pu_ 7 4 (bm_ 8 255) HT_.out ?_
  refine done_ (done_of HT_.out (by kernel_rfl)) ?_
  try go_wp2
  refine bodyPost_ret (results_ctt rfl _ _ gb180 25 #[.int .i64 t184, .slice Ao13 t185.length co13] (0, 0) _ rfl (np_ BK180.out) Try.underlying25 rfl (by kernel_rfl)) rfl ?_
  exact ⟨_, nw_, by (with_reducible repeat (first | apply Kd.R_alloc | apply Kd.R_drewN | apply Kd.R_drew)); exact Kd.R_mono (rf2_ (Kd.R_types HO187.out BK180.out (by decide))) (fun _ hk => trivial), by repeat (first | (with_reducible first | exact HB.out | apply below_alloc | apply pw_below_drewN | apply below_drew1 | refine below_set ?_ (IsS52.ge HI183.out) | refine below_set ?_ GE180.out | refine below_set ?_ GE189.out) | exact HB.out)⟩

end Go.Proofs.Ytgnnimhhkbbfiaa.Print
