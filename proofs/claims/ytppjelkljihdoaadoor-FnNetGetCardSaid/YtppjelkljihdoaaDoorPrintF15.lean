-- Made by this session's own program (wip/patch_print.py, over the kit's print). Lean checks it.
import Derived.Test.YtppjelkljihdoaaDoorPrint0
import Derived.Test.YtppjelkljihdoaaDoorPrintB
import Derived.Test.YtppjelkljihdoaaDoorPrintF27
import Derived.Test.YtppjelkljihdoaaDoorPrintF28
import Derived.Test.YtppjelkljihdoaaDoorPrintF41
namespace Go.Proofs.YtppjelkljihdoaaDoor.Print
open Go.RowKit Go.Proofs.YtppjelkljihdoaaDoorW.PrintWords Go.Proofs.YtppjelkljihdoaaDoorW.PrintLast Go.Proofs.YtppjelkljihdoaaDoorW.PrintMore Go.Proofs.YtppjelkljihdoaaDoorX
attribute [local go_sem] max2_int min2_int max_two min_two max_three min_three max_four min_four   -- for this text's walks alone
set_option linter.unusedVariables false
set_option linter.unusedSimpArgs false

/-! ### spec_NetGet: function 15 -/
def spec_NetGet.l0 : Nat → ByteArray → List ByteArray → Int → Int → List (S54) → Option (Int × (List (S54)) × Bool)
  | 0, _, _, _, _, _ => none
  | k + 1, x0, x5, x7, x325000, x325001 => if (wrap64 (x7 + 1)) < (x5.length : Int) then (if 0 ≤ x7 then (if x7 < (x5.length : Int) then ((spec_l1Cut.f k (rdOf ByteArray.empty x5 x7) 32 5).bind fun t335 => (if (t335.length : Int) = 5 then (if 0 < (t335.length : Int) then ((spec_l1Num.f k (rdOf ByteArray.empty t335 0)).bind fun t339 => (if 1 < (t335.length : Int) then ((spec_l1Num.f k (rdOf ByteArray.empty t335 1)).bind fun t341 => (if 2 < (t335.length : Int) then ((spec_l1Num.f k (rdOf ByteArray.empty t335 2)).bind fun t343 => (if 3 < (t335.length : Int) then ((spec_l1Num.f k (rdOf ByteArray.empty t335 3)).bind fun t345 => (if 4 < (t335.length : Int) then ((spec_l1Num.f k (rdOf ByteArray.empty t335 4)).bind fun t347 => (if x325001.length < 3518437208883 then (spec_NetGet.l0 k x0 x5 (wrap64 (x7 + 1)) x325000 (x325001 ++ [(⟨t339, t341, t343, t345, t347⟩ : S54)])) else (none))) else (none))) else (none))) else (none))) else (none))) else (none)) else (some (0, ([] : List (S54)), false)))) else (none)) else (none)) else ((spec_l1Ok.f k x325000 x325001).bind fun t351 => (if t351 = true then ((spec_l1Put.f k x325000 x325001).bind fun t352 => (if t352.toList = x0.toList then (some (x325000, x325001, true)) else (some (0, ([] : List (S54)), false)))) else (some (0, ([] : List (S54)), false))))
def spec_NetGet.f (k : Nat) (a0 : ByteArray) : Option (Int × (List (S54)) × Bool) := (spec_l1Cut.f k a0 10 18).bind fun t325 => (if 0 < (t325.length : Int) then ((spec_l1Cut.f k (rdOf ByteArray.empty t325 0) 32 2).bind fun t329 => (if (t329.length : Int) = 2 then (if 1 < (t329.length : Int) then ((spec_l1Num.f k (rdOf ByteArray.empty t329 1)).bind fun t333 => (spec_NetGet.l0 k a0 t325 1 t333 ([] : List (S54)))) else (none)) else (some (0, ([] : List (S54)), false)))) else (none))
theorem spec_NetGet.mono_l : ∀ k, (∀ y0 y1 y2 y3 y4, LeO (spec_NetGet.l0 k y0 y1 y2 y3 y4) (spec_NetGet.l0 (k + 1) y0 y1 y2 y3 y4))
  | 0 => fun _ _ _ _ _ r h => by simp [spec_NetGet.l0] at h
  | k + 1 => by
    have ih0 := spec_NetGet.mono_l k
    · intro y0 y1 y2 y3 y4
      unfold spec_NetGet.l0
      repeat' first | (with_reducible first | exact ih0 _ _ _ _ _ | exact spec_l1Cut.mono _ _ _ _ | exact spec_l1Num.mono _ _ | exact spec_l1Ok.mono _ _ _ | exact spec_l1Put.mono _ _ _ | exact LeO.refl _ | exact LeO.none _ | refine LeO.ite ?_ ?_ | refine LeO.bind ?_ (fun _ => ?_)) | exact ih0 _ _ _ _ _ | exact spec_l1Cut.mono _ _ _ _ | exact spec_l1Num.mono _ _ | exact spec_l1Ok.mono _ _ _ | exact spec_l1Put.mono _ _ _ | exact LeO.none _ | refine LeO.ite ?_ ?_ | refine LeO.bind ?_ (fun _ => ?_)
theorem spec_NetGet.mono : ∀ a0 k, LeO (spec_NetGet.f k a0) (spec_NetGet.f (k + 1) a0) := by
  intro a0 k
  have ih0 := spec_NetGet.mono_l k
  unfold spec_NetGet.f
  repeat' first | (with_reducible first | exact ih0 _ _ _ _ _ | exact spec_l1Cut.mono _ _ _ _ | exact spec_l1Num.mono _ _ | exact spec_l1Ok.mono _ _ _ | exact spec_l1Put.mono _ _ _ | exact LeO.refl _ | exact LeO.none _ | refine LeO.ite ?_ ?_ | refine LeO.bind ?_ (fun _ => ?_)) | exact ih0 _ _ _ _ _ | exact spec_l1Cut.mono _ _ _ _ | exact spec_l1Num.mono _ _ | exact spec_l1Ok.mono _ _ _ | exact spec_l1Put.mono _ _ _ | exact LeO.none _ | refine LeO.ite ?_ ?_ | refine LeO.bind ?_ (fun _ => ?_)
def spec_NetGet.T13 : Bool × List (List Nat × List Nat) := (true, [([], []), ([0], [0]), ([], []), ([2], [2]), ([3], [3]), ([4], [4]), ([], []), ([6], [6]), ([7], [7]), ([8, 5], [8]), ([], []), ([10], [10]), ([11], [11]), ([12, 9], [12]), ([], []), ([14], [14]), ([15], [15]), ([16, 13], [16]), ([], []), ([18], [18]), ([19], [19]), ([20, 17], [20]), ([5, 9, 13, 17, 21], [5, 9, 13, 17, 21]), ([22], [22]), ([1, 23, 21], [1, 23]), ([0, 1, 2, 3, 4, 5, 6, 7, 8, 9, 10, 11, 12, 13, 14, 15, 16, 17, 18, 19, 20, 21, 22, 23, 24], []), ([25, 24, 24, 0, 1, 2, 3, 4, 5, 6, 7, 8, 9, 10, 11, 12, 13, 14, 15, 16, 17, 18, 19, 20, 21, 22, 23, 24], [24, 25])])
def spec_NetGet.B13 : List Nat := [0, 1, 0, 4, 12, 28, 0, 64, 192, 508, 0, 1024, 3072, 8188, 0, 16384, 49152, 131068, 0, 262144, 786432, 2097148, 4194300, 8388604, 16777215, 33554431, 67108863]
theorem spec_NetGet.tab13 : rtab .any (opsOf Tryd.f15 13) = spec_NetGet.T13 := by kernel_rfl
theorem spec_NetGet.bits13 : waitsOk spec_NetGet.T13.2 spec_NetGet.B13 = true := by kernel_rfl
set_option maxHeartbeats 200000000 in
set_option maxRecDepth 100000 in
theorem spec_NetGet.calls (k : Nat) (a0 : ByteArray) (r1 : Int) (r2 : List (S54)) (r3 : Bool) (w : World) (h : spec_NetGet.f k a0 = some (r1, r2, r3)) :
    Calls Tryd.prog 15 #[.string a0] w fun e w' => ∃ v1_ : Value, e = .returned (.tuple #[.agg #[.int .i64 r1, v1_], .bool r3]) ∧ Kd.R k54 54 w' w.heap.size (fun _ => True) v1_ r2 ∧ Below w.heap.size w w' := by
  have hu25 := Tryd.underlying25
  have hu54 := Tryd.underlying54
  have HB := Aside0.mk (Below.refl w.heap.size w)
  have H : ((spec_l1Cut.f k a0 10 18).bind fun t325 => (if 0 < (t325.length : Int) then ((spec_l1Cut.f k (rdOf ByteArray.empty t325 0) 32 2).bind fun t329 => (if (t329.length : Int) = 2 then (if 1 < (t329.length : Int) then ((spec_l1Num.f k (rdOf ByteArray.empty t329 1)).bind fun t333 => (spec_NetGet.l0 k a0 t325 1 t333 ([] : List (S54)))) else (none)) else (some (0, ([] : List (S54)), false)))) else (none))) = some (r1, r2, r3) := h
  clear h
  replace H := Option.bind_eq_some_iff.mp H
  obtain ⟨t325, A20, H⟩ := H
  try dsimp only at H
  have A2 := Aside0.mk A20
  clear A20
  by_cases c3 : 0 < (t325.length : Int)
  rotate_left
  ·rw [if_neg c3] at H
   exact absurd H (by simp)

  rw [if_pos c3] at H
  have c3b0 : decide (0 < (t325.length : Int)) = true := decide_eq_true c3
  have c3b1 : decide (0 < t325.length) = true := decide_eq_true (by omega)
  clear c3
  replace H := Option.bind_eq_some_iff.mp H
  obtain ⟨t329, A40, H⟩ := H
  try dsimp only at H
  have A4 := Aside0.mk A40
  clear A40
  by_cases c5 : (t329.length : Int) = 2
  rotate_left
  ·rw [if_neg c5] at H
   have c5b0 : ((t329.length : Int) == 2) = false := beq_eq_false_iff_ne.mpr c5
   have c5b1 : ((t329.length : Int) != 2) = true := bne_iff_ne.mpr c5
   simp only [Option.some.injEq, Prod.mk.injEq] at H
   obtain ⟨rfl, rfl, rfl⟩ := H
   go_enter Tryd.func15, Tryd.ntmps15
   go_wp2_with (first | ((with_reducible refine gate_dst (N := 2) rfl ?_); refine bx_ 2 #[.int .i64 0, .slice none 0 0] 25 ?_; intro gb323 hg w67 hbox hb; have BK323 := Aside0.mk (hbox); have GW323 := Aside0.mk (zs_ hg (ne_ HB.out)); have GE323 := Aside0.mk (zs_ hg (ne_ HB.out)); replace HB := kB_ HB hb; clear hb hbox hg) | ((with_reducible refine gate_dst (N := 4) rfl ?_); refine bx_ 4 #[.int .i64 0, .slice none 0 0] 25 ?_; intro gb324 hg w68 hbox hb; have BK324 := Aside0.mk (hbox); have GW324 := Aside0.mk (zs_ hg (ne_ HB.out)); have GE324 := Aside0.mk (zs_ hg (ne_ HB.out)); have NB323_324 := Aside0.mk (nl_ BK323.out hg); have NB324_323 := Aside0.mk (nm_ BK323.out hg); replace BK323 := kb_ BK323 hb; replace HB := kB_ HB hb; clear hb hbox hg; have hnb69 := NB324_323.out; have hnc69 := NB323_324.out; obtain ⟨hcz70_0, hcz70_1, hfz70_0, hfz70_1⟩ := cz2_ BK324.out) | ((with_reducible refine gate_callee (f := 41) rfl ?_); refine gl_ (some 11) Tryd.func41 #[.string a0, .int .u8 10, .int .i64 18] ?_; (with_reducible refine (spec_l1Cut.calls k a0 10 18 t325 _ A2.out).mono ?_); rintro e w71 ⟨v326, rfl, ho0, hb⟩; refine ⟨_, rfl, ?_⟩; have HO327 := Aside0.mk (Kd.R_lower ho0 (below_size (ne_ HB.out))); replace BK323 := kf_ BK323 hb; replace BK324 := Aside0.mk (blk_below (g := gb324) (o := .cells #[.int .i64 0, .slice none 0 0] 25 (0, 0)) (np_ BK324.out) hb); replace HB := kB_ HB hb; (try clear hb); (try clear hb2); (try clear hk); (try clear hi); (try clear ho0); obtain ⟨Ao72, co72, eo72⟩ := Kd.R_slice HO327.out; subst eo72; have p328 : 0 ≤ (0 : Int) := (by omega); have q328 : 0 < (t325.length : Int) := of_decide_eq_true nx_; obtain ⟨ad328, e328, hx328_0⟩ := Kd.at_string (Kd.R_reads' HO327.out).2.2 0 p328 q328; cases e328; have qi328 : (0 < t325.length) = True := eq_true (by omega); (try rw [show ((0 : Int)).toNat = 0 from rfl] at hx328_0); (try rw [Addr.add_zero'] at hx328_0); replace p328 := eq_true p328; replace q328 := eq_true q328) | ((with_reducible refine gate_callee (f := 41) rfl ?_); refine gl_ (some 15) Tryd.func41 #[.string (rdOf ByteArray.empty t325 0), .int .u8 32, .int .i64 2] ?_; (with_reducible refine (spec_l1Cut.calls k (rdOf ByteArray.empty t325 0) 32 2 t329 _ A4.out).mono ?_); rintro e w73 ⟨v330, rfl, ho0, hb⟩; refine ⟨_, rfl, ?_⟩; have HO331 := Aside0.mk (Kd.R_lower (Kd.R_new' ho0 (Kd.R_lt (nr_ HO327.out))) (below_size (ne_ HB.out))); replace HO327 := Aside0.mk (Kd.R_elder' (nr_ HO327.out) (Kd.R_base ho0) hb); replace BK323 := kb_ BK323 hb; replace BK324 := kb_ BK324 hb; replace HB := kB_ HB hb; (try clear hb); (try clear hb2); (try clear hk); (try clear hi); (try clear ho0); obtain ⟨Ao74, co74, eo74⟩ := Kd.R_slice HO331.out; subst eo74; obtain ⟨hcz75_0, hcz75_1, hfz75_0, hfz75_1⟩ := cz2_ BK323.out))
   refine bodyPost_ret (results_ct rfl _ _ gb323 25 #[.int .i64 0, .slice none 0 0] (0, 0) _ rfl (np_ BK323.out) Tryd.underlying25 rfl (by kernel_rfl)) rfl ?_
   exact ⟨_, nw_, by first | exact Kd.R_nil _ _ _ _ _ | exact Kd.N_nil _ _ _ _ _ | exact Kd.V_nil _ _ _ _ _ | exact Kd.Q_nil _ _ _ _ _ | exact Kd.S_nil _ _ _ _ _, ne_ HB.out⟩
  rw [if_pos c5] at H
  have c5b0 : ((t329.length : Int) == 2) = true := beq_iff_eq.mpr c5
  have c5b1 : ((t329.length : Int) != 2) = false := bne_eq_false_iff_eq.mpr c5
  clear c5
  by_cases c6 : 1 < (t329.length : Int)
  rotate_left
  ·rw [if_neg c6] at H
   exact absurd H (by simp)
  rw [if_pos c6] at H
  have c6b0 : decide (1 < (t329.length : Int)) = true := decide_eq_true c6
  have c6b1 : decide (1 < t329.length) = true := decide_eq_true (by omega)
  clear c6
  replace H := Option.bind_eq_some_iff.mp H
  obtain ⟨t333, A70, H⟩ := H
  replace H : (spec_NetGet.l0 k a0 t325 1 t333 ([] : List (S54))) = some (r1, r2, r3) := H
  have A7 := Aside0.mk A70
  clear A70
  have H' := Aside0.mk H
  clear H
  go_enter Tryd.func15, Tryd.ntmps15
  go_wp2_with (first | ((with_reducible refine gate_dst (N := 2) rfl ?_); refine bx_ 2 #[.int .i64 0, .slice none 0 0] 25 ?_; intro gb323 hg w8 hbox hb; have BK323 := Aside0.mk (hbox); have GW323 := Aside0.mk (zs_ hg (ne_ HB.out)); have GE323 := Aside0.mk (zs_ hg (ne_ HB.out)); replace HB := kB_ HB hb; clear hb hbox hg) | ((with_reducible refine gate_dst (N := 4) rfl ?_); refine bx_ 4 #[.int .i64 0, .slice none 0 0] 25 ?_; intro gb324 hg w9 hbox hb; have BK324 := Aside0.mk (hbox); have GW324 := Aside0.mk (zs_ hg (ne_ HB.out)); have GE324 := Aside0.mk (zs_ hg (ne_ HB.out)); have NB323_324 := Aside0.mk (nl_ BK323.out hg); have NB324_323 := Aside0.mk (nm_ BK323.out hg); replace BK323 := kb_ BK323 hb; replace HB := kB_ HB hb; clear hb hbox hg; have hnb10 := NB324_323.out; have hnc10 := NB323_324.out; obtain ⟨hcz11_0, hcz11_1, hfz11_0, hfz11_1⟩ := cz2_ BK324.out) | ((with_reducible refine gate_callee (f := 41) rfl ?_); refine gl_ (some 11) Tryd.func41 #[.string a0, .int .u8 10, .int .i64 18] ?_; (with_reducible refine (spec_l1Cut.calls k a0 10 18 t325 _ A2.out).mono ?_); rintro e w12 ⟨v326, rfl, ho0, hb⟩; refine ⟨_, rfl, ?_⟩; have HO327 := Aside0.mk (Kd.R_lower ho0 (below_size (ne_ HB.out))); replace BK323 := kf_ BK323 hb; replace BK324 := Aside0.mk (blk_below (g := gb324) (o := .cells #[.int .i64 0, .slice none 0 0] 25 (0, 0)) (np_ BK324.out) hb); replace HB := kB_ HB hb; (try clear hb); (try clear hb2); (try clear hk); (try clear hi); (try clear ho0); obtain ⟨Ao13, co13, eo13⟩ := Kd.R_slice HO327.out; subst eo13; have p328 : 0 ≤ (0 : Int) := (by omega); have q328 : 0 < (t325.length : Int) := of_decide_eq_true nx_; obtain ⟨ad328, e328, hx328_0⟩ := Kd.at_string (Kd.R_reads' HO327.out).2.2 0 p328 q328; cases e328; have qi328 : (0 < t325.length) = True := eq_true (by omega); (try rw [show ((0 : Int)).toNat = 0 from rfl] at hx328_0); (try rw [Addr.add_zero'] at hx328_0); replace p328 := eq_true p328; replace q328 := eq_true q328) | ((with_reducible refine gate_callee (f := 41) rfl ?_); refine gl_ (some 15) Tryd.func41 #[.string (rdOf ByteArray.empty t325 0), .int .u8 32, .int .i64 2] ?_; (with_reducible refine (spec_l1Cut.calls k (rdOf ByteArray.empty t325 0) 32 2 t329 _ A4.out).mono ?_); rintro e w14 ⟨v330, rfl, ho0, hb⟩; refine ⟨_, rfl, ?_⟩; have HO331 := Aside0.mk (Kd.R_lower (Kd.R_new' ho0 (Kd.R_lt (nr_ HO327.out))) (below_size (ne_ HB.out))); replace HO327 := Aside0.mk (Kd.R_elder' (nr_ HO327.out) (Kd.R_base ho0) hb); replace BK323 := kb_ BK323 hb; replace BK324 := kb_ BK324 hb; replace HB := kB_ HB hb; (try clear hb); (try clear hb2); (try clear hk); (try clear hi); (try clear ho0); obtain ⟨Ao15, co15, eo15⟩ := Kd.R_slice HO331.out; subst eo15; have p332 : 0 ≤ (1 : Int) := (by omega); have q332 : 1 < (t329.length : Int) := of_decide_eq_true nx_; obtain ⟨ad332, e332, hx332_0⟩ := Kd.at_string (Kd.R_reads' HO331.out).2.2 1 p332 q332; cases e332; (try simp only [show (1 : Int).toNat = 1 from rfl, Nat.reduceMul, Nat.reduceEqDiff, Go.Addr.add, ↓reduceIte] at hx332_0); have qi332 : (1 < t329.length) = True := eq_true (by omega); (try rw [show ((1 : Int)).toNat = 1 from rfl] at hx332_0); replace p332 := eq_true p332; replace q332 := eq_true q332) | ((with_reducible refine gate_callee (f := 42) rfl ?_); refine gl_ (some 23) Tryd.func42 #[.string (rdOf ByteArray.empty t329 1)] ?_; (with_reducible refine (spec_l1Num.calls k (rdOf ByteArray.empty t329 1) t333 _ A7.out).mono ?_); rintro e w' ⟨rfl, ⟨nd, rfl⟩⟩; refine ⟨_, rfl, ?_⟩; (first | (rw [drewN_self w14]; generalize hq_ : World.drewN w14 _ = w14; replace HO327 : Aside0 (Kd.R Kd.string 9 w14 w.heap.size (fun k_ => some k_ ≠ (.slice (some ad332) t329.length co15 : Value).ownBlock) (.slice (some ad328) t325.length co13) t325) := ⟨by rw [← hq_]; exact (by (with_reducible repeat (first | apply Kd.R_alloc | apply Kd.R_drewN | apply Kd.R_drew)); exact Kd.R_mono HO327.out (fun _ hk => by first | exact hk.2 | trivial | simp_all))⟩; replace HO331 : Aside0 (Kd.R Kd.string 9 w14 w.heap.size (fun k_ => some k_ ≠ (.slice (some ad328) t325.length co13 : Value).ownBlock) (.slice (some ad332) t329.length co15) t329) := ⟨by rw [← hq_]; exact (by (with_reducible repeat (first | apply Kd.R_alloc | apply Kd.R_drewN | apply Kd.R_drew)); exact Kd.R_mono HO331.out (fun _ hk => by first | exact hk.2 | trivial | simp_all))⟩; replace BK323 : Aside0 (w14.heap[gb323]? = some (.cells #[.int .i64 0, .slice none 0 0] 25 (0, 0))) := ⟨by rw [← hq_]; exact (nb_ BK323.out)⟩; replace BK324 : Aside0 (w14.heap[gb324]? = some (.cells #[.int .i64 0, .slice none 0 0] 25 (0, 0))) := ⟨by rw [← hq_]; exact (nb_ BK324.out)⟩; replace HB : Aside0 (Below w.heap.size w w14) := ⟨by rw [← hq_]; exact (ne_ HB.out)⟩; clear hq_) | (have n0_ : Aside0 (Kd.R Kd.string 9 w14 w.heap.size (fun k_ => some k_ ≠ (.slice (some ad332) t329.length co15 : Value).ownBlock) (.slice (some ad328) t325.length co13) t325) := ⟨(by (with_reducible repeat (first | apply Kd.R_alloc | apply Kd.R_drewN | apply Kd.R_drew)); exact Kd.R_mono HO327.out (fun _ hk => by first | exact hk.2 | trivial | simp_all))⟩; have n1_ : Aside0 (Kd.R Kd.string 9 w14 w.heap.size (fun k_ => some k_ ≠ (.slice (some ad328) t325.length co13 : Value).ownBlock) (.slice (some ad332) t329.length co15) t329) := ⟨(by (with_reducible repeat (first | apply Kd.R_alloc | apply Kd.R_drewN | apply Kd.R_drew)); exact Kd.R_mono HO331.out (fun _ hk => by first | exact hk.2 | trivial | simp_all))⟩; have n2_ : Aside0 (w14.heap[gb323]? = some (.cells #[.int .i64 0, .slice none 0 0] 25 (0, 0))) := ⟨(nb_ BK323.out)⟩; have n3_ : Aside0 (w14.heap[gb324]? = some (.cells #[.int .i64 0, .slice none 0 0] 25 (0, 0))) := ⟨(nb_ BK324.out)⟩; have n4_ : Aside0 (Below w.heap.size w w14) := ⟨(ne_ HB.out)⟩; clear HO327 HO331 BK323 BK324 HB; have HO327 := n0_; have HO331 := n1_; have BK323 := n2_; have BK324 := n3_; have HB := n4_; clear n0_ n1_ n2_ n3_ n4_)); obtain ⟨hcz16_0, hcz16_1, hfz16_0, hfz16_1⟩ := cz2_ BK324.out))
  go_loopg [7] k (fun kq v7 w' => ∃ (x7_1 : Int) (x324000_1 : Int) (x325001_1 : List (S54)) (u325001 : Value), v7 = .int .i64 x7_1 ∧ Aside0 (spec_NetGet.l0 kq a0 t325 x7_1 t333 x325001_1 = some (r1, r2, r3)) ∧ Aside0 (kq ≤ k) ∧ Aside0 (Kd.R Kd.string 9 w' w.heap.size (fun _ => True) (.slice (some ad328) t325.length co13) t325) ∧ Aside0 (Kd.R k54 54 w' w.heap.size (fun _ => True) u325001 x325001_1) ∧ Aside0 (w'.heap[gb323]? = some (.cells #[.int .i64 x324000_1, (.slice none 0 0)] 25 (0, 0))) ∧ Aside0 (w'.heap[gb324]? = some (.cells #[.int .i64 t333, u325001] 25 (0, 0))) ∧ Aside0 (Below w.heap.size w w'))
  case atStart => exact ⟨(1), (0), (([] : List (S54))), (.slice none 0 0), ns_, H', ⟨Nat.le_refl _⟩, ⟨by (with_reducible repeat (first | apply Kd.R_alloc | apply Kd.R_drewN | apply Kd.R_drew)); exact Kd.R_mono (rf1_ (Kd.R_types HO327.out BK324.out (by decide))) (fun _ hk => trivial)⟩, ⟨by first | exact Kd.R_nil _ _ _ _ _ | exact Kd.N_nil _ _ _ _ _ | exact Kd.V_nil _ _ _ _ _ | exact Kd.Q_nil _ _ _ _ _ | exact Kd.S_nil _ _ _ _ _⟩, ⟨np_ BK323.out⟩, ⟨np_ BK324.out⟩, ⟨ne_ HB.out⟩⟩
  case round =>
   clear H'
   try clear c3
   try clear c3b0
   try clear c3b1
   try clear c5
   try clear c5b0
   try clear c5b1
   try clear c6
   try clear c6b0
   try clear c6b1
   try clear hcz11_0
   try clear hcz11_1
   try clear hcz16_0
   try clear hcz16_1
   try clear hfz11_0
   try clear hfz11_1
   try clear hfz16_0
   try clear hfz16_1
   try clear hx328_0
   try clear hx332_0
   try clear p328
   try clear p332
   try clear q328
   try clear q332
   obtain ⟨x7_1, x324000_1, x325001_1, u325001, rfl, HA, HK1, HO_5, HO_325001, BK323, BK324, HB⟩ := hrel
   cases gk with
   | zero => exact absurd HA.out (by simp [spec_NetGet.l0])
   | succ k1 =>
    have H := HA.out
    clear HA
    simp only [spec_NetGet.l0] at H
    by_cases c17 : (wrap64 (x7_1 + 1)) < (t325.length : Int)
    rotate_left
    ·rw [if_neg c17] at H
     have c17b0 : decide ((wrap64 (x7_1 + 1)) < (t325.length : Int)) = false := decide_eq_false c17
     clear c17
     replace H := Option.bind_eq_some_iff.mp H
     obtain ⟨t351, A430, H⟩ := H
     try dsimp only at H
     have A43 := Aside0.mk A430
     clear A430
     by_cases c44 : t351 = true
     rotate_left
     ·replace c44 := Bool.eq_false_iff.mpr c44
      subst c44
      have H1 : (some (0, ([] : List (S54)), false)) = some (r1, r2, r3) := by rw [if_neg (show ¬ (false = true) by decide)] at H; exact H
      clear H
      have H := H1
      clear H1
      simp only [Option.some.injEq, Prod.mk.injEq] at H
      obtain ⟨rfl, rfl, rfl⟩ := H
      have hnb62 := NB324_323.out
      have hnc62 := NB323_324.out
      obtain ⟨hcz63_0, hcz63_1, hfz63_0, hfz63_1⟩ := cz2_ BK324.out
      obtain ⟨Ao64, co64, eo64⟩ := Kd.R_slice HO_325001.out
      subst eo64
      go_wp2_with (first | ((with_reducible refine gate_callee (f := 27) rfl ?_); refine gl_ (some 68) Tryd.func27 #[.agg #[.int .i64 t333, .slice Ao64 x325001_1.length co64]] ?_; (with_reducible refine (spec_l1Ok.calls k1 t333 _ _ x325001_1 false _ ?side1 ?side2 A43.out).mono ?_); (case side1 => exact nc_ (Kd.R_reads' HO_325001.out).2.2); (case side2 => exact (Kd.R_reads' HO_325001.out).2.1); rintro e w65 ⟨rfl, hb⟩; refine ⟨_, rfl, ?_⟩; replace HO_5 := kR_ HO_5 hb; replace HO_325001 := kR_ HO_325001 hb; replace BK323 := kb_ BK323 hb; replace BK324 := kb_ BK324 hb; replace HB := kB_ HB hb; (try clear hb); (try clear hb2); (try clear hk); (try clear hi); obtain ⟨hcz66_0, hcz66_1, hfz66_0, hfz66_1⟩ := cz2_ BK323.out))
      refine bodyPost_ret (results_ct rfl _ _ gb323 25 #[.int .i64 0, .slice none 0 0] (0, 0) _ rfl (np_ BK323.out) Tryd.underlying25 rfl (by kernel_rfl)) rfl ?_
      exact ⟨_, nw_, by first | exact Kd.R_nil _ _ _ _ _ | exact Kd.N_nil _ _ _ _ _ | exact Kd.V_nil _ _ _ _ _ | exact Kd.Q_nil _ _ _ _ _ | exact Kd.S_nil _ _ _ _ _, ne_ HB.out⟩
     subst c44
     rw [if_pos rfl] at H
     replace H := Option.bind_eq_some_iff.mp H
     obtain ⟨t352, A450, H⟩ := H
     try dsimp only at H
     have A45 := Aside0.mk A450
     clear A450
     by_cases c46 : t352.toList = a0.toList
     rotate_left
     ·rw [if_neg c46] at H
      have c46b0 : (t352.toList == a0.toList) = false := beq_eq_false_iff_ne.mpr c46
      have c46b1 : (t352.toList != a0.toList) = true := bne_iff_ne.mpr c46
      simp only [Option.some.injEq, Prod.mk.injEq] at H
      obtain ⟨rfl, rfl, rfl⟩ := H
      have hnb55 := NB324_323.out
      have hnc55 := NB323_324.out
      obtain ⟨hcz56_0, hcz56_1, hfz56_0, hfz56_1⟩ := cz2_ BK324.out
      obtain ⟨Ao57, co57, eo57⟩ := Kd.R_slice HO_325001.out
      subst eo57
      go_wp2_with (first | ((with_reducible refine gate_callee (f := 27) rfl ?_); refine gl_ (some 68) Tryd.func27 #[.agg #[.int .i64 t333, .slice Ao57 x325001_1.length co57]] ?_; (with_reducible refine (spec_l1Ok.calls k1 t333 _ _ x325001_1 true _ ?side1 ?side2 A43.out).mono ?_); (case side1 => exact nc_ (Kd.R_reads' HO_325001.out).2.2); (case side2 => exact (Kd.R_reads' HO_325001.out).2.1); rintro e w58 ⟨rfl, hb⟩; refine ⟨_, rfl, ?_⟩; replace HO_5 := kR_ HO_5 hb; replace HO_325001 := kR_ HO_325001 hb; replace BK323 := kb_ BK323 hb; replace BK324 := kb_ BK324 hb; replace HB := kB_ HB hb; (try clear hb); (try clear hb2); (try clear hk); (try clear hi); obtain ⟨hcz59_0, hcz59_1, hfz59_0, hfz59_1⟩ := cz2_ BK324.out) | (go_at_call 28; (with_reducible refine (spec_l1Put.calls k1 t333 _ _ x325001_1 t352 _ ?side1 ?side2 A45.out).mono ?_); (case side1 => exact nc_ (Kd.R_reads' HO_325001.out).2.2); (case side2 => exact (Kd.R_reads' HO_325001.out).2.1); rintro e w60 ⟨rfl, hb⟩; replace HO_5 := kR_ HO_5 hb; replace HO_325001 := kR_ HO_325001 hb; replace BK323 := kb_ BK323 hb; replace BK324 := kb_ BK324 hb; replace HB := kB_ HB hb; (try clear hb); (try clear hb2); (try clear hk); (try clear hi); obtain ⟨hcz61_0, hcz61_1, hfz61_0, hfz61_1⟩ := cz2_ BK323.out))
      refine bodyPost_ret (results_ct rfl _ _ gb323 25 #[.int .i64 0, .slice none 0 0] (0, 0) _ rfl (np_ BK323.out) Tryd.underlying25 rfl (by kernel_rfl)) rfl ?_
      exact ⟨_, nw_, by first | exact Kd.R_nil _ _ _ _ _ | exact Kd.N_nil _ _ _ _ _ | exact Kd.V_nil _ _ _ _ _ | exact Kd.Q_nil _ _ _ _ _ | exact Kd.S_nil _ _ _ _ _, ne_ HB.out⟩
     rw [if_pos c46] at H
     have c46b0 : (t352.toList == a0.toList) = true := beq_iff_eq.mpr c46
     have c46b1 : (t352.toList != a0.toList) = false := bne_eq_false_iff_eq.mpr c46
     clear c46
     simp only [Option.some.injEq, Prod.mk.injEq] at H
     obtain ⟨rfl, rfl, rfl⟩ := H
     have hnb47 := NB324_323.out
     have hnc47 := NB323_324.out
     obtain ⟨hcz48_0, hcz48_1, hfz48_0, hfz48_1⟩ := cz2_ BK324.out
     obtain ⟨Ao49, co49, eo49⟩ := Kd.R_slice HO_325001.out
     subst eo49
     go_wp2_with (first | ((with_reducible refine gate_callee (f := 27) rfl ?_); refine gl_ (some 68) Tryd.func27 #[.agg #[.int .i64 t333, .slice Ao49 x325001_1.length co49]] ?_; (with_reducible refine (spec_l1Ok.calls k1 t333 _ _ x325001_1 true _ ?side1 ?side2 A43.out).mono ?_); (case side1 => exact nc_ (Kd.R_reads' HO_325001.out).2.2); (case side2 => exact (Kd.R_reads' HO_325001.out).2.1); rintro e w50 ⟨rfl, hb⟩; refine ⟨_, rfl, ?_⟩; replace HO_5 := kR_ HO_5 hb; replace HO_325001 := kR_ HO_325001 hb; replace BK323 := kb_ BK323 hb; replace BK324 := kb_ BK324 hb; replace HB := kB_ HB hb; (try clear hb); (try clear hb2); (try clear hk); (try clear hi); obtain ⟨hcz51_0, hcz51_1, hfz51_0, hfz51_1⟩ := cz2_ BK324.out) | (go_at_call 28; (with_reducible refine (spec_l1Put.calls k1 t333 _ _ x325001_1 t352 _ ?side1 ?side2 A45.out).mono ?_); (case side1 => exact nc_ (Kd.R_reads' HO_325001.out).2.2); (case side2 => exact (Kd.R_reads' HO_325001.out).2.1); rintro e w52 ⟨rfl, hb⟩; replace HO_5 := kR_ HO_5 hb; replace HO_325001 := kR_ HO_325001 hb; replace BK323 := kb_ BK323 hb; replace BK324 := kb_ BK324 hb; replace HB := kB_ HB hb; (try clear hb); (try clear hb2); (try clear hk); (try clear hi); obtain ⟨hcz53_0, hcz53_1, hfz53_0, hfz53_1⟩ := cz2_ BK324.out; obtain ⟨hcz54_0, hcz54_1, hfz54_0, hfz54_1⟩ := cz2_ BK323.out))
     refine bodyPost_ret (results_ct rfl _ _ gb323 25 #[.int .i64 t333, .slice Ao49 x325001_1.length co49] (0, 0) _ rfl (np_ BK323.out) Tryd.underlying25 rfl (by kernel_rfl)) rfl ?_
     exact ⟨_, nw_, by (with_reducible repeat (first | apply Kd.R_alloc | apply Kd.R_drewN | apply Kd.R_drew)); exact Kd.R_mono (rf2_ (Kd.R_types HO_325001.out BK323.out (by decide))) (fun _ hk => trivial), ne_ HB.out⟩
    rw [if_pos c17] at H
    have c17b0 : decide ((wrap64 (x7_1 + 1)) < (t325.length : Int)) = true := decide_eq_true c17
    clear c17
    by_cases c18 : 0 ≤ x7_1
    rotate_left
    ·rw [if_neg c18] at H
     exact absurd H (by simp)
    rw [if_pos c18] at H
    have c18b0 : decide (0 ≤ x7_1) = true := decide_eq_true c18
    clear c18
    by_cases c19 : x7_1 < (t325.length : Int)
    rotate_left
    ·rw [if_neg c19] at H
     exact absurd H (by simp)
    rw [if_pos c19] at H
    have c19b0 : decide (x7_1 < (t325.length : Int)) = true := decide_eq_true c19
    clear c19
    replace H := Option.bind_eq_some_iff.mp H
    obtain ⟨t335, A200, H⟩ := H
    try dsimp only at H
    have A20 := Aside0.mk A200
    clear A200
    by_cases c21 : (t335.length : Int) = 5
    rotate_left
    ·rw [if_neg c21] at H
     have c21b0 : ((t335.length : Int) == 5) = false := beq_eq_false_iff_ne.mpr c21
     have c21b1 : ((t335.length : Int) != 5) = true := bne_iff_ne.mpr c21
     simp only [Option.some.injEq, Prod.mk.injEq] at H
     obtain ⟨rfl, rfl, rfl⟩ := H
     have p334 : 0 ≤ (x7_1 : Int) := of_decide_eq_true nx_
     have q334 : x7_1 < (t325.length : Int) := of_decide_eq_true nx_
     obtain ⟨ad334, e334, hx334_0⟩ := Kd.at_string (Kd.R_reads' HO_5.out).2.2 x7_1 p334 q334
     obtain rfl : ad328 = ad334 := (by injection e334)
     replace p334 := eq_true p334
     replace q334 := eq_true q334
     go_wp2_with (first | ((with_reducible refine gate_callee (f := 41) rfl ?_); refine gl_ (some 36) Tryd.func41 #[.string (rdOf ByteArray.empty t325 x7_1), .int .u8 32, .int .i64 5] ?_; (with_reducible refine (spec_l1Cut.calls k1 (rdOf ByteArray.empty t325 x7_1) 32 5 t335 _ A20.out).mono ?_); rintro e w39 ⟨v336, rfl, ho0, hb⟩; refine ⟨_, rfl, ?_⟩; have HO337 := Aside0.mk (Kd.R_lower (Kd.R_new' ho0 (Kd.R_lt (nr_ HO_5.out))) (below_size (ne_ HB.out))); replace HO_5 := Aside0.mk (Kd.R_elder' (nr_ HO_5.out) (Kd.R_base ho0) hb); replace HO_325001 := kR_ HO_325001 hb; replace BK323 := kb_ BK323 hb; replace BK324 := kb_ BK324 hb; replace HB := kB_ HB hb; (try clear hb); (try clear hb2); (try clear hk); (try clear hi); (try clear ho0); obtain ⟨Ao40, co40, eo40⟩ := Kd.R_slice HO337.out; subst eo40; have hnb41 := NB323_324.out; have hnc41 := NB324_323.out; obtain ⟨hcz42_0, hcz42_1, hfz42_0, hfz42_1⟩ := cz2_ BK323.out))
     refine bodyPost_ret (results_ct rfl _ _ gb323 25 #[.int .i64 0, .slice none 0 0] (0, 0) _ rfl (np_ BK323.out) Tryd.underlying25 rfl (by kernel_rfl)) rfl ?_
     exact ⟨_, nw_, by first | exact Kd.R_nil _ _ _ _ _ | exact Kd.N_nil _ _ _ _ _ | exact Kd.V_nil _ _ _ _ _ | exact Kd.Q_nil _ _ _ _ _ | exact Kd.S_nil _ _ _ _ _, ne_ HB.out⟩
    rw [if_pos c21] at H
    have c21b0 : ((t335.length : Int) == 5) = true := beq_iff_eq.mpr c21
    have c21b1 : ((t335.length : Int) != 5) = false := bne_eq_false_iff_eq.mpr c21
    clear c21
    by_cases c22 : 0 < (t335.length : Int)
    rotate_left
    ·rw [if_neg c22] at H
     exact absurd H (by simp)
    rw [if_pos c22] at H
    have c22b0 : decide (0 < (t335.length : Int)) = true := decide_eq_true c22
    have c22b1 : decide (0 < t335.length) = true := decide_eq_true (by omega)
    clear c22
    replace H := Option.bind_eq_some_iff.mp H
    obtain ⟨t339, A230, H⟩ := H
    try dsimp only at H
    have A23 := Aside0.mk A230
    clear A230
    by_cases c24 : 1 < (t335.length : Int)
    rotate_left
    ·rw [if_neg c24] at H
     exact absurd H (by simp)
    rw [if_pos c24] at H
    have c24b0 : decide (1 < (t335.length : Int)) = true := decide_eq_true c24
    have c24b1 : decide (1 < t335.length) = true := decide_eq_true (by omega)
    clear c24
    replace H := Option.bind_eq_some_iff.mp H
    obtain ⟨t341, A250, H⟩ := H
    try dsimp only at H
    have A25 := Aside0.mk A250
    clear A250
    by_cases c26 : 2 < (t335.length : Int)
    rotate_left
    ·rw [if_neg c26] at H
     exact absurd H (by simp)
    rw [if_pos c26] at H
    have c26b0 : decide (2 < (t335.length : Int)) = true := decide_eq_true c26
    have c26b1 : decide (2 < t335.length) = true := decide_eq_true (by omega)
    clear c26
    replace H := Option.bind_eq_some_iff.mp H
    obtain ⟨t343, A270, H⟩ := H
    try dsimp only at H
    have A27 := Aside0.mk A270
    clear A270
    by_cases c28 : 3 < (t335.length : Int)
    rotate_left
    ·rw [if_neg c28] at H
     exact absurd H (by simp)
    rw [if_pos c28] at H
    have c28b0 : decide (3 < (t335.length : Int)) = true := decide_eq_true c28
    have c28b1 : decide (3 < t335.length) = true := decide_eq_true (by omega)
    clear c28
    replace H := Option.bind_eq_some_iff.mp H
    obtain ⟨t345, A290, H⟩ := H
    try dsimp only at H
    have A29 := Aside0.mk A290
    clear A290
    by_cases c30 : 4 < (t335.length : Int)
    rotate_left
    ·rw [if_neg c30] at H
     exact absurd H (by simp)
    rw [if_pos c30] at H
    have c30b0 : decide (4 < (t335.length : Int)) = true := decide_eq_true c30
    have c30b1 : decide (4 < t335.length) = true := decide_eq_true (by omega)
    clear c30
    replace H := Option.bind_eq_some_iff.mp H
    obtain ⟨t347, A310, H⟩ := H
    try dsimp only at H
    have A31 := Aside0.mk A310
    clear A310
    by_cases c32 : x325001_1.length < 3518437208883
    rotate_left
    ·rw [if_neg c32] at H
     exact absurd H (by simp)
    rw [if_pos c32] at H
    have LMc32 := Aside0.mk c32
    clear c32
    obtain ⟨y348, hy348⟩ : ∃ y_ : List (S54), y_ = (x325001_1 ++ [(⟨t339, t341, t343, t345, t347⟩ : S54)]) := ⟨_, rfl⟩
    replace H : (spec_NetGet.l0 k1 a0 t325 (wrap64 (x7_1 + 1)) t333 y348) = some (r1, r2, r3) := by first | (rw [hy348]; with_reducible exact H) | (have H2_ := (Option.bind_some _ _).symm.trans H; rw [hy348]; with_reducible exact H2_) | (have H2_ := (Option.bind_some _ _).symm.trans H; with_reducible exact H2_) | with_reducible exact H | (rw [hy348]; exact H) | exact H
    have Ny348 := Aside0.mk hy348
    clear hy348
    have H' := Aside0.mk H
    clear H
    have p334 : 0 ≤ (x7_1 : Int) := of_decide_eq_true nx_
    have q334 : x7_1 < (t325.length : Int) := of_decide_eq_true nx_
    obtain ⟨ad334, e334, hx334_0⟩ := Kd.at_string (Kd.R_reads' HO_5.out).2.2 x7_1 p334 q334
    obtain rfl : ad328 = ad334 := (by injection e334)
    replace p334 := eq_true p334
    replace q334 := eq_true q334
    try go_wp2_with (first | ((with_reducible refine gate_callee (f := 41) rfl ?_); refine gl_ (some 36) Tryd.func41 #[.string (rdOf ByteArray.empty t325 x7_1), .int .u8 32, .int .i64 5] ?_; (with_reducible refine (spec_l1Cut.calls k1 (rdOf ByteArray.empty t325 x7_1) 32 5 t335 _ A20.out).mono ?_); rintro e w33 ⟨v336, rfl, ho0, hb⟩; refine ⟨_, rfl, ?_⟩; have HO337 := Aside0.mk (Kd.R_lower (Kd.R_new' ho0 (Kd.R_lt (nr_ HO_5.out))) (below_size (ne_ HB.out))); replace HO_5 := Aside0.mk (Kd.R_elder' (nr_ HO_5.out) (Kd.R_base ho0) hb); replace HO_325001 := kR_ HO_325001 hb; replace BK323 := kb_ BK323 hb; replace BK324 := kb_ BK324 hb; replace HB := kB_ HB hb; (try clear hb); (try clear hb2); (try clear hk); (try clear hi); (try clear ho0); obtain ⟨Ao34, co34, eo34⟩ := Kd.R_slice HO337.out; subst eo34))
    replace HO_5 := Aside0.mk (Kd.R_drew HO_5.out)
    replace HO_325001 := Aside0.mk (Kd.R_drew HO_325001.out)
    replace HO337 := Aside0.mk (Kd.R_drew HO337.out)
    replace BK323 := Aside0.mk (blk_drew BK323.out)
    replace BK324 := Aside0.mk (blk_drew BK324.out)
    replace HB := Aside0.mk (below_drew1 HB.out)
    have p338 : 0 ≤ (0 : Int) := (by omega)
    have q338 : 0 < (t335.length : Int) := of_decide_eq_true nx_
    obtain ⟨ad338, e338, hx338_0⟩ := Kd.at_string (Kd.R_reads' HO337.out).2.2 0 p338 q338
    cases e338
    have qi338 : (0 < t335.length) = True := eq_true (by omega)
    (try rw [show ((0 : Int)).toNat = 0 from rfl] at hx338_0)
    (try rw [Addr.add_zero'] at hx338_0)
    replace p338 := eq_true p338
    replace q338 := eq_true q338
    have p340 : 0 ≤ (1 : Int) := (by omega)
    have q340 : 1 < (t335.length : Int) := of_decide_eq_true nx_
    obtain ⟨ad340, e340, hx340_0⟩ := Kd.at_string (Kd.R_reads' HO337.out).2.2 1 p340 q340
    obtain rfl : ad338 = ad340 := (by injection e340)
    (try simp only [show (1 : Int).toNat = 1 from rfl, Nat.reduceMul, Nat.reduceEqDiff, Go.Addr.add, ↓reduceIte] at hx340_0)
    have qi340 : (1 < t335.length) = True := eq_true (by omega)
    (try rw [show ((1 : Int)).toNat = 1 from rfl] at hx340_0)
    replace p340 := eq_true p340
    replace q340 := eq_true q340
    have p342 : 0 ≤ (2 : Int) := (by omega)
    have q342 : 2 < (t335.length : Int) := of_decide_eq_true nx_
    obtain ⟨ad342, e342, hx342_0⟩ := Kd.at_string (Kd.R_reads' HO337.out).2.2 2 p342 q342
    obtain rfl : ad338 = ad342 := (by injection e342)
    (try simp only [show (2 : Int).toNat = 2 from rfl, Nat.reduceMul, Nat.reduceEqDiff, Go.Addr.add, ↓reduceIte] at hx342_0)
    have qi342 : (2 < t335.length) = True := eq_true (by omega)
    (try rw [show ((2 : Int)).toNat = 2 from rfl] at hx342_0)
    replace p342 := eq_true p342
    replace q342 := eq_true q342
    have p344 : 0 ≤ (3 : Int) := (by omega)
    have q344 : 3 < (t335.length : Int) := of_decide_eq_true nx_
    obtain ⟨ad344, e344, hx344_0⟩ := Kd.at_string (Kd.R_reads' HO337.out).2.2 3 p344 q344
    obtain rfl : ad338 = ad344 := (by injection e344)
    (try simp only [show (3 : Int).toNat = 3 from rfl, Nat.reduceMul, Nat.reduceEqDiff, Go.Addr.add, ↓reduceIte] at hx344_0)
    have qi344 : (3 < t335.length) = True := eq_true (by omega)
    (try rw [show ((3 : Int)).toNat = 3 from rfl] at hx344_0)
    replace p344 := eq_true p344
    replace q344 := eq_true q344
    have p346 : 0 ≤ (4 : Int) := (by omega)
    have q346 : 4 < (t335.length : Int) := of_decide_eq_true nx_
    obtain ⟨ad346, e346, hx346_0⟩ := Kd.at_string (Kd.R_reads' HO337.out).2.2 4 p346 q346
    obtain rfl : ad338 = ad346 := (by injection e346)
    (try simp only [show (4 : Int).toNat = 4 from rfl, Nat.reduceMul, Nat.reduceEqDiff, Go.Addr.add, ↓reduceIte] at hx346_0)
    have qi346 : (4 < t335.length) = True := eq_true (by omega)
    (try rw [show ((4 : Int)).toNat = 4 from rfl] at hx346_0)
    replace p346 := eq_true p346
    replace q346 := eq_true q346
    refine start_ (n := 27) (S := fun w' => w'.cell? ⟨gb324, 0, none⟩ = some (.int .i64 t333) ∧ w'.cell? ⟨gb324, 1, none⟩ = some (u325001) ∧ w'.cell? ad338 = some (.string (rdOf ByteArray.empty t335 0)) ∧ w'.cell? ⟨ad338.block, ad338.off + 1, none⟩ = some (.string (rdOf ByteArray.empty t335 1)) ∧ w'.cell? ⟨ad338.block, ad338.off + 2, none⟩ = some (.string (rdOf ByteArray.empty t335 2)) ∧ w'.cell? ⟨ad338.block, ad338.off + 3, none⟩ = some (.string (rdOf ByteArray.empty t335 3)) ∧ w'.cell? ⟨ad338.block, ad338.off + 4, none⟩ = some (.string (rdOf ByteArray.empty t335 4))) (ds := [26]) (bm_ 27 0) (by kernel_rfl) rfl rfl ⟨ct_ BK324.out 0, ct_ BK324.out 1, hx338_0, hx340_0, hx342_0, hx344_0, hx346_0⟩ (fun hHeld => ?_); refine with_tabW spec_NetGet.tab13 spec_NetGet.bits13 (fun HT_ HW_ => ?_)
    generalize w33.drew = w35 at HO_5 HO_325001 HO337 BK323 BK324 HB hx338_0 hx340_0 hx342_0 hx344_0 hx346_0 hHeld ⊢
    refine pu_ 0 41 (bm_ 27 1) HT_.out ?_
    refine pu_ 2 43 (bm_ 27 5) HT_.out ?_
    refine pu_ 3 44 (bm_ 27 13) HT_.out ?_
    refine pu_ 6 47 (bm_ 27 77) HT_.out ?_
    refine pu_ 7 48 (bm_ 27 205) HT_.out ?_
    refine pu_ 10 51 (bm_ 27 1229) HT_.out ?_
    refine pu_ 11 52 (bm_ 27 3277) HT_.out ?_
    refine pu_ 14 55 (bm_ 27 19661) HT_.out ?_
    refine pu_ 15 56 (bm_ 27 52429) HT_.out ?_
    refine pu_ 18 59 (bm_ 27 314573) HT_.out ?_
    refine pu_ 19 60 (bm_ 27 838861) HT_.out ?_
    refine tk_ 1 42 (bm_ 27 838863) HT_.out HW_.out hHeld ?_
    refine tk_ 4 45 (bm_ 27 838879) HT_.out HW_.out hHeld ?_
    refine tk_ 8 49 (bm_ 27 839135) HT_.out HW_.out hHeld ?_
    refine tk_ 12 53 (bm_ 27 843231) HT_.out HW_.out hHeld ?_
    refine tk_ 16 57 (bm_ 27 908767) HT_.out HW_.out hHeld ?_
    refine tk_ 20 61 (bm_ 27 1957343) HT_.out HW_.out hHeld ?_
    refine one_ (i := 5) (N := some 46) (bm_ 27 1957375) rfl rfl (one_of HT_.out (by kernel_rfl)) (by decide) (fun K hK => ?_)
    refine go_ Tryd.func42 #[.string (rdOf ByteArray.empty t335 0)] ?_
    with_reducible refine (spec_l1Num.calls k1 (rdOf ByteArray.empty t335 0) t339 _ A23.out).mono ?_
    rintro e w' ⟨rfl, ⟨nd, rfl⟩⟩
    refine ⟨_, rfl, ?_⟩
    refine hK.out _ _ ⟨ct_ BK324.out 0, ct_ BK324.out 1, hHeld.2.2.1, hHeld.2.2.2.1, hHeld.2.2.2.2.1, hHeld.2.2.2.2.2.1, hHeld.2.2.2.2.2.2⟩ (fun hHeld => ?_)
    clear hK K
    refine nm1_ (some 46) ?_
    refine one_ (i := 9) (N := some 50) (bm_ 27 1957887) rfl rfl (one_of HT_.out (by kernel_rfl)) (by decide) (fun K hK => ?_)
    refine go_ Tryd.func42 #[.string (rdOf ByteArray.empty t335 1)] ?_
    with_reducible refine (spec_l1Num.calls k1 (rdOf ByteArray.empty t335 1) t341 _ A25.out).mono ?_
    rintro e w' ⟨rfl, ⟨nd, rfl⟩⟩
    refine ⟨_, rfl, ?_⟩
    refine hK.out _ _ ⟨ct_ BK324.out 0, ct_ BK324.out 1, hHeld.2.2.1, hHeld.2.2.2.1, hHeld.2.2.2.2.1, hHeld.2.2.2.2.2.1, hHeld.2.2.2.2.2.2⟩ (fun hHeld => ?_)
    clear hK K
    refine nm1_ (some 50) ?_
    refine one_ (i := 13) (N := some 54) (bm_ 27 1966079) rfl rfl (one_of HT_.out (by kernel_rfl)) (by decide) (fun K hK => ?_)
    refine go_ Tryd.func42 #[.string (rdOf ByteArray.empty t335 2)] ?_
    with_reducible refine (spec_l1Num.calls k1 (rdOf ByteArray.empty t335 2) t343 _ A27.out).mono ?_
    rintro e w' ⟨rfl, ⟨nd, rfl⟩⟩
    refine ⟨_, rfl, ?_⟩
    refine hK.out _ _ ⟨ct_ BK324.out 0, ct_ BK324.out 1, hHeld.2.2.1, hHeld.2.2.2.1, hHeld.2.2.2.2.1, hHeld.2.2.2.2.2.1, hHeld.2.2.2.2.2.2⟩ (fun hHeld => ?_)
    clear hK K
    refine nm1_ (some 54) ?_
    refine one_ (i := 17) (N := some 58) (bm_ 27 2097151) rfl rfl (one_of HT_.out (by kernel_rfl)) (by decide) (fun K hK => ?_)
    refine go_ Tryd.func42 #[.string (rdOf ByteArray.empty t335 3)] ?_
    with_reducible refine (spec_l1Num.calls k1 (rdOf ByteArray.empty t335 3) t345 _ A29.out).mono ?_
    rintro e w' ⟨rfl, ⟨nd, rfl⟩⟩
    refine ⟨_, rfl, ?_⟩
    refine hK.out _ _ ⟨ct_ BK324.out 0, ct_ BK324.out 1, hHeld.2.2.1, hHeld.2.2.2.1, hHeld.2.2.2.2.1, hHeld.2.2.2.2.2.1, hHeld.2.2.2.2.2.2⟩ (fun hHeld => ?_)
    clear hK K
    refine nm1_ (some 58) ?_
    refine one_ (i := 21) (N := some 62) (bm_ 27 4194303) rfl rfl (one_of HT_.out (by kernel_rfl)) (by decide) (fun K hK => ?_)
    refine go_ Tryd.func42 #[.string (rdOf ByteArray.empty t335 4)] ?_
    with_reducible refine (spec_l1Num.calls k1 (rdOf ByteArray.empty t335 4) t347 _ A31.out).mono ?_
    rintro e w' ⟨rfl, ⟨nd, rfl⟩⟩
    refine ⟨_, rfl, ?_⟩
    refine hK.out _ _ ⟨ct_ BK324.out 0, ct_ BK324.out 1, hHeld.2.2.1, hHeld.2.2.2.1, hHeld.2.2.2.2.1, hHeld.2.2.2.2.2.1, hHeld.2.2.2.2.2.2⟩ (fun hHeld => ?_)
    clear hK K
    refine nm1_ (some 62) ?_
    refine pu_ 22 63 (bm_ 27 8388607) HT_.out ?_
    refine one_ (i := 23) (N := some 64) (bm_ 27 16777215) rfl rfl (one_of HT_.out (by kernel_rfl)) (by decide) (fun K hK => ?_)
    refine value_ (w1 := ?_) (v := ?_) (by rfl) rfl ?_ ?_
    rotate_left 2
    ·go_simp
     constructor
     ·rfl
     ·rfl
    refine hK.out _ _ ⟨(blk_cell (blk_alloc BK324.out _) 0).trans rfl, (blk_cell (blk_alloc BK324.out _) 1).trans rfl, (World.cell?_alloc_lt _ _ _ (World.block_lt_of_cell? _ _ (hHeld.2.2.1))).trans (hHeld.2.2.1), (World.cell?_alloc_lt _ _ _ (World.block_lt_of_cell? _ _ (hHeld.2.2.2.1))).trans (hHeld.2.2.2.1), (World.cell?_alloc_lt _ _ _ (World.block_lt_of_cell? _ _ (hHeld.2.2.2.2.1))).trans (hHeld.2.2.2.2.1), (World.cell?_alloc_lt _ _ _ (World.block_lt_of_cell? _ _ (hHeld.2.2.2.2.2.1))).trans (hHeld.2.2.2.2.2.1), (World.cell?_alloc_lt _ _ _ (World.block_lt_of_cell? _ _ (hHeld.2.2.2.2.2.2))).trans (hHeld.2.2.2.2.2.2)⟩ (fun hHeld => ?_)
    clear hK K
    refine nm1_ (some 64) ?_
    refine one_ (i := 24) (N := some 65) (bm_ 27 33554431) rfl rfl (one_of HT_.out (by kernel_rfl)) (by decide) (fun K hK => ?_)
    refine Kd.R_append_step k54 (w0 := w) w.heap.size (by rfl) (.tmp 42) (.tmp 64) 23 54 (.agg #[(.int .i64 0), (.int .i64 0), (.int .i64 0), (.int .i64 0), (.int .i64 0)]) 40 rfl Tryd.underlying23 info54 rfl (by decide) (by omega) u325001 x325001_1 (⟨t339, t341, t343, t345, t347⟩ : S54) [.int .i64 t339, .int .i64 t341, .int .i64 t343, .int .i64 t345, .int .i64 t347] (fun _ => True) (fun _ => False) rfl rfl ?aP (fun _ hk => hk.elim) ?aF ?aO ?aB ?aS ?aL ?_
    (case aP => exact k54_mkM _ _ _ (⟨t339, t341, t343, t345, t347⟩ : S54))
    (case aB => exact (ne_ HB.out))
    (case aF => exact (fun _ _ => trivial))
    (case aO => exact (nr_ HO_325001.out))
    (case aS => exact (below_size (ne_ HB.out)))
    (case aL => have := LMc32.out; omega)
    intro v349 w36 ho hb hg hat
    (first | have HS2_ := cg_ hg (hHeld.2.2.1) (ry_ hg (nr_ HO337.out) (nr_ HO_325001.out) (by decide) rfl) | have HS2_ := cgu_ hg (hHeld.2.2.1) (rlt_ (nr_ HO337.out) rfl) (ry_ hg (nr_ HO337.out) (nr_ HO_325001.out) (by decide) rfl))
    (first | have HS3_ := cg_ hg (hHeld.2.2.2.1) (ry_ hg (nr_ HO337.out) (nr_ HO_325001.out) (by decide) rfl) | have HS3_ := cgu_ hg (hHeld.2.2.2.1) (rlt_ (nr_ HO337.out) rfl) (ry_ hg (nr_ HO337.out) (nr_ HO_325001.out) (by decide) rfl))
    (first | have HS4_ := cg_ hg (hHeld.2.2.2.2.1) (ry_ hg (nr_ HO337.out) (nr_ HO_325001.out) (by decide) rfl) | have HS4_ := cgu_ hg (hHeld.2.2.2.2.1) (rlt_ (nr_ HO337.out) rfl) (ry_ hg (nr_ HO337.out) (nr_ HO_325001.out) (by decide) rfl))
    (first | have HS5_ := cg_ hg (hHeld.2.2.2.2.2.1) (ry_ hg (nr_ HO337.out) (nr_ HO_325001.out) (by decide) rfl) | have HS5_ := cgu_ hg (hHeld.2.2.2.2.2.1) (rlt_ (nr_ HO337.out) rfl) (ry_ hg (nr_ HO337.out) (nr_ HO_325001.out) (by decide) rfl))
    (first | have HS6_ := cg_ hg (hHeld.2.2.2.2.2.2) (ry_ hg (nr_ HO337.out) (nr_ HO_325001.out) (by decide) rfl) | have HS6_ := cgu_ hg (hHeld.2.2.2.2.2.2) (rlt_ (nr_ HO337.out) rfl) (ry_ hg (nr_ HO337.out) (nr_ HO_325001.out) (by decide) rfl))
    rw [← Ny348.out] at ho
    replace HO_5 := Aside0.mk (Kd.R_over' (nr_ HO_5.out) (Kd.R_typed (nr_ HO_325001.out)) (by decide) hg)
    replace BK323 := Aside0.mk (blk_grown (g := gb323) (o := .cells #[.int .i64 x324000_1, .slice none 0 0] 25 (0, 0)) (nb_ BK323.out) hg (Kd.R_ne HO_325001.out BK323.out (by decide)))
    replace BK324 := Aside0.mk (blk_grown (g := gb324) (o := .cells #[.int .i64 t333, u325001] 25 (0, 0)) (nb_ BK324.out) hg (Kd.R_ne HO_325001.out BK324.out (by decide)))
    replace HO337 := Aside0.mk (Kd.R_over' (nr_ HO337.out) (Kd.R_typed (nr_ HO_325001.out)) (by decide) hg)
    replace HB := Aside0.mk (hb)
    have HO350 := Aside0.mk (ho)
    clear HO_325001 ho hb hg hat
    obtain ⟨Ao37, co37, eo37⟩ := Kd.R_slice HO350.out
    (first | subst eo37 | (injection eo37 with f1_ f2_ f3_; have f4_ := f1_.symm; have f5_ := f3_.symm; clear f1_ f2_ f3_; subst f4_; subst f5_))
    refine hK.out _ _ ⟨ct_ BK324.out 0, ct_ BK324.out 1, HS2_, HS3_, HS4_, HS5_, HS6_⟩ (fun hHeld => ?_)
    clear hK K
    refine nm1_ (some 65) ?_
    refine pu_ 25 66 (bm_ 27 67108863) HT_.out ?_
    refine last_ (i := 26) (N := none) (bm_ 27 134217727) rfl rfl (one_of HT_.out (by kernel_rfl)) (by decide) (fun K hK => ?_)
    have hs38 : w36.cell? ⟨gb324, 1, none⟩ = some (u325001) := ct_ BK324.out 1
    have hfs38 := blk_frozen BK324.out 1
    have hns38_0 := NB323_324.out
    have hms38_0 := NB324_323.out
    refine skip_ (w1 := ?_) (by rfl) rfl ?_ ?_
    rotate_left
    ·go_simp
     rfl
    refine hK.out _ _ ?_
    clear hK K
    refine done_ (done_of HT_.out (by kernel_rfl)) ?_
    try go_wp2
    go_roundg k1
    case measure => have := HK1.out; omega
    case rel => exact ⟨(wrap64 (x7_1 + 1)), (x324000_1), (y348), (.slice Ao37 y348.length co37), ns_, H', ⟨by have := HK1.out; omega⟩, ⟨by (with_reducible repeat (first | apply Kd.R_alloc | apply Kd.R_drewN | apply Kd.R_drew)); exact Kd.R_mono (Kd.R_far (p := ⟨gb324, 1, none⟩) (Kd.R_types HO_5.out BK324.out (by decide)) (fun _ hk => hk.2) (.slice Ao37 y348.length co37)) (fun _ hk => trivial)⟩, ⟨by (with_reducible repeat (first | apply Kd.R_alloc | apply Kd.R_drewN | apply Kd.R_drew)); exact Kd.R_mono (Kd.R_far (p := ⟨gb324, 1, none⟩) (Kd.R_types HO350.out BK324.out (by decide)) (fun _ hk => hk.2) (.slice Ao37 y348.length co37)) (fun _ hk => trivial)⟩, ⟨np_ BK323.out⟩, ⟨np_ BK324.out⟩, ⟨ne_ HB.out⟩⟩
end Go.Proofs.YtppjelkljihdoaaDoor.Print
