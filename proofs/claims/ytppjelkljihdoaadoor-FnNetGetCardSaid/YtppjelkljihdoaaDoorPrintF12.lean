-- Made by this session's own program (wip/patch_print.py, over the kit's print). Lean checks it.
import Derived.Test.YtppjelkljihdoaaDoorPrint0
import Derived.Test.YtppjelkljihdoaaDoorPrintF10
import Derived.Test.YtppjelkljihdoaaDoorPrintF34
import Derived.Test.YtppjelkljihdoaaDoorPrintF35
import Derived.Test.YtppjelkljihdoaaDoorPrintF36
import Derived.Test.YtppjelkljihdoaaDoorPrintF37
import Derived.Test.YtppjelkljihdoaaDoorPrintF8
import Derived.Test.YtppjelkljihdoaaDoorV
namespace Go.Proofs.YtppjelkljihdoaaDoor.Print
open Go.RowKit Go.Proofs.YtppjelkljihdoaaDoorW.PrintWords Go.Proofs.YtppjelkljihdoaaDoorW.PrintLast Go.Proofs.YtppjelkljihdoaaDoorW.PrintMore Go.Proofs.YtppjelkljihdoaaDoorX
attribute [local go_sem] max2_int min2_int max_two min_two max_three min_three max_four min_four   -- for this text's walks alone
set_option linter.unusedVariables false
set_option linter.unusedSimpArgs false

/-! ### impl_NetGet: function 12 -/
theorem ng_same {A : Option Addr} {n : Nat} {xs : List ByteArray} {w : World} {g : Nat} {o : Obj} (hC : Kd.C Kd.string w A n xs) (hg : w.heap[g]? = some o) (hA : ∀ ad, A = some ad → ad.block = g) : ∀ w' : World, w'.heap[g]? = some o → Kd.C Kd.string w' A n xs := by
  intro w' hg'
  refine ⟨hC.1, hC.2.1, fun hn => ?_⟩
  obtain ⟨ad, e, h⟩ := hC.2.2 hn
  refine ⟨ad, e, fun j p hj => ?_⟩
  obtain ⟨c, h1, h2, h3⟩ := h j p hj
  refine ⟨c, h1, h2, fun i u hu => ?_⟩
  exact (World.cell?_of_block (by rw [add_block, hA ad e, hg', hg])).trans (h3 i u hu)
theorem ng_blk {A1 : Option Addr} {c m n k : Nat} {ad : Addr} {g : Nat} {cap : Nat} (h : A1 = (if c = m then some ad else ((some ad : Option Addr).map (·.add k)))) (e : Value.slice (some ad) n c = .slice (some ⟨g, 0, none⟩) n cap) : ∀ a, A1 = some a → a.block = g := by
  intro a ha
  have hb : ad.block = g := by
    injection e with e1
    injection e1 with e1
    rw [e1]
  rw [h] at ha
  split at ha
  · injection ha with ha; rw [← ha, hb]
  · simp only [Option.map_some, Option.some.injEq] at ha
    rw [← ha, add_block, hb]
theorem ng_ne {w : World} {g g' : Nat} {c c' : Array Value} {t t' : TypeId} (h : w.heap[g]? = some (.cells c t (0, 0))) (h' : w.heap[g']? = some (.cells c' t' (0, 0))) (ht : t ≠ t') : g ≠ g' := by
  rintro rfl
  rw [h] at h'
  injection h' with h'
  injection h' with _ h'
  exact ht h'
mutual
def impl_NetGet.j0 : Nat → ByteArray → List ByteArray → List Int → Bool → Option (Int × (List (S54)) × Bool)
  | 0, _, _, _, _ => none
  | k + 1, x0, x4, x5, x28 => if x28 = true then (some (0, ([] : List (S54)), false)) else (if 0 < (x5.length : Int) then (if 1 ≤ (mx (wrap64 ((x4.length : Int) - 1)) 1) then (if (mx (wrap64 ((x4.length : Int) - 1)) 1) ≤ (x4.length : Int) then ((some ((x4.take ((mx (wrap64 ((x4.length : Int) - 1)) 1) : Int).toNat).drop 1 : List ByteArray)).bind fun y272 => (impl_NetGet.l0 k x0 y272 (y272.length : Int) 0 (rd x5 0) ([] : List (S54)))) else (none)) else (none)) else (none))
def impl_NetGet.l0 : Nat → ByteArray → List ByteArray → Int → Int → Int → List (S54) → Option (Int × (List (S54)) × Bool)
  | 0, _, _, _, _, _, _ => none
  | k + 1, x0, x39, x40, x41, x272000, x272001 => if x41 < x40 then (if 0 ≤ x41 then (if x41 < (x39.length : Int) then ((impl_readNumbers.f k (rdOf ByteArray.empty x39 x41) 5).bind fun bt277 => (if bt277.2 = true then (if 0 < (bt277.1.length : Int) then (if 1 < (bt277.1.length : Int) then (if 2 < (bt277.1.length : Int) then (if 3 < (bt277.1.length : Int) then (if 4 < (bt277.1.length : Int) then (if x272001.length < 3518437208883 then (impl_NetGet.l0 k x0 x39 x40 (wrap64 (x41 + 1)) x272000 (x272001 ++ [(⟨rd bt277.1 0, rd bt277.1 1, rd bt277.1 2, rd bt277.1 3, rd bt277.1 4⟩ : S54)])) else (none)) else (none)) else (none)) else (none)) else (none)) else (none)) else (some (0, ([] : List (S54)), false)))) else (none)) else (none)) else ((impl_NetOk.f x272000 x272001).bind fun t289 => (if t289 = true then ((impl_NetPut.f x272000 x272001).bind fun t290 => (if t290.toList = x0.toList then ((impl_Arc_37.f x272001).bind fun t291 => (some (x272000, t291, true))) else (some (0, ([] : List (S54)), false)))) else (some (0, ([] : List (S54)), false))))
end
def impl_NetGet.f (k : Nat) (a0 : ByteArray) : Option (Int × (List (S54)) × Bool) := (strings_TrimPrefix.f a0 (⟨#[110, 101, 116, 32]⟩ : ByteArray)).bind fun t261 => ((strings_Split.f t261 (⟨#[10]⟩ : ByteArray)).bind fun t262 => (if 0 < (t262.length : Int) then ((impl_readNumbers.f k (rdOf ByteArray.empty t262 0) 1).bind fun bt266 => (if bt266.2 = true then (impl_NetGet.j0 k a0 t262 bt266.1 (decide ((t262.length : Int) > 18))) else (impl_NetGet.j0 k a0 t262 bt266.1 true))) else (none)))
theorem impl_NetGet.mono_l : ∀ k, (∀ y0 y1 y2 y3, LeO (impl_NetGet.j0 k y0 y1 y2 y3) (impl_NetGet.j0 (k + 1) y0 y1 y2 y3)) ∧ (∀ y0 y1 y2 y3 y4 y5, LeO (impl_NetGet.l0 k y0 y1 y2 y3 y4 y5) (impl_NetGet.l0 (k + 1) y0 y1 y2 y3 y4 y5))
  | 0 => ⟨fun _ _ _ _ r h => by simp [impl_NetGet.j0] at h, fun _ _ _ _ _ _ r h => by simp [impl_NetGet.l0] at h⟩
  | k + 1 => by
    obtain ⟨ih0, ih1⟩ := impl_NetGet.mono_l k
    refine ⟨?_, ?_⟩
    · intro y0 y1 y2 y3
      unfold impl_NetGet.j0
      repeat' first | (with_reducible first | exact ih0 _ _ _ _ | exact ih1 _ _ _ _ _ _ | exact impl_readNumbers.mono _ _ _ | exact LeO.refl _ | exact LeO.none _ | refine LeO.ite ?_ ?_ | refine LeO.bind ?_ (fun _ => ?_)) | exact ih0 _ _ _ _ | exact ih1 _ _ _ _ _ _ | exact impl_readNumbers.mono _ _ _ | exact LeO.none _ | refine LeO.ite ?_ ?_ | refine LeO.bind ?_ (fun _ => ?_)
    · intro y0 y1 y2 y3 y4 y5
      unfold impl_NetGet.l0
      repeat' first | (with_reducible first | exact ih0 _ _ _ _ | exact ih1 _ _ _ _ _ _ | exact impl_readNumbers.mono _ _ _ | exact LeO.refl _ | exact LeO.none _ | refine LeO.ite ?_ ?_ | refine LeO.bind ?_ (fun _ => ?_)) | exact ih0 _ _ _ _ | exact ih1 _ _ _ _ _ _ | exact impl_readNumbers.mono _ _ _ | exact LeO.none _ | refine LeO.ite ?_ ?_ | refine LeO.bind ?_ (fun _ => ?_)
theorem impl_NetGet.mono : ∀ a0 k, LeO (impl_NetGet.f k a0) (impl_NetGet.f (k + 1) a0) := by
  intro a0 k
  obtain ⟨ih0, ih1⟩ := impl_NetGet.mono_l k
  unfold impl_NetGet.f
  repeat' first | (with_reducible first | exact ih0 _ _ _ _ | exact ih1 _ _ _ _ _ _ | exact impl_readNumbers.mono _ _ _ | exact LeO.refl _ | exact LeO.none _ | refine LeO.ite ?_ ?_ | refine LeO.bind ?_ (fun _ => ?_)) | exact ih0 _ _ _ _ | exact ih1 _ _ _ _ _ _ | exact impl_readNumbers.mono _ _ _ | exact LeO.none _ | refine LeO.ite ?_ ?_ | refine LeO.bind ?_ (fun _ => ?_)
def impl_NetGet.T12 : Bool × List (List Nat × List Nat) := (true, [([], []), ([0], [0]), ([], []), ([2], [2]), ([3], [3]), ([], []), ([5], [5]), ([6], [6]), ([], []), ([8], [8]), ([9], [9]), ([], []), ([11], [11]), ([12], [12]), ([], []), ([14], [14]), ([15], [15]), ([4, 7, 10, 13, 16], [4, 7, 10, 13, 16]), ([17], [17]), ([1, 18], [1, 18]), ([0, 1, 2, 3, 4, 5, 6, 7, 8, 9, 10, 11, 12, 13, 14, 15, 16, 17, 18, 19], []), ([20, 19, 19, 0, 1, 2, 3, 4, 5, 6, 7, 8, 9, 10, 11, 12, 13, 14, 15, 16, 17, 18, 19], [19, 20])])
def impl_NetGet.B12 : List Nat := [0, 1, 0, 4, 12, 0, 32, 96, 0, 256, 768, 0, 2048, 6144, 0, 16384, 49152, 131068, 262140, 524287, 1048575, 2097151]
theorem impl_NetGet.tab12 : rtab .any (opsOf Tryd.f12 12) = impl_NetGet.T12 := by kernel_rfl
theorem impl_NetGet.bits12 : waitsOk impl_NetGet.T12.2 impl_NetGet.B12 = true := by kernel_rfl
set_option maxHeartbeats 200000000 in
set_option maxRecDepth 100000 in
theorem impl_NetGet.calls (k : Nat) (a0 : ByteArray) (r1 : Int) (r2 : List (S54)) (r3 : Bool) (w : World) (h : impl_NetGet.f k a0 = some (r1, r2, r3)) (hV : Aside0 (VarsOk w) := by first | with_reducible assumption | exact vof_ (by assumption) (ne_ (Aside0.out (by assumption)))) :
    Calls Tryd.prog 12 #[.string a0] w fun e w' => ∃ v1_ : Value, e = .returned (.tuple #[.agg #[.int .i64 r1, v1_], .bool r3]) ∧ Kd.R k54 54 w' w.heap.size (fun _ => True) v1_ r2 ∧ Below w.heap.size w w' := by
  have hu25 := Tryd.underlying25
  have hu54 := Tryd.underlying54
  have HB := Aside0.mk (Below.refl w.heap.size w)
  have H : ((strings_TrimPrefix.f a0 (⟨#[110, 101, 116, 32]⟩ : ByteArray)).bind fun t261 => ((strings_Split.f t261 (⟨#[10]⟩ : ByteArray)).bind fun t262 => (if 0 < (t262.length : Int) then ((impl_readNumbers.f k (rdOf ByteArray.empty t262 0) 1).bind fun bt266 => (if bt266.2 = true then (impl_NetGet.j0 k a0 t262 bt266.1 (decide ((t262.length : Int) > 18))) else (impl_NetGet.j0 k a0 t262 bt266.1 true))) else (none)))) = some (r1, r2, r3) := h
  clear h
  replace H := Option.bind_eq_some_iff.mp H
  obtain ⟨t261, A20, H⟩ := H
  try dsimp only at H
  have A2 := Aside0.mk A20
  clear A20
  replace H := Option.bind_eq_some_iff.mp H
  obtain ⟨t262, A30, H⟩ := H
  try dsimp only at H
  have A3 := Aside0.mk A30
  clear A30
  by_cases c4 : 0 < (t262.length : Int)
  rotate_left
  ·rw [if_neg c4] at H
   exact absurd H (by simp)

  rw [if_pos c4] at H
  have c4b0 : decide (0 < (t262.length : Int)) = true := decide_eq_true c4
  have c4b1 : decide (0 < t262.length) = true := decide_eq_true (by omega)
  clear c4
  replace H := Option.bind_eq_some_iff.mp H
  obtain ⟨⟨t266, t267⟩, A50, H⟩ := H
  try dsimp only at H
  have A5 := Aside0.mk A50
  clear A50
  have HC6 := Aside0.mk H
  clear H
  go_enter Tryd.func12, Tryd.ntmps12
  go_upto_region 3 with (first | ((with_reducible refine gate_dst (N := 2) rfl ?_); (try (refine gate_guard (by rfl) ?_; dsimp only)); refine bx_ 2 #[.int .i64 0, .slice none 0 0] 25 ?_; intro gb260 hg w7 hbox hb; have BK260 := Aside0.mk (hbox); have GW260 := Aside0.mk (zs_ hg (ne_ HB.out)); have GE260 := Aside0.mk (zs_ hg (ne_ HB.out)); replace HB := kB_ HB hb; clear hb hbox hg) | ((with_reducible refine gate_callee (f := 35) rfl ?_); refine gl_ (some 13) Tryd.func35 #[.string a0, .string (⟨#[110, 101, 116, 32]⟩ : ByteArray)] ?_; (with_reducible refine (strings_TrimPrefix.calls a0 (⟨#[110, 101, 116, 32]⟩ : ByteArray) t261 _ A2.out).mono ?_); rintro e w' ⟨rfl, ⟨nd, rfl⟩⟩; refine ⟨_, rfl, ?_⟩) | ((with_reducible refine gate_callee (f := 34) rfl ?_); refine gl_ (some 14) Tryd.func34 #[.string t261, .string (⟨#[10]⟩ : ByteArray)] ?_; (with_reducible refine (strings_Split.calls t261 (⟨#[10]⟩ : ByteArray) t262 _ A3.out).mono ?_); rintro e w8 ⟨v263, rfl, ho0, hb⟩; refine ⟨_, rfl, ?_⟩; have HO264 := Aside0.mk (Kd.R_lower ho0 (below_size (ne_ HB.out))); replace BK260 := kb_ BK260 hb; replace HB := kB_ HB hb; (try clear hb); (try clear hb2); (try clear hk); (try clear hi); (try clear ho0); obtain ⟨Ao9, co9, eo9⟩ := Kd.R_slice HO264.out; subst eo9; have p265 : 0 ≤ (0 : Int) := (by omega); have q265 : 0 < (t262.length : Int) := of_decide_eq_true nx_; obtain ⟨ad265, e265, hx265_0⟩ := Kd.at_string (Kd.R_reads' HO264.out).2.2 0 p265 q265; cases e265; have qi265 : (0 < t262.length) = True := eq_true (by omega); (try rw [show ((0 : Int)).toNat = 0 from rfl] at hx265_0); (try rw [Addr.add_zero'] at hx265_0); replace p265 := eq_true p265; replace q265 := eq_true q265) | ((with_reducible refine gate_callee (f := 36) rfl ?_); refine gl_ (some 19) Tryd.func36 #[.string (rdOf ByteArray.empty t262 0), .int .i64 1] ?_; (with_reducible refine (impl_readNumbers.calls k (rdOf ByteArray.empty t262 0) 1 t266 t267 _ A5.out).mono ?_); rintro e w10 ⟨v268, rfl, ho0, hb⟩; refine ⟨_, rfl, ?_⟩; have HO269 := Aside0.mk (Kd.R_lower ho0 (below_size (ne_ HB.out))); replace HO264 := kR_ HO264 hb; replace BK260 := kb_ BK260 hb; replace HB := kB_ HB hb; (try clear hb); (try clear hb2); (try clear hk); (try clear hi); (try clear ho0)))
  (try simp only [Act.put, List.setIfInBounds_toArray, List.set_cons_zero, List.set_cons_succ])
  go_cut [28] (fun v28 wc => ∃ (kq : Nat) (x28_5 : Bool), v28 = .bool x28_5 ∧ Aside0 (impl_NetGet.j0 kq a0 t262 t266 x28_5 = some (r1, r2, r3)) ∧ Aside0 (kq ≤ k) ∧ Aside0 (Kd.R Kd.string 9 wc w.heap.size (fun _ => True) (.slice (some ad265) t262.length co9) t262) ∧ Aside0 (Kd.R (Kd.int .i64) 3 wc w.heap.size (fun _ => True) v268 t266) ∧ Aside0 (wc.heap[gb260]? = some (.cells #[.int .i64 0, (.slice none 0 0)] 25 (0, 0))) ∧ Aside0 (Below w.heap.size w wc))
  case first =>
   have H := HC6.out
   clear HC6
   by_cases c11 : t267 = true
   ·subst c11
    rw [if_pos rfl] at H
    have H' := Aside0.mk H
    clear H
    go_wp2
    go_meet
    case rel => exact ⟨_, (decide ((t262.length : Int) > 18)), ns_, H', ⟨by first | omega | exact Nat.le_refl _⟩, ⟨nr_ HO264.out⟩, ⟨nr_ HO269.out⟩, ⟨nb_ BK260.out⟩, ⟨ne_ HB.out⟩⟩
   replace c11 := Bool.eq_false_iff.mpr c11
   subst c11
   have H1 : (impl_NetGet.j0 k a0 t262 t266 true) = some (r1, r2, r3) := by rw [if_neg (show ¬ (false = true) by decide)] at H; exact H
   clear H
   have H := H1
   clear H1
   have H' := Aside0.mk H
   clear H
   go_wp2
   go_meet
   case rel => exact ⟨_, (true), ns_, H', ⟨by first | omega | exact Nat.le_refl _⟩, ⟨nr_ HO264.out⟩, ⟨nr_ HO269.out⟩, ⟨nb_ BK260.out⟩, ⟨ne_ HB.out⟩⟩
  case rest =>
   clear HC6
   try clear c4
   try clear c4b0
   try clear c4b1
   try clear hx265_0
   try clear p265
   try clear q265
   obtain ⟨kq, x28_5, rfl, HA, HJ5, HO_4, HO_5, BK260, HB⟩ := hcut
   cases kq with
   | zero => exact absurd HA.out (by simp [impl_NetGet.j0])
   | succ kj5 =>
    have H := HA.out
    clear HA
    simp only [impl_NetGet.j0] at H
    by_cases c12 : x28_5 = true
    ·subst c12
     have H1 : (some (0, ([] : List (S54)), false)) = some (r1, r2, r3) := by rw [if_pos rfl] at H; exact H
     clear H
     have H := H1
     clear H1
     simp only [Option.some.injEq, Prod.mk.injEq] at H
     obtain ⟨rfl, rfl, rfl⟩ := H
     obtain ⟨hcz13_0, hcz13_1, hfz13_0, hfz13_1⟩ := cz2_ BK260.out
     go_wp2
     refine bodyPost_ret (results_ct rfl _ _ gb260 25 #[.int .i64 0, .slice none 0 0] (0, 0) _ rfl (np_ BK260.out) Tryd.underlying25 rfl (by kernel_rfl)) rfl ?_
     exact ⟨_, nw_, by first | exact Kd.R_nil _ _ _ _ _ | exact Kd.N_nil _ _ _ _ _ | exact Kd.V_nil _ _ _ _ _ | exact Kd.Q_nil _ _ _ _ _ | exact Kd.S_nil _ _ _ _ _, ne_ HB.out⟩
    replace c12 := Bool.eq_false_iff.mpr c12
    subst c12
    have H1 : (if 0 < (t266.length : Int) then (if 1 ≤ (mx (wrap64 ((t262.length : Int) - 1)) 1) then (if (mx (wrap64 ((t262.length : Int) - 1)) 1) ≤ (t262.length : Int) then ((some ((t262.take ((mx (wrap64 ((t262.length : Int) - 1)) 1) : Int).toNat).drop 1 : List ByteArray)).bind fun y272 => (impl_NetGet.l0 kj5 a0 y272 (y272.length : Int) 0 (rd t266 0) ([] : List (S54)))) else (none)) else (none)) else (none)) = some (r1, r2, r3) := by rw [if_neg (show ¬ (false = true) by decide)] at H; exact H
    clear H
    have H := H1
    clear H1
    by_cases c14 : 0 < (t266.length : Int)
    rotate_left
    ·rw [if_neg c14] at H
     exact absurd H (by simp)
    rw [if_pos c14] at H
    have c14b0 : decide (0 < (t266.length : Int)) = true := decide_eq_true c14
    have c14b1 : decide (0 < t266.length) = true := decide_eq_true (by omega)
    clear c14
    obtain ⟨ji15, hji15⟩ : ∃ j_ : Int, (mx (wrap64 ((t262.length : Int) - 1)) 1) = j_ := ⟨_, rfl⟩
    replace H : (if 1 ≤ (ji15) then (if (ji15) ≤ (t262.length : Int) then ((some ((t262.take ((ji15) : Int).toNat).drop 1 : List ByteArray)).bind fun y272 => (impl_NetGet.l0 kj5 a0 y272 (y272.length : Int) 0 (rd t266 0) ([] : List (S54)))) else (none)) else (none)) = some (r1, r2, r3) := by first | (rw [hji15] at H; exact H) | (simp only [hji15] at H ⊢; exact H)
    have hji15_ : (if (wrap64 ((t262.length : Int) - 1)) < 1 then 1 else (wrap64 ((t262.length : Int) - 1))) = ji15 := hji15
    by_cases c16 : 1 ≤ (ji15)
    rotate_left
    ·rw [if_neg c16] at H
     exact absurd H (by simp)
    rw [if_pos c16] at H
    have c16b0 := eq_true c16
    have c16b1 : decide (1 ≤ (ji15)) = true := decide_eq_true c16
    clear c16
    by_cases c17 : (ji15) ≤ (t262.length : Int)
    rotate_left
    ·rw [if_neg c17] at H
     exact absurd H (by simp)
    rw [if_pos c17] at H
    have c17b0 := eq_true c17
    have c17b1 : decide ((ji15) ≤ (t262.length : Int)) = true := decide_eq_true c17
    clear c17
    obtain ⟨y272, hy272⟩ : ∃ y_ : List ByteArray, y_ = ((t262.take ((ji15) : Int).toNat).drop 1) := ⟨_, rfl⟩
    replace H : (impl_NetGet.l0 kj5 a0 y272 (y272.length : Int) 0 (rd t266 0) ([] : List (S54))) = some (r1, r2, r3) := by first | (rw [hy272]; with_reducible exact H) | (have H2_ := (Option.bind_some _ _).symm.trans H; rw [hy272]; with_reducible exact H2_) | (have H2_ := (Option.bind_some _ _).symm.trans H; with_reducible exact H2_) | with_reducible exact H | (rw [hy272]; exact H) | exact H
    have Ny272 := Aside0.mk hy272
    clear hy272
    have H' := Aside0.mk H
    clear H
    obtain ⟨Ao18, co18, eo18⟩ := Kd.R_slice HO_5.out
    subst eo18
    have p270 : 0 ≤ (0 : Int) := (by omega)
    have q270 : 0 < (t266.length : Int) := of_decide_eq_true nx_
    obtain ⟨ad270, e270, hx270_0⟩ := Kd.at_int (Kd.R_reads' HO_5.out).2.2 0 p270 q270
    cases e270
    have qi270 : (0 < t266.length) = True := eq_true (by omega)
    (try rw [show ((0 : Int)).toNat = 0 from rfl] at hx270_0)
    (try rw [Addr.add_zero'] at hx270_0)
    replace p270 := eq_true p270
    replace q270 := eq_true q270
    go_wp2_with (first | ((with_reducible refine gate_dst (N := 7) rfl ?_); (try (refine gate_guard (by rfl) ?_; dsimp only)); refine bx_ 7 #[.int .i64 0, .slice none 0 0] 25 ?_; intro gb271 hg w19 hbox hb; have BK271 := Aside0.mk (hbox); have GW271 := Aside0.mk (zs_ hg (ne_ HB.out)); have GE271 := Aside0.mk (zs_ hg (ne_ HB.out)); have NB260_271 := Aside0.mk (nl_ BK260.out hg); have NB271_260 := Aside0.mk (nm_ BK260.out hg); replace HO_4 := kR_ HO_4 hb; replace HO_5 := kR_ HO_5 hb; replace BK260 := kb_ BK260 hb; replace HB := kB_ HB hb; clear hb hbox hg; have hnb20 := NB271_260.out; have hnc20 := NB260_271.out; obtain ⟨hcz21_0, hcz21_1, hfz21_0, hfz21_1⟩ := cz2_ BK271.out) | ((with_reducible refine gate_store (t := 25) (p := 7) rfl ?_); refine store_event (t := 25) (p := 7) (v := ?vo_w22) (w1 := ((w19.setCell ⟨gb271, 0, none⟩ (.int .i64 (rd t266 0))).setCell ⟨gb271, 1, none⟩ (.slice none 0 0))) ?hg ?ho ?hn ?hr ?_; (case ho => rfl); (case hg => rfl); (case hn => rfl); (case hr => first | (go_simp; done) | (go_simp; rfl)); intro w22 hw; replace HO_4 : Aside0 (Kd.R Kd.string 9 w22 w.heap.size (fun _ => True) (.slice (some ad265) t262.length co9) t262) := ⟨(by rw [hw]; exact (by (with_reducible repeat (first | apply Kd.R_alloc | apply Kd.R_drewN | apply Kd.R_drew)); exact Kd.R_mono (rf2_ (Kd.R_types HO_4.out BK271.out (by decide))) (fun _ hk => trivial)))⟩; replace HO_5 : Aside0 (Kd.R (Kd.int .i64) 3 w22 w.heap.size (fun _ => True) (.slice (some ad270) t266.length co18) t266) := ⟨(by rw [hw]; exact (by (with_reducible repeat (first | apply Kd.R_alloc | apply Kd.R_drewN | apply Kd.R_drew)); exact Kd.R_mono (rf2_ (Kd.R_types HO_5.out BK271.out (by decide))) (fun _ hk => trivial)))⟩; replace BK260 : Aside0 (w22.heap[gb260]? = some (.cells #[.int .i64 0, .slice none 0 0] 25 (0, 0))) := ⟨(by rw [hw]; exact (nbf_ BK260.out))⟩; replace BK271 : Aside0 (w22.heap[gb271]? = some (.cells #[.int .i64 (rd t266 0), .slice none 0 0] 25 (0, 0))) := ⟨(by rw [hw]; exact (np_ BK271.out))⟩; replace HB : Aside0 (Below w.heap.size w w22) := ⟨(by rw [hw]; exact (ne_ HB.out))⟩; clear hw; have q23 : ((ji15) : Int) ≤ ((t262.length : Int) : Int) := of_decide_eq_true nx_; obtain ⟨i023, hi023, _, hsz23, _⟩ := info_parts info9; have hroom23 : t262.length ≤ co9 := (Kd.R_reads' HO_4.out).2.1; have hC23 : Kd.C Kd.string _ (some ad265) t262.length t262 := (Kd.R_reads' HO_4.out).2.2; have ql23 : (1 : Int) ≤ ((ji15) : Int) := of_decide_eq_true nx_; have hcut23 := cut_mid (P := Tryd.prog) 62 9 .i64 .i64 Tryd.underlying62 hi023 1 hsz23 (some ad265) t262.length co9 1 (ji15) (by omega) ql23 q23 hroom23; have hr23 := Kd.C_mid (lo := (1 : Int).toNat) (hi := ((ji15) : Int).toNat) (c := co9) hC23 (by omega) (by omega) hroom23; obtain ⟨A23, hA23⟩ : ∃ A1, A1 = (if co9 = (1 : Int).toNat then (some ad265) else ((some ad265) : Option Addr).map (·.add ((1 : Int).toNat * 1))) := ⟨_, rfl⟩; obtain ⟨c23, hc23⟩ : ∃ c1, c1 = co9 - (1 : Int).toNat := ⟨_, rfl⟩; have hy23 : y272.length = ((ji15) : Int).toNat - (1 : Int).toNat := (by rw [Ny272.out, List.length_drop, List.length_take] <;> omega); rw [show ((t262).take ((ji15) : Int).toNat).drop (1 : Int).toNat = y272 from Ny272.out.symm] at hr23; replace hr23 : Kd.C Kd.string _ A23 y272.length y272 := (by rw [hA23]; exact hr23); rw [← hy23, ← hA23, ← hc23] at hcut23; have HR275 := Aside0.mk hr23; have HC275 := Aside0.mk (show y272.length ≤ c23 from by rw [hy23, hc23]; exact Nat.sub_le_sub_right (Nat.le_trans (by omega) hroom23) _); clear hr23 hC23 hroom23 hi023 hsz23 hc23; have KY23 := Aside0.mk hy23; have KA23 := Aside0.mk hA23; clear hy23 hA23; have KL23 := Aside0.mk (show ((ji15) : Int).toNat ≤ t262.length from by omega); have KM23 := Aside0.mk (show 1 ≤ ((ji15) : Int).toNat from by omega); obtain ⟨gR, capR, eR, _, _, curR, hcR⟩ := Kd.R_form HO_4.out (Nat.le_trans KM23.out KL23.out); have HRC := Aside0.mk (ng_same HR275.out hcR (ng_blk KA23.out eR)); have NBR1 := Aside0.mk (ng_ne hcR BK271.out (by decide)); have NBR2 := Aside0.mk (Ne.symm (ng_ne hcR BK271.out (by decide))); have BKR := Aside0.mk hcR; clear hcR eR; replace q23 := eq_true q23))
    go_loopg [41] kj5 (fun kq v41 w' => ∃ (x41_2 : Int) (x261000_2 : Int) (x272001_2 : List (S54)) (u272001 : Value), v41 = .int .i64 x41_2 ∧ Aside0 (impl_NetGet.l0 kq a0 y272 (y272.length : Int) x41_2 (rd t266 0) x272001_2 = some (r1, r2, r3)) ∧ Aside0 (kq ≤ kj5) ∧ Aside0 (Kd.R k54 54 w' w.heap.size (fun _ => True) u272001 x272001_2) ∧ Aside0 (w'.heap[gb260]? = some (.cells #[.int .i64 x261000_2, (.slice none 0 0)] 25 (0, 0))) ∧ Aside0 (w'.heap[gR]? = some (.cells curR 9 (0, 0))) ∧ Aside0 (w'.heap[gb271]? = some (.cells #[.int .i64 (rd t266 0), u272001] 25 (0, 0))) ∧ Aside0 (Below w.heap.size w w'))
    case atStart => exact ⟨(0), (0), (([] : List (S54))), (.slice none 0 0), ns_, H', ⟨Nat.le_refl _⟩, ⟨by first | exact Kd.R_nil _ _ _ _ _ | exact Kd.N_nil _ _ _ _ _ | exact Kd.V_nil _ _ _ _ _ | exact Kd.Q_nil _ _ _ _ _ | exact Kd.S_nil _ _ _ _ _⟩, ⟨nb_ BK260.out⟩, ⟨nb_ BKR.out⟩, ⟨nb_ BK271.out⟩, ⟨ne_ HB.out⟩⟩
    case round =>
     clear H'
     try clear c1
     try clear c4
     try clear c4b0
     try clear c4b1
     try clear c12
     try clear c14
     try clear c14b0
     try clear c14b1
     try clear c16
     try clear c16b0
     try clear c16b1
     try clear c17
     try clear c17b0
     try clear c17b1
     try clear c23
     try clear q23
     try clear hcz21_0
     try clear hcz21_1
     try clear hfz21_0
     try clear hfz21_1
     try clear hx265_0
     try clear hx270_0
     try clear p265
     try clear p270
     try clear q23
     try clear q265
     try clear q270
     obtain ⟨x41_2, x261000_2, x272001_2, u272001, rfl, HA, HK2, HO_272001, BK260, BKR, BK271, HB⟩ := hrel
     cases gk with
     | zero => exact absurd HA.out (by simp [impl_NetGet.l0])
     | succ k2 =>
      have H := HA.out
      clear HA
      simp only [impl_NetGet.l0] at H
      by_cases c24 : x41_2 < (y272.length : Int)
      rotate_left
      ·rw [if_neg c24] at H
       have c24b0 : decide (x41_2 < (y272.length : Int)) = false := decide_eq_false c24
       clear c24
       replace H := Option.bind_eq_some_iff.mp H
       obtain ⟨t289, A440, H⟩ := H
       try dsimp only at H
       have A44 := Aside0.mk A440
       clear A440
       by_cases c45 : t289 = true
       rotate_left
       ·replace c45 := Bool.eq_false_iff.mpr c45
        subst c45
        have H1 : (some (0, ([] : List (S54)), false)) = some (r1, r2, r3) := by rw [if_neg (show ¬ (false = true) by decide)] at H; exact H
        clear H
        have H := H1
        clear H1
        simp only [Option.some.injEq, Prod.mk.injEq] at H
        obtain ⟨rfl, rfl, rfl⟩ := H
        have hnb67 := NB271_260.out
        have hnc67 := NB260_271.out
        obtain ⟨hcz68_0, hcz68_1, hfz68_0, hfz68_1⟩ := cz2_ BK271.out
        obtain ⟨Ao69, co69, eo69⟩ := Kd.R_slice HO_272001.out
        subst eo69
        go_wp2_with (first | ((with_reducible refine gate_callee (f := 10) rfl ?_); refine gl_ (some 76) Tryd.func10 #[.agg #[.int .i64 (rd t266 0), .slice Ao69 x272001_2.length co69]] ?_; (with_reducible refine (impl_NetOk.calls (rd t266 0) _ _ x272001_2 false _ ?side1 ?side2 A44.out).mono ?_); (case side1 => exact nc_ (Kd.R_reads' HO_272001.out).2.2); (case side2 => exact (Kd.R_reads' HO_272001.out).2.1); rintro e w70 ⟨rfl, hb⟩; refine ⟨_, rfl, ?_⟩; replace HO_272001 := kR_ HO_272001 hb; replace BK260 := kb_ BK260 hb; replace BKR := kb_ BKR hb; replace BK271 := kb_ BK271 hb; replace HB := kB_ HB hb; (try clear hb); (try clear hb2); (try clear hk); (try clear hi); obtain ⟨hcz71_0, hcz71_1, hfz71_0, hfz71_1⟩ := cz2_ BK260.out))
        refine bodyPost_ret (results_ct rfl _ _ gb260 25 #[.int .i64 0, .slice none 0 0] (0, 0) _ rfl (np_ BK260.out) Tryd.underlying25 rfl (by kernel_rfl)) rfl ?_
        exact ⟨_, by first | rfl | (simp [errW_none, errW_some] <;> rfl) | (simp only [← hji15]; first | rfl | (simp [errW_none, errW_some] <;> rfl)) | (simp [*, errW_none, errW_some] <;> rfl), by first | exact Kd.R_nil _ _ _ _ _ | exact Kd.N_nil _ _ _ _ _ | exact Kd.V_nil _ _ _ _ _ | exact Kd.Q_nil _ _ _ _ _ | exact Kd.S_nil _ _ _ _ _, ne_ HB.out⟩
       subst c45
       rw [if_pos rfl] at H
       replace H := Option.bind_eq_some_iff.mp H
       obtain ⟨t290, A460, H⟩ := H
       try dsimp only at H
       have A46 := Aside0.mk A460
       clear A460
       by_cases c47 : t290.toList = a0.toList
       rotate_left
       ·rw [if_neg c47] at H
        have c47b0 : (t290.toList == a0.toList) = false := beq_eq_false_iff_ne.mpr c47
        have c47b1 : (t290.toList != a0.toList) = true := bne_iff_ne.mpr c47
        simp only [Option.some.injEq, Prod.mk.injEq] at H
        obtain ⟨rfl, rfl, rfl⟩ := H
        have hnb60 := NB271_260.out
        have hnc60 := NB260_271.out
        obtain ⟨hcz61_0, hcz61_1, hfz61_0, hfz61_1⟩ := cz2_ BK271.out
        obtain ⟨Ao62, co62, eo62⟩ := Kd.R_slice HO_272001.out
        subst eo62
        go_wp2_with (first | ((with_reducible refine gate_callee (f := 10) rfl ?_); refine gl_ (some 76) Tryd.func10 #[.agg #[.int .i64 (rd t266 0), .slice Ao62 x272001_2.length co62]] ?_; (with_reducible refine (impl_NetOk.calls (rd t266 0) _ _ x272001_2 true _ ?side1 ?side2 A44.out).mono ?_); (case side1 => exact nc_ (Kd.R_reads' HO_272001.out).2.2); (case side2 => exact (Kd.R_reads' HO_272001.out).2.1); rintro e w63 ⟨rfl, hb⟩; refine ⟨_, rfl, ?_⟩; replace HO_272001 := kR_ HO_272001 hb; replace BK260 := kb_ BK260 hb; replace BKR := kb_ BKR hb; replace BK271 := kb_ BK271 hb; replace HB := kB_ HB hb; (try clear hb); (try clear hb2); (try clear hk); (try clear hi); obtain ⟨hcz64_0, hcz64_1, hfz64_0, hfz64_1⟩ := cz2_ BK271.out) | (go_at_call 8; (with_reducible refine (impl_NetPut.calls (rd t266 0) _ _ x272001_2 t290 _ ?side1 ?side2 A46.out).mono ?_); (case side1 => exact nc_ (Kd.R_reads' HO_272001.out).2.2); (case side2 => exact (Kd.R_reads' HO_272001.out).2.1); rintro e w65 ⟨rfl, hb⟩; replace HO_272001 := kR_ HO_272001 hb; replace BK260 := kb_ BK260 hb; replace BKR := kb_ BKR hb; replace BK271 := kb_ BK271 hb; replace HB := kB_ HB hb; (try clear hb); (try clear hb2); (try clear hk); (try clear hi); obtain ⟨hcz66_0, hcz66_1, hfz66_0, hfz66_1⟩ := cz2_ BK260.out))
        refine bodyPost_ret (results_ct rfl _ _ gb260 25 #[.int .i64 0, .slice none 0 0] (0, 0) _ rfl (np_ BK260.out) Tryd.underlying25 rfl (by kernel_rfl)) rfl ?_
        exact ⟨_, by first | rfl | (simp [errW_none, errW_some] <;> rfl) | (simp only [← hji15]; first | rfl | (simp [errW_none, errW_some] <;> rfl)) | (simp [*, errW_none, errW_some] <;> rfl), by first | exact Kd.R_nil _ _ _ _ _ | exact Kd.N_nil _ _ _ _ _ | exact Kd.V_nil _ _ _ _ _ | exact Kd.Q_nil _ _ _ _ _ | exact Kd.S_nil _ _ _ _ _, ne_ HB.out⟩
       rw [if_pos c47] at H
       have c47b0 : (t290.toList == a0.toList) = true := beq_iff_eq.mpr c47
       have c47b1 : (t290.toList != a0.toList) = false := bne_eq_false_iff_eq.mpr c47
       clear c47
       replace H := Option.bind_eq_some_iff.mp H
       obtain ⟨t291, A480, H⟩ := H
       replace H : (some ((rd t266 0), t291, true)) = some (r1, r2, r3) := H
       have A48 := Aside0.mk A480
       clear A480
       simp only [Option.some.injEq, Prod.mk.injEq] at H
       obtain ⟨rfl, rfl, rfl⟩ := H
       have hnb49 := NB271_260.out
       have hnc49 := NB260_271.out
       obtain ⟨hcz50_0, hcz50_1, hfz50_0, hfz50_1⟩ := cz2_ BK271.out
       obtain ⟨Ao51, co51, eo51⟩ := Kd.R_slice HO_272001.out
       subst eo51
       go_wp2_with (first | ((with_reducible refine gate_callee (f := 10) rfl ?_); refine gl_ (some 76) Tryd.func10 #[.agg #[.int .i64 (rd t266 0), .slice Ao51 x272001_2.length co51]] ?_; (with_reducible refine (impl_NetOk.calls (rd t266 0) _ _ x272001_2 true _ ?side1 ?side2 A44.out).mono ?_); (case side1 => exact nc_ (Kd.R_reads' HO_272001.out).2.2); (case side2 => exact (Kd.R_reads' HO_272001.out).2.1); rintro e w52 ⟨rfl, hb⟩; refine ⟨_, rfl, ?_⟩; replace HO_272001 := kR_ HO_272001 hb; replace BK260 := kb_ BK260 hb; replace BKR := kb_ BKR hb; replace BK271 := kb_ BK271 hb; replace HB := kB_ HB hb; (try clear hb); (try clear hb2); (try clear hk); (try clear hi); obtain ⟨hcz53_0, hcz53_1, hfz53_0, hfz53_1⟩ := cz2_ BK271.out) | (go_at_call 8; (with_reducible refine (impl_NetPut.calls (rd t266 0) _ _ x272001_2 t290 _ ?side1 ?side2 A46.out).mono ?_); (case side1 => exact nc_ (Kd.R_reads' HO_272001.out).2.2); (case side2 => exact (Kd.R_reads' HO_272001.out).2.1); rintro e w54 ⟨rfl, hb⟩; replace HO_272001 := kR_ HO_272001 hb; replace BK260 := kb_ BK260 hb; replace BKR := kb_ BKR hb; replace BK271 := kb_ BK271 hb; replace HB := kB_ HB hb; (try clear hb); (try clear hb2); (try clear hk); (try clear hi); obtain ⟨hcz55_0, hcz55_1, hfz55_0, hfz55_1⟩ := cz2_ BK271.out) | ((with_reducible refine gate_callee (f := 37) rfl ?_); refine gl_ (some 87) Tryd.func37 #[.slice Ao51 x272001_2.length co51] ?_; (with_reducible refine (impl_Arc_37.calls (fun k_ => some k_ = (.slice Ao51 x272001_2.length co51 : Value).ownBlock) (.slice Ao51 x272001_2.length co51) x272001_2 t291 w _ ?side1 ?side2 A48.out).mono ?_); (case side1 => exact (ne_ HB.out)); (case side2 => exact Kd.R_tight rfl HO_272001.out); rintro e w56 ⟨v292, rfl, ho0, hb, hkp⟩; refine ⟨_, rfl, ?_⟩; have HO293 := Aside0.mk (Kd.R_mono (ok' := fun k_ => True) ho0 (fun k_ hk_ => trivial)); replace BK260 := Aside0.mk (blk_kept (g := gb260) (o := .cells #[.int .i64 x261000_2, .slice none 0 0] 25 (0, 0)) (nb_ BK260.out) hkp (fun hs_ => (fun e_ => (Kd.R_ne HO_272001.out BK260.out (by decide)) e_) hs_)); replace BKR := Aside0.mk (blk_kept (g := gR) (o := .cells curR 9 (0, 0)) (nb_ BKR.out) hkp (fun hs_ => (fun e_ => (Kd.R_ne HO_272001.out BKR.out (by decide)) e_) hs_)); replace BK271 := Aside0.mk (blk_kept (g := gb271) (o := .cells #[.int .i64 (rd t266 0), .slice Ao51 x272001_2.length co51] 25 (0, 0)) (nb_ BK271.out) hkp (fun hs_ => (fun e_ => (Kd.R_ne HO_272001.out BK271.out (by decide)) e_) hs_)); replace HB := Aside0.mk (hb); clear HO_272001; (try clear hb); (try clear hkp); (try clear ho0); obtain ⟨Ao57, co57, eo57⟩ := Kd.R_slice HO293.out; subst eo57; obtain ⟨hcz58_0, hcz58_1, hfz58_0, hfz58_1⟩ := cz2_ BK271.out; obtain ⟨hcz59_0, hcz59_1, hfz59_0, hfz59_1⟩ := cz2_ BK260.out))
       refine bodyPost_ret (results_ct rfl _ _ gb260 25 #[.int .i64 (rd t266 0), .slice Ao57 t291.length co57] (0, 0) _ rfl (np_ BK260.out) Tryd.underlying25 rfl (by kernel_rfl)) rfl ?_
       exact ⟨_, by first | rfl | (simp [errW_none, errW_some] <;> rfl) | (simp only [← hji15]; first | rfl | (simp [errW_none, errW_some] <;> rfl)) | (simp [*, errW_none, errW_some] <;> rfl), by (with_reducible repeat (first | apply Kd.R_alloc | apply Kd.R_drewN | apply Kd.R_drew)); exact Kd.R_mono (rf2_ (Kd.R_far (p := ⟨gb271, 1, none⟩) (Kd.R_types (Kd.R_types HO293.out BK271.out (by decide)) BK260.out (by decide)) (fun _ hk => hk.1.2) (.slice Ao57 t291.length co57))) (fun _ hk => trivial), ne_ HB.out⟩
      rw [if_pos c24] at H
      have c24b0 : decide (x41_2 < (y272.length : Int)) = true := decide_eq_true c24
      clear c24
      by_cases c25 : 0 ≤ x41_2
      rotate_left
      ·rw [if_neg c25] at H
       exact absurd H (by simp)
      rw [if_pos c25] at H
      have c25b0 : decide (0 ≤ x41_2) = true := decide_eq_true c25
      clear c25
      by_cases c26 : x41_2 < (y272.length : Int)
      rotate_left
      ·rw [if_neg c26] at H
       exact absurd H (by simp)
      rw [if_pos c26] at H
      have c26b0 : decide (x41_2 < (y272.length : Int)) = true := decide_eq_true c26
      clear c26
      replace H := Option.bind_eq_some_iff.mp H
      obtain ⟨⟨t277, t278⟩, A270, H⟩ := H
      try dsimp only at H
      have A27 := Aside0.mk A270
      clear A270
      by_cases c28 : t278 = true
      rotate_left
      ·replace c28 := Bool.eq_false_iff.mpr c28
       subst c28
       have H1 : (some (0, ([] : List (S54)), false)) = some (r1, r2, r3) := by rw [if_neg (show ¬ (false = true) by decide)] at H; exact H
       clear H
       have H := H1
       clear H1
       simp only [Option.some.injEq, Prod.mk.injEq] at H
       obtain ⟨rfl, rfl, rfl⟩ := H
       have p276 : 0 ≤ (x41_2 : Int) := of_decide_eq_true nx_
       have q276 : x41_2 < (y272.length : Int) := of_decide_eq_true nx_
       obtain ⟨ad276, e276, hx276_0⟩ := Kd.at_string (HRC.out _ BKR.out) x41_2 p276 q276
       cases e276
       replace p276 := eq_true p276
       replace q276 := eq_true q276
       go_wp2_with (first | ((with_reducible refine gate_callee (f := 36) rfl ?_); refine gl_ (some 47) Tryd.func36 #[.string (rdOf ByteArray.empty y272 x41_2), .int .i64 5] ?_; (with_reducible refine (impl_readNumbers.calls k2 (rdOf ByteArray.empty y272 x41_2) 5 t277 false _ A27.out).mono ?_); rintro e w41 ⟨v279, rfl, ho0, hb⟩; refine ⟨_, rfl, ?_⟩; have HO280 := Aside0.mk (Kd.R_lower ho0 (below_size (ne_ HB.out))); replace HO_272001 := kR_ HO_272001 hb; replace BK260 := kb_ BK260 hb; replace BKR := kb_ BKR hb; replace BK271 := kb_ BK271 hb; replace HB := kB_ HB hb; (try clear hb); (try clear hb2); (try clear hk); (try clear hi); (try clear ho0); have hnb42 := NB260_271.out; have hnc42 := NB271_260.out; obtain ⟨hcz43_0, hcz43_1, hfz43_0, hfz43_1⟩ := cz2_ BK260.out))
       refine bodyPost_ret (results_ct rfl _ _ gb260 25 #[.int .i64 0, .slice none 0 0] (0, 0) _ rfl (np_ BK260.out) Tryd.underlying25 rfl (by kernel_rfl)) rfl ?_
       exact ⟨_, by first | rfl | (simp [errW_none, errW_some] <;> rfl) | (simp only [← hji15]; first | rfl | (simp [errW_none, errW_some] <;> rfl)) | (simp [*, errW_none, errW_some] <;> rfl), by first | exact Kd.R_nil _ _ _ _ _ | exact Kd.N_nil _ _ _ _ _ | exact Kd.V_nil _ _ _ _ _ | exact Kd.Q_nil _ _ _ _ _ | exact Kd.S_nil _ _ _ _ _, ne_ HB.out⟩
      subst c28
      rw [if_pos rfl] at H
      by_cases c29 : 0 < (t277.length : Int)
      rotate_left
      ·rw [if_neg c29] at H
       exact absurd H (by simp)
      rw [if_pos c29] at H
      have c29b0 : decide (0 < (t277.length : Int)) = true := decide_eq_true c29
      have c29b1 : decide (0 < t277.length) = true := decide_eq_true (by omega)
      clear c29
      by_cases c30 : 1 < (t277.length : Int)
      rotate_left
      ·rw [if_neg c30] at H
       exact absurd H (by simp)
      rw [if_pos c30] at H
      have c30b0 : decide (1 < (t277.length : Int)) = true := decide_eq_true c30
      have c30b1 : decide (1 < t277.length) = true := decide_eq_true (by omega)
      clear c30
      by_cases c31 : 2 < (t277.length : Int)
      rotate_left
      ·rw [if_neg c31] at H
       exact absurd H (by simp)
      rw [if_pos c31] at H
      have c31b0 : decide (2 < (t277.length : Int)) = true := decide_eq_true c31
      have c31b1 : decide (2 < t277.length) = true := decide_eq_true (by omega)
      clear c31
      by_cases c32 : 3 < (t277.length : Int)
      rotate_left
      ·rw [if_neg c32] at H
       exact absurd H (by simp)
      rw [if_pos c32] at H
      have c32b0 : decide (3 < (t277.length : Int)) = true := decide_eq_true c32
      have c32b1 : decide (3 < t277.length) = true := decide_eq_true (by omega)
      clear c32
      by_cases c33 : 4 < (t277.length : Int)
      rotate_left
      ·rw [if_neg c33] at H
       exact absurd H (by simp)
      rw [if_pos c33] at H
      have c33b0 : decide (4 < (t277.length : Int)) = true := decide_eq_true c33
      have c33b1 : decide (4 < t277.length) = true := decide_eq_true (by omega)
      clear c33
      by_cases c34 : x272001_2.length < 3518437208883
      rotate_left
      ·rw [if_neg c34] at H
       exact absurd H (by simp)
      rw [if_pos c34] at H
      have LMc34 := Aside0.mk c34
      clear c34
      obtain ⟨y286, hy286⟩ : ∃ y_ : List (S54), y_ = (x272001_2 ++ [(⟨rd t277 0, rd t277 1, rd t277 2, rd t277 3, rd t277 4⟩ : S54)]) := ⟨_, rfl⟩
      replace H : (impl_NetGet.l0 k2 a0 y272 (y272.length : Int) (wrap64 (x41_2 + 1)) (rd t266 0) y286) = some (r1, r2, r3) := by first | (rw [hy286]; with_reducible exact H) | (have H2_ := (Option.bind_some _ _).symm.trans H; rw [hy286]; with_reducible exact H2_) | (have H2_ := (Option.bind_some _ _).symm.trans H; with_reducible exact H2_) | with_reducible exact H | (rw [hy286]; exact H) | exact H
      have Ny286 := Aside0.mk hy286
      clear hy286
      have H' := Aside0.mk H
      clear H
      have p276 : 0 ≤ (x41_2 : Int) := of_decide_eq_true nx_
      have q276 : x41_2 < (y272.length : Int) := of_decide_eq_true nx_
      obtain ⟨ad276, e276, hx276_0⟩ := Kd.at_string (HRC.out _ BKR.out) x41_2 p276 q276
      cases e276
      replace p276 := eq_true p276
      replace q276 := eq_true q276
      try go_wp2_with (first | ((with_reducible refine gate_callee (f := 36) rfl ?_); refine gl_ (some 47) Tryd.func36 #[.string (rdOf ByteArray.empty y272 x41_2), .int .i64 5] ?_; (with_reducible refine (impl_readNumbers.calls k2 (rdOf ByteArray.empty y272 x41_2) 5 t277 true _ A27.out).mono ?_); rintro e w35 ⟨v279, rfl, ho0, hb⟩; refine ⟨_, rfl, ?_⟩; have HO280 := Aside0.mk (Kd.R_lower ho0 (below_size (ne_ HB.out))); replace HO_272001 := kR_ HO_272001 hb; replace BK260 := kb_ BK260 hb; replace BKR := kb_ BKR hb; replace BK271 := kb_ BK271 hb; replace HB := kB_ HB hb; (try clear hb); (try clear hb2); (try clear hk); (try clear hi); (try clear ho0)))
      replace HO_272001 := Aside0.mk (Kd.R_drew HO_272001.out)
      replace HO280 := Aside0.mk (Kd.R_drew HO280.out)
      replace BK260 := Aside0.mk (blk_drew BK260.out); replace BKR := Aside0.mk (blk_drew BKR.out)
      replace BK271 := Aside0.mk (blk_drew BK271.out)
      replace HB := Aside0.mk (below_drew1 HB.out)
      obtain ⟨Ao37, co37, eo37⟩ := Kd.R_slice HO280.out
      (first | subst eo37 | (injection eo37 with f1_ f2_ f3_; have f4_ := f1_.symm; have f5_ := f3_.symm; clear f1_ f2_ f3_; subst f4_; subst f5_))
      have p281 : 0 ≤ (0 : Int) := (by omega)
      have q281 : 0 < (t277.length : Int) := of_decide_eq_true nx_
      obtain ⟨ad281, e281, hx281_0⟩ := Kd.at_int (Kd.R_reads' HO280.out).2.2 0 p281 q281
      cases e281
      have qi281 : (0 < t277.length) = True := eq_true (by omega)
      (try rw [show ((0 : Int)).toNat = 0 from rfl] at hx281_0)
      (try rw [Addr.add_zero'] at hx281_0)
      replace p281 := eq_true p281
      replace q281 := eq_true q281
      have p282 : 0 ≤ (1 : Int) := (by omega)
      have q282 : 1 < (t277.length : Int) := of_decide_eq_true nx_
      obtain ⟨ad282, e282, hx282_0⟩ := Kd.at_int (Kd.R_reads' HO280.out).2.2 1 p282 q282
      obtain rfl : ad281 = ad282 := (by injection e282)
      (try simp only [show (1 : Int).toNat = 1 from rfl, Nat.reduceMul, Nat.reduceEqDiff, Go.Addr.add, ↓reduceIte] at hx282_0)
      have qi282 : (1 < t277.length) = True := eq_true (by omega)
      (try rw [show ((1 : Int)).toNat = 1 from rfl] at hx282_0)
      replace p282 := eq_true p282
      replace q282 := eq_true q282
      have p283 : 0 ≤ (2 : Int) := (by omega)
      have q283 : 2 < (t277.length : Int) := of_decide_eq_true nx_
      obtain ⟨ad283, e283, hx283_0⟩ := Kd.at_int (Kd.R_reads' HO280.out).2.2 2 p283 q283
      obtain rfl : ad281 = ad283 := (by injection e283)
      (try simp only [show (2 : Int).toNat = 2 from rfl, Nat.reduceMul, Nat.reduceEqDiff, Go.Addr.add, ↓reduceIte] at hx283_0)
      have qi283 : (2 < t277.length) = True := eq_true (by omega)
      (try rw [show ((2 : Int)).toNat = 2 from rfl] at hx283_0)
      replace p283 := eq_true p283
      replace q283 := eq_true q283
      have p284 : 0 ≤ (3 : Int) := (by omega)
      have q284 : 3 < (t277.length : Int) := of_decide_eq_true nx_
      obtain ⟨ad284, e284, hx284_0⟩ := Kd.at_int (Kd.R_reads' HO280.out).2.2 3 p284 q284
      obtain rfl : ad281 = ad284 := (by injection e284)
      (try simp only [show (3 : Int).toNat = 3 from rfl, Nat.reduceMul, Nat.reduceEqDiff, Go.Addr.add, ↓reduceIte] at hx284_0)
      have qi284 : (3 < t277.length) = True := eq_true (by omega)
      (try rw [show ((3 : Int)).toNat = 3 from rfl] at hx284_0)
      replace p284 := eq_true p284
      replace q284 := eq_true q284
      have p285 : 0 ≤ (4 : Int) := (by omega)
      have q285 : 4 < (t277.length : Int) := of_decide_eq_true nx_
      obtain ⟨ad285, e285, hx285_0⟩ := Kd.at_int (Kd.R_reads' HO280.out).2.2 4 p285 q285
      obtain rfl : ad281 = ad285 := (by injection e285)
      (try simp only [show (4 : Int).toNat = 4 from rfl, Nat.reduceMul, Nat.reduceEqDiff, Go.Addr.add, ↓reduceIte] at hx285_0)
      have qi285 : (4 < t277.length) = True := eq_true (by omega)
      (try rw [show ((4 : Int)).toNat = 4 from rfl] at hx285_0)
      replace p285 := eq_true p285
      replace q285 := eq_true q285
      refine start_ (n := 22) (S := fun w' => w'.cell? ⟨gb271, 0, none⟩ = some (.int .i64 (rd t266 0)) ∧ w'.cell? ⟨gb271, 1, none⟩ = some (u272001) ∧ w'.cell? ad281 = some (.int .i64 (rd t277 0)) ∧ w'.cell? ⟨ad281.block, ad281.off + 1, none⟩ = some (.int .i64 (rd t277 1)) ∧ w'.cell? ⟨ad281.block, ad281.off + 2, none⟩ = some (.int .i64 (rd t277 2)) ∧ w'.cell? ⟨ad281.block, ad281.off + 3, none⟩ = some (.int .i64 (rd t277 3)) ∧ w'.cell? ⟨ad281.block, ad281.off + 4, none⟩ = some (.int .i64 (rd t277 4))) (ds := [21]) (bm_ 22 0) (by kernel_rfl) rfl rfl ⟨ct_ BK271.out 0, ct_ BK271.out 1, hx281_0, hx282_0, hx283_0, hx284_0, hx285_0⟩ (fun hHeld => ?_); refine with_tabW impl_NetGet.tab12 impl_NetGet.bits12 (fun HT_ HW_ => ?_)
      generalize w35.drew = w36 at HO_272001 HO280 BK260 BKR BK271 HB hx281_0 hx282_0 hx283_0 hx284_0 hx285_0 hHeld ⊢
      refine pu_ 0 53 (bm_ 22 1) HT_.out ?_
      refine pu_ 2 55 (bm_ 22 5) HT_.out ?_
      refine pu_ 3 56 (bm_ 22 13) HT_.out ?_
      refine pu_ 5 58 (bm_ 22 45) HT_.out ?_
      refine pu_ 6 59 (bm_ 22 109) HT_.out ?_
      refine pu_ 8 61 (bm_ 22 365) HT_.out ?_
      refine pu_ 9 62 (bm_ 22 877) HT_.out ?_
      refine pu_ 11 64 (bm_ 22 2925) HT_.out ?_
      refine pu_ 12 65 (bm_ 22 7021) HT_.out ?_
      refine pu_ 14 67 (bm_ 22 23405) HT_.out ?_
      refine pu_ 15 68 (bm_ 22 56173) HT_.out ?_
      refine tk_ 1 54 (bm_ 22 56175) HT_.out HW_.out hHeld ?_
      refine tk_ 4 57 (bm_ 22 56191) HT_.out HW_.out hHeld ?_
      refine tk_ 7 60 (bm_ 22 56319) HT_.out HW_.out hHeld ?_
      refine tk_ 10 63 (bm_ 22 57343) HT_.out HW_.out hHeld ?_
      refine tk_ 13 66 (bm_ 22 65535) HT_.out HW_.out hHeld ?_
      refine tk_ 16 69 (bm_ 22 131071) HT_.out HW_.out hHeld ?_
      refine pu_ 17 70 (bm_ 22 262143) HT_.out ?_
      refine one_ (i := 18) (N := some 71) (bm_ 22 524287) rfl rfl (one_of HT_.out (by kernel_rfl)) (by decide) (fun K hK => ?_)
      refine value_ (w1 := ?_) (v := ?_) (by rfl) rfl ?_ ?_
      rotate_left 2
      ·go_simp
       constructor
       ·rfl
       ·rfl
      refine hK.out _ _ ⟨(blk_cell (blk_alloc BK271.out _) 0).trans rfl, (blk_cell (blk_alloc BK271.out _) 1).trans rfl, (World.cell?_alloc_lt _ _ _ (World.block_lt_of_cell? _ _ (hHeld.2.2.1))).trans (hHeld.2.2.1), (World.cell?_alloc_lt _ _ _ (World.block_lt_of_cell? _ _ (hHeld.2.2.2.1))).trans (hHeld.2.2.2.1), (World.cell?_alloc_lt _ _ _ (World.block_lt_of_cell? _ _ (hHeld.2.2.2.2.1))).trans (hHeld.2.2.2.2.1), (World.cell?_alloc_lt _ _ _ (World.block_lt_of_cell? _ _ (hHeld.2.2.2.2.2.1))).trans (hHeld.2.2.2.2.2.1), (World.cell?_alloc_lt _ _ _ (World.block_lt_of_cell? _ _ (hHeld.2.2.2.2.2.2))).trans (hHeld.2.2.2.2.2.2)⟩ (fun hHeld => ?_)
      clear hK K
      refine nm1_ (some 71) ?_
      refine one_ (i := 19) (N := some 72) (bm_ 22 1048575) rfl rfl (one_of HT_.out (by kernel_rfl)) (by decide) (fun K hK => ?_)
      refine Kd.R_append_step k54 (w0 := w) w.heap.size (by rfl) (.tmp 54) (.tmp 71) 23 54 (.agg #[(.int .i64 0), (.int .i64 0), (.int .i64 0), (.int .i64 0), (.int .i64 0)]) 40 rfl Tryd.underlying23 info54 rfl (by decide) (by omega) u272001 x272001_2 (⟨rd t277 0, rd t277 1, rd t277 2, rd t277 3, rd t277 4⟩ : S54) [.int .i64 (rd t277 0), .int .i64 (rd t277 1), .int .i64 (rd t277 2), .int .i64 (rd t277 3), .int .i64 (rd t277 4)] (fun _ => True) (fun _ => False) rfl rfl ?aP (fun _ hk => hk.elim) ?aF ?aO ?aB ?aS ?aL ?_
      (case aP => exact k54_mkM _ _ _ (⟨rd t277 0, rd t277 1, rd t277 2, rd t277 3, rd t277 4⟩ : S54))
      (case aB => exact (ne_ HB.out))
      (case aF => exact (fun _ _ => trivial))
      (case aO => exact (nr_ HO_272001.out))
      (case aS => exact (below_size (ne_ HB.out)))
      (case aL => have := LMc34.out; omega)
      intro v287 w38 ho hb hg hat
      (first | have HS2_ := cg_ hg (hHeld.2.2.1) (ry_ hg (nr_ HO280.out) (nr_ HO_272001.out) (by decide) rfl) | have HS2_ := cgu_ hg (hHeld.2.2.1) (rlt_ (nr_ HO280.out) rfl) (ry_ hg (nr_ HO280.out) (nr_ HO_272001.out) (by decide) rfl))
      (first | have HS3_ := cg_ hg (hHeld.2.2.2.1) (ry_ hg (nr_ HO280.out) (nr_ HO_272001.out) (by decide) rfl) | have HS3_ := cgu_ hg (hHeld.2.2.2.1) (rlt_ (nr_ HO280.out) rfl) (ry_ hg (nr_ HO280.out) (nr_ HO_272001.out) (by decide) rfl))
      (first | have HS4_ := cg_ hg (hHeld.2.2.2.2.1) (ry_ hg (nr_ HO280.out) (nr_ HO_272001.out) (by decide) rfl) | have HS4_ := cgu_ hg (hHeld.2.2.2.2.1) (rlt_ (nr_ HO280.out) rfl) (ry_ hg (nr_ HO280.out) (nr_ HO_272001.out) (by decide) rfl))
      (first | have HS5_ := cg_ hg (hHeld.2.2.2.2.2.1) (ry_ hg (nr_ HO280.out) (nr_ HO_272001.out) (by decide) rfl) | have HS5_ := cgu_ hg (hHeld.2.2.2.2.2.1) (rlt_ (nr_ HO280.out) rfl) (ry_ hg (nr_ HO280.out) (nr_ HO_272001.out) (by decide) rfl))
      (first | have HS6_ := cg_ hg (hHeld.2.2.2.2.2.2) (ry_ hg (nr_ HO280.out) (nr_ HO_272001.out) (by decide) rfl) | have HS6_ := cgu_ hg (hHeld.2.2.2.2.2.2) (rlt_ (nr_ HO280.out) rfl) (ry_ hg (nr_ HO280.out) (nr_ HO_272001.out) (by decide) rfl))
      rw [← Ny286.out] at ho
      replace BK260 := Aside0.mk (blk_grown (g := gb260) (o := .cells #[.int .i64 x261000_2, .slice none 0 0] 25 (0, 0)) (nb_ BK260.out) hg (Kd.R_ne HO_272001.out BK260.out (by decide))); replace BKR := Aside0.mk (blk_grown (g := gR) (o := .cells curR 9 (0, 0)) (nb_ BKR.out) hg (Kd.R_ne HO_272001.out BKR.out (by decide)))
      replace BK271 := Aside0.mk (blk_grown (g := gb271) (o := .cells #[.int .i64 (rd t266 0), u272001] 25 (0, 0)) (nb_ BK271.out) hg (Kd.R_ne HO_272001.out BK271.out (by decide)))
      replace HO280 := Aside0.mk (Kd.R_over' (nr_ HO280.out) (Kd.R_typed (nr_ HO_272001.out)) (by decide) hg)
      replace HB := Aside0.mk (hb)
      have HO288 := Aside0.mk (ho)
      clear HO_272001 ho hb hg hat
      obtain ⟨Ao39, co39, eo39⟩ := Kd.R_slice HO288.out
      (first | subst eo39 | (injection eo39 with f1_ f2_ f3_; have f4_ := f1_.symm; have f5_ := f3_.symm; clear f1_ f2_ f3_; subst f4_; subst f5_))
      refine hK.out _ _ ⟨ct_ BK271.out 0, ct_ BK271.out 1, HS2_, HS3_, HS4_, HS5_, HS6_⟩ (fun hHeld => ?_)
      clear hK K
      refine nm1_ (some 72) ?_
      refine pu_ 20 73 (bm_ 22 2097151) HT_.out ?_
      refine last_ (i := 21) (N := none) (bm_ 22 4194303) rfl rfl (one_of HT_.out (by kernel_rfl)) (by decide) (fun K hK => ?_)
      have hs40 : w38.cell? ⟨gb271, 1, none⟩ = some (u272001) := ct_ BK271.out 1
      have hfs40 := blk_frozen BK271.out 1
      have hns40_0 := NB260_271.out
      have hns40_1 := NBR1.out
      have hms40_1 := NBR2.out
      have hms40_0 := NB271_260.out
      refine skip_ (w1 := ?_) (by rfl) rfl ?_ ?_
      rotate_left
      ·go_simp
       rfl
      refine hK.out _ _ ?_
      clear hK K
      refine done_ (done_of HT_.out (by kernel_rfl)) ?_
      try go_wp2
      go_roundg k2
      case measure => have := HJ5.out; have := HK2.out; omega
      case rel => exact ⟨(wrap64 (x41_2 + 1)), (x261000_2), (y286), (.slice Ao39 y286.length co39), ns_, H', ⟨by have := HJ5.out; have := HK2.out; omega⟩, ⟨by (with_reducible repeat (first | apply Kd.R_alloc | apply Kd.R_drewN | apply Kd.R_drew)); exact Kd.R_mono (Kd.R_far (p := ⟨gb271, 1, none⟩) (Kd.R_types HO288.out BK271.out (by decide)) (fun _ hk => hk.2) (.slice Ao39 y286.length co39)) (fun _ hk => trivial)⟩, ⟨np_ BK260.out⟩, ⟨np_ BKR.out⟩, ⟨np_ BK271.out⟩, ⟨ne_ HB.out⟩⟩

end Go.Proofs.YtppjelkljihdoaaDoor.Print
