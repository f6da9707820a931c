-- Made by this session's own program (wip/patch_print.py, over the kit's print). Lean checks it.
import Derived.Test.YtbmoonciggfbpaaPrint0
import Derived.Test.YtbmoonciggfbpaaPrintB
import Derived.Test.YtbmoonciggfbpaaPrintF40
import Derived.Test.YtbmoonciggfbpaaPrintF56
namespace Go.Proofs.Ytbmoonciggfbpaa.Print
open Go.RowKit Go.Proofs.YtbmoonciggfbpaaW.PrintWords Go.Proofs.YtbmoonciggfbpaaW.PrintLast Go.Proofs.YtbmoonciggfbpaaW.PrintMore Go.Proofs.YtbmoonciggfbpaaX
attribute [local go_sem] max2_int min2_int max_two min_two max_three min_three max_four min_four   -- for this text's walks alone
set_option linter.unusedVariables false
set_option linter.unusedSimpArgs false

/-! ### spec_NearTree: function 33 -/
mutual
def spec_NearTree.j0 : Nat → Int → Bool → Int → List (S33) → Option (List Int)
  | 0, _, _, _, _ => none
  | k + 1, x1, x19, x692000, x692001 => if x19 = true then (some ([] : List Int)) else (spec_NearTree.l0 k x1 (([] : List Int)) 0 x692000 x692001)
def spec_NearTree.l0 : Nat → Int → List Int → Int → Int → List (S33) → Option (List Int)
  | 0, _, _, _, _, _ => none
  | k + 1, x1, x5, x6, x692000, x692001 => if x6 < x692000 then ((spec_l3Walk.f k x692000 x692001 x6 x1).bind fun bt697 => (if (bt697.1.length : Int) > 0 then (if 0 < (bt697.1.length : Int) then (if x5.length < 17592186044416 then (spec_NearTree.l0 k x1 (x5 ++ [rd bt697.1 0]) (wrap64 (x6 + 1)) x692000 x692001) else (none)) else (none)) else (if x5.length < 17592186044416 then (spec_NearTree.l0 k x1 (x5 ++ [(-1)]) (wrap64 (x6 + 1)) x692000 x692001) else (none)))) else (some x5)
end
def spec_NearTree.f (k : Nat) (a0_0 : Int) (l0_1 : List (S33)) (a1 : Int) : Option (List Int) := (spec_l1Ok.f k a0_0 l0_1).bind fun t692 => (if t692 = true then ((spec_l1In.f a1 0 (wrap64 (a0_0 - 1))).bind fun t693 => (spec_NearTree.j0 k a1 (!t693) a0_0 l0_1)) else (spec_NearTree.j0 k a1 true a0_0 l0_1))
theorem spec_NearTree.mono_l : ∀ k, (∀ y0 y1 y2 y3, LeO (spec_NearTree.j0 k y0 y1 y2 y3) (spec_NearTree.j0 (k + 1) y0 y1 y2 y3)) ∧ (∀ y0 y1 y2 y3 y4, LeO (spec_NearTree.l0 k y0 y1 y2 y3 y4) (spec_NearTree.l0 (k + 1) y0 y1 y2 y3 y4))
  | 0 => ⟨fun _ _ _ _ r h => by simp [spec_NearTree.j0] at h, fun _ _ _ _ _ r h => by simp [spec_NearTree.l0] at h⟩
  | k + 1 => by
    obtain ⟨ih0, ih1⟩ := spec_NearTree.mono_l k
    refine ⟨?_, ?_⟩
    · intro y0 y1 y2 y3
      unfold spec_NearTree.j0
      repeat' first | (with_reducible first | exact ih0 _ _ _ _ | exact ih1 _ _ _ _ _ | exact spec_l1Ok.mono _ _ _ | exact spec_l3Walk.mono _ _ _ _ _ | exact LeO.refl _ | exact LeO.none _ | refine LeO.ite ?_ ?_ | refine LeO.bind ?_ (fun _ => ?_)) | exact ih0 _ _ _ _ | exact ih1 _ _ _ _ _ | exact spec_l1Ok.mono _ _ _ | exact spec_l3Walk.mono _ _ _ _ _ | exact LeO.none _ | refine LeO.ite ?_ ?_ | refine LeO.bind ?_ (fun _ => ?_)
    · intro y0 y1 y2 y3 y4
      unfold spec_NearTree.l0
      repeat' first | (with_reducible first | exact ih0 _ _ _ _ | exact ih1 _ _ _ _ _ | exact spec_l1Ok.mono _ _ _ | exact spec_l3Walk.mono _ _ _ _ _ | exact LeO.refl _ | exact LeO.none _ | refine LeO.ite ?_ ?_ | refine LeO.bind ?_ (fun _ => ?_)) | exact ih0 _ _ _ _ | exact ih1 _ _ _ _ _ | exact spec_l1Ok.mono _ _ _ | exact spec_l3Walk.mono _ _ _ _ _ | exact LeO.none _ | refine LeO.ite ?_ ?_ | refine LeO.bind ?_ (fun _ => ?_)
theorem spec_NearTree.mono : ∀ a0 a1 a2 k, LeO (spec_NearTree.f k a0 a1 a2) (spec_NearTree.f (k + 1) a0 a1 a2) := by
  intro a0 a1 a2 k
  obtain ⟨ih0, ih1⟩ := spec_NearTree.mono_l k
  unfold spec_NearTree.f
  repeat' first | (with_reducible first | exact ih0 _ _ _ _ | exact ih1 _ _ _ _ _ | exact spec_l1Ok.mono _ _ _ | exact spec_l3Walk.mono _ _ _ _ _ | exact LeO.refl _ | exact LeO.none _ | refine LeO.ite ?_ ?_ | refine LeO.bind ?_ (fun _ => ?_)) | exact ih0 _ _ _ _ | exact ih1 _ _ _ _ _ | exact spec_l1Ok.mono _ _ _ | exact spec_l3Walk.mono _ _ _ _ _ | exact LeO.none _ | refine LeO.ite ?_ ?_ | refine LeO.bind ?_ (fun _ => ?_)
set_option maxHeartbeats 200000000 in
set_option maxRecDepth 100000 in
theorem spec_NearTree.calls (k : Nat) (a0_0 : Int) (A0_1 : Option Addr) (c0_1 : Nat) (l0_1 : List (S33)) (a1 : Int) (r : List Int) (w : World) (hr0_1 : Kd.C k33 w A0_1 l0_1.length l0_1) (hc0_1 : l0_1.length ≤ c0_1) (h : spec_NearTree.f k a0_0 l0_1 a1 = some r) :
    Calls Try.prog 33 #[.agg #[.int .i64 a0_0, .slice A0_1 l0_1.length c0_1], .int .i64 a1] w fun e w' => ∃ v0_ : Value, e = .returned (v0_) ∧ Kd.R (Kd.int .i64) 3 w' w.heap.size (fun _ => True) v0_ r ∧ Below w.heap.size w w' := by
  have hu25 := Try.underlying25
  have HR0_1 := Aside0.mk hr0_1
  have HC0_1 := Aside0.mk hc0_1
  clear hr0_1 hc0_1
  have HB := Aside0.mk (Below.refl w.heap.size w)
  have H : ((spec_l1Ok.f k a0_0 l0_1).bind fun t692 => (if t692 = true then ((spec_l1In.f a1 0 (wrap64 (a0_0 - 1))).bind fun t693 => (spec_NearTree.j0 k a1 (!t693) a0_0 l0_1)) else (spec_NearTree.j0 k a1 true a0_0 l0_1))) = some r := h
  clear h
  have HC3 := Aside0.mk H
  clear H
  go_enter Try.func33, Try.ntmps33
  go_upto_region 1 with (first | ((with_reducible refine gate_dst (N := 2) rfl ?_); refine bx_ 2 #[.int .i64 a0_0, .slice A0_1 l0_1.length c0_1] 25 ?_; intro gb691 hg w4 hbox hb; have BK691 := Aside0.mk (hbox); have GW691 := Aside0.mk (zs_ hg (ne_ HB.out)); have GE691 := Aside0.mk (zs_ hg (ne_ HB.out)); replace HB := kB_ HB hb; clear hb hbox hg))
  (try simp only [Act.put, List.setIfInBounds_toArray, List.set_cons_zero, List.set_cons_succ])
  go_cut [19] (fun v19 wc => ∃ (kq : Nat) (x19_2 : Bool), v19 = .bool x19_2 ∧ Aside0 (spec_NearTree.j0 kq a1 x19_2 a0_0 l0_1 = some r) ∧ Aside0 (kq ≤ k) ∧ Aside0 (wc.heap[gb691]? = some (.cells #[.int .i64 a0_0, (.slice A0_1 l0_1.length c0_1)] 25 (0, 0))) ∧ Aside0 (Below w.heap.size w wc))
  case first =>
   have H := HC3.out
   clear HC3
   replace H := Option.bind_eq_some_iff.mp H
   obtain ⟨t692, A50, H⟩ := H
   replace H : (if t692 = true then ((spec_l1In.f a1 0 (wrap64 (a0_0 - 1))).bind fun t693 => (spec_NearTree.j0 k a1 (!t693) a0_0 l0_1)) else (spec_NearTree.j0 k a1 true a0_0 l0_1)) = some r := H
   have A5 := Aside0.mk A50
   clear A50
   by_cases c6 : t692 = true
   rotate_left
   ·replace c6 := Bool.eq_false_iff.mpr c6
    subst c6
    have H1 : (spec_NearTree.j0 k a1 true a0_0 l0_1) = some r := by rw [if_neg (show ¬ (false = true) by decide)] at H; exact H
    clear H
    have H := H1
    clear H1
    have H' := Aside0.mk H
    clear H
    obtain ⟨hcz11_0, hcz11_1, hfz11_0, hfz11_1⟩ := cz2_ BK691.out
    go_wp2_with (first | ((with_reducible refine gate_callee (f := 40) rfl ?_); refine gl_ (some 10) Try.func40 #[.agg #[.int .i64 a0_0, .slice A0_1 l0_1.length c0_1]] ?_; (with_reducible refine (spec_l1Ok.calls k a0_0 _ _ l0_1 false _ ?side1 ?side2 A5.out).mono ?_); (case side1 => exact nc_ (Kd.C_below HR0_1.out HB.out)); (case side2 => exact HC0_1.out); rintro e w12 ⟨rfl, hb⟩; refine ⟨_, rfl, ?_⟩; replace BK691 := kb_ BK691 hb; replace HB := kB_ HB hb; (try clear hb); (try clear hb2); (try clear hk); (try clear hi)))
    go_meet
    case rel => exact ⟨_, (true), ns_, H', ⟨by first | omega | exact Nat.le_refl _⟩, ⟨nb_ BK691.out⟩, ⟨ne_ HB.out⟩⟩
   subst c6
   have H1 : ((spec_l1In.f a1 0 (wrap64 (a0_0 - 1))).bind fun t693 => (spec_NearTree.j0 k a1 (!t693) a0_0 l0_1)) = some r := by rw [if_pos rfl] at H; exact H
   clear H
   have H := H1
   clear H1
   replace H := Option.bind_eq_some_iff.mp H
   obtain ⟨t693, A70, H⟩ := H
   replace H : (spec_NearTree.j0 k a1 (!t693) a0_0 l0_1) = some r := H
   have A7 := Aside0.mk A70
   clear A70
   have H' := Aside0.mk H
   clear H
   obtain ⟨hcz8_0, hcz8_1, hfz8_0, hfz8_1⟩ := cz2_ BK691.out
   go_wp2_with (first | ((with_reducible refine gate_callee (f := 40) rfl ?_); refine gl_ (some 10) Try.func40 #[.agg #[.int .i64 a0_0, .slice A0_1 l0_1.length c0_1]] ?_; (with_reducible refine (spec_l1Ok.calls k a0_0 _ _ l0_1 true _ ?side1 ?side2 A5.out).mono ?_); (case side1 => exact nc_ (Kd.C_below HR0_1.out HB.out)); (case side2 => exact HC0_1.out); rintro e w9 ⟨rfl, hb⟩; refine ⟨_, rfl, ?_⟩; replace BK691 := kb_ BK691 hb; replace HB := kB_ HB hb; (try clear hb); (try clear hb2); (try clear hk); (try clear hi); obtain ⟨hcz10_0, hcz10_1, hfz10_0, hfz10_1⟩ := cz2_ BK691.out) | (go_at_call 41; (with_reducible refine (spec_l1In.calls a1 0 (wrap64 (a0_0 - 1)) t693 _ A7.out).mono ?_); rintro e w' ⟨rfl, ⟨nd, rfl⟩⟩))
   go_meet
   case rel => exact ⟨_, (!t693), ns_, H', ⟨by first | omega | exact Nat.le_refl _⟩, ⟨nb_ BK691.out⟩, ⟨ne_ HB.out⟩⟩
  case rest =>
   clear HC3
   try clear p2
   try clear c3
   try clear c4
   try clear c6
   try clear p6
   try clear hcz10_0
   try clear hcz10_1
   try clear hcz11_0
   try clear hcz11_1
   try clear hcz8_0
   try clear hcz8_1
   try clear hfz10_0
   try clear hfz10_1
   try clear hfz11_0
   try clear hfz11_1
   try clear hfz8_0
   try clear hfz8_1
   obtain ⟨kq, x19_2, rfl, HA, HJ2, BK691, HB⟩ := hcut
   cases kq with
   | zero => exact absurd HA.out (by simp [spec_NearTree.j0])
   | succ kj2 =>
    have H := HA.out
    clear HA
    simp only [spec_NearTree.j0] at H
    by_cases c13 : x19_2 = true
    ·subst c13
     have H1 : (some ([] : List Int)) = some r := by rw [if_pos rfl] at H; exact H
     clear H
     have H := H1
     clear H1
     obtain rfl := Option.some.inj H
     go_wp2
     go_ret
     exact ⟨_, nw_, by first | exact Kd.R_nil _ _ _ _ _ | exact Kd.N_nil _ _ _ _ _ | exact Kd.V_nil _ _ _ _ _ | exact Kd.Q_nil _ _ _ _ _ | exact Kd.S_nil _ _ _ _ _, ne_ HB.out⟩
    replace c13 := Bool.eq_false_iff.mpr c13
    subst c13
    have H1 : (spec_NearTree.l0 kj2 a1 (([] : List Int)) 0 a0_0 l0_1) = some r := by rw [if_neg (show ¬ (false = true) by decide)] at H; exact H
    clear H
    have H := H1
    clear H1
    obtain ⟨y694, hy694⟩ : ∃ y_ : List Int, y_ = (([] : List Int)) := ⟨_, rfl⟩
    replace H : (spec_NearTree.l0 kj2 a1 y694 0 a0_0 l0_1) = some r := by first | (rw [hy694]; with_reducible exact H) | (have H2_ := (Option.bind_some _ _).symm.trans H; rw [hy694]; with_reducible exact H2_) | (have H2_ := (Option.bind_some _ _).symm.trans H; with_reducible exact H2_) | with_reducible exact H | (rw [hy694]; exact H) | exact H
    have Ny694 := Aside0.mk hy694
    clear hy694
    have H' := Aside0.mk H
    clear H
    go_wp2_with (first | ((with_reducible refine gate_dst (N := 20) rfl ?_); refine Kd.R_lit (Kd.int .i64) _ 3 ?hg (N := 20) ?hd (xs := ([] : List Int)) (inner := []) (ok := fun _ => True) (okp := fun _ => True) ?hr ?hp (fun _ hk => hk) trivial (Below.refl _ _) (Nat.le_refl _) (by simp) ?_; (case hd => rfl); (case hg => rfl); (case hr => first | (go_simp; done) | (go_simp; rfl)); (case hp => exact (Reps.none _ _)); intro v695 w14 ho15 hb hg_ hnew_; clear hg_ hnew_; (first | rw [← Ny694.out] at ho15 | (simp only [Int.reduceToNat] at ho15; rw [← Ny694.out] at ho15)); have HO696 := Aside0.mk (Kd.R_lower ho15 (below_size (ne_ HB.out))); replace BK691 := kb_ BK691 hb; replace HB := kB_ HB hb; clear hb ho15))
    go_loopg [5, 6] kj2 (fun kq v5 v6 w' => ∃ (x5_2 : List Int) (x6_2 : Int), v6 = .int .i64 x6_2 ∧ Aside0 (spec_NearTree.l0 kq a1 x5_2 x6_2 a0_0 l0_1 = some r) ∧ Aside0 (kq ≤ kj2) ∧ Aside0 (Kd.R (Kd.int .i64) 3 w' w.heap.size (fun _ => True) v5 x5_2) ∧ Aside0 (w'.heap[gb691]? = some (.cells #[.int .i64 a0_0, (.slice A0_1 l0_1.length c0_1)] 25 (0, 0))) ∧ Aside0 (Below w.heap.size w w'))
    case atStart => exact ⟨(y694), (0), ns_, H', ⟨Nat.le_refl _⟩, ⟨nr_ HO696.out⟩, ⟨nb_ BK691.out⟩, ⟨ne_ HB.out⟩⟩
    case round =>
     clear H'
     try clear c1
     try clear p2
     try clear c3
     try clear c4
     try clear c6
     try clear p6
     try clear c13
     try clear hcz10_0
     try clear hcz10_1
     try clear hcz11_0
     try clear hcz11_1
     try clear hcz8_0
     try clear hcz8_1
     try clear hfz10_0
     try clear hfz10_1
     try clear hfz11_0
     try clear hfz11_1
     try clear hfz8_0
     try clear hfz8_1
     try clear p2
     try clear p6
     obtain ⟨x5_2, x6_2, rfl, HA, HK2, HO_5, BK691, HB⟩ := hrel
     cases gk with
     | zero => exact absurd HA.out (by simp [spec_NearTree.l0])
     | succ k2 =>
      have H := HA.out
      clear HA
      simp only [spec_NearTree.l0] at H
      by_cases c16 : x6_2 < a0_0
      rotate_left
      ·rw [if_neg c16] at H
       have c16b0 : decide (x6_2 < a0_0) = false := decide_eq_false c16
       clear c16
       obtain rfl := Option.some.inj H
       obtain ⟨hcz30_0, hcz30_1, hfz30_0, hfz30_1⟩ := cz2_ BK691.out
       go_wp2
       go_ret
       exact ⟨_, nw_, nr_ HO_5.out, ne_ HB.out⟩

      rw [if_pos c16] at H
      have c16b0 : decide (x6_2 < a0_0) = true := decide_eq_true c16
      clear c16
      replace H := Option.bind_eq_some_iff.mp H
      obtain ⟨⟨t697, t700⟩, A170, H⟩ := H
      replace H : (if (t697.length : Int) > 0 then (if 0 < (t697.length : Int) then (if x5_2.length < 17592186044416 then (spec_NearTree.l0 k2 a1 (x5_2 ++ [rd t697 0]) (wrap64 (x6_2 + 1)) a0_0 l0_1) else (none)) else (none)) else (if x5_2.length < 17592186044416 then (spec_NearTree.l0 k2 a1 (x5_2 ++ [(-1)]) (wrap64 (x6_2 + 1)) a0_0 l0_1) else (none))) = some r := H
      have A17 := Aside0.mk A170
      clear A170
      by_cases c18 : (t697.length : Int) > 0
      rotate_left
      ·rw [if_neg c18] at H
       have c18b0 : decide (0 < (t697.length : Int)) = false := decide_eq_false c18
       have c18b1 : decide (0 < t697.length) = false := decide_eq_false (by omega)
       clear c18
       by_cases c25 : x5_2.length < 17592186044416
       rotate_left
       ·rw [if_neg c25] at H
        exact absurd H (by simp)
       rw [if_pos c25] at H
       have LMc25 := Aside0.mk c25
       clear c25
       obtain ⟨y705, hy705⟩ : ∃ y_ : List Int, y_ = (x5_2 ++ [(-1)]) := ⟨_, rfl⟩
       replace H : (spec_NearTree.l0 k2 a1 y705 (wrap64 (x6_2 + 1)) a0_0 l0_1) = some r := by first | (rw [hy705]; with_reducible exact H) | (have H2_ := (Option.bind_some _ _).symm.trans H; rw [hy705]; with_reducible exact H2_) | (have H2_ := (Option.bind_some _ _).symm.trans H; with_reducible exact H2_) | with_reducible exact H | (rw [hy705]; exact H) | exact H
       have Ny705 := Aside0.mk hy705
       clear hy705
       have H' := Aside0.mk H
       clear H
       obtain ⟨hcz26_0, hcz26_1, hfz26_0, hfz26_1⟩ := cz2_ BK691.out
       go_wp2_with (first | ((with_reducible refine gate_callee (f := 56) rfl ?_); refine gl_ (some 31) Try.func56 #[.agg #[.int .i64 a0_0, .slice A0_1 l0_1.length c0_1], .int .i64 x6_2, .int .i64 a1] ?_; (with_reducible refine (spec_l3Walk.calls k2 a0_0 _ _ l0_1 x6_2 a1 t697 t700 _ ?side1 ?side2 A17.out).mono ?_); (case side1 => exact nc_ (Kd.C_below HR0_1.out HB.out)); (case side2 => exact HC0_1.out); rintro e w27 ⟨v698, rfl, ho0, hb⟩; refine ⟨_, rfl, ?_⟩; have HO699 := Aside0.mk (Kd.R_lower (Kd.R_new' ho0 (Kd.R_lt (nr_ HO_5.out))) (below_size (ne_ HB.out))); replace HO_5 := Aside0.mk (Kd.R_elder' (nr_ HO_5.out) (Kd.R_base ho0) hb); replace BK691 := kb_ BK691 hb; replace HB := kB_ HB hb; (try clear hb); (try clear hb2); (try clear hk); (try clear hi); (try clear ho0); obtain ⟨Ao28, co28, eo28⟩ := Kd.R_slice HO699.out; subst eo28) | ((with_reducible refine gate_builtin (b := .append) (xs := #[.tmp 43, .tmp 44]) rfl ?_); at_builtin; refine Kd.R_append (Kd.int .i64) (w0 := w) w.heap.size rfl (.tmp 43) (.tmp 44) 28 3 (.int .i64 0) 8 rfl Try.underlying28 info3 rfl (by decide) (by omega) u5 x5_2 (-1) [.int .i64 (-1)] (fun k_ => some k_ ≠ (.slice Ao28 t697.length co28 : Value).ownBlock) (fun _ => False) rfl rfl ?aP (fun _ hk => hk.elim) ?aF ?aO ?aB ?aS ?aL ?_; (case aP => exact rfl); (case aB => exact (ne_ HB.out)); (case aF => exact (fun k_ hk => Kd.fresh' (Kd.R_lt (nr_ HO699.out)) k_ hk)); (case aO => exact (by (with_reducible repeat (first | apply Kd.R_alloc | apply Kd.R_drewN | apply Kd.R_drew)); exact Kd.R_mono HO_5.out (fun _ hk => by first | exact hk.2 | trivial | simp_all))); (case aS => exact (below_size (ne_ HB.out))); (case aL => have := LMc25.out; omega); intro v706 w29 ho hb hg hat; rw [← Ny705.out] at ho; have HO707 := Aside0.mk (ho); replace BK691 := Aside0.mk (blk_grown (g := gb691) (o := .cells #[.int .i64 a0_0, .slice A0_1 l0_1.length c0_1] 25 (0, 0)) (nb_ BK691.out) hg (Kd.R_ne HO_5.out BK691.out (by decide))); replace HO699 := Aside0.mk (Kd.R_after (ok := (fun _ => True)) (nr_ HO699.out) hg hat); replace HB := Aside0.mk (hb); clear HO_5; clear ho hb hg hat))
       go_roundg k2
       case measure => have := HJ2.out; have := HK2.out; omega
       case rel => exact ⟨(y705), (wrap64 (x6_2 + 1)), ns_, H', ⟨by have := HJ2.out; have := HK2.out; omega⟩, ⟨by (with_reducible repeat (first | apply Kd.R_alloc | apply Kd.R_drewN | apply Kd.R_drew)); exact Kd.R_mono HO707.out (fun _ hk => trivial)⟩, ⟨nb_ BK691.out⟩, ⟨ne_ HB.out⟩⟩
      rw [if_pos c18] at H
      have c18b0 : decide (0 < (t697.length : Int)) = true := decide_eq_true c18
      have c18b1 : decide (0 < t697.length) = true := decide_eq_true (by omega)
      clear c18
      by_cases c19 : 0 < (t697.length : Int)
      rotate_left
      ·rw [if_neg c19] at H
       exact absurd H (by simp)
      rw [if_pos c19] at H
      have c19b0 : decide (0 < (t697.length : Int)) = true := decide_eq_true c19
      have c19b1 : decide (0 < t697.length) = true := decide_eq_true (by omega)
      clear c19
      by_cases c20 : x5_2.length < 17592186044416
      rotate_left
      ·rw [if_neg c20] at H
       exact absurd H (by simp)
      rw [if_pos c20] at H
      have LMc20 := Aside0.mk c20
      clear c20
      obtain ⟨y702, hy702⟩ : ∃ y_ : List Int, y_ = (x5_2 ++ [rd t697 0]) := ⟨_, rfl⟩
      replace H : (spec_NearTree.l0 k2 a1 y702 (wrap64 (x6_2 + 1)) a0_0 l0_1) = some r := by first | (rw [hy702]; with_reducible exact H) | (have H2_ := (Option.bind_some _ _).symm.trans H; rw [hy702]; with_reducible exact H2_) | (have H2_ := (Option.bind_some _ _).symm.trans H; with_reducible exact H2_) | with_reducible exact H | (rw [hy702]; exact H) | exact H
      have Ny702 := Aside0.mk hy702
      clear hy702
      have H' := Aside0.mk H
      clear H
      obtain ⟨hcz21_0, hcz21_1, hfz21_0, hfz21_1⟩ := cz2_ BK691.out
      go_wp2_with (first | ((with_reducible refine gate_callee (f := 56) rfl ?_); refine gl_ (some 31) Try.func56 #[.agg #[.int .i64 a0_0, .slice A0_1 l0_1.length c0_1], .int .i64 x6_2, .int .i64 a1] ?_; (with_reducible refine (spec_l3Walk.calls k2 a0_0 _ _ l0_1 x6_2 a1 t697 t700 _ ?side1 ?side2 A17.out).mono ?_); (case side1 => exact nc_ (Kd.C_below HR0_1.out HB.out)); (case side2 => exact HC0_1.out); rintro e w22 ⟨v698, rfl, ho0, hb⟩; refine ⟨_, rfl, ?_⟩; have HO699 := Aside0.mk (Kd.R_lower (Kd.R_new' ho0 (Kd.R_lt (nr_ HO_5.out))) (below_size (ne_ HB.out))); replace HO_5 := Aside0.mk (Kd.R_elder' (nr_ HO_5.out) (Kd.R_base ho0) hb); replace BK691 := kb_ BK691 hb; replace HB := kB_ HB hb; (try clear hb); (try clear hb2); (try clear hk); (try clear hi); (try clear ho0); obtain ⟨Ao23, co23, eo23⟩ := Kd.R_slice HO699.out; subst eo23; have p701 : 0 ≤ (0 : Int) := (by omega); have q701 : 0 < (t697.length : Int) := of_decide_eq_true nx_; obtain ⟨ad701, e701, hx701_0⟩ := Kd.at_int (Kd.R_reads' HO699.out).2.2 0 p701 q701; cases e701; have qi701 : (0 < t697.length) = True := eq_true (by omega); (try rw [show ((0 : Int)).toNat = 0 from rfl] at hx701_0); (try rw [Addr.add_zero'] at hx701_0); replace p701 := eq_true p701; replace q701 := eq_true q701) | ((with_reducible refine gate_builtin (b := .append) (xs := #[.tmp 37, .tmp 41]) rfl ?_); at_builtin; refine Kd.R_append (Kd.int .i64) (w0 := w) w.heap.size rfl (.tmp 37) (.tmp 41) 28 3 (.int .i64 0) 8 rfl Try.underlying28 info3 rfl (by decide) (by omega) u5 x5_2 (rd t697 0) [.int .i64 (rd t697 0)] (fun k_ => some k_ ≠ (.slice (some ad701) t697.length co23 : Value).ownBlock) (fun _ => False) rfl rfl ?aP (fun _ hk => hk.elim) ?aF ?aO ?aB ?aS ?aL ?_; (case aP => exact rfl); (case aB => exact (ne_ HB.out)); (case aF => exact (fun k_ hk => Kd.fresh' (Kd.R_lt (nr_ HO699.out)) k_ hk)); (case aO => exact (by (with_reducible repeat (first | apply Kd.R_alloc | apply Kd.R_drewN | apply Kd.R_drew)); exact Kd.R_mono HO_5.out (fun _ hk => by first | exact hk.2 | trivial | simp_all))); (case aS => exact (below_size (ne_ HB.out))); (case aL => have := LMc20.out; omega); intro v703 w24 ho hb hg hat; rw [← Ny702.out] at ho; have HO704 := Aside0.mk (ho); replace BK691 := Aside0.mk (blk_grown (g := gb691) (o := .cells #[.int .i64 a0_0, .slice A0_1 l0_1.length c0_1] 25 (0, 0)) (nb_ BK691.out) hg (Kd.R_ne HO_5.out BK691.out (by decide))); replace HO699 := Aside0.mk (Kd.R_after (ok := (fun _ => True)) (nr_ HO699.out) hg hat); replace HB := Aside0.mk (hb); clear HO_5; clear ho hb hg hat))
      go_roundg k2
      case measure => have := HJ2.out; have := HK2.out; omega
      case rel => exact ⟨(y702), (wrap64 (x6_2 + 1)), ns_, H', ⟨by have := HJ2.out; have := HK2.out; omega⟩, ⟨by (with_reducible repeat (first | apply Kd.R_alloc | apply Kd.R_drewN | apply Kd.R_drew)); exact Kd.R_mono HO704.out (fun _ hk => trivial)⟩, ⟨nb_ BK691.out⟩, ⟨ne_ HB.out⟩⟩
end Go.Proofs.Ytbmoonciggfbpaa.Print
