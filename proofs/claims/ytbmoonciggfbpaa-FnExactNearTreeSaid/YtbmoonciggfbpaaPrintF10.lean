-- Made by this session's own program (wip/patch_print.py, over the kit's print). Lean checks it.
import Derived.Test.YtbmoonciggfbpaaPrint0
import Derived.Test.YtbmoonciggfbpaaPrintB
import Derived.Test.YtbmoonciggfbpaaPrintF22
import Derived.Test.YtbmoonciggfbpaaPrintF24
import Derived.Test.YtbmoonciggfbpaaPrintF25
import Derived.Test.YtbmoonciggfbpaaPrintF32
import Derived.Test.YtbmoonciggfbpaaPrintF33
namespace Go.Proofs.Ytbmoonciggfbpaa.Print
open Go.RowKit Go.Proofs.YtbmoonciggfbpaaW.PrintWords Go.Proofs.YtbmoonciggfbpaaW.PrintLast Go.Proofs.YtbmoonciggfbpaaW.PrintMore Go.Proofs.YtbmoonciggfbpaaX
attribute [local go_sem] max2_int min2_int max_two min_two max_three min_three max_four min_four   -- for this text's walks alone
set_option linter.unusedVariables false
set_option linter.unusedSimpArgs false

abbrev rD10 := @Kd.R_drew
abbrev rR10 := @Kd.R_reads'
/-! ### laws_FnExactNearTree: function 10 -/
def laws_FnExactNearTree.j0 : Nat → Int → List Int → List Int → Bool → Int → List (S84) → Option (Bool)
  | 0, _, _, _, _, _, _ => none
  | k + 1, x1, x6, x8, x46, x742000, x742001 => if x46 = true then (some false) else ((laws_markIntS.f k x8 1).bind fun bt767 => ((laws_heldIntS.f k bt767.2 1).bind fun t769 => (if t769 < 0 then (some false) else (if t769 = bt767.1 then ((laws_toNet.f k x742000 x742001).bind fun bt770 => ((impl_NearTree.f k bt770.1 bt770.2 x1).bind fun t774 => ((laws_eqIntS.f k t774 x6).bind fun t777 => (if t777 = true then ((laws_heldIntS.f k bt767.2 1).bind fun t778 => (if t778 < 0 then (some false) else (if t778 = bt767.1 then (some true) else (some false)))) else (some false))))) else (some false)))))
def laws_FnExactNearTree.f (k : Nat) (a0_0 : Int) (l0_1 : List (S84)) (a1 : Int) : Option (Bool) := (laws_szNet.f a0_0 l0_1 1048576).bind fun t742 => (if t742 < 0 then (some true) else ((laws_toNet.f k a0_0 l0_1).bind fun bt743 => ((spec_NearTree.f k bt743.1 bt743.2 a1).bind fun t747 => ((laws_toNet.f k a0_0 l0_1).bind fun bt750 => ((impl_NearTree.f k bt750.1 bt750.2 a1).bind fun t755 => ((laws_eqIntS.f k t755 t747).bind fun t758 => (if t758 = true then ((laws_toNet.f k a0_0 l0_1).bind fun bt759 => ((laws_eqNet.f k bt750.1 bt750.2 bt759.1 bt759.2).bind fun t763 => (if t763 = true then ((laws_markNet.f k bt750.1 bt750.2 1).bind fun bt764 => (if bt764.1 < 0 then (laws_FnExactNearTree.j0 k a1 t747 t755 true a0_0 l0_1) else ((laws_eqIntS.f k t755 t747).bind fun t766 => (laws_FnExactNearTree.j0 k a1 t747 t755 (!t766) a0_0 l0_1)))) else (some false)))) else (some false))))))))
theorem laws_FnExactNearTree.mono_l : ∀ k, (∀ y0 y1 y2 y3 y4 y5, LeO (laws_FnExactNearTree.j0 k y0 y1 y2 y3 y4 y5) (laws_FnExactNearTree.j0 (k + 1) y0 y1 y2 y3 y4 y5))
  | 0 => fun _ _ _ _ _ _ r h => by simp [laws_FnExactNearTree.j0] at h
  | k + 1 => by
    have ih0 := laws_FnExactNearTree.mono_l k
    · intro y0 y1 y2 y3 y4 y5
      unfold laws_FnExactNearTree.j0
      repeat' first | (with_reducible first | exact ih0 _ _ _ _ _ _ | exact impl_NearTree.mono _ _ _ _ | exact laws_eqIntS.mono _ _ _ | exact laws_eqNet.mono _ _ _ _ _ | exact laws_heldIntS.mono _ _ _ | exact laws_markIntS.mono _ _ _ | exact laws_markNet.mono _ _ _ _ | exact laws_toNet.mono _ _ _ | exact spec_NearTree.mono _ _ _ _ | exact LeO.refl _ | exact LeO.none _ | refine LeO.ite ?_ ?_ | refine LeO.bind ?_ (fun _ => ?_)) | exact ih0 _ _ _ _ _ _ | exact impl_NearTree.mono _ _ _ _ | exact laws_eqIntS.mono _ _ _ | exact laws_eqNet.mono _ _ _ _ _ | exact laws_heldIntS.mono _ _ _ | exact laws_markIntS.mono _ _ _ | exact laws_markNet.mono _ _ _ _ | exact laws_toNet.mono _ _ _ | exact spec_NearTree.mono _ _ _ _ | exact LeO.none _ | refine LeO.ite ?_ ?_ | refine LeO.bind ?_ (fun _ => ?_)
theorem laws_FnExactNearTree.mono : ∀ a0 a1 a2 k, LeO (laws_FnExactNearTree.f k a0 a1 a2) (laws_FnExactNearTree.f (k + 1) a0 a1 a2) := by
  intro a0 a1 a2 k
  have ih0 := laws_FnExactNearTree.mono_l k
  unfold laws_FnExactNearTree.f
  repeat' first | (with_reducible first | exact ih0 _ _ _ _ _ _ | exact impl_NearTree.mono _ _ _ _ | exact laws_eqIntS.mono _ _ _ | exact laws_eqNet.mono _ _ _ _ _ | exact laws_heldIntS.mono _ _ _ | exact laws_markIntS.mono _ _ _ | exact laws_markNet.mono _ _ _ _ | exact laws_toNet.mono _ _ _ | exact spec_NearTree.mono _ _ _ _ | exact LeO.refl _ | exact LeO.none _ | refine LeO.ite ?_ ?_ | refine LeO.bind ?_ (fun _ => ?_)) | exact ih0 _ _ _ _ _ _ | exact impl_NearTree.mono _ _ _ _ | exact laws_eqIntS.mono _ _ _ | exact laws_eqNet.mono _ _ _ _ _ | exact laws_heldIntS.mono _ _ _ | exact laws_markIntS.mono _ _ _ | exact laws_markNet.mono _ _ _ _ | exact laws_toNet.mono _ _ _ | exact spec_NearTree.mono _ _ _ _ | exact LeO.none _ | refine LeO.ite ?_ ?_ | refine LeO.bind ?_ (fun _ => ?_)
set_option maxHeartbeats 200000000 in
set_option maxRecDepth 100000 in
theorem laws_FnExactNearTree.calls (k : Nat) (a0_0 : Int) (A0_1 : Option Addr) (c0_1 : Nat) (l0_1 : List (S84)) (a1 : Int) (r : Bool) (w : World) (hr0_1 : Kd.C k84 w A0_1 l0_1.length l0_1) (hc0_1 : l0_1.length ≤ c0_1) (h : laws_FnExactNearTree.f k a0_0 l0_1 a1 = some r) :
    Calls Try.prog 10 #[.agg #[.int .i64 a0_0, .slice A0_1 l0_1.length c0_1], .int .i64 a1] w fun e w' => e = .returned (.bool r) ∧ Below w.heap.size w w' := by
  have hu39 := Try.underlying39
  have hu25 := Try.underlying25
  have HR0_1 := Aside0.mk hr0_1
  have HC0_1 := Aside0.mk hc0_1
  clear hr0_1 hc0_1
  have HB := Aside0.mk (Below.refl w.heap.size w)
  have H : ((laws_szNet.f a0_0 l0_1 1048576).bind fun t742 => (if t742 < 0 then (some true) else ((laws_toNet.f k a0_0 l0_1).bind fun bt743 => ((spec_NearTree.f k bt743.1 bt743.2 a1).bind fun t747 => ((laws_toNet.f k a0_0 l0_1).bind fun bt750 => ((impl_NearTree.f k bt750.1 bt750.2 a1).bind fun t755 => ((laws_eqIntS.f k t755 t747).bind fun t758 => (if t758 = true then ((laws_toNet.f k a0_0 l0_1).bind fun bt759 => ((laws_eqNet.f k bt750.1 bt750.2 bt759.1 bt759.2).bind fun t763 => (if t763 = true then ((laws_markNet.f k bt750.1 bt750.2 1).bind fun bt764 => (if bt764.1 < 0 then (laws_FnExactNearTree.j0 k a1 t747 t755 true a0_0 l0_1) else ((laws_eqIntS.f k t755 t747).bind fun t766 => (laws_FnExactNearTree.j0 k a1 t747 t755 (!t766) a0_0 l0_1)))) else (some false)))) else (some false))))))))) = some r := h
  clear h
  replace H := Option.bind_eq_some_iff.mp H
  obtain ⟨t742, A30, H⟩ := H
  replace H : (if t742 < 0 then (some true) else ((laws_toNet.f k a0_0 l0_1).bind fun bt743 => ((spec_NearTree.f k bt743.1 bt743.2 a1).bind fun t747 => ((laws_toNet.f k a0_0 l0_1).bind fun bt750 => ((impl_NearTree.f k bt750.1 bt750.2 a1).bind fun t755 => ((laws_eqIntS.f k t755 t747).bind fun t758 => (if t758 = true then ((laws_toNet.f k a0_0 l0_1).bind fun bt759 => ((laws_eqNet.f k bt750.1 bt750.2 bt759.1 bt759.2).bind fun t763 => (if t763 = true then ((laws_markNet.f k bt750.1 bt750.2 1).bind fun bt764 => (if bt764.1 < 0 then (laws_FnExactNearTree.j0 k a1 t747 t755 true a0_0 l0_1) else ((laws_eqIntS.f k t755 t747).bind fun t766 => (laws_FnExactNearTree.j0 k a1 t747 t755 (!t766) a0_0 l0_1)))) else (some false)))) else (some false)))))))) = some r := H
  have A3 := Aside0.mk A30
  clear A30
  by_cases c4 : t742 < 0
  ·rw [if_pos c4] at H
   have c4b0 : decide (t742 < 0) = true := decide_eq_true c4
   clear c4
   obtain rfl := Option.some.inj H
   go_enter Try.func10, Try.ntmps10
   go_wp2_with (first | ((with_reducible refine gate_dst (N := 2) rfl ?_); refine bx_ 2 #[.int .i64 a0_0, .slice A0_1 l0_1.length c0_1] 39 ?_; intro gb741 hg w5 hbox hb; have BK741 := Aside0.mk (hbox); have GW741 := Aside0.mk (zs_ hg (ne_ HB.out)); have GE741 := Aside0.mk (zs_ hg (ne_ HB.out)); replace HB := kB_ HB hb; clear hb hbox hg; obtain ⟨hcz6_0, hcz6_1, hfz6_0, hfz6_1⟩ := cz2_ BK741.out) | ((with_reducible refine gate_callee (f := 21) rfl ?_); refine gl_ (some 15) Try.func21 #[.agg #[.int .i64 a0_0, .slice A0_1 l0_1.length c0_1], .int .i64 1048576] ?_; (with_reducible refine (laws_szNet.calls a0_0 _ _ l0_1 1048576 t742 _ ?side1 ?side2 A3.out).mono ?_); (case side1 => exact nc_ (Kd.C_below HR0_1.out HB.out)); (case side2 => exact HC0_1.out); rintro e w7 ⟨rfl, hb⟩; refine ⟨_, rfl, ?_⟩; replace BK741 := kb_ BK741 hb; replace HB := kB_ HB hb; (try clear hb); (try clear hb2); (try clear hk); (try clear hi)))
   go_ret
   exact ⟨nw_, ne_ HB.out⟩
  rw [if_neg c4] at H
  have c4b0 : decide (t742 < 0) = false := decide_eq_false c4
  clear c4
  replace H := Option.bind_eq_some_iff.mp H
  obtain ⟨⟨t743, t744⟩, A80, H⟩ := H
  replace H : ((spec_NearTree.f k t743 t744 a1).bind fun t747 => ((laws_toNet.f k a0_0 l0_1).bind fun bt750 => ((impl_NearTree.f k bt750.1 bt750.2 a1).bind fun t755 => ((laws_eqIntS.f k t755 t747).bind fun t758 => (if t758 = true then ((laws_toNet.f k a0_0 l0_1).bind fun bt759 => ((laws_eqNet.f k bt750.1 bt750.2 bt759.1 bt759.2).bind fun t763 => (if t763 = true then ((laws_markNet.f k bt750.1 bt750.2 1).bind fun bt764 => (if bt764.1 < 0 then (laws_FnExactNearTree.j0 k a1 t747 t755 true a0_0 l0_1) else ((laws_eqIntS.f k t755 t747).bind fun t766 => (laws_FnExactNearTree.j0 k a1 t747 t755 (!t766) a0_0 l0_1)))) else (some false)))) else (some false)))))) = some r := H
  have A8 := Aside0.mk A80
  clear A80
  replace H := Option.bind_eq_some_iff.mp H
  obtain ⟨t747, A90, H⟩ := H
  replace H : ((laws_toNet.f k a0_0 l0_1).bind fun bt750 => ((impl_NearTree.f k bt750.1 bt750.2 a1).bind fun t755 => ((laws_eqIntS.f k t755 t747).bind fun t758 => (if t758 = true then ((laws_toNet.f k a0_0 l0_1).bind fun bt759 => ((laws_eqNet.f k bt750.1 bt750.2 bt759.1 bt759.2).bind fun t763 => (if t763 = true then ((laws_markNet.f k bt750.1 bt750.2 1).bind fun bt764 => (if bt764.1 < 0 then (laws_FnExactNearTree.j0 k a1 t747 t755 true a0_0 l0_1) else ((laws_eqIntS.f k t755 t747).bind fun t766 => (laws_FnExactNearTree.j0 k a1 t747 t755 (!t766) a0_0 l0_1)))) else (some false)))) else (some false))))) = some r := H
  have A9 := Aside0.mk A90
  clear A90
  replace H := Option.bind_eq_some_iff.mp H
  obtain ⟨⟨t750, t751⟩, A100, H⟩ := H
  replace H : ((impl_NearTree.f k t750 t751 a1).bind fun t755 => ((laws_eqIntS.f k t755 t747).bind fun t758 => (if t758 = true then ((laws_toNet.f k a0_0 l0_1).bind fun bt759 => ((laws_eqNet.f k t750 t751 bt759.1 bt759.2).bind fun t763 => (if t763 = true then ((laws_markNet.f k t750 t751 1).bind fun bt764 => (if bt764.1 < 0 then (laws_FnExactNearTree.j0 k a1 t747 t755 true a0_0 l0_1) else ((laws_eqIntS.f k t755 t747).bind fun t766 => (laws_FnExactNearTree.j0 k a1 t747 t755 (!t766) a0_0 l0_1)))) else (some false)))) else (some false)))) = some r := H
  have A10 := Aside0.mk A100
  clear A100
  replace H := Option.bind_eq_some_iff.mp H
  obtain ⟨t755, A110, H⟩ := H
  replace H : ((laws_eqIntS.f k t755 t747).bind fun t758 => (if t758 = true then ((laws_toNet.f k a0_0 l0_1).bind fun bt759 => ((laws_eqNet.f k t750 t751 bt759.1 bt759.2).bind fun t763 => (if t763 = true then ((laws_markNet.f k t750 t751 1).bind fun bt764 => (if bt764.1 < 0 then (laws_FnExactNearTree.j0 k a1 t747 t755 true a0_0 l0_1) else ((laws_eqIntS.f k t755 t747).bind fun t766 => (laws_FnExactNearTree.j0 k a1 t747 t755 (!t766) a0_0 l0_1)))) else (some false)))) else (some false))) = some r := H
  have A11 := Aside0.mk A110
  clear A110
  replace H := Option.bind_eq_some_iff.mp H
  obtain ⟨t758, A120, H⟩ := H
  replace H : (if t758 = true then ((laws_toNet.f k a0_0 l0_1).bind fun bt759 => ((laws_eqNet.f k t750 t751 bt759.1 bt759.2).bind fun t763 => (if t763 = true then ((laws_markNet.f k t750 t751 1).bind fun bt764 => (if bt764.1 < 0 then (laws_FnExactNearTree.j0 k a1 t747 t755 true a0_0 l0_1) else ((laws_eqIntS.f k t755 t747).bind fun t766 => (laws_FnExactNearTree.j0 k a1 t747 t755 (!t766) a0_0 l0_1)))) else (some false)))) else (some false)) = some r := H
  have A12 := Aside0.mk A120
  clear A120
  by_cases c13 : t758 = true
  rotate_left
  ·replace c13 := Bool.eq_false_iff.mpr c13
   subst c13
   have H1 : (some false) = some r := by rw [if_neg (show ¬ (false = true) by decide)] at H; exact H
   clear H
   have H := H1
   clear H1
   obtain rfl := Option.some.inj H
   go_enter Try.func10, Try.ntmps10
   go_wp2_with (first | ((with_reducible refine gate_dst (N := 2) rfl ?_); refine bx_ 2 #[.int .i64 a0_0, .slice A0_1 l0_1.length c0_1] 39 ?_; intro gb741 hg w105 hbox hb; have BK741 := Aside0.mk (hbox); have GW741 := Aside0.mk (zs_ hg (ne_ HB.out)); have GE741 := Aside0.mk (zs_ hg (ne_ HB.out)); replace HB := kB_ HB hb; clear hb hbox hg; obtain ⟨hcz106_0, hcz106_1, hfz106_0, hfz106_1⟩ := cz2_ BK741.out) | ((with_reducible refine gate_callee (f := 21) rfl ?_); refine gl_ (some 15) Try.func21 #[.agg #[.int .i64 a0_0, .slice A0_1 l0_1.length c0_1], .int .i64 1048576] ?_; (with_reducible refine (laws_szNet.calls a0_0 _ _ l0_1 1048576 t742 _ ?side1 ?side2 A3.out).mono ?_); (case side1 => exact nc_ (Kd.C_below HR0_1.out HB.out)); (case side2 => exact HC0_1.out); rintro e w107 ⟨rfl, hb⟩; refine ⟨_, rfl, ?_⟩; replace BK741 := kb_ BK741 hb; replace HB := kB_ HB hb; (try clear hb); (try clear hb2); (try clear hk); (try clear hi); obtain ⟨hcz108_0, hcz108_1, hfz108_0, hfz108_1⟩ := cz2_ BK741.out) | ((with_reducible refine gate_callee (f := 22) rfl ?_); refine gl_ (some 19) Try.func22 #[.agg #[.int .i64 a0_0, .slice A0_1 l0_1.length c0_1]] ?_; (with_reducible refine (laws_toNet.calls k a0_0 _ _ l0_1 t743 t744 _ ?side1 ?side2 A8.out).mono ?_); (case side1 => exact nc_ (Kd.C_below HR0_1.out HB.out)); (case side2 => exact HC0_1.out); rintro e w109 ⟨v745, rfl, ho0, hb⟩; refine ⟨_, rfl, ?_⟩; have HO746 := Aside0.mk (Kd.R_lower ho0 (below_size (ne_ HB.out))); replace BK741 := kb_ BK741 hb; replace HB := kB_ HB hb; (try clear hb); (try clear hb2); (try clear hk); (try clear hi); (try clear ho0); obtain ⟨Ao110, co110, eo110⟩ := Kd.R_slice HO746.out; subst eo110) | ((with_reducible refine gate_callee (f := 33) rfl ?_); refine gl_ (some 21) Try.func33 #[.agg #[.int .i64 t743, .slice Ao110 t744.length co110], .int .i64 a1] ?_; (with_reducible refine (spec_NearTree.calls k t743 _ _ t744 a1 t747 _ ?side1 ?side2 A9.out).mono ?_); (case side1 => exact nc_ (rR10 HO746.out).2.2); (case side2 => exact (rR10 HO746.out).2.1); rintro e w111 ⟨v748, rfl, ho0, hb⟩; refine ⟨_, rfl, ?_⟩; have HO749 := Aside0.mk (Kd.R_lower ho0 (below_size (ne_ HB.out))); replace HO746 := kR_ HO746 hb; replace BK741 := kb_ BK741 hb; replace HB := kB_ HB hb; (try clear hb); (try clear hb2); (try clear hk); (try clear hi); (try clear ho0); obtain ⟨hcz112_0, hcz112_1, hfz112_0, hfz112_1⟩ := cz2_ BK741.out) | ((with_reducible refine gate_callee (f := 22) rfl ?_); refine gl_ (some 23) Try.func22 #[.agg #[.int .i64 a0_0, .slice A0_1 l0_1.length c0_1]] ?_; (with_reducible refine (laws_toNet.calls k a0_0 _ _ l0_1 t750 t751 _ ?side1 ?side2 A10.out).mono ?_); (case side1 => exact nc_ (Kd.C_below HR0_1.out HB.out)); (case side2 => exact HC0_1.out); rintro e w113 ⟨v752, rfl, ho0, hb⟩; refine ⟨_, rfl, ?_⟩; have HO753 := Aside0.mk (Kd.R_lower (Kd.R_new' ho0 (Kd.R_lt (nr_ HO746.out))) (below_size (ne_ HB.out))); replace HO746 := Aside0.mk (Kd.R_elder' (nr_ HO746.out) (Kd.R_base ho0) hb); replace HO749 := kR_ HO749 hb; replace BK741 := kb_ BK741 hb; replace HB := kB_ HB hb; (try clear hb); (try clear hb2); (try clear hk); (try clear hi); (try clear ho0)) | ((with_reducible refine gate_dst (N := 7) rfl ?_); refine bx_ 7 #[.int .i64 0, .slice none 0 0] 25 ?_; intro gb754 hg w114 hbox hb; have BK754 := Aside0.mk (hbox); have GW754 := Aside0.mk (zs_ hg (ne_ HB.out)); have GE754 := Aside0.mk (zs_ hg (ne_ HB.out)); have NB741_754 := Aside0.mk (nl_ BK741.out hg); have NB754_741 := Aside0.mk (nm_ BK741.out hg); replace HO746 := kR_ HO746 hb; replace HO749 := kR_ HO749 hb; replace HO753 := kR_ HO753 hb; replace BK741 := kb_ BK741 hb; replace HB := kB_ HB hb; clear hb hbox hg; have hnb115 := NB754_741.out; have hnc115 := NB741_754.out; obtain ⟨hcz116_0, hcz116_1, hfz116_0, hfz116_1⟩ := cz2_ BK754.out; obtain ⟨Ao117, co117, eo117⟩ := Kd.R_slice HO753.out; subst eo117) | ((with_reducible refine gate_callee (f := 32) rfl ?_); refine gl_ (some 26) Try.func32 #[.agg #[.int .i64 t750, .slice Ao117 t751.length co117], .int .i64 a1] ?_; (with_reducible refine (impl_NearTree.calls k t750 _ _ t751 a1 t755 _ ?side1 ?side2 A11.out).mono ?_); (case side1 => refine (rR10 (e := 33) (base := w.heap.size) (ok := fun k_ => (True ∧ some k_ ≠ (.slice Ao110 t744.length co110 : Value).ownBlock)) (n := t751.length) (c := co117) ?_).2.2; exact (by (with_reducible repeat (first | apply Kd.R_alloc | apply Kd.R_drewN | apply rD10)); exact (Kd.R_mono (rf2_ (Kd.R_types HO753.out BK754.out (by decide))) (fun _ h_ => h_.1)))); (case side2 => exact (rR10 HO753.out).2.1); rintro e w118 ⟨v756, rfl, ho0, hb⟩; refine ⟨_, rfl, ?_⟩; have HO757 := Aside0.mk (Kd.R_lower (Kd.R_new' ho0 (Kd.R_lt (by (with_reducible repeat (first | apply Kd.R_alloc | apply Kd.R_drewN | apply rD10)); exact (Kd.R_mono (rf2_ (Kd.R_types HO749.out BK754.out (by decide))) (fun _ h_ => h_.1))))) (below_size (ne_ HB.out))); replace HO746 := Aside0.mk (Kd.R_below (by (with_reducible repeat (first | apply Kd.R_alloc | apply Kd.R_drewN | apply rD10)); exact (Kd.R_mono (rf2_ (Kd.R_types HO746.out BK754.out (by decide))) (fun _ h_ => h_.1))) hb); replace HO749 := Aside0.mk (Kd.R_elder' (by (with_reducible repeat (first | apply Kd.R_alloc | apply Kd.R_drewN | apply rD10)); exact (Kd.R_mono (rf2_ (Kd.R_types HO749.out BK754.out (by decide))) (fun _ h_ => h_.1))) (Kd.R_base ho0) hb); replace HO753 := Aside0.mk (Kd.R_below (by (with_reducible repeat (first | apply Kd.R_alloc | apply Kd.R_drewN | apply rD10)); exact (Kd.R_mono (rf2_ (Kd.R_types HO753.out BK754.out (by decide))) (fun _ h_ => h_.1))) hb); replace BK741 := kf_ BK741 hb; replace BK754 := Aside0.mk (blk_below (g := gb754) (o := .cells #[.int .i64 t750, .slice Ao117 t751.length co117] 25 (0, 0)) (np_ BK754.out) hb); replace HB := kB_ HB hb; (try clear hb); (try clear hb2); (try clear hk); (try clear hi); (try clear ho0); obtain ⟨Ao119, co119, eo119⟩ := Kd.R_slice HO757.out; subst eo119; obtain ⟨Ao120, co120, eo120⟩ := Kd.R_slice HO749.out; subst eo120) | ((with_reducible refine gate_callee (f := 23) rfl ?_); refine gl_ (some 29) Try.func23 #[.slice Ao119 t755.length co119, .slice Ao120 t747.length co120] ?_; (with_reducible refine (laws_eqIntS.calls k _ _ t755 _ _ t747 false _ ?side1 ?side2 ?side3 ?side4 A12.out).mono ?_); (case side1 => exact nc_ (rR10 HO757.out).2.2); (case side2 => exact (rR10 HO757.out).2.1); (case side3 => exact nc_ (rR10 HO749.out).2.2); (case side4 => exact (rR10 HO749.out).2.1); rintro e w' ⟨rfl, ⟨nd, rfl⟩⟩; refine ⟨_, rfl, ?_⟩))
   go_ret
   exact ⟨nw_, ne_ HB.out⟩

  subst c13
  have H1 : ((laws_toNet.f k a0_0 l0_1).bind fun bt759 => ((laws_eqNet.f k t750 t751 bt759.1 bt759.2).bind fun t763 => (if t763 = true then ((laws_markNet.f k t750 t751 1).bind fun bt764 => (if bt764.1 < 0 then (laws_FnExactNearTree.j0 k a1 t747 t755 true a0_0 l0_1) else ((laws_eqIntS.f k t755 t747).bind fun t766 => (laws_FnExactNearTree.j0 k a1 t747 t755 (!t766) a0_0 l0_1)))) else (some false)))) = some r := by rw [if_pos rfl] at H; exact H
  clear H
  have H := H1
  clear H1
  replace H := Option.bind_eq_some_iff.mp H
  obtain ⟨⟨t759, t760⟩, A140, H⟩ := H
  replace H : ((laws_eqNet.f k t750 t751 t759 t760).bind fun t763 => (if t763 = true then ((laws_markNet.f k t750 t751 1).bind fun bt764 => (if bt764.1 < 0 then (laws_FnExactNearTree.j0 k a1 t747 t755 true a0_0 l0_1) else ((laws_eqIntS.f k t755 t747).bind fun t766 => (laws_FnExactNearTree.j0 k a1 t747 t755 (!t766) a0_0 l0_1)))) else (some false))) = some r := H
  have A14 := Aside0.mk A140
  clear A140
  replace H := Option.bind_eq_some_iff.mp H
  obtain ⟨t763, A150, H⟩ := H
  replace H : (if t763 = true then ((laws_markNet.f k t750 t751 1).bind fun bt764 => (if bt764.1 < 0 then (laws_FnExactNearTree.j0 k a1 t747 t755 true a0_0 l0_1) else ((laws_eqIntS.f k t755 t747).bind fun t766 => (laws_FnExactNearTree.j0 k a1 t747 t755 (!t766) a0_0 l0_1)))) else (some false)) = some r := H
  have A15 := Aside0.mk A150
  clear A150
  by_cases c16 : t763 = true
  rotate_left
  ·replace c16 := Bool.eq_false_iff.mpr c16
   subst c16
   have H1 : (some false) = some r := by rw [if_neg (show ¬ (false = true) by decide)] at H; exact H
   clear H
   have H := H1
   clear H1
   obtain rfl := Option.some.inj H
   go_enter Try.func10, Try.ntmps10
   try go_wp2_with (first | ((with_reducible refine gate_dst (N := 2) rfl ?_); refine bx_ 2 #[.int .i64 a0_0, .slice A0_1 l0_1.length c0_1] 39 ?_; intro gb741 hg w85 hbox hb; have BK741 := Aside0.mk (hbox); have GW741 := Aside0.mk (zs_ hg (ne_ HB.out)); have GE741 := Aside0.mk (zs_ hg (ne_ HB.out)); replace HB := kB_ HB hb; clear hb hbox hg; obtain ⟨hcz86_0, hcz86_1, hfz86_0, hfz86_1⟩ := cz2_ BK741.out) | ((with_reducible refine gate_callee (f := 21) rfl ?_); refine gl_ (some 15) Try.func21 #[.agg #[.int .i64 a0_0, .slice A0_1 l0_1.length c0_1], .int .i64 1048576] ?_; (with_reducible refine (laws_szNet.calls a0_0 _ _ l0_1 1048576 t742 _ ?side1 ?side2 A3.out).mono ?_); (case side1 => exact nc_ (Kd.C_below HR0_1.out HB.out)); (case side2 => exact HC0_1.out); rintro e w87 ⟨rfl, hb⟩; refine ⟨_, rfl, ?_⟩; replace BK741 := kb_ BK741 hb; replace HB := kB_ HB hb; (try clear hb); (try clear hb2); (try clear hk); (try clear hi); obtain ⟨hcz88_0, hcz88_1, hfz88_0, hfz88_1⟩ := cz2_ BK741.out) | ((with_reducible refine gate_callee (f := 22) rfl ?_); refine gl_ (some 19) Try.func22 #[.agg #[.int .i64 a0_0, .slice A0_1 l0_1.length c0_1]] ?_; (with_reducible refine (laws_toNet.calls k a0_0 _ _ l0_1 t743 t744 _ ?side1 ?side2 A8.out).mono ?_); (case side1 => exact nc_ (Kd.C_below HR0_1.out HB.out)); (case side2 => exact HC0_1.out); rintro e w89 ⟨v745, rfl, ho0, hb⟩; refine ⟨_, rfl, ?_⟩; have HO746 := Aside0.mk (Kd.R_lower ho0 (below_size (ne_ HB.out))); replace BK741 := kb_ BK741 hb; replace HB := kB_ HB hb; (try clear hb); (try clear hb2); (try clear hk); (try clear hi); (try clear ho0); obtain ⟨Ao90, co90, eo90⟩ := Kd.R_slice HO746.out; subst eo90) | ((with_reducible refine gate_callee (f := 33) rfl ?_); refine gl_ (some 21) Try.func33 #[.agg #[.int .i64 t743, .slice Ao90 t744.length co90], .int .i64 a1] ?_; (with_reducible refine (spec_NearTree.calls k t743 _ _ t744 a1 t747 _ ?side1 ?side2 A9.out).mono ?_); (case side1 => exact nc_ (rR10 HO746.out).2.2); (case side2 => exact (rR10 HO746.out).2.1); rintro e w91 ⟨v748, rfl, ho0, hb⟩; refine ⟨_, rfl, ?_⟩; have HO749 := Aside0.mk (Kd.R_lower ho0 (below_size (ne_ HB.out))); replace HO746 := kR_ HO746 hb; replace BK741 := kb_ BK741 hb; replace HB := kB_ HB hb; (try clear hb); (try clear hb2); (try clear hk); (try clear hi); (try clear ho0); obtain ⟨hcz92_0, hcz92_1, hfz92_0, hfz92_1⟩ := cz2_ BK741.out) | ((with_reducible refine gate_callee (f := 22) rfl ?_); refine gl_ (some 23) Try.func22 #[.agg #[.int .i64 a0_0, .slice A0_1 l0_1.length c0_1]] ?_; (with_reducible refine (laws_toNet.calls k a0_0 _ _ l0_1 t750 t751 _ ?side1 ?side2 A10.out).mono ?_); (case side1 => exact nc_ (Kd.C_below HR0_1.out HB.out)); (case side2 => exact HC0_1.out); rintro e w93 ⟨v752, rfl, ho0, hb⟩; refine ⟨_, rfl, ?_⟩; have HO753 := Aside0.mk (Kd.R_lower (Kd.R_new' ho0 (Kd.R_lt (nr_ HO746.out))) (below_size (ne_ HB.out))); replace HO746 := Aside0.mk (Kd.R_elder' (nr_ HO746.out) (Kd.R_base ho0) hb); replace HO749 := kR_ HO749 hb; replace BK741 := kb_ BK741 hb; replace HB := kB_ HB hb; (try clear hb); (try clear hb2); (try clear hk); (try clear hi); (try clear ho0)) | ((with_reducible refine gate_dst (N := 7) rfl ?_); refine bx_ 7 #[.int .i64 0, .slice none 0 0] 25 ?_; intro gb754 hg w94 hbox hb; have BK754 := Aside0.mk (hbox); have GW754 := Aside0.mk (zs_ hg (ne_ HB.out)); have GE754 := Aside0.mk (zs_ hg (ne_ HB.out)); have NB741_754 := Aside0.mk (nl_ BK741.out hg); have NB754_741 := Aside0.mk (nm_ BK741.out hg); replace HO746 := kR_ HO746 hb; replace HO749 := kR_ HO749 hb; replace HO753 := kR_ HO753 hb; replace BK741 := kb_ BK741 hb; replace HB := kB_ HB hb; clear hb hbox hg; have hnb95 := NB754_741.out; have hnc95 := NB741_754.out; obtain ⟨hcz96_0, hcz96_1, hfz96_0, hfz96_1⟩ := cz2_ BK754.out; obtain ⟨Ao97, co97, eo97⟩ := Kd.R_slice HO753.out; subst eo97) | ((with_reducible refine gate_callee (f := 32) rfl ?_); refine gl_ (some 26) Try.func32 #[.agg #[.int .i64 t750, .slice Ao97 t751.length co97], .int .i64 a1] ?_; (with_reducible refine (impl_NearTree.calls k t750 _ _ t751 a1 t755 _ ?side1 ?side2 A11.out).mono ?_); (case side1 => refine (rR10 (e := 33) (base := w.heap.size) (ok := fun k_ => (True ∧ some k_ ≠ (.slice Ao90 t744.length co90 : Value).ownBlock)) (n := t751.length) (c := co97) ?_).2.2; exact (by (with_reducible repeat (first | apply Kd.R_alloc | apply Kd.R_drewN | apply rD10)); exact (Kd.R_mono (rf2_ (Kd.R_types HO753.out BK754.out (by decide))) (fun _ h_ => h_.1)))); (case side2 => exact (rR10 HO753.out).2.1); rintro e w98 ⟨v756, rfl, ho0, hb⟩; refine ⟨_, rfl, ?_⟩; have HO757 := Aside0.mk (Kd.R_lower (Kd.R_new' ho0 (Kd.R_lt (by (with_reducible repeat (first | apply Kd.R_alloc | apply Kd.R_drewN | apply rD10)); exact (Kd.R_mono (rf2_ (Kd.R_types HO749.out BK754.out (by decide))) (fun _ h_ => h_.1))))) (below_size (ne_ HB.out))); replace HO746 := Aside0.mk (Kd.R_below (by (with_reducible repeat (first | apply Kd.R_alloc | apply Kd.R_drewN | apply rD10)); exact (Kd.R_mono (rf2_ (Kd.R_types HO746.out BK754.out (by decide))) (fun _ h_ => h_.1))) hb); replace HO749 := Aside0.mk (Kd.R_elder' (by (with_reducible repeat (first | apply Kd.R_alloc | apply Kd.R_drewN | apply rD10)); exact (Kd.R_mono (rf2_ (Kd.R_types HO749.out BK754.out (by decide))) (fun _ h_ => h_.1))) (Kd.R_base ho0) hb); replace HO753 := Aside0.mk (Kd.R_below (by (with_reducible repeat (first | apply Kd.R_alloc | apply Kd.R_drewN | apply rD10)); exact (Kd.R_mono (rf2_ (Kd.R_types HO753.out BK754.out (by decide))) (fun _ h_ => h_.1))) hb); replace BK741 := kf_ BK741 hb; replace BK754 := Aside0.mk (blk_below (g := gb754) (o := .cells #[.int .i64 t750, .slice Ao97 t751.length co97] 25 (0, 0)) (np_ BK754.out) hb); replace HB := kB_ HB hb; (try clear hb); (try clear hb2); (try clear hk); (try clear hi); (try clear ho0); obtain ⟨Ao99, co99, eo99⟩ := Kd.R_slice HO757.out; subst eo99; obtain ⟨Ao100, co100, eo100⟩ := Kd.R_slice HO749.out; subst eo100) | ((with_reducible refine gate_callee (f := 23) rfl ?_); refine gl_ (some 29) Try.func23 #[.slice Ao99 t755.length co99, .slice Ao100 t747.length co100] ?_; (with_reducible refine (laws_eqIntS.calls k _ _ t755 _ _ t747 true _ ?side1 ?side2 ?side3 ?side4 A12.out).mono ?_); (case side1 => exact nc_ (rR10 HO757.out).2.2); (case side2 => exact (rR10 HO757.out).2.1); (case side3 => exact nc_ (rR10 HO749.out).2.2); (case side4 => exact (rR10 HO749.out).2.1); rintro e w' ⟨rfl, ⟨nd, rfl⟩⟩; refine ⟨_, rfl, ?_⟩))
   (first | (rw [drewN_self w98]; generalize hq_ : World.drewN w98 _ = w98; replace HO746 : Aside0 (Kd.R k33 33 w98 w.heap.size (fun k_ => some k_ ≠ (.slice Ao97 t751.length co97 : Value).ownBlock) (.slice Ao90 t744.length co90) t744) := ⟨by rw [← hq_]; exact (by (with_reducible repeat (first | apply Kd.R_alloc | apply Kd.R_drewN | apply rD10)); exact Kd.R_mono HO746.out (fun _ hk => by first | exact hk.2 | trivial | simp_all))⟩; replace HO749 : Aside0 (Kd.R (Kd.int .i64) 3 w98 w.heap.size (fun k_ => some k_ ≠ (.slice Ao99 t755.length co99 : Value).ownBlock) (.slice Ao100 t747.length co100) t747) := ⟨by rw [← hq_]; exact (by (with_reducible repeat (first | apply Kd.R_alloc | apply Kd.R_drewN | apply rD10)); exact Kd.R_mono HO749.out (fun _ hk => by first | exact hk.2 | trivial | simp_all))⟩; replace HO753 : Aside0 (Kd.R k33 33 w98 w.heap.size (fun k_ => some k_ ≠ (.slice Ao90 t744.length co90 : Value).ownBlock) (.slice Ao97 t751.length co97) t751) := ⟨by rw [← hq_]; exact (by (with_reducible repeat (first | apply Kd.R_alloc | apply Kd.R_drewN | apply rD10)); exact Kd.R_mono HO753.out (fun _ hk => by first | exact hk.2 | trivial | simp_all))⟩; replace HO757 : Aside0 (Kd.R (Kd.int .i64) 3 w98 w.heap.size (fun k_ => some k_ ≠ (.slice Ao100 t747.length co100 : Value).ownBlock) (.slice Ao99 t755.length co99) t755) := ⟨by rw [← hq_]; exact (by (with_reducible repeat (first | apply Kd.R_alloc | apply Kd.R_drewN | apply rD10)); exact Kd.R_mono HO757.out (fun _ hk => by first | exact hk.2 | trivial | simp_all))⟩; replace BK741 : Aside0 (w98.heap[gb741]? = some (.cells #[.int .i64 a0_0, .slice A0_1 l0_1.length c0_1] 39 (0, 0))) := ⟨by rw [← hq_]; exact (nb_ BK741.out)⟩; replace BK754 : Aside0 (w98.heap[gb754]? = some (.cells #[.int .i64 t750, .slice Ao97 t751.length co97] 25 (0, 0))) := ⟨by rw [← hq_]; exact (nb_ BK754.out)⟩; replace HB : Aside0 (Below w.heap.size w w98) := ⟨by rw [← hq_]; exact (ne_ HB.out)⟩; clear hq_) | (have n0_ : Aside0 (Kd.R k33 33 w98 w.heap.size (fun k_ => some k_ ≠ (.slice Ao97 t751.length co97 : Value).ownBlock) (.slice Ao90 t744.length co90) t744) := ⟨(by (with_reducible repeat (first | apply Kd.R_alloc | apply Kd.R_drewN | apply rD10)); exact Kd.R_mono HO746.out (fun _ hk => by first | exact hk.2 | trivial | simp_all))⟩; have n1_ : Aside0 (Kd.R (Kd.int .i64) 3 w98 w.heap.size (fun k_ => some k_ ≠ (.slice Ao99 t755.length co99 : Value).ownBlock) (.slice Ao100 t747.length co100) t747) := ⟨(by (with_reducible repeat (first | apply Kd.R_alloc | apply Kd.R_drewN | apply rD10)); exact Kd.R_mono HO749.out (fun _ hk => by first | exact hk.2 | trivial | simp_all))⟩; have n2_ : Aside0 (Kd.R k33 33 w98 w.heap.size (fun k_ => some k_ ≠ (.slice Ao90 t744.length co90 : Value).ownBlock) (.slice Ao97 t751.length co97) t751) := ⟨(by (with_reducible repeat (first | apply Kd.R_alloc | apply Kd.R_drewN | apply rD10)); exact Kd.R_mono HO753.out (fun _ hk => by first | exact hk.2 | trivial | simp_all))⟩; have n3_ : Aside0 (Kd.R (Kd.int .i64) 3 w98 w.heap.size (fun k_ => some k_ ≠ (.slice Ao100 t747.length co100 : Value).ownBlock) (.slice Ao99 t755.length co99) t755) := ⟨(by (with_reducible repeat (first | apply Kd.R_alloc | apply Kd.R_drewN | apply rD10)); exact Kd.R_mono HO757.out (fun _ hk => by first | exact hk.2 | trivial | simp_all))⟩; have n4_ : Aside0 (w98.heap[gb741]? = some (.cells #[.int .i64 a0_0, .slice A0_1 l0_1.length c0_1] 39 (0, 0))) := ⟨(nb_ BK741.out)⟩; have n5_ : Aside0 (w98.heap[gb754]? = some (.cells #[.int .i64 t750, .slice Ao97 t751.length co97] 25 (0, 0))) := ⟨(nb_ BK754.out)⟩; have n6_ : Aside0 (Below w.heap.size w w98) := ⟨(ne_ HB.out)⟩; clear HO746 HO749 HO753 HO757 BK741 BK754 HB; have HO746 := n0_; have HO749 := n1_; have HO753 := n2_; have HO757 := n3_; have BK741 := n4_; have BK754 := n5_; have HB := n6_; clear n0_ n1_ n2_ n3_ n4_ n5_ n6_))
   have n0_ := Aside0.mk (rD10 HO746.out)
   have n1_ := Aside0.mk (rD10 HO749.out)
   have n2_ := Aside0.mk (rD10 HO753.out)
   have n3_ := Aside0.mk (rD10 HO757.out)
   have n4_ := Aside0.mk (blk_drew BK741.out)
   have n5_ := Aside0.mk (blk_drew BK754.out)
   have n6_ := Aside0.mk (below_drew1 HB.out)
   clear HO746
   clear HO749
   clear HO753
   clear HO757
   clear BK741
   clear BK754
   clear HB
   have HO746 := n0_
   have HO749 := n1_
   have HO753 := n2_
   have HO757 := n3_
   have BK741 := n4_
   have BK754 := n5_
   have HB := n6_
   clear n0_ n1_ n2_ n3_ n4_ n5_ n6_
   refine start_ (n := 5) (S := fun w' => w'.cell? ⟨gb754, 0, none⟩ = some (.int .i64 t750) ∧ w'.cell? ⟨gb754, 1, none⟩ = some (.slice Ao97 t751.length co97) ∧ w'.cell? ⟨gb741, 0, none⟩ = some (.int .i64 a0_0) ∧ w'.cell? ⟨gb741, 1, none⟩ = some (.slice A0_1 l0_1.length c0_1)) (ds := []) #[false, false, false, false, false] (by kernel_rfl) rfl rfl ⟨(blk_cell BK754.out 0).trans rfl, (blk_cell BK754.out 1).trans rfl, (blk_cell BK741.out 0).trans rfl, (blk_cell BK741.out 1).trans rfl⟩ (fun hHeld => ?_)
   generalize w98.drew = w101 at HO746 HO749 HO753 HO757 BK741 BK754 HB hHeld ⊢
   refine take_ (i := 0) (N := some 31) (v := ?_) (a' := ?_) #[true, false, false, false, false] rfl rfl (by kernel_rfl) (fun _ _ _ h => h) (Or.inl ⟨by rfl, ?_⟩) hHeld ?_ ?_
   rotate_left
   ·rintro w' ⟨s0, s1, s2, s3⟩
    go_simp
    with_reducible rfl
   rotate_left
   ·simp only [Act.put, List.setIfInBounds_toArray, List.set_cons_zero, List.set_cons_succ, i64_w, i32_w]
    rfl
   refine take_ (i := 1) (N := some 32) (v := ?_) (a' := ?_) #[true, true, false, false, false] rfl rfl (by kernel_rfl) (fun _ _ _ h => h) (Or.inl ⟨by rfl, ?_⟩) hHeld ?_ ?_
   rotate_left
   ·rintro w' ⟨s0, s1, s2, s3⟩
    go_simp
    with_reducible rfl
   rotate_left
   ·simp only [Act.put, List.setIfInBounds_toArray, List.set_cons_zero, List.set_cons_succ, i64_w, i32_w]
    rfl
   refine one_ (i := 2) (N := some 33) #[true, true, true, false, false] rfl rfl (by kernel_rfl) (by decide) (fun K hK => ?_)
   refine goes_ Try.func22 (by kernel_rfl) rfl #[.agg #[.int .i64 a0_0, .slice A0_1 l0_1.length c0_1]] (by rfl) rfl rfl na_ ?_
   with_reducible refine (laws_toNet.calls k a0_0 _ _ l0_1 t759 t760 _ ?side1 ?side2 A14.out).mono ?_
   (case side1 => exact nc_ (Kd.C_below HR0_1.out HB.out))
   (case side2 => exact HC0_1.out)
   rintro e w102 ⟨v761, rfl, ho0, hb⟩
   refine ⟨_, rfl, ?_⟩
   have n0_ := Aside0.mk (Kd.R_elder' (nr_ HO746.out) (Kd.R_base ho0) hb)
   have n1_ := Aside0.mk (Kd.R_below (nr_ HO749.out) hb)
   have n2_ := Aside0.mk (Kd.R_elder' (nr_ HO753.out) (Kd.R_base ho0) hb)
   have n3_ := Aside0.mk (Kd.R_below (nr_ HO757.out) hb)
   have n4_ := Aside0.mk (Kd.R_lower (Kd.R_new' (Kd.R_new' ho0 (Kd.R_lt (nr_ HO746.out))) (Kd.R_lt (nr_ HO753.out))) (below_size (ne_ HB.out)))
   have n5_ := Aside0.mk (blk_below (g := gb741) (o := .cells #[.int .i64 a0_0, .slice A0_1 l0_1.length c0_1] 39 (0, 0)) (nb_ BK741.out) hb)
   have n6_ := Aside0.mk (blk_below (g := gb754) (o := .cells #[.int .i64 t750, .slice Ao97 t751.length co97] 25 (0, 0)) (nb_ BK754.out) hb)
   have n7_ := Aside0.mk (below_step (ne_ HB.out) hb)
   clear HO746
   clear HO749
   clear HO753
   clear HO757
   clear BK741
   clear BK754
   clear HB
   have HO746 := n0_
   have HO749 := n1_
   have HO753 := n2_
   have HO757 := n3_
   have HO762 := n4_
   have BK741 := n5_
   have BK754 := n6_
   have HB := n7_
   clear n0_ n1_ n2_ n3_ n4_ n5_ n6_ n7_
   (try clear hb)
   (try clear hb2)
   (try clear hk)
   (try clear hi)
   (try clear ho0)
   obtain ⟨Ao103, co103, eo103⟩ := Kd.R_slice HO762.out
   (first | subst eo103 | (injection eo103 with f1_ f2_ f3_; have f4_ := f1_.symm; have f5_ := f3_.symm; clear f1_ f2_ f3_; subst f4_; subst f5_))
   refine hK.out _ _ ⟨(blk_cell BK754.out 0).trans rfl, (blk_cell BK754.out 1).trans rfl, (blk_cell BK741.out 0).trans rfl, (blk_cell BK741.out 1).trans rfl⟩ (fun hHeld => ?_)
   clear hK K
   refine norm_ (a' := ?_) ?_ ?_
   rotate_left
   ·show Act.put _ (some 33) _ = _
    simp only [Act.put, List.setIfInBounds_toArray, List.set_cons_zero, List.set_cons_succ, i64_w, i32_w]
    rfl
   refine one_ (i := 3) (N := some 34) #[true, true, true, true, false] rfl rfl (by kernel_rfl) (by decide) (fun K hK => ?_)
   refine goes_ Try.func24 (by kernel_rfl) rfl #[.agg #[.int .i64 t750, .slice Ao97 t751.length co97], .agg #[.int .i64 t759, .slice Ao103 t760.length co103]] (by rfl) rfl rfl na_ ?_
   with_reducible refine (laws_eqNet.calls k t750 _ _ t751 t759 _ _ t760 false _ ?side1 ?side2 ?side3 ?side4 A15.out).mono ?_
   (case side1 => exact nc_ (rR10 HO753.out).2.2)
   (case side2 => exact (rR10 HO753.out).2.1)
   (case side3 => exact nc_ (rR10 HO762.out).2.2)
   (case side4 => exact (rR10 HO762.out).2.1)
   rintro e w104 ⟨rfl, hb⟩
   refine ⟨_, rfl, ?_⟩
   have n0_ := Aside0.mk (Kd.R_below (nr_ HO746.out) hb)
   have n1_ := Aside0.mk (Kd.R_below (nr_ HO749.out) hb)
   have n2_ := Aside0.mk (Kd.R_below (nr_ HO753.out) hb)
   have n3_ := Aside0.mk (Kd.R_below (nr_ HO757.out) hb)
   have n4_ := Aside0.mk (Kd.R_below (nr_ HO762.out) hb)
   have n5_ := Aside0.mk (blk_below (g := gb741) (o := .cells #[.int .i64 a0_0, .slice A0_1 l0_1.length c0_1] 39 (0, 0)) (nb_ BK741.out) hb)
   have n6_ := Aside0.mk (blk_below (g := gb754) (o := .cells #[.int .i64 t750, .slice Ao97 t751.length co97] 25 (0, 0)) (nb_ BK754.out) hb)
   have n7_ := Aside0.mk (below_step (ne_ HB.out) hb)
   clear HO746
   clear HO749
   clear HO753
   clear HO757
   clear HO762
   clear BK741
   clear BK754
   clear HB
   have HO746 := n0_
   have HO749 := n1_
   have HO753 := n2_
   have HO757 := n3_
   have HO762 := n4_
   have BK741 := n5_
   have BK754 := n6_
   have HB := n7_
   clear n0_ n1_ n2_ n3_ n4_ n5_ n6_ n7_
   (try clear hb)
   (try clear hb2)
   (try clear hk)
   (try clear hi)
   refine hK.out _ _ ⟨(blk_cell BK754.out 0).trans rfl, (blk_cell BK754.out 1).trans rfl, (blk_cell BK741.out 0).trans rfl, (blk_cell BK741.out 1).trans rfl⟩ (fun hHeld => ?_)
   clear hK K
   refine norm_ (a' := ?_) ?_ ?_
   rotate_left
   ·show Act.put _ (some 34) _ = _
    simp only [Act.put, List.setIfInBounds_toArray, List.set_cons_zero, List.set_cons_succ, i64_w, i32_w]
    rfl
   refine pure_ (i := 4) (N := some 35) (v := ?_) (a' := ?_) #[true, true, true, true, true] rfl rfl (by kernel_rfl) (fun _ _ _ h => h) (Or.inl ⟨by rfl, ?_⟩) ?_ ?_
   rotate_left
   ·intro w'
    go_simp
    with_reducible rfl
   rotate_left
   ·simp only [Act.put, List.setIfInBounds_toArray, List.set_cons_zero, List.set_cons_succ, i64_w, i32_w]
    rfl
   refine done_ (by kernel_rfl) ?_
   try go_wp2
   go_ret
   exact ⟨nw_, ne_ HB.out⟩
  subst c16
  have H1 : ((laws_markNet.f k t750 t751 1).bind fun bt764 => (if bt764.1 < 0 then (laws_FnExactNearTree.j0 k a1 t747 t755 true a0_0 l0_1) else ((laws_eqIntS.f k t755 t747).bind fun t766 => (laws_FnExactNearTree.j0 k a1 t747 t755 (!t766) a0_0 l0_1)))) = some r := by rw [if_pos rfl] at H; exact H
  clear H
  have H := H1
  clear H1
  replace H := Option.bind_eq_some_iff.mp H
  obtain ⟨⟨t764, t765⟩, A170, H⟩ := H
  replace H : (if t764 < 0 then (laws_FnExactNearTree.j0 k a1 t747 t755 true a0_0 l0_1) else ((laws_eqIntS.f k t755 t747).bind fun t766 => (laws_FnExactNearTree.j0 k a1 t747 t755 (!t766) a0_0 l0_1))) = some r := H
  have A17 := Aside0.mk A170
  clear A170
  have HC18 := Aside0.mk H
  clear H
  go_enter Try.func10, Try.ntmps10
  try go_wp2_with (first | ((with_reducible refine gate_dst (N := 2) rfl ?_); refine bx_ 2 #[.int .i64 a0_0, .slice A0_1 l0_1.length c0_1] 39 ?_; intro gb741 hg w19 hbox hb; have BK741 := Aside0.mk (hbox); have GW741 := Aside0.mk (zs_ hg (ne_ HB.out)); have GE741 := Aside0.mk (zs_ hg (ne_ HB.out)); replace HB := kB_ HB hb; clear hb hbox hg; obtain ⟨hcz20_0, hcz20_1, hfz20_0, hfz20_1⟩ := cz2_ BK741.out) | ((with_reducible refine gate_callee (f := 21) rfl ?_); refine gl_ (some 15) Try.func21 #[.agg #[.int .i64 a0_0, .slice A0_1 l0_1.length c0_1], .int .i64 1048576] ?_; (with_reducible refine (laws_szNet.calls a0_0 _ _ l0_1 1048576 t742 _ ?side1 ?side2 A3.out).mono ?_); (case side1 => exact nc_ (Kd.C_below HR0_1.out HB.out)); (case side2 => exact HC0_1.out); rintro e w21 ⟨rfl, hb⟩; refine ⟨_, rfl, ?_⟩; replace BK741 := kb_ BK741 hb; replace HB := kB_ HB hb; (try clear hb); (try clear hb2); (try clear hk); (try clear hi); obtain ⟨hcz22_0, hcz22_1, hfz22_0, hfz22_1⟩ := cz2_ BK741.out) | ((with_reducible refine gate_callee (f := 22) rfl ?_); refine gl_ (some 19) Try.func22 #[.agg #[.int .i64 a0_0, .slice A0_1 l0_1.length c0_1]] ?_; (with_reducible refine (laws_toNet.calls k a0_0 _ _ l0_1 t743 t744 _ ?side1 ?side2 A8.out).mono ?_); (case side1 => exact nc_ (Kd.C_below HR0_1.out HB.out)); (case side2 => exact HC0_1.out); rintro e w23 ⟨v745, rfl, ho0, hb⟩; refine ⟨_, rfl, ?_⟩; have HO746 := Aside0.mk (Kd.R_lower ho0 (below_size (ne_ HB.out))); replace BK741 := kb_ BK741 hb; replace HB := kB_ HB hb; (try clear hb); (try clear hb2); (try clear hk); (try clear hi); (try clear ho0); obtain ⟨Ao24, co24, eo24⟩ := Kd.R_slice HO746.out; subst eo24) | ((with_reducible refine gate_callee (f := 33) rfl ?_); refine gl_ (some 21) Try.func33 #[.agg #[.int .i64 t743, .slice Ao24 t744.length co24], .int .i64 a1] ?_; (with_reducible refine (spec_NearTree.calls k t743 _ _ t744 a1 t747 _ ?side1 ?side2 A9.out).mono ?_); (case side1 => exact nc_ (rR10 HO746.out).2.2); (case side2 => exact (rR10 HO746.out).2.1); rintro e w25 ⟨v748, rfl, ho0, hb⟩; refine ⟨_, rfl, ?_⟩; have HO749 := Aside0.mk (Kd.R_lower ho0 (below_size (ne_ HB.out))); replace HO746 := kR_ HO746 hb; replace BK741 := kb_ BK741 hb; replace HB := kB_ HB hb; (try clear hb); (try clear hb2); (try clear hk); (try clear hi); (try clear ho0); obtain ⟨hcz26_0, hcz26_1, hfz26_0, hfz26_1⟩ := cz2_ BK741.out) | ((with_reducible refine gate_callee (f := 22) rfl ?_); refine gl_ (some 23) Try.func22 #[.agg #[.int .i64 a0_0, .slice A0_1 l0_1.length c0_1]] ?_; (with_reducible refine (laws_toNet.calls k a0_0 _ _ l0_1 t750 t751 _ ?side1 ?side2 A10.out).mono ?_); (case side1 => exact nc_ (Kd.C_below HR0_1.out HB.out)); (case side2 => exact HC0_1.out); rintro e w27 ⟨v752, rfl, ho0, hb⟩; refine ⟨_, rfl, ?_⟩; have HO753 := Aside0.mk (Kd.R_lower (Kd.R_new' ho0 (Kd.R_lt (nr_ HO746.out))) (below_size (ne_ HB.out))); replace HO746 := Aside0.mk (Kd.R_elder' (nr_ HO746.out) (Kd.R_base ho0) hb); replace HO749 := kR_ HO749 hb; replace BK741 := kb_ BK741 hb; replace HB := kB_ HB hb; (try clear hb); (try clear hb2); (try clear hk); (try clear hi); (try clear ho0)) | ((with_reducible refine gate_dst (N := 7) rfl ?_); refine bx_ 7 #[.int .i64 0, .slice none 0 0] 25 ?_; intro gb754 hg w28 hbox hb; have BK754 := Aside0.mk (hbox); have GW754 := Aside0.mk (zs_ hg (ne_ HB.out)); have GE754 := Aside0.mk (zs_ hg (ne_ HB.out)); have NB741_754 := Aside0.mk (nl_ BK741.out hg); have NB754_741 := Aside0.mk (nm_ BK741.out hg); replace HO746 := kR_ HO746 hb; replace HO749 := kR_ HO749 hb; replace HO753 := kR_ HO753 hb; replace BK741 := kb_ BK741 hb; replace HB := kB_ HB hb; clear hb hbox hg; have hnb29 := NB754_741.out; have hnc29 := NB741_754.out; obtain ⟨hcz30_0, hcz30_1, hfz30_0, hfz30_1⟩ := cz2_ BK754.out; obtain ⟨Ao31, co31, eo31⟩ := Kd.R_slice HO753.out; subst eo31) | ((with_reducible refine gate_callee (f := 32) rfl ?_); refine gl_ (some 26) Try.func32 #[.agg #[.int .i64 t750, .slice Ao31 t751.length co31], .int .i64 a1] ?_; (with_reducible refine (impl_NearTree.calls k t750 _ _ t751 a1 t755 _ ?side1 ?side2 A11.out).mono ?_); (case side1 => refine (rR10 (e := 33) (base := w.heap.size) (ok := fun k_ => (True ∧ some k_ ≠ (.slice Ao24 t744.length co24 : Value).ownBlock)) (n := t751.length) (c := co31) ?_).2.2; exact (by (with_reducible repeat (first | apply Kd.R_alloc | apply Kd.R_drewN | apply rD10)); exact (Kd.R_mono (rf2_ (Kd.R_types HO753.out BK754.out (by decide))) (fun _ h_ => h_.1)))); (case side2 => exact (rR10 HO753.out).2.1); rintro e w32 ⟨v756, rfl, ho0, hb⟩; refine ⟨_, rfl, ?_⟩; have HO757 := Aside0.mk (Kd.R_lower (Kd.R_new' ho0 (Kd.R_lt (by (with_reducible repeat (first | apply Kd.R_alloc | apply Kd.R_drewN | apply rD10)); exact (Kd.R_mono (rf2_ (Kd.R_types HO749.out BK754.out (by decide))) (fun _ h_ => h_.1))))) (below_size (ne_ HB.out))); replace HO746 := Aside0.mk (Kd.R_below (by (with_reducible repeat (first | apply Kd.R_alloc | apply Kd.R_drewN | apply rD10)); exact (Kd.R_mono (rf2_ (Kd.R_types HO746.out BK754.out (by decide))) (fun _ h_ => h_.1))) hb); replace HO749 := Aside0.mk (Kd.R_elder' (by (with_reducible repeat (first | apply Kd.R_alloc | apply Kd.R_drewN | apply rD10)); exact (Kd.R_mono (rf2_ (Kd.R_types HO749.out BK754.out (by decide))) (fun _ h_ => h_.1))) (Kd.R_base ho0) hb); replace HO753 := Aside0.mk (Kd.R_below (by (with_reducible repeat (first | apply Kd.R_alloc | apply Kd.R_drewN | apply rD10)); exact (Kd.R_mono (rf2_ (Kd.R_types HO753.out BK754.out (by decide))) (fun _ h_ => h_.1))) hb); replace BK741 := kf_ BK741 hb; replace BK754 := Aside0.mk (blk_below (g := gb754) (o := .cells #[.int .i64 t750, .slice Ao31 t751.length co31] 25 (0, 0)) (np_ BK754.out) hb); replace HB := kB_ HB hb; (try clear hb); (try clear hb2); (try clear hk); (try clear hi); (try clear ho0); obtain ⟨Ao33, co33, eo33⟩ := Kd.R_slice HO757.out; subst eo33; obtain ⟨Ao34, co34, eo34⟩ := Kd.R_slice HO749.out; subst eo34) | ((with_reducible refine gate_callee (f := 23) rfl ?_); refine gl_ (some 29) Try.func23 #[.slice Ao33 t755.length co33, .slice Ao34 t747.length co34] ?_; (with_reducible refine (laws_eqIntS.calls k _ _ t755 _ _ t747 true _ ?side1 ?side2 ?side3 ?side4 A12.out).mono ?_); (case side1 => exact nc_ (rR10 HO757.out).2.2); (case side2 => exact (rR10 HO757.out).2.1); (case side3 => exact nc_ (rR10 HO749.out).2.2); (case side4 => exact (rR10 HO749.out).2.1); rintro e w' ⟨rfl, ⟨nd, rfl⟩⟩; refine ⟨_, rfl, ?_⟩))
  (first | (rw [drewN_self w32]; generalize hq_ : World.drewN w32 _ = w32; replace HO746 : Aside0 (Kd.R k33 33 w32 w.heap.size (fun k_ => some k_ ≠ (.slice Ao31 t751.length co31 : Value).ownBlock) (.slice Ao24 t744.length co24) t744) := ⟨by rw [← hq_]; exact (by (with_reducible repeat (first | apply Kd.R_alloc | apply Kd.R_drewN | apply rD10)); exact Kd.R_mono HO746.out (fun _ hk => by first | exact hk.2 | trivial | simp_all))⟩; replace HO749 : Aside0 (Kd.R (Kd.int .i64) 3 w32 w.heap.size (fun k_ => some k_ ≠ (.slice Ao33 t755.length co33 : Value).ownBlock) (.slice Ao34 t747.length co34) t747) := ⟨by rw [← hq_]; exact (by (with_reducible repeat (first | apply Kd.R_alloc | apply Kd.R_drewN | apply rD10)); exact Kd.R_mono HO749.out (fun _ hk => by first | exact hk.2 | trivial | simp_all))⟩; replace HO753 : Aside0 (Kd.R k33 33 w32 w.heap.size (fun k_ => some k_ ≠ (.slice Ao24 t744.length co24 : Value).ownBlock) (.slice Ao31 t751.length co31) t751) := ⟨by rw [← hq_]; exact (by (with_reducible repeat (first | apply Kd.R_alloc | apply Kd.R_drewN | apply rD10)); exact Kd.R_mono HO753.out (fun _ hk => by first | exact hk.2 | trivial | simp_all))⟩; replace HO757 : Aside0 (Kd.R (Kd.int .i64) 3 w32 w.heap.size (fun k_ => some k_ ≠ (.slice Ao34 t747.length co34 : Value).ownBlock) (.slice Ao33 t755.length co33) t755) := ⟨by rw [← hq_]; exact (by (with_reducible repeat (first | apply Kd.R_alloc | apply Kd.R_drewN | apply rD10)); exact Kd.R_mono HO757.out (fun _ hk => by first | exact hk.2 | trivial | simp_all))⟩; replace BK741 : Aside0 (w32.heap[gb741]? = some (.cells #[.int .i64 a0_0, .slice A0_1 l0_1.length c0_1] 39 (0, 0))) := ⟨by rw [← hq_]; exact (nb_ BK741.out)⟩; replace BK754 : Aside0 (w32.heap[gb754]? = some (.cells #[.int .i64 t750, .slice Ao31 t751.length co31] 25 (0, 0))) := ⟨by rw [← hq_]; exact (nb_ BK754.out)⟩; replace HB : Aside0 (Below w.heap.size w w32) := ⟨by rw [← hq_]; exact (ne_ HB.out)⟩; clear hq_) | (have n0_ : Aside0 (Kd.R k33 33 w32 w.heap.size (fun k_ => some k_ ≠ (.slice Ao31 t751.length co31 : Value).ownBlock) (.slice Ao24 t744.length co24) t744) := ⟨(by (with_reducible repeat (first | apply Kd.R_alloc | apply Kd.R_drewN | apply rD10)); exact Kd.R_mono HO746.out (fun _ hk => by first | exact hk.2 | trivial | simp_all))⟩; have n1_ : Aside0 (Kd.R (Kd.int .i64) 3 w32 w.heap.size (fun k_ => some k_ ≠ (.slice Ao33 t755.length co33 : Value).ownBlock) (.slice Ao34 t747.length co34) t747) := ⟨(by (with_reducible repeat (first | apply Kd.R_alloc | apply Kd.R_drewN | apply rD10)); exact Kd.R_mono HO749.out (fun _ hk => by first | exact hk.2 | trivial | simp_all))⟩; have n2_ : Aside0 (Kd.R k33 33 w32 w.heap.size (fun k_ => some k_ ≠ (.slice Ao24 t744.length co24 : Value).ownBlock) (.slice Ao31 t751.length co31) t751) := ⟨(by (with_reducible repeat (first | apply Kd.R_alloc | apply Kd.R_drewN | apply rD10)); exact Kd.R_mono HO753.out (fun _ hk => by first | exact hk.2 | trivial | simp_all))⟩; have n3_ : Aside0 (Kd.R (Kd.int .i64) 3 w32 w.heap.size (fun k_ => some k_ ≠ (.slice Ao34 t747.length co34 : Value).ownBlock) (.slice Ao33 t755.length co33) t755) := ⟨(by (with_reducible repeat (first | apply Kd.R_alloc | apply Kd.R_drewN | apply rD10)); exact Kd.R_mono HO757.out (fun _ hk => by first | exact hk.2 | trivial | simp_all))⟩; have n4_ : Aside0 (w32.heap[gb741]? = some (.cells #[.int .i64 a0_0, .slice A0_1 l0_1.length c0_1] 39 (0, 0))) := ⟨(nb_ BK741.out)⟩; have n5_ : Aside0 (w32.heap[gb754]? = some (.cells #[.int .i64 t750, .slice Ao31 t751.length co31] 25 (0, 0))) := ⟨(nb_ BK754.out)⟩; have n6_ : Aside0 (Below w.heap.size w w32) := ⟨(ne_ HB.out)⟩; clear HO746 HO749 HO753 HO757 BK741 BK754 HB; have HO746 := n0_; have HO749 := n1_; have HO753 := n2_; have HO757 := n3_; have BK741 := n4_; have BK754 := n5_; have HB := n6_; clear n0_ n1_ n2_ n3_ n4_ n5_ n6_))
  have n0_ := Aside0.mk (rD10 HO746.out)
  have n1_ := Aside0.mk (rD10 HO749.out)
  have n2_ := Aside0.mk (rD10 HO753.out)
  have n3_ := Aside0.mk (rD10 HO757.out)
  have n4_ := Aside0.mk (blk_drew BK741.out)
  have n5_ := Aside0.mk (blk_drew BK754.out)
  have n6_ := Aside0.mk (below_drew1 HB.out)
  clear HO746
  clear HO749
  clear HO753
  clear HO757
  clear BK741
  clear BK754
  clear HB
  have HO746 := n0_
  have HO749 := n1_
  have HO753 := n2_
  have HO757 := n3_
  have BK741 := n4_
  have BK754 := n5_
  have HB := n6_
  clear n0_ n1_ n2_ n3_ n4_ n5_ n6_
  refine start_ (n := 5) (S := fun w' => w'.cell? ⟨gb754, 0, none⟩ = some (.int .i64 t750) ∧ w'.cell? ⟨gb754, 1, none⟩ = some (.slice Ao31 t751.length co31) ∧ w'.cell? ⟨gb741, 0, none⟩ = some (.int .i64 a0_0) ∧ w'.cell? ⟨gb741, 1, none⟩ = some (.slice A0_1 l0_1.length c0_1)) (ds := []) #[false, false, false, false, false] (by kernel_rfl) rfl rfl ⟨(blk_cell BK754.out 0).trans rfl, (blk_cell BK754.out 1).trans rfl, (blk_cell BK741.out 0).trans rfl, (blk_cell BK741.out 1).trans rfl⟩ (fun hHeld => ?_)
  generalize w32.drew = w35 at HO746 HO749 HO753 HO757 BK741 BK754 HB hHeld ⊢
  refine take_ (i := 0) (N := some 31) (v := ?_) (a' := ?_) #[true, false, false, false, false] rfl rfl (by kernel_rfl) (fun _ _ _ h => h) (Or.inl ⟨by rfl, ?_⟩) hHeld ?_ ?_
  rotate_left
  ·rintro w' ⟨s0, s1, s2, s3⟩
   go_simp
   with_reducible rfl
  rotate_left
  ·simp only [Act.put, List.setIfInBounds_toArray, List.set_cons_zero, List.set_cons_succ, i64_w, i32_w]
   rfl
  refine take_ (i := 1) (N := some 32) (v := ?_) (a' := ?_) #[true, true, false, false, false] rfl rfl (by kernel_rfl) (fun _ _ _ h => h) (Or.inl ⟨by rfl, ?_⟩) hHeld ?_ ?_
  rotate_left
  ·rintro w' ⟨s0, s1, s2, s3⟩
   go_simp
   with_reducible rfl
  rotate_left
  ·simp only [Act.put, List.setIfInBounds_toArray, List.set_cons_zero, List.set_cons_succ, i64_w, i32_w]
   rfl
  refine one_ (i := 2) (N := some 33) #[true, true, true, false, false] rfl rfl (by kernel_rfl) (by decide) (fun K hK => ?_)
  refine goes_ Try.func22 (by kernel_rfl) rfl #[.agg #[.int .i64 a0_0, .slice A0_1 l0_1.length c0_1]] (by rfl) rfl rfl na_ ?_
  with_reducible refine (laws_toNet.calls k a0_0 _ _ l0_1 t759 t760 _ ?side1 ?side2 A14.out).mono ?_
  (case side1 => exact nc_ (Kd.C_below HR0_1.out HB.out))
  (case side2 => exact HC0_1.out)
  rintro e w36 ⟨v761, rfl, ho0, hb⟩
  refine ⟨_, rfl, ?_⟩
  have n0_ := Aside0.mk (Kd.R_elder' (nr_ HO746.out) (Kd.R_base ho0) hb)
  have n1_ := Aside0.mk (Kd.R_below (nr_ HO749.out) hb)
  have n2_ := Aside0.mk (Kd.R_elder' (nr_ HO753.out) (Kd.R_base ho0) hb)
  have n3_ := Aside0.mk (Kd.R_below (nr_ HO757.out) hb)
  have n4_ := Aside0.mk (Kd.R_lower (Kd.R_new' (Kd.R_new' ho0 (Kd.R_lt (nr_ HO746.out))) (Kd.R_lt (nr_ HO753.out))) (below_size (ne_ HB.out)))
  have n5_ := Aside0.mk (blk_below (g := gb741) (o := .cells #[.int .i64 a0_0, .slice A0_1 l0_1.length c0_1] 39 (0, 0)) (nb_ BK741.out) hb)
  have n6_ := Aside0.mk (blk_below (g := gb754) (o := .cells #[.int .i64 t750, .slice Ao31 t751.length co31] 25 (0, 0)) (nb_ BK754.out) hb)
  have n7_ := Aside0.mk (below_step (ne_ HB.out) hb)
  clear HO746
  clear HO749
  clear HO753
  clear HO757
  clear BK741
  clear BK754
  clear HB
  have HO746 := n0_
  have HO749 := n1_
  have HO753 := n2_
  have HO757 := n3_
  have HO762 := n4_
  have BK741 := n5_
  have BK754 := n6_
  have HB := n7_
  clear n0_ n1_ n2_ n3_ n4_ n5_ n6_ n7_
  (try clear hb)
  (try clear hb2)
  (try clear hk)
  (try clear hi)
  (try clear ho0)
  obtain ⟨Ao37, co37, eo37⟩ := Kd.R_slice HO762.out
  (first | subst eo37 | (injection eo37 with f1_ f2_ f3_; have f4_ := f1_.symm; have f5_ := f3_.symm; clear f1_ f2_ f3_; subst f4_; subst f5_))
  refine hK.out _ _ ⟨(blk_cell BK754.out 0).trans rfl, (blk_cell BK754.out 1).trans rfl, (blk_cell BK741.out 0).trans rfl, (blk_cell BK741.out 1).trans rfl⟩ (fun hHeld => ?_)
  clear hK K
  refine norm_ (a' := ?_) ?_ ?_
  rotate_left
  ·show Act.put _ (some 33) _ = _
   simp only [Act.put, List.setIfInBounds_toArray, List.set_cons_zero, List.set_cons_succ, i64_w, i32_w]
   rfl
  refine one_ (i := 3) (N := some 34) #[true, true, true, true, false] rfl rfl (by kernel_rfl) (by decide) (fun K hK => ?_)
  refine goes_ Try.func24 (by kernel_rfl) rfl #[.agg #[.int .i64 t750, .slice Ao31 t751.length co31], .agg #[.int .i64 t759, .slice Ao37 t760.length co37]] (by rfl) rfl rfl na_ ?_
  with_reducible refine (laws_eqNet.calls k t750 _ _ t751 t759 _ _ t760 true _ ?side1 ?side2 ?side3 ?side4 A15.out).mono ?_
  (case side1 => exact nc_ (rR10 HO753.out).2.2)
  (case side2 => exact (rR10 HO753.out).2.1)
  (case side3 => exact nc_ (rR10 HO762.out).2.2)
  (case side4 => exact (rR10 HO762.out).2.1)
  rintro e w38 ⟨rfl, hb⟩
  refine ⟨_, rfl, ?_⟩
  have n0_ := Aside0.mk (Kd.R_below (nr_ HO746.out) hb)
  have n1_ := Aside0.mk (Kd.R_below (nr_ HO749.out) hb)
  have n2_ := Aside0.mk (Kd.R_below (nr_ HO753.out) hb)
  have n3_ := Aside0.mk (Kd.R_below (nr_ HO757.out) hb)
  have n4_ := Aside0.mk (Kd.R_below (nr_ HO762.out) hb)
  have n5_ := Aside0.mk (blk_below (g := gb741) (o := .cells #[.int .i64 a0_0, .slice A0_1 l0_1.length c0_1] 39 (0, 0)) (nb_ BK741.out) hb)
  have n6_ := Aside0.mk (blk_below (g := gb754) (o := .cells #[.int .i64 t750, .slice Ao31 t751.length co31] 25 (0, 0)) (nb_ BK754.out) hb)
  have n7_ := Aside0.mk (below_step (ne_ HB.out) hb)
  clear HO746
  clear HO749
  clear HO753
  clear HO757
  clear HO762
  clear BK741
  clear BK754
  clear HB
  have HO746 := n0_
  have HO749 := n1_
  have HO753 := n2_
  have HO757 := n3_
  have HO762 := n4_
  have BK741 := n5_
  have BK754 := n6_
  have HB := n7_
  clear n0_ n1_ n2_ n3_ n4_ n5_ n6_ n7_
  (try clear hb)
  (try clear hb2)
  (try clear hk)
  (try clear hi)
  refine hK.out _ _ ⟨(blk_cell BK754.out 0).trans rfl, (blk_cell BK754.out 1).trans rfl, (blk_cell BK741.out 0).trans rfl, (blk_cell BK741.out 1).trans rfl⟩ (fun hHeld => ?_)
  clear hK K
  refine norm_ (a' := ?_) ?_ ?_
  rotate_left
  ·show Act.put _ (some 34) _ = _
   simp only [Act.put, List.setIfInBounds_toArray, List.set_cons_zero, List.set_cons_succ, i64_w, i32_w]
   rfl
  refine pure_ (i := 4) (N := some 35) (v := ?_) (a' := ?_) #[true, true, true, true, true] rfl rfl (by kernel_rfl) (fun _ _ _ h => h) (Or.inl ⟨by rfl, ?_⟩) ?_ ?_
  rotate_left
  ·intro w'
   go_simp
   with_reducible rfl
  rotate_left
  ·simp only [Act.put, List.setIfInBounds_toArray, List.set_cons_zero, List.set_cons_succ, i64_w, i32_w]
   rfl
  refine done_ (by kernel_rfl) ?_
  obtain ⟨hcz39_0, hcz39_1, hfz39_0, hfz39_1⟩ := cz2_ BK754.out
  go_upto_region 14 with (first | ((with_reducible refine gate_callee (f := 25) rfl ?_); refine gl_ (some 38) Try.func25 #[.agg #[.int .i64 t750, .slice Ao31 t751.length co31], .int .i64 1] ?_; (with_reducible refine (laws_markNet.calls k t750 (fun k_ => some k_ = (.slice Ao31 t751.length co31 : Value).ownBlock) (.slice Ao31 t751.length co31) t751 1 t764 t765 w _ ?side1 ?side2 A17.out).mono ?_); (case side1 => exact ne_ HB.out); (case side2 => exact Kd.R_tight rfl HO753.out); rintro e w40 ⟨rfl, hy0, hb, hkp⟩; refine ⟨_, rfl, ?_⟩; replace BK741 := Aside0.mk (blk_kept (g := gb741) (o := .cells #[.int .i64 a0_0, .slice A0_1 l0_1.length c0_1] 39 (0, 0)) (nb_ BK741.out) hkp (fun hs_ => (fun e_ => (Kd.R_ne HO753.out BK741.out (by decide)) e_) hs_)); replace HO746 := Aside0.mk (Kd.R_mono (ok' := fun k_ => some k_ ≠ (.slice Ao31 t751.length co31 : Value).ownBlock ∧ some k_ ≠ (.slice Ao37 t760.length co37 : Value).ownBlock) (Kd.R_keptB (HO746.out) hkp (fun k_ hk_ hs_ => (hk_.1) hs_)) (fun k_ hk_ => ⟨hk_.1.1, hk_.1.2⟩)); replace HO749 := Aside0.mk (Kd.R_mono (ok' := fun k_ => some k_ ≠ (.slice Ao33 t755.length co33 : Value).ownBlock) (Kd.R_keptB ((Kd.R_apart' HO749.out (Kd.R_typed HO753.out) (by decide))) hkp (fun k_ hk_ hs_ => (hk_.2) hs_)) (fun k_ hk_ => hk_.1.1)); replace BK754 := Aside0.mk (blk_kept (g := gb754) (o := .cells #[.int .i64 t750, .slice Ao31 t751.length co31] 25 (0, 0)) (nb_ BK754.out) hkp (fun hs_ => (fun e_ => (Kd.R_ne HO753.out BK754.out (by decide)) e_) hs_)); replace HO757 := Aside0.mk (Kd.R_mono (ok' := fun k_ => some k_ ≠ (.slice Ao34 t747.length co34 : Value).ownBlock) (Kd.R_keptB ((Kd.R_apart' HO757.out (Kd.R_typed HO753.out) (by decide))) hkp (fun k_ hk_ hs_ => (hk_.2) hs_)) (fun k_ hk_ => hk_.1.1)); replace HO753 := Aside0.mk (Kd.R_reok rfl hy0 (fun k_ e_ => HO753.out.1 k_ e_)); replace HO762 := Aside0.mk (Kd.R_mono (ok' := fun k_ => some k_ ≠ (.slice Ao24 t744.length co24 : Value).ownBlock ∧ some k_ ≠ (.slice Ao31 t751.length co31 : Value).ownBlock) (Kd.R_keptB (HO762.out) hkp (fun k_ hk_ hs_ => (hk_.2) hs_)) (fun k_ hk_ => ⟨hk_.1.1.2, hk_.1.2⟩)); replace HB := Aside0.mk (hb); (try clear hb); (try clear hkp); (try clear hy0)))
  (try simp only [Act.put, List.setIfInBounds_toArray, List.set_cons_zero, List.set_cons_succ])
  go_cut [46] (fun v46 wc => ∃ (kq : Nat) (x46_17 : Bool), v46 = .bool x46_17 ∧ Aside0 (laws_FnExactNearTree.j0 kq a1 t747 t755 x46_17 a0_0 l0_1 = some r) ∧ Aside0 (kq ≤ k) ∧ Aside0 (Kd.R (Kd.int .i64) 3 wc w.heap.size (fun k_ => some k_ ≠ ((.slice Ao33 t755.length co33) : Value).ownBlock) (.slice Ao34 t747.length co34) t747) ∧ Aside0 (Kd.R (Kd.int .i64) 3 wc w.heap.size (fun k_ => some k_ ≠ ((.slice Ao34 t747.length co34) : Value).ownBlock) (.slice Ao33 t755.length co33) t755) ∧ Aside0 (Kd.R k33 33 wc w.heap.size (fun _ => True) (.slice Ao31 t751.length co31) t765) ∧ Aside0 (wc.heap[gb741]? = some (.cells #[.int .i64 a0_0, (.slice A0_1 l0_1.length c0_1)] 39 (0, 0))) ∧ Aside0 (wc.heap[gb754]? = some (.cells #[.int .i64 t750, (.slice Ao31 t751.length co31)] 25 (0, 0))) ∧ Aside0 (Below w.heap.size w wc))
  case first =>
   have H := HC18.out
   clear HC18
   by_cases c41 : t764 < 0
   ·rw [if_pos c41] at H
    have c41b0 : decide (t764 < 0) = true := decide_eq_true c41
    clear c41
    (first | rw [c41b0] | (simp only [i64_w, i32_w]; rw [c41b0]) | skip)
    have H' := Aside0.mk H
    clear H
    go_wp2
    go_meet
    case rel => exact ⟨_, (true), ns_, H', ⟨by first | omega | exact Nat.le_refl _⟩, ⟨nr_ HO749.out⟩, ⟨nr_ HO757.out⟩, ⟨by (with_reducible repeat (first | apply Kd.R_alloc | apply Kd.R_drewN | apply rD10)); exact Kd.R_mono HO753.out (fun _ hk => trivial)⟩, ⟨nb_ BK741.out⟩, ⟨nb_ BK754.out⟩, ⟨ne_ HB.out⟩⟩
   rw [if_neg c41] at H
   have c41b0 : decide (t764 < 0) = false := decide_eq_false c41
   clear c41
   (first | rw [c41b0] | (simp only [i64_w, i32_w]; rw [c41b0]) | skip)
   replace H := Option.bind_eq_some_iff.mp H
   obtain ⟨t766, A420, H⟩ := H
   replace H : (laws_FnExactNearTree.j0 k a1 t747 t755 (!t766) a0_0 l0_1) = some r := H
   have A42 := Aside0.mk A420
   clear A420
   have H' := Aside0.mk H
   clear H
   go_wp2_with (first | (go_at_call 23; (with_reducible refine (laws_eqIntS.calls k _ _ t755 _ _ t747 t766 _ ?side1 ?side2 ?side3 ?side4 A42.out).mono ?_); (case side1 => exact nc_ (rR10 HO757.out).2.2); (case side2 => exact (rR10 HO757.out).2.1); (case side3 => exact nc_ (rR10 HO749.out).2.2); (case side4 => exact (rR10 HO749.out).2.1); rintro e w' ⟨rfl, ⟨nd, rfl⟩⟩))
   go_meet
   case rel => exact ⟨_, (!t766), ns_, H', ⟨by first | omega | exact Nat.le_refl _⟩, ⟨nr_ HO749.out⟩, ⟨nr_ HO757.out⟩, ⟨by (with_reducible repeat (first | apply Kd.R_alloc | apply Kd.R_drewN | apply rD10)); exact Kd.R_mono HO753.out (fun _ hk => trivial)⟩, ⟨nb_ BK741.out⟩, ⟨nb_ BK754.out⟩, ⟨ne_ HB.out⟩⟩
  case rest =>
   clear HC18
   try clear c1
   try clear c2
   try clear p2
   try clear c3
   try clear c4
   try clear c4b0
   try clear c10
   try clear c13
   try clear c16
   try clear c21
   try clear c22
   try clear c23
   try clear c24
   try clear c25
   try clear c29
   try clear c32
   try clear c33
   try clear c41
   try clear c41b0
   try clear hcz20_0
   try clear hcz20_1
   try clear hcz22_0
   try clear hcz22_1
   try clear hcz26_0
   try clear hcz26_1
   try clear hcz30_0
   try clear hcz30_1
   try clear hcz39_0
   try clear hcz39_1
   try clear hcz6_0
   try clear hcz6_1
   try clear hfz20_0
   try clear hfz20_1
   try clear hfz22_0
   try clear hfz22_1
   try clear hfz26_0
   try clear hfz26_1
   try clear hfz30_0
   try clear hfz30_1
   try clear hfz39_0
   try clear hfz39_1
   try clear hfz6_0
   try clear hfz6_1
   obtain ⟨kq, x46_17, rfl, HA, HJ17, HO_6, HO_8, HO_755001, BK741, BK754, HB⟩ := hcut
   have hl755001_17 := (rR10 HO_755001.out).1
   rw [hl755001_17] at HO_755001
   (try simp only [hl755001_17])
   (try simp only [hl755001_17] at BK741)
   (try simp only [hl755001_17] at BK754)
   (try simp only [hl755001_17] at HO_6)
   (try simp only [hl755001_17] at HO_8)
   cases kq with
   | zero => exact absurd HA.out (by simp [laws_FnExactNearTree.j0])
   | succ kj17 =>
    have H := HA.out
    clear HA
    simp only [laws_FnExactNearTree.j0] at H
    by_cases c43 : x46_17 = true
    ·subst c43
     have H1 : (some false) = some r := by rw [if_pos rfl] at H; exact H
     clear H
     have H := H1
     clear H1
     obtain rfl := Option.some.inj H
     go_wp2
     go_ret
     exact ⟨nw_, ne_ HB.out⟩
    replace c43 := Bool.eq_false_iff.mpr c43
    subst c43
    have H1 : ((laws_markIntS.f kj17 t755 1).bind fun bt767 => ((laws_heldIntS.f kj17 bt767.2 1).bind fun t769 => (if t769 < 0 then (some false) else (if t769 = bt767.1 then ((laws_toNet.f kj17 a0_0 l0_1).bind fun bt770 => ((impl_NearTree.f kj17 bt770.1 bt770.2 a1).bind fun t774 => ((laws_eqIntS.f kj17 t774 t747).bind fun t777 => (if t777 = true then ((laws_heldIntS.f kj17 bt767.2 1).bind fun t778 => (if t778 < 0 then (some false) else (if t778 = bt767.1 then (some true) else (some false)))) else (some false))))) else (some false))))) = some r := by rw [if_neg (show ¬ (false = true) by decide)] at H; exact H
    clear H
    have H := H1
    clear H1
    replace H := Option.bind_eq_some_iff.mp H
    obtain ⟨⟨t767, t768⟩, A440, H⟩ := H
    replace H : ((laws_heldIntS.f kj17 t768 1).bind fun t769 => (if t769 < 0 then (some false) else (if t769 = t767 then ((laws_toNet.f kj17 a0_0 l0_1).bind fun bt770 => ((impl_NearTree.f kj17 bt770.1 bt770.2 a1).bind fun t774 => ((laws_eqIntS.f kj17 t774 t747).bind fun t777 => (if t777 = true then ((laws_heldIntS.f kj17 t768 1).bind fun t778 => (if t778 < 0 then (some false) else (if t778 = t767 then (some true) else (some false)))) else (some false))))) else (some false)))) = some r := H
    have A44 := Aside0.mk A440
    clear A440
    replace H := Option.bind_eq_some_iff.mp H
    obtain ⟨t769, A450, H⟩ := H
    replace H : (if t769 < 0 then (some false) else (if t769 = t767 then ((laws_toNet.f kj17 a0_0 l0_1).bind fun bt770 => ((impl_NearTree.f kj17 bt770.1 bt770.2 a1).bind fun t774 => ((laws_eqIntS.f kj17 t774 t747).bind fun t777 => (if t777 = true then ((laws_heldIntS.f kj17 t768 1).bind fun t778 => (if t778 < 0 then (some false) else (if t778 = t767 then (some true) else (some false)))) else (some false))))) else (some false))) = some r := H
    have A45 := Aside0.mk A450
    clear A450
    by_cases c46 : t769 < 0
    ·rw [if_pos c46] at H
     have c46b0 : decide (t769 < 0) = true := decide_eq_true c46
     clear c46
     obtain rfl := Option.some.inj H
     go_wp2_with (first | ((with_reducible refine gate_callee (f := 26) rfl ?_); refine gl_ (some 49) Try.func26 #[.slice Ao33 t755.length co33, .int .i64 1] ?_; (with_reducible refine (laws_markIntS.calls kj17 (fun k_ => some k_ = (.slice Ao33 t755.length co33 : Value).ownBlock) (.slice Ao33 t755.length co33) t755 1 t767 t768 w _ ?side1 ?side2 A44.out).mono ?_); (case side1 => exact ne_ HB.out); (case side2 => exact Kd.R_tight rfl HO_8.out); rintro e w47 ⟨rfl, hy0, hb, hkp⟩; refine ⟨_, rfl, ?_⟩; replace HO_6 := Aside0.mk (Kd.R_mono (ok' := fun k_ => some k_ ≠ (.slice Ao33 t755.length co33 : Value).ownBlock) (Kd.R_keptB (HO_6.out) hkp (fun k_ hk_ hs_ => (hk_) hs_)) (fun k_ hk_ => hk_.1)); replace HO_755001 := Aside0.mk (Kd.R_mono (ok' := fun k_ => True) (Kd.R_keptB ((Kd.R_apart' HO_755001.out (Kd.R_typed HO_8.out) (by decide))) hkp (fun k_ hk_ hs_ => (hk_.2) hs_)) (fun k_ hk_ => trivial)); replace BK741 := Aside0.mk (blk_kept (g := gb741) (o := .cells #[.int .i64 a0_0, .slice A0_1 l0_1.length c0_1] 39 (0, 0)) (nb_ BK741.out) hkp (fun hs_ => (fun e_ => (Kd.R_ne HO_8.out BK741.out (by decide)) e_) hs_)); replace BK754 := Aside0.mk (blk_kept (g := gb754) (o := .cells #[.int .i64 t750, .slice Ao31 t765.length co31] 25 (0, 0)) (nb_ BK754.out) hkp (fun hs_ => (fun e_ => (Kd.R_ne HO_8.out BK754.out (by decide)) e_) hs_)); replace HO_8 := Aside0.mk (Kd.R_reok rfl hy0 (fun k_ e_ => HO_8.out.1 k_ e_)); replace HB := Aside0.mk (hb); (try clear hb); (try clear hkp); (try clear hy0)) | ((with_reducible refine gate_callee (f := 27) rfl ?_); refine goesL_ (some 52) rfl rfl Try.func27 (by kernel_rfl) rfl #[.slice Ao33 t768.length co33, .int .i64 1] rfl (by (try simp only [List.map_toArray, List.map_cons, List.map_nil]); first | done | (rw [show t768.length = t755.length from (rR10 HO_8.out).1.symm] <;> rfl) | rfl | (simp only [List.length_drop, List.length_take]; rfl)) ?_; (with_reducible refine (laws_heldIntS.calls kj17 _ _ t768 1 t769 _ ?side1 ?side2 A45.out).mono ?_); (case side1 => exact nc_ (rR10 HO_8.out).2.2); (case side2 => rw [show t768.length = t755.length from (rR10 HO_8.out).1.symm]; exact (rR10 HO_8.out).2.1); rintro e w' ⟨rfl, ⟨nd, rfl⟩⟩; refine ⟨_, rfl, ?_⟩))
     go_ret
     exact ⟨nw_, ne_ HB.out⟩
    rw [if_neg c46] at H
    have c46b0 : decide (t769 < 0) = false := decide_eq_false c46
    clear c46
    by_cases c48 : t769 = t767
    rotate_left
    ·rw [if_neg c48] at H
     have c48b0 : (t769 == t767) = false := beq_eq_false_iff_ne.mpr c48
     have c48b1 : (t769 != t767) = true := bne_iff_ne.mpr c48
     obtain rfl := Option.some.inj H
     go_wp2_with (first | ((with_reducible refine gate_callee (f := 26) rfl ?_); refine gl_ (some 49) Try.func26 #[.slice Ao33 t755.length co33, .int .i64 1] ?_; (with_reducible refine (laws_markIntS.calls kj17 (fun k_ => some k_ = (.slice Ao33 t755.length co33 : Value).ownBlock) (.slice Ao33 t755.length co33) t755 1 t767 t768 w _ ?side1 ?side2 A44.out).mono ?_); (case side1 => exact ne_ HB.out); (case side2 => exact Kd.R_tight rfl HO_8.out); rintro e w84 ⟨rfl, hy0, hb, hkp⟩; refine ⟨_, rfl, ?_⟩; replace HO_6 := Aside0.mk (Kd.R_mono (ok' := fun k_ => some k_ ≠ (.slice Ao33 t755.length co33 : Value).ownBlock) (Kd.R_keptB (HO_6.out) hkp (fun k_ hk_ hs_ => (hk_) hs_)) (fun k_ hk_ => hk_.1)); replace HO_755001 := Aside0.mk (Kd.R_mono (ok' := fun k_ => True) (Kd.R_keptB ((Kd.R_apart' HO_755001.out (Kd.R_typed HO_8.out) (by decide))) hkp (fun k_ hk_ hs_ => (hk_.2) hs_)) (fun k_ hk_ => trivial)); replace BK741 := Aside0.mk (blk_kept (g := gb741) (o := .cells #[.int .i64 a0_0, .slice A0_1 l0_1.length c0_1] 39 (0, 0)) (nb_ BK741.out) hkp (fun hs_ => (fun e_ => (Kd.R_ne HO_8.out BK741.out (by decide)) e_) hs_)); replace BK754 := Aside0.mk (blk_kept (g := gb754) (o := .cells #[.int .i64 t750, .slice Ao31 t765.length co31] 25 (0, 0)) (nb_ BK754.out) hkp (fun hs_ => (fun e_ => (Kd.R_ne HO_8.out BK754.out (by decide)) e_) hs_)); replace HO_8 := Aside0.mk (Kd.R_reok rfl hy0 (fun k_ e_ => HO_8.out.1 k_ e_)); replace HB := Aside0.mk (hb); (try clear hb); (try clear hkp); (try clear hy0)) | ((with_reducible refine gate_callee (f := 27) rfl ?_); refine goesL_ (some 52) rfl rfl Try.func27 (by kernel_rfl) rfl #[.slice Ao33 t768.length co33, .int .i64 1] rfl (by (try simp only [List.map_toArray, List.map_cons, List.map_nil]); first | done | (rw [show t768.length = t755.length from (rR10 HO_8.out).1.symm] <;> rfl) | rfl | (simp only [List.length_drop, List.length_take]; rfl)) ?_; (with_reducible refine (laws_heldIntS.calls kj17 _ _ t768 1 t769 _ ?side1 ?side2 A45.out).mono ?_); (case side1 => exact nc_ (rR10 HO_8.out).2.2); (case side2 => rw [show t768.length = t755.length from (rR10 HO_8.out).1.symm]; exact (rR10 HO_8.out).2.1); rintro e w' ⟨rfl, ⟨nd, rfl⟩⟩; refine ⟨_, rfl, ?_⟩))
     go_ret
     exact ⟨nw_, ne_ HB.out⟩
    rw [if_pos c48] at H
    have c48b0 : (t769 == t767) = true := beq_iff_eq.mpr c48
    have c48b1 : (t769 != t767) = false := bne_eq_false_iff_eq.mpr c48
    clear c48
    replace H := Option.bind_eq_some_iff.mp H
    obtain ⟨⟨t770, t771⟩, A490, H⟩ := H
    replace H : ((impl_NearTree.f kj17 t770 t771 a1).bind fun t774 => ((laws_eqIntS.f kj17 t774 t747).bind fun t777 => (if t777 = true then ((laws_heldIntS.f kj17 t768 1).bind fun t778 => (if t778 < 0 then (some false) else (if t778 = t767 then (some true) else (some false)))) else (some false)))) = some r := H
    have A49 := Aside0.mk A490
    clear A490
    replace H := Option.bind_eq_some_iff.mp H
    obtain ⟨t774, A500, H⟩ := H
    replace H : ((laws_eqIntS.f kj17 t774 t747).bind fun t777 => (if t777 = true then ((laws_heldIntS.f kj17 t768 1).bind fun t778 => (if t778 < 0 then (some false) else (if t778 = t767 then (some true) else (some false)))) else (some false))) = some r := H
    have A50 := Aside0.mk A500
    clear A500
    replace H := Option.bind_eq_some_iff.mp H
    obtain ⟨t777, A510, H⟩ := H
    replace H : (if t777 = true then ((laws_heldIntS.f kj17 t768 1).bind fun t778 => (if t778 < 0 then (some false) else (if t778 = t767 then (some true) else (some false)))) else (some false)) = some r := H
    have A51 := Aside0.mk A510
    clear A510
    by_cases c52 : t777 = true
    rotate_left
    ·replace c52 := Bool.eq_false_iff.mpr c52
     subst c52
     have H1 : (some false) = some r := by rw [if_neg (show ¬ (false = true) by decide)] at H; exact H
     clear H
     have H := H1
     clear H1
     obtain rfl := Option.some.inj H
     go_wp2_with (first | ((with_reducible refine gate_callee (f := 26) rfl ?_); refine gl_ (some 49) Try.func26 #[.slice Ao33 t755.length co33, .int .i64 1] ?_; (with_reducible refine (laws_markIntS.calls kj17 (fun k_ => some k_ = (.slice Ao33 t755.length co33 : Value).ownBlock) (.slice Ao33 t755.length co33) t755 1 t767 t768 w _ ?side1 ?side2 A44.out).mono ?_); (case side1 => exact ne_ HB.out); (case side2 => exact Kd.R_tight rfl HO_8.out); rintro e w77 ⟨rfl, hy0, hb, hkp⟩; refine ⟨_, rfl, ?_⟩; replace HO_6 := Aside0.mk (Kd.R_mono (ok' := fun k_ => some k_ ≠ (.slice Ao33 t755.length co33 : Value).ownBlock) (Kd.R_keptB (HO_6.out) hkp (fun k_ hk_ hs_ => (hk_) hs_)) (fun k_ hk_ => hk_.1)); replace HO_755001 := Aside0.mk (Kd.R_mono (ok' := fun k_ => True) (Kd.R_keptB ((Kd.R_apart' HO_755001.out (Kd.R_typed HO_8.out) (by decide))) hkp (fun k_ hk_ hs_ => (hk_.2) hs_)) (fun k_ hk_ => trivial)); replace BK741 := Aside0.mk (blk_kept (g := gb741) (o := .cells #[.int .i64 a0_0, .slice A0_1 l0_1.length c0_1] 39 (0, 0)) (nb_ BK741.out) hkp (fun hs_ => (fun e_ => (Kd.R_ne HO_8.out BK741.out (by decide)) e_) hs_)); replace BK754 := Aside0.mk (blk_kept (g := gb754) (o := .cells #[.int .i64 t750, .slice Ao31 t765.length co31] 25 (0, 0)) (nb_ BK754.out) hkp (fun hs_ => (fun e_ => (Kd.R_ne HO_8.out BK754.out (by decide)) e_) hs_)); replace HO_8 := Aside0.mk (Kd.R_reok rfl hy0 (fun k_ e_ => HO_8.out.1 k_ e_)); replace HB := Aside0.mk (hb); (try clear hb); (try clear hkp); (try clear hy0)) | ((with_reducible refine gate_callee (f := 27) rfl ?_); refine goesL_ (some 52) rfl rfl Try.func27 (by kernel_rfl) rfl #[.slice Ao33 t768.length co33, .int .i64 1] rfl (by (try simp only [List.map_toArray, List.map_cons, List.map_nil]); first | done | (rw [show t768.length = t755.length from (rR10 HO_8.out).1.symm] <;> rfl) | rfl | (simp only [List.length_drop, List.length_take]; rfl)) ?_; (with_reducible refine (laws_heldIntS.calls kj17 _ _ t768 1 t769 _ ?side1 ?side2 A45.out).mono ?_); (case side1 => exact nc_ (rR10 HO_8.out).2.2); (case side2 => rw [show t768.length = t755.length from (rR10 HO_8.out).1.symm]; exact (rR10 HO_8.out).2.1); rintro e w' ⟨rfl, ⟨nd, rfl⟩⟩; refine ⟨_, rfl, ?_⟩; have hnb78 := NB741_754.out; have hnc78 := NB754_741.out; obtain ⟨hcz79_0, hcz79_1, hfz79_0, hfz79_1⟩ := cz2_ BK741.out) | ((with_reducible refine gate_callee (f := 22) rfl ?_); refine gl_ (some 59) Try.func22 #[.agg #[.int .i64 a0_0, .slice A0_1 l0_1.length c0_1]] ?_; (with_reducible refine (laws_toNet.calls kj17 a0_0 _ _ l0_1 t770 t771 _ ?side1 ?side2 A49.out).mono ?_); (case side1 => exact nc_ (Kd.C_below HR0_1.out (ne_ HB.out))); (case side2 => exact HC0_1.out); rintro e w80 ⟨v772, rfl, ho0, hb⟩; refine ⟨_, rfl, ?_⟩; have HO773 := Aside0.mk (Kd.R_lower (Kd.R_new' ho0 (Kd.R_lt (nr_ HO_755001.out))) (below_size (ne_ HB.out))); replace HO_6 := kR_ HO_6 hb; replace HO_8 := kR_ HO_8 hb; replace HO_755001 := Aside0.mk (Kd.R_elder' (nr_ HO_755001.out) (Kd.R_base ho0) hb); replace BK741 := kb_ BK741 hb; replace BK754 := kb_ BK754 hb; replace HB := kB_ HB hb; (try clear hb); (try clear hb2); (try clear hk); (try clear hi); (try clear ho0); obtain ⟨Ao81, co81, eo81⟩ := Kd.R_slice HO773.out; subst eo81) | ((with_reducible refine gate_callee (f := 32) rfl ?_); refine gl_ (some 61) Try.func32 #[.agg #[.int .i64 t770, .slice Ao81 t771.length co81], .int .i64 a1] ?_; (with_reducible refine (impl_NearTree.calls kj17 t770 _ _ t771 a1 t774 _ ?side1 ?side2 A50.out).mono ?_); (case side1 => exact nc_ (rR10 HO773.out).2.2); (case side2 => exact (rR10 HO773.out).2.1); rintro e w82 ⟨v775, rfl, ho0, hb⟩; refine ⟨_, rfl, ?_⟩; have HO776 := Aside0.mk (Kd.R_lower (Kd.R_new' (Kd.R_new' ho0 (Kd.R_lt (nr_ HO_6.out))) (Kd.R_lt (nr_ HO_8.out))) (below_size (ne_ HB.out))); replace HO_6 := Aside0.mk (Kd.R_elder' (nr_ HO_6.out) (Kd.R_base ho0) hb); replace HO_8 := Aside0.mk (Kd.R_elder' (nr_ HO_8.out) (Kd.R_base ho0) hb); replace HO_755001 := kR_ HO_755001 hb; replace HO773 := kR_ HO773 hb; replace BK741 := kb_ BK741 hb; replace BK754 := kb_ BK754 hb; replace HB := kB_ HB hb; (try clear hb); (try clear hb2); (try clear hk); (try clear hi); (try clear ho0); obtain ⟨Ao83, co83, eo83⟩ := Kd.R_slice HO776.out; subst eo83) | ((with_reducible refine gate_callee (f := 23) rfl ?_); refine gl_ (some 64) Try.func23 #[.slice Ao83 t774.length co83, .slice Ao34 t747.length co34] ?_; (with_reducible refine (laws_eqIntS.calls kj17 _ _ t774 _ _ t747 false _ ?side1 ?side2 ?side3 ?side4 A51.out).mono ?_); (case side1 => exact nc_ (rR10 HO776.out).2.2); (case side2 => exact (rR10 HO776.out).2.1); (case side3 => exact nc_ (rR10 HO_6.out).2.2); (case side4 => exact (rR10 HO_6.out).2.1); rintro e w' ⟨rfl, ⟨nd, rfl⟩⟩; refine ⟨_, rfl, ?_⟩))
     go_ret
     exact ⟨nw_, ne_ HB.out⟩
    subst c52
    have H1 : ((laws_heldIntS.f kj17 t768 1).bind fun t778 => (if t778 < 0 then (some false) else (if t778 = t767 then (some true) else (some false)))) = some r := by rw [if_pos rfl] at H; exact H
    clear H
    have H := H1
    clear H1
    replace H := Option.bind_eq_some_iff.mp H
    obtain ⟨t778, A530, H⟩ := H
    replace H : (if t778 < 0 then (some false) else (if t778 = t767 then (some true) else (some false))) = some r := H
    have A53 := Aside0.mk A530
    clear A530
    by_cases c54 : t778 < 0
    ·rw [if_pos c54] at H
     have c54b0 : decide (t778 < 0) = true := decide_eq_true c54
     clear c54
     obtain rfl := Option.some.inj H
     go_wp2_with (first | ((with_reducible refine gate_callee (f := 26) rfl ?_); refine gl_ (some 49) Try.func26 #[.slice Ao33 t755.length co33, .int .i64 1] ?_; (with_reducible refine (laws_markIntS.calls kj17 (fun k_ => some k_ = (.slice Ao33 t755.length co33 : Value).ownBlock) (.slice Ao33 t755.length co33) t755 1 t767 t768 w _ ?side1 ?side2 A44.out).mono ?_); (case side1 => exact ne_ HB.out); (case side2 => exact Kd.R_tight rfl HO_8.out); rintro e w55 ⟨rfl, hy0, hb, hkp⟩; refine ⟨_, rfl, ?_⟩; replace HO_6 := Aside0.mk (Kd.R_mono (ok' := fun k_ => some k_ ≠ (.slice Ao33 t755.length co33 : Value).ownBlock) (Kd.R_keptB (HO_6.out) hkp (fun k_ hk_ hs_ => (hk_) hs_)) (fun k_ hk_ => hk_.1)); replace HO_755001 := Aside0.mk (Kd.R_mono (ok' := fun k_ => True) (Kd.R_keptB ((Kd.R_apart' HO_755001.out (Kd.R_typed HO_8.out) (by decide))) hkp (fun k_ hk_ hs_ => (hk_.2) hs_)) (fun k_ hk_ => trivial)); replace BK741 := Aside0.mk (blk_kept (g := gb741) (o := .cells #[.int .i64 a0_0, .slice A0_1 l0_1.length c0_1] 39 (0, 0)) (nb_ BK741.out) hkp (fun hs_ => (fun e_ => (Kd.R_ne HO_8.out BK741.out (by decide)) e_) hs_)); replace BK754 := Aside0.mk (blk_kept (g := gb754) (o := .cells #[.int .i64 t750, .slice Ao31 t765.length co31] 25 (0, 0)) (nb_ BK754.out) hkp (fun hs_ => (fun e_ => (Kd.R_ne HO_8.out BK754.out (by decide)) e_) hs_)); replace HO_8 := Aside0.mk (Kd.R_reok rfl hy0 (fun k_ e_ => HO_8.out.1 k_ e_)); replace HB := Aside0.mk (hb); (try clear hb); (try clear hkp); (try clear hy0)) | ((with_reducible refine gate_callee (f := 27) rfl ?_); refine goesL_ (some 52) rfl rfl Try.func27 (by kernel_rfl) rfl #[.slice Ao33 t768.length co33, .int .i64 1] rfl (by (try simp only [List.map_toArray, List.map_cons, List.map_nil]); first | done | (rw [show t768.length = t755.length from (rR10 HO_8.out).1.symm] <;> rfl) | rfl | (simp only [List.length_drop, List.length_take]; rfl)) ?_; (with_reducible refine (laws_heldIntS.calls kj17 _ _ t768 1 t769 _ ?side1 ?side2 A45.out).mono ?_); (case side1 => exact nc_ (rR10 HO_8.out).2.2); (case side2 => rw [show t768.length = t755.length from (rR10 HO_8.out).1.symm]; exact (rR10 HO_8.out).2.1); rintro e w' ⟨rfl, ⟨nd, rfl⟩⟩; refine ⟨_, rfl, ?_⟩; have hnb56 := NB741_754.out; have hnc56 := NB754_741.out; obtain ⟨hcz57_0, hcz57_1, hfz57_0, hfz57_1⟩ := cz2_ BK741.out) | ((with_reducible refine gate_callee (f := 22) rfl ?_); refine gl_ (some 59) Try.func22 #[.agg #[.int .i64 a0_0, .slice A0_1 l0_1.length c0_1]] ?_; (with_reducible refine (laws_toNet.calls kj17 a0_0 _ _ l0_1 t770 t771 _ ?side1 ?side2 A49.out).mono ?_); (case side1 => exact nc_ (Kd.C_below HR0_1.out (ne_ HB.out))); (case side2 => exact HC0_1.out); rintro e w58 ⟨v772, rfl, ho0, hb⟩; refine ⟨_, rfl, ?_⟩; have HO773 := Aside0.mk (Kd.R_lower (Kd.R_new' ho0 (Kd.R_lt (nr_ HO_755001.out))) (below_size (ne_ HB.out))); replace HO_6 := kR_ HO_6 hb; replace HO_8 := kR_ HO_8 hb; replace HO_755001 := Aside0.mk (Kd.R_elder' (nr_ HO_755001.out) (Kd.R_base ho0) hb); replace BK741 := kb_ BK741 hb; replace BK754 := kb_ BK754 hb; replace HB := kB_ HB hb; (try clear hb); (try clear hb2); (try clear hk); (try clear hi); (try clear ho0); obtain ⟨Ao59, co59, eo59⟩ := Kd.R_slice HO773.out; subst eo59) | ((with_reducible refine gate_callee (f := 32) rfl ?_); refine gl_ (some 61) Try.func32 #[.agg #[.int .i64 t770, .slice Ao59 t771.length co59], .int .i64 a1] ?_; (with_reducible refine (impl_NearTree.calls kj17 t770 _ _ t771 a1 t774 _ ?side1 ?side2 A50.out).mono ?_); (case side1 => exact nc_ (rR10 HO773.out).2.2); (case side2 => exact (rR10 HO773.out).2.1); rintro e w60 ⟨v775, rfl, ho0, hb⟩; refine ⟨_, rfl, ?_⟩; have HO776 := Aside0.mk (Kd.R_lower (Kd.R_new' (Kd.R_new' ho0 (Kd.R_lt (nr_ HO_6.out))) (Kd.R_lt (nr_ HO_8.out))) (below_size (ne_ HB.out))); replace HO_6 := Aside0.mk (Kd.R_elder' (nr_ HO_6.out) (Kd.R_base ho0) hb); replace HO_8 := Aside0.mk (Kd.R_elder' (nr_ HO_8.out) (Kd.R_base ho0) hb); replace HO_755001 := kR_ HO_755001 hb; replace HO773 := kR_ HO773 hb; replace BK741 := kb_ BK741 hb; replace BK754 := kb_ BK754 hb; replace HB := kB_ HB hb; (try clear hb); (try clear hb2); (try clear hk); (try clear hi); (try clear ho0); obtain ⟨Ao61, co61, eo61⟩ := Kd.R_slice HO776.out; subst eo61) | ((with_reducible refine gate_callee (f := 23) rfl ?_); refine gl_ (some 64) Try.func23 #[.slice Ao61 t774.length co61, .slice Ao34 t747.length co34] ?_; (with_reducible refine (laws_eqIntS.calls kj17 _ _ t774 _ _ t747 true _ ?side1 ?side2 ?side3 ?side4 A51.out).mono ?_); (case side1 => exact nc_ (rR10 HO776.out).2.2); (case side2 => exact (rR10 HO776.out).2.1); (case side3 => exact nc_ (rR10 HO_6.out).2.2); (case side4 => exact (rR10 HO_6.out).2.1); rintro e w' ⟨rfl, ⟨nd, rfl⟩⟩; refine ⟨_, rfl, ?_⟩) | ((with_reducible refine gate_callee (f := 27) rfl ?_); refine goesL_ (some 68) rfl rfl Try.func27 (by kernel_rfl) rfl #[.slice Ao33 t768.length co33, .int .i64 1] rfl (by (try simp only [List.map_toArray, List.map_cons, List.map_nil]); first | done | (rw [show t768.length = t755.length from (rR10 HO_8.out).1.symm] <;> rfl) | rfl | (simp only [List.length_drop, List.length_take]; rfl)) ?_; (with_reducible refine (laws_heldIntS.calls kj17 _ _ t768 1 t778 _ ?side1 ?side2 A53.out).mono ?_); (case side1 => exact nc_ (rR10 HO_8.out).2.2); (case side2 => rw [show t768.length = t755.length from (rR10 HO_8.out).1.symm]; exact (rR10 HO_8.out).2.1); rintro e w' ⟨rfl, ⟨nd, rfl⟩⟩; refine ⟨_, rfl, ?_⟩))
     go_ret
     exact ⟨nw_, ne_ HB.out⟩
    rw [if_neg c54] at H
    have c54b0 : decide (t778 < 0) = false := decide_eq_false c54
    clear c54
    by_cases c62 : t778 = t767
    rotate_left
    ·rw [if_neg c62] at H
     have c62b0 : (t778 == t767) = false := beq_eq_false_iff_ne.mpr c62
     have c62b1 : (t778 != t767) = true := bne_iff_ne.mpr c62
     obtain rfl := Option.some.inj H
     go_wp2_with (first | ((with_reducible refine gate_callee (f := 26) rfl ?_); refine gl_ (some 49) Try.func26 #[.slice Ao33 t755.length co33, .int .i64 1] ?_; (with_reducible refine (laws_markIntS.calls kj17 (fun k_ => some k_ = (.slice Ao33 t755.length co33 : Value).ownBlock) (.slice Ao33 t755.length co33) t755 1 t767 t768 w _ ?side1 ?side2 A44.out).mono ?_); (case side1 => exact ne_ HB.out); (case side2 => exact Kd.R_tight rfl HO_8.out); rintro e w70 ⟨rfl, hy0, hb, hkp⟩; refine ⟨_, rfl, ?_⟩; replace HO_6 := Aside0.mk (Kd.R_mono (ok' := fun k_ => some k_ ≠ (.slice Ao33 t755.length co33 : Value).ownBlock) (Kd.R_keptB (HO_6.out) hkp (fun k_ hk_ hs_ => (hk_) hs_)) (fun k_ hk_ => hk_.1)); replace HO_755001 := Aside0.mk (Kd.R_mono (ok' := fun k_ => True) (Kd.R_keptB ((Kd.R_apart' HO_755001.out (Kd.R_typed HO_8.out) (by decide))) hkp (fun k_ hk_ hs_ => (hk_.2) hs_)) (fun k_ hk_ => trivial)); replace BK741 := Aside0.mk (blk_kept (g := gb741) (o := .cells #[.int .i64 a0_0, .slice A0_1 l0_1.length c0_1] 39 (0, 0)) (nb_ BK741.out) hkp (fun hs_ => (fun e_ => (Kd.R_ne HO_8.out BK741.out (by decide)) e_) hs_)); replace BK754 := Aside0.mk (blk_kept (g := gb754) (o := .cells #[.int .i64 t750, .slice Ao31 t765.length co31] 25 (0, 0)) (nb_ BK754.out) hkp (fun hs_ => (fun e_ => (Kd.R_ne HO_8.out BK754.out (by decide)) e_) hs_)); replace HO_8 := Aside0.mk (Kd.R_reok rfl hy0 (fun k_ e_ => HO_8.out.1 k_ e_)); replace HB := Aside0.mk (hb); (try clear hb); (try clear hkp); (try clear hy0)) | ((with_reducible refine gate_callee (f := 27) rfl ?_); refine goesL_ (some 52) rfl rfl Try.func27 (by kernel_rfl) rfl #[.slice Ao33 t768.length co33, .int .i64 1] rfl (by (try simp only [List.map_toArray, List.map_cons, List.map_nil]); first | done | (rw [show t768.length = t755.length from (rR10 HO_8.out).1.symm] <;> rfl) | rfl | (simp only [List.length_drop, List.length_take]; rfl)) ?_; (with_reducible refine (laws_heldIntS.calls kj17 _ _ t768 1 t769 _ ?side1 ?side2 A45.out).mono ?_); (case side1 => exact nc_ (rR10 HO_8.out).2.2); (case side2 => rw [show t768.length = t755.length from (rR10 HO_8.out).1.symm]; exact (rR10 HO_8.out).2.1); rintro e w' ⟨rfl, ⟨nd, rfl⟩⟩; refine ⟨_, rfl, ?_⟩; have hnb71 := NB741_754.out; have hnc71 := NB754_741.out; obtain ⟨hcz72_0, hcz72_1, hfz72_0, hfz72_1⟩ := cz2_ BK741.out) | ((with_reducible refine gate_callee (f := 22) rfl ?_); refine gl_ (some 59) Try.func22 #[.agg #[.int .i64 a0_0, .slice A0_1 l0_1.length c0_1]] ?_; (with_reducible refine (laws_toNet.calls kj17 a0_0 _ _ l0_1 t770 t771 _ ?side1 ?side2 A49.out).mono ?_); (case side1 => exact nc_ (Kd.C_below HR0_1.out (ne_ HB.out))); (case side2 => exact HC0_1.out); rintro e w73 ⟨v772, rfl, ho0, hb⟩; refine ⟨_, rfl, ?_⟩; have HO773 := Aside0.mk (Kd.R_lower (Kd.R_new' ho0 (Kd.R_lt (nr_ HO_755001.out))) (below_size (ne_ HB.out))); replace HO_6 := kR_ HO_6 hb; replace HO_8 := kR_ HO_8 hb; replace HO_755001 := Aside0.mk (Kd.R_elder' (nr_ HO_755001.out) (Kd.R_base ho0) hb); replace BK741 := kb_ BK741 hb; replace BK754 := kb_ BK754 hb; replace HB := kB_ HB hb; (try clear hb); (try clear hb2); (try clear hk); (try clear hi); (try clear ho0); obtain ⟨Ao74, co74, eo74⟩ := Kd.R_slice HO773.out; subst eo74) | ((with_reducible refine gate_callee (f := 32) rfl ?_); refine gl_ (some 61) Try.func32 #[.agg #[.int .i64 t770, .slice Ao74 t771.length co74], .int .i64 a1] ?_; (with_reducible refine (impl_NearTree.calls kj17 t770 _ _ t771 a1 t774 _ ?side1 ?side2 A50.out).mono ?_); (case side1 => exact nc_ (rR10 HO773.out).2.2); (case side2 => exact (rR10 HO773.out).2.1); rintro e w75 ⟨v775, rfl, ho0, hb⟩; refine ⟨_, rfl, ?_⟩; have HO776 := Aside0.mk (Kd.R_lower (Kd.R_new' (Kd.R_new' ho0 (Kd.R_lt (nr_ HO_6.out))) (Kd.R_lt (nr_ HO_8.out))) (below_size (ne_ HB.out))); replace HO_6 := Aside0.mk (Kd.R_elder' (nr_ HO_6.out) (Kd.R_base ho0) hb); replace HO_8 := Aside0.mk (Kd.R_elder' (nr_ HO_8.out) (Kd.R_base ho0) hb); replace HO_755001 := kR_ HO_755001 hb; replace HO773 := kR_ HO773 hb; replace BK741 := kb_ BK741 hb; replace BK754 := kb_ BK754 hb; replace HB := kB_ HB hb; (try clear hb); (try clear hb2); (try clear hk); (try clear hi); (try clear ho0); obtain ⟨Ao76, co76, eo76⟩ := Kd.R_slice HO776.out; subst eo76) | ((with_reducible refine gate_callee (f := 23) rfl ?_); refine gl_ (some 64) Try.func23 #[.slice Ao76 t774.length co76, .slice Ao34 t747.length co34] ?_; (with_reducible refine (laws_eqIntS.calls kj17 _ _ t774 _ _ t747 true _ ?side1 ?side2 ?side3 ?side4 A51.out).mono ?_); (case side1 => exact nc_ (rR10 HO776.out).2.2); (case side2 => exact (rR10 HO776.out).2.1); (case side3 => exact nc_ (rR10 HO_6.out).2.2); (case side4 => exact (rR10 HO_6.out).2.1); rintro e w' ⟨rfl, ⟨nd, rfl⟩⟩; refine ⟨_, rfl, ?_⟩) | ((with_reducible refine gate_callee (f := 27) rfl ?_); refine goesL_ (some 68) rfl rfl Try.func27 (by kernel_rfl) rfl #[.slice Ao33 t768.length co33, .int .i64 1] rfl (by (try simp only [List.map_toArray, List.map_cons, List.map_nil]); first | done | (rw [show t768.length = t755.length from (rR10 HO_8.out).1.symm] <;> rfl) | rfl | (simp only [List.length_drop, List.length_take]; rfl)) ?_; (with_reducible refine (laws_heldIntS.calls kj17 _ _ t768 1 t778 _ ?side1 ?side2 A53.out).mono ?_); (case side1 => exact nc_ (rR10 HO_8.out).2.2); (case side2 => rw [show t768.length = t755.length from (rR10 HO_8.out).1.symm]; exact (rR10 HO_8.out).2.1); rintro e w' ⟨rfl, ⟨nd, rfl⟩⟩; refine ⟨_, rfl, ?_⟩))
     go_ret
     exact ⟨nw_, ne_ HB.out⟩
    rw [if_pos c62] at H
    have c62b0 : (t778 == t767) = true := beq_iff_eq.mpr c62
    have c62b1 : (t778 != t767) = false := bne_eq_false_iff_eq.mpr c62
    clear c62
    obtain rfl := Option.some.inj H
    go_wp2_with (first | ((with_reducible refine gate_callee (f := 26) rfl ?_); refine gl_ (some 49) Try.func26 #[.slice Ao33 t755.length co33, .int .i64 1] ?_; (with_reducible refine (laws_markIntS.calls kj17 (fun k_ => some k_ = (.slice Ao33 t755.length co33 : Value).ownBlock) (.slice Ao33 t755.length co33) t755 1 t767 t768 w _ ?side1 ?side2 A44.out).mono ?_); (case side1 => exact ne_ HB.out); (case side2 => exact Kd.R_tight rfl HO_8.out); rintro e w63 ⟨rfl, hy0, hb, hkp⟩; refine ⟨_, rfl, ?_⟩; replace HO_6 := Aside0.mk (Kd.R_mono (ok' := fun k_ => some k_ ≠ (.slice Ao33 t755.length co33 : Value).ownBlock) (Kd.R_keptB (HO_6.out) hkp (fun k_ hk_ hs_ => (hk_) hs_)) (fun k_ hk_ => hk_.1)); replace HO_755001 := Aside0.mk (Kd.R_mono (ok' := fun k_ => True) (Kd.R_keptB ((Kd.R_apart' HO_755001.out (Kd.R_typed HO_8.out) (by decide))) hkp (fun k_ hk_ hs_ => (hk_.2) hs_)) (fun k_ hk_ => trivial)); replace BK741 := Aside0.mk (blk_kept (g := gb741) (o := .cells #[.int .i64 a0_0, .slice A0_1 l0_1.length c0_1] 39 (0, 0)) (nb_ BK741.out) hkp (fun hs_ => (fun e_ => (Kd.R_ne HO_8.out BK741.out (by decide)) e_) hs_)); replace BK754 := Aside0.mk (blk_kept (g := gb754) (o := .cells #[.int .i64 t750, .slice Ao31 t765.length co31] 25 (0, 0)) (nb_ BK754.out) hkp (fun hs_ => (fun e_ => (Kd.R_ne HO_8.out BK754.out (by decide)) e_) hs_)); replace HO_8 := Aside0.mk (Kd.R_reok rfl hy0 (fun k_ e_ => HO_8.out.1 k_ e_)); replace HB := Aside0.mk (hb); (try clear hb); (try clear hkp); (try clear hy0)) | ((with_reducible refine gate_callee (f := 27) rfl ?_); refine goesL_ (some 52) rfl rfl Try.func27 (by kernel_rfl) rfl #[.slice Ao33 t768.length co33, .int .i64 1] rfl (by (try simp only [List.map_toArray, List.map_cons, List.map_nil]); first | done | (rw [show t768.length = t755.length from (rR10 HO_8.out).1.symm] <;> rfl) | rfl | (simp only [List.length_drop, List.length_take]; rfl)) ?_; (with_reducible refine (laws_heldIntS.calls kj17 _ _ t768 1 t769 _ ?side1 ?side2 A45.out).mono ?_); (case side1 => exact nc_ (rR10 HO_8.out).2.2); (case side2 => rw [show t768.length = t755.length from (rR10 HO_8.out).1.symm]; exact (rR10 HO_8.out).2.1); rintro e w' ⟨rfl, ⟨nd, rfl⟩⟩; refine ⟨_, rfl, ?_⟩; have hnb64 := NB741_754.out; have hnc64 := NB754_741.out; obtain ⟨hcz65_0, hcz65_1, hfz65_0, hfz65_1⟩ := cz2_ BK741.out) | ((with_reducible refine gate_callee (f := 22) rfl ?_); refine gl_ (some 59) Try.func22 #[.agg #[.int .i64 a0_0, .slice A0_1 l0_1.length c0_1]] ?_; (with_reducible refine (laws_toNet.calls kj17 a0_0 _ _ l0_1 t770 t771 _ ?side1 ?side2 A49.out).mono ?_); (case side1 => exact nc_ (Kd.C_below HR0_1.out (ne_ HB.out))); (case side2 => exact HC0_1.out); rintro e w66 ⟨v772, rfl, ho0, hb⟩; refine ⟨_, rfl, ?_⟩; have HO773 := Aside0.mk (Kd.R_lower (Kd.R_new' ho0 (Kd.R_lt (nr_ HO_755001.out))) (below_size (ne_ HB.out))); replace HO_6 := kR_ HO_6 hb; replace HO_8 := kR_ HO_8 hb; replace HO_755001 := Aside0.mk (Kd.R_elder' (nr_ HO_755001.out) (Kd.R_base ho0) hb); replace BK741 := kb_ BK741 hb; replace BK754 := kb_ BK754 hb; replace HB := kB_ HB hb; (try clear hb); (try clear hb2); (try clear hk); (try clear hi); (try clear ho0); obtain ⟨Ao67, co67, eo67⟩ := Kd.R_slice HO773.out; subst eo67) | ((with_reducible refine gate_callee (f := 32) rfl ?_); refine gl_ (some 61) Try.func32 #[.agg #[.int .i64 t770, .slice Ao67 t771.length co67], .int .i64 a1] ?_; (with_reducible refine (impl_NearTree.calls kj17 t770 _ _ t771 a1 t774 _ ?side1 ?side2 A50.out).mono ?_); (case side1 => exact nc_ (rR10 HO773.out).2.2); (case side2 => exact (rR10 HO773.out).2.1); rintro e w68 ⟨v775, rfl, ho0, hb⟩; refine ⟨_, rfl, ?_⟩; have HO776 := Aside0.mk (Kd.R_lower (Kd.R_new' (Kd.R_new' ho0 (Kd.R_lt (nr_ HO_6.out))) (Kd.R_lt (nr_ HO_8.out))) (below_size (ne_ HB.out))); replace HO_6 := Aside0.mk (Kd.R_elder' (nr_ HO_6.out) (Kd.R_base ho0) hb); replace HO_8 := Aside0.mk (Kd.R_elder' (nr_ HO_8.out) (Kd.R_base ho0) hb); replace HO_755001 := kR_ HO_755001 hb; replace HO773 := kR_ HO773 hb; replace BK741 := kb_ BK741 hb; replace BK754 := kb_ BK754 hb; replace HB := kB_ HB hb; (try clear hb); (try clear hb2); (try clear hk); (try clear hi); (try clear ho0); obtain ⟨Ao69, co69, eo69⟩ := Kd.R_slice HO776.out; subst eo69) | ((with_reducible refine gate_callee (f := 23) rfl ?_); refine gl_ (some 64) Try.func23 #[.slice Ao69 t774.length co69, .slice Ao34 t747.length co34] ?_; (with_reducible refine (laws_eqIntS.calls kj17 _ _ t774 _ _ t747 true _ ?side1 ?side2 ?side3 ?side4 A51.out).mono ?_); (case side1 => exact nc_ (rR10 HO776.out).2.2); (case side2 => exact (rR10 HO776.out).2.1); (case side3 => exact nc_ (rR10 HO_6.out).2.2); (case side4 => exact (rR10 HO_6.out).2.1); rintro e w' ⟨rfl, ⟨nd, rfl⟩⟩; refine ⟨_, rfl, ?_⟩) | ((with_reducible refine gate_callee (f := 27) rfl ?_); refine goesL_ (some 68) rfl rfl Try.func27 (by kernel_rfl) rfl #[.slice Ao33 t768.length co33, .int .i64 1] rfl (by (try simp only [List.map_toArray, List.map_cons, List.map_nil]); first | done | (rw [show t768.length = t755.length from (rR10 HO_8.out).1.symm] <;> rfl) | rfl | (simp only [List.length_drop, List.length_take]; rfl)) ?_; (with_reducible refine (laws_heldIntS.calls kj17 _ _ t768 1 t778 _ ?side1 ?side2 A53.out).mono ?_); (case side1 => exact nc_ (rR10 HO_8.out).2.2); (case side2 => rw [show t768.length = t755.length from (rR10 HO_8.out).1.symm]; exact (rR10 HO_8.out).2.1); rintro e w' ⟨rfl, ⟨nd, rfl⟩⟩; refine ⟨_, rfl, ?_⟩))
    go_ret
    exact ⟨nw_, ne_ HB.out⟩
/-- THE ONE PURE STATEMENT of laws_FnExactNearTree. -/
def laws_FnExactNearTree.Pure : Prop := ∀ (a0_0 : Int) (l0_1 : List (S84)) (a1 : Int), (Lit.int .i64 a0_0).wf = true → l0_1.length ≤ maxLen → (∀ x ∈ l0_1, (Lit.int .i64 x.f0).wf = true ∧ (Lit.int .i64 x.f1).wf = true ∧ (Lit.int .i64 x.f2).wf = true ∧ (Lit.int .i64 x.f3).wf = true ∧ (Lit.int .i64 x.f4).wf = true) → (Lit.int .i64 a1).wf = true → ∃ k, laws_FnExactNearTree.f k a0_0 l0_1 a1 = some true
theorem laws_FnExactNearTree.walk (P : laws_FnExactNearTree.Pure) (a0_0 : Int) (A0_1 : Option Addr) (c0_1 : Nat) (l0_1 : List (S84)) (a1 : Int) (w : World) (hw0_0 : (Lit.int .i64 a0_0).wf = true) (hr0_1 : Kd.C k84 w A0_1 l0_1.length l0_1) (hm0_1 : l0_1.length ≤ maxLen) (hw0_1 : ∀ x ∈ l0_1, (Lit.int .i64 x.f0).wf = true ∧ (Lit.int .i64 x.f1).wf = true ∧ (Lit.int .i64 x.f2).wf = true ∧ (Lit.int .i64 x.f3).wf = true ∧ (Lit.int .i64 x.f4).wf = true) (hc0_1 : l0_1.length ≤ c0_1) (hw1 : (Lit.int .i64 a1).wf = true) :
    Calls Try.prog 10 #[.agg #[.int .i64 a0_0, .slice A0_1 l0_1.length c0_1], .int .i64 a1] w fun e w' => e = .returned (.bool true) ∧ Below w.heap.size w w' := by
  obtain ⟨k, h⟩ := P a0_0 l0_1 a1 hw0_0 hm0_1 hw0_1 hw1
  refine (laws_FnExactNearTree.calls k a0_0 A0_1 c0_1 l0_1 a1 true w hr0_1 hc0_1 h).mono ?_
  rintro e w' ⟨rfl, hd⟩
  exact ⟨rfl, hd⟩

end Go.Proofs.Ytbmoonciggfbpaa.Print
