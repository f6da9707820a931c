-- Made by this session's own program (wip/patch_print.py, over the kit's print). Lean checks it.
import Derived.Test.YtcfmejfmjjgoaaaPrint0
import Derived.Test.YtcfmejfmjjgoaaaPrintF16
import Derived.Test.YtcfmejfmjjgoaaaPrintF17
import Derived.Test.YtcfmejfmjjgoaaaPrintF18
import Derived.Test.YtcfmejfmjjgoaaaPrintF19
import Derived.Test.YtcfmejfmjjgoaaaPrintF20
import Derived.Test.YtcfmejfmjjgoaaaPrintF21
import Derived.Test.YtcfmejfmjjgoaaaPrintF33
import Derived.Test.YtcfmejfmjjgoaaaPrintF34
import Derived.Test.YtcfmejfmjjgoaaaPrintF35
import Derived.Test.YtcfmejfmjjgoaaaPrintF36
import Derived.Test.YtcfmejfmjjgoaaaPrintF37
namespace Go.Proofs.Ytcfmejfmjjgoaaa.Print
open Go.RowKit Go.Proofs.YtcfmejfmjjgoaaaW.PrintWords Go.Proofs.YtcfmejfmjjgoaaaW.PrintLast Go.Proofs.YtcfmejfmjjgoaaaW.PrintMore Go.Proofs.YtcfmejfmjjgoaaaX
attribute [local go_sem] max2_int min2_int max_two min_two max_three min_three max_four min_four   -- for this text's walks alone
set_option linter.unusedVariables false
set_option linter.unusedSimpArgs false

abbrev rD8 := @Kd.R_drew
abbrev rR8 := @Kd.R_reads'
/-! ### laws_FnExactTurnNet: function 8 -/
mutual
def laws_FnExactTurnNet.j0 : Nat → List (S76) → Bool → List (S31) → Bool → Bool → Int → List (S97) → Int → List (S33) → Int → List (S33) → Int → List (S33) → Option (Bool)
  | 0, _, _, _, _, _, _, _, _, _, _, _, _, _ => none
  | k + 1, x1, x7, x9, x11, x53, x759000, x759001, x774000, x774001, x779000, x779001, x788000, x788001 => if x53 = true then (some false) else ((laws_toNet.f k x759000 x759001).bind fun bt789 => ((laws_eqNet.f k x779000 x779001 bt789.1 bt789.2).bind fun t793 => (if t793 = true then ((laws_toTurnS.f k x1).bind fun t794 => ((laws_eqTurnS.f k x9 t794).bind fun t797 => (if t797 = true then ((laws_markNet.f k x779000 x779001 1).bind fun bt798 => ((laws_markTurnS.f k x9 bt798.1).bind fun bt800 => (if bt800.1 < 0 then (laws_FnExactTurnNet.j1 k x1 x7 true x759000 x759001 x774000 x774001 x788000 x788001) else ((laws_eqNet.f k x788000 x788001 x774000 x774001).bind fun t802 => (if t802 = true then (laws_FnExactTurnNet.j1 k x1 x7 (x11 != x7) x759000 x759001 x774000 x774001 x788000 x788001) else (laws_FnExactTurnNet.j1 k x1 x7 true x759000 x759001 x774000 x774001 x788000 x788001)))))) else (some false)))) else (some false))))
def laws_FnExactTurnNet.j1 : Nat → List (S76) → Bool → Bool → Int → List (S97) → Int → List (S33) → Int → List (S33) → Option (Bool)
  | 0, _, _, _, _, _, _, _, _, _ => none
  | k + 1, x1, x7, x82, x759000, x759001, x774000, x774001, x788000, x788001 => if x82 = true then (some false) else ((laws_markNet.f k x788000 x788001 1).bind fun bt803 => ((laws_heldNet.f k x788000 bt803.2 1).bind fun t805 => (if t805 < 0 then (some false) else (if t805 = bt803.1 then ((laws_toNet.f k x759000 x759001).bind fun bt806 => ((laws_toTurnS.f k x1).bind fun t810 => ((impl_TurnNet.f k bt806.1 bt806.2 t810).bind fun bt813 => ((laws_eqNet.f k bt813.1 bt813.2.1 x774000 x774001).bind fun t819 => (if t819 = true then (laws_FnExactTurnNet.j2 k bt803.1 (bt813.2.2 != x7) x788000 bt803.2) else (laws_FnExactTurnNet.j2 k bt803.1 true x788000 bt803.2)))))) else (some false)))))
def laws_FnExactTurnNet.j2 : Nat → Int → Bool → Int → List (S33) → Option (Bool)
  | 0, _, _, _, _ => none
  | k + 1, x13, x110, x788000, x788001 => if x110 = true then (some false) else ((laws_heldNet.f k x788000 x788001 1).bind fun t820 => (if t820 < 0 then (some false) else (if t820 = x13 then (some true) else (some false))))
end
def laws_FnExactTurnNet.f (k : Nat) (a0_0 : Int) (l0_1 : List (S97)) (l1 : List (S76)) : Option (Bool) := (laws_szNet.f a0_0 l0_1 1048576).bind fun t759 => (if t759 < 0 then (some true) else ((laws_szTurnS.f l1 t759).bind fun t760 => (if t760 < 0 then (some true) else ((laws_toNet.f k a0_0 l0_1).bind fun bt761 => ((laws_toTurnS.f k l1).bind fun t765 => ((spec_TurnNet.f k bt761.1 bt761.2 t765).bind fun bt768 => ((laws_toNet.f k a0_0 l0_1).bind fun bt774 => ((laws_toTurnS.f k l1).bind fun t779 => ((impl_TurnNet.f k bt774.1 bt774.2 t779).bind fun bt782 => ((laws_eqNet.f k bt782.1 bt782.2.1 bt768.1 bt768.2.1).bind fun t788 => (if t788 = true then (laws_FnExactTurnNet.j0 k l1 bt768.2.2 t779 bt782.2.2 (bt782.2.2 != bt768.2.2) a0_0 l0_1 bt768.1 bt768.2.1 bt774.1 bt774.2 bt782.1 bt782.2.1) else (laws_FnExactTurnNet.j0 k l1 bt768.2.2 t779 bt782.2.2 true a0_0 l0_1 bt768.1 bt768.2.1 bt774.1 bt774.2 bt782.1 bt782.2.1))))))))))))
set_option maxHeartbeats 200000000 in
set_option maxRecDepth 100000 in
theorem laws_FnExactTurnNet.calls (k : Nat) (a0_0 : Int) (A0_1 : Option Addr) (c0_1 : Nat) (l0_1 : List (S97)) (A1 : Option Addr) (c1 : Nat) (l1 : List (S76)) (r : Bool) (w : World) (hr0_1 : Kd.C k97 w A0_1 l0_1.length l0_1) (hc0_1 : l0_1.length ≤ c0_1) (hr1 : Kd.C k76 w A1 l1.length l1) (hc1 : l1.length ≤ c1) (h : laws_FnExactTurnNet.f k a0_0 l0_1 l1 = some r) :
    Calls Try.prog 8 #[.agg #[.int .i64 a0_0, .slice A0_1 l0_1.length c0_1], .slice A1 l1.length c1] w fun e w' => e = .returned (.bool r) ∧ Below w.heap.size w w' := by
  have hu37 := Try.underlying37
  have hu25 := Try.underlying25
  have HR0_1 := Aside0.mk hr0_1
  have HC0_1 := Aside0.mk hc0_1
  clear hr0_1 hc0_1
  have HR1 := Aside0.mk hr1
  have HC1 := Aside0.mk hc1
  clear hr1 hc1
  have HB := Aside0.mk (Below.refl w.heap.size w)
  have H : ((laws_szNet.f a0_0 l0_1 1048576).bind fun t759 => (if t759 < 0 then (some true) else ((laws_szTurnS.f l1 t759).bind fun t760 => (if t760 < 0 then (some true) else ((laws_toNet.f k a0_0 l0_1).bind fun bt761 => ((laws_toTurnS.f k l1).bind fun t765 => ((spec_TurnNet.f k bt761.1 bt761.2 t765).bind fun bt768 => ((laws_toNet.f k a0_0 l0_1).bind fun bt774 => ((laws_toTurnS.f k l1).bind fun t779 => ((impl_TurnNet.f k bt774.1 bt774.2 t779).bind fun bt782 => ((laws_eqNet.f k bt782.1 bt782.2.1 bt768.1 bt768.2.1).bind fun t788 => (if t788 = true then (laws_FnExactTurnNet.j0 k l1 bt768.2.2 t779 bt782.2.2 (bt782.2.2 != bt768.2.2) a0_0 l0_1 bt768.1 bt768.2.1 bt774.1 bt774.2 bt782.1 bt782.2.1) else (laws_FnExactTurnNet.j0 k l1 bt768.2.2 t779 bt782.2.2 true a0_0 l0_1 bt768.1 bt768.2.1 bt774.1 bt774.2 bt782.1 bt782.2.1))))))))))))) = some r := h
  clear h
  replace H := Option.bind_eq_some_iff.mp H
  obtain ⟨t759, A30, H⟩ := H
  try dsimp only at H
  have A3 := Aside0.mk A30
  clear A30
  by_cases c4 : t759 < 0
  ·rw [if_pos c4] at H
   have c4b0 : decide (t759 < 0) = true := decide_eq_true c4
   clear c4
   obtain rfl := Option.some.inj H
   go_enter Try.func8, Try.ntmps8
   go_wp2_with (first | ((with_reducible refine gate_dst (N := 2) rfl ?_); refine bx_ 2 #[.int .i64 a0_0, .slice A0_1 l0_1.length c0_1] 37 ?_; intro gb758 hg w5 hbox hb; have BK758 := Aside0.mk (hbox); have GW758 := Aside0.mk (zs_ hg (ne_ HB.out)); have GE758 := Aside0.mk (zs_ hg (ne_ HB.out)); replace HB := kB_ HB hb; clear hb hbox hg; obtain ⟨hcz6_0, hcz6_1, hfz6_0, hfz6_1⟩ := cz2_ BK758.out) | ((with_reducible refine gate_callee (f := 16) rfl ?_); refine gl_ (some 19) Try.func16 #[.agg #[.int .i64 a0_0, .slice A0_1 l0_1.length c0_1], .int .i64 1048576] ?_; (with_reducible refine (laws_szNet.calls a0_0 _ _ l0_1 1048576 t759 _ ?side1 ?side2 A3.out).mono ?_); (case side1 => exact nc_ (Kd.C_below HR0_1.out HB.out)); (case side2 => exact HC0_1.out); rintro e w7 ⟨rfl, hb⟩; refine ⟨_, rfl, ?_⟩; replace BK758 := kb_ BK758 hb; replace HB := kB_ HB hb; (try clear hb); (try clear hb2); (try clear hk); (try clear hi)))
   go_ret
   exact ⟨nw_, ne_ HB.out⟩
  rw [if_neg c4] at H
  have c4b0 : decide (t759 < 0) = false := decide_eq_false c4
  clear c4
  replace H := Option.bind_eq_some_iff.mp H
  obtain ⟨t760, A80, H⟩ := H
  try dsimp only at H
  have A8 := Aside0.mk A80
  clear A80
  by_cases c9 : t760 < 0
  ·rw [if_pos c9] at H
   have c9b0 : decide (t760 < 0) = true := decide_eq_true c9
   clear c9
   obtain rfl := Option.some.inj H
   go_enter Try.func8, Try.ntmps8
   go_wp2_with (first | ((with_reducible refine gate_dst (N := 2) rfl ?_); refine bx_ 2 #[.int .i64 a0_0, .slice A0_1 l0_1.length c0_1] 37 ?_; intro gb758 hg w10 hbox hb; have BK758 := Aside0.mk (hbox); have GW758 := Aside0.mk (zs_ hg (ne_ HB.out)); have GE758 := Aside0.mk (zs_ hg (ne_ HB.out)); replace HB := kB_ HB hb; clear hb hbox hg; obtain ⟨hcz11_0, hcz11_1, hfz11_0, hfz11_1⟩ := cz2_ BK758.out) | ((with_reducible refine gate_callee (f := 16) rfl ?_); refine gl_ (some 19) Try.func16 #[.agg #[.int .i64 a0_0, .slice A0_1 l0_1.length c0_1], .int .i64 1048576] ?_; (with_reducible refine (laws_szNet.calls a0_0 _ _ l0_1 1048576 t759 _ ?side1 ?side2 A3.out).mono ?_); (case side1 => exact nc_ (Kd.C_below HR0_1.out HB.out)); (case side2 => exact HC0_1.out); rintro e w12 ⟨rfl, hb⟩; refine ⟨_, rfl, ?_⟩; replace BK758 := kb_ BK758 hb; replace HB := kB_ HB hb; (try clear hb); (try clear hb2); (try clear hk); (try clear hi)) | ((with_reducible refine gate_callee (f := 17) rfl ?_); refine gl_ (some 24) Try.func17 #[.slice A1 l1.length c1, .int .i64 t759] ?_; (with_reducible refine (laws_szTurnS.calls _ _ l1 t759 t760 _ ?side1 ?side2 A8.out).mono ?_); (case side1 => exact nc_ (Kd.C_below HR1.out HB.out)); (case side2 => exact HC1.out); rintro e w' ⟨rfl, ⟨nd, rfl⟩⟩; refine ⟨_, rfl, ?_⟩))
   go_ret
   exact ⟨nw_, ne_ HB.out⟩
  rw [if_neg c9] at H
  have c9b0 : decide (t760 < 0) = false := decide_eq_false c9
  clear c9
  replace H := Option.bind_eq_some_iff.mp H
  obtain ⟨⟨t761, t762⟩, A130, H⟩ := H
  try dsimp only at H
  have A13 := Aside0.mk A130
  clear A130
  replace H := Option.bind_eq_some_iff.mp H
  obtain ⟨t765, A140, H⟩ := H
  try dsimp only at H
  have A14 := Aside0.mk A140
  clear A140
  replace H := Option.bind_eq_some_iff.mp H
  obtain ⟨⟨t768, t769, t772⟩, A150, H⟩ := H
  try dsimp only at H
  have A15 := Aside0.mk A150
  clear A150
  replace H := Option.bind_eq_some_iff.mp H
  obtain ⟨⟨t774, t775⟩, A160, H⟩ := H
  try dsimp only at H
  have A16 := Aside0.mk A160
  clear A160
  replace H := Option.bind_eq_some_iff.mp H
  obtain ⟨t779, A170, H⟩ := H
  try dsimp only at H
  have A17 := Aside0.mk A170
  clear A170
  replace H := Option.bind_eq_some_iff.mp H
  obtain ⟨⟨t782, t783, t786⟩, A180, H⟩ := H
  try dsimp only at H
  have A18 := Aside0.mk A180
  clear A180
  have HC19 := Aside0.mk H
  clear H
  go_enter Try.func8, Try.ntmps8
  go_upto_region 12 with (first | ((with_reducible refine gate_dst (N := 2) rfl ?_); refine bx_ 2 #[.int .i64 a0_0, .slice A0_1 l0_1.length c0_1] 37 ?_; intro gb758 hg w20 hbox hb; have BK758 := Aside0.mk (hbox); have GW758 := Aside0.mk (zs_ hg (ne_ HB.out)); have GE758 := Aside0.mk (zs_ hg (ne_ HB.out)); replace HB := kB_ HB hb; clear hb hbox hg; obtain ⟨hcz21_0, hcz21_1, hfz21_0, hfz21_1⟩ := cz2_ BK758.out) | ((with_reducible refine gate_callee (f := 16) rfl ?_); refine gl_ (some 19) Try.func16 #[.agg #[.int .i64 a0_0, .slice A0_1 l0_1.length c0_1], .int .i64 1048576] ?_; (with_reducible refine (laws_szNet.calls a0_0 _ _ l0_1 1048576 t759 _ ?side1 ?side2 A3.out).mono ?_); (case side1 => exact nc_ (Kd.C_below HR0_1.out HB.out)); (case side2 => exact HC0_1.out); rintro e w22 ⟨rfl, hb⟩; refine ⟨_, rfl, ?_⟩; replace BK758 := kb_ BK758 hb; replace HB := kB_ HB hb; (try clear hb); (try clear hb2); (try clear hk); (try clear hi)) | ((with_reducible refine gate_callee (f := 17) rfl ?_); refine gl_ (some 24) Try.func17 #[.slice A1 l1.length c1, .int .i64 t759] ?_; (with_reducible refine (laws_szTurnS.calls _ _ l1 t759 t760 _ ?side1 ?side2 A8.out).mono ?_); (case side1 => exact nc_ (Kd.C_below HR1.out HB.out)); (case side2 => exact HC1.out); rintro e w' ⟨rfl, ⟨nd, rfl⟩⟩; refine ⟨_, rfl, ?_⟩; (first | (rw [drewN_self w22]; generalize hq_ : World.drewN w22 _ = w22; replace BK758 : Aside0 (w22.heap[gb758]? = some (.cells #[.int .i64 a0_0, .slice A0_1 l0_1.length c0_1] 37 (0, 0))) := ⟨by rw [← hq_]; exact (nb_ BK758.out)⟩; replace HB : Aside0 (Below w.heap.size w w22) := ⟨by rw [← hq_]; exact (ne_ HB.out)⟩; clear hq_) | (have n0_ : Aside0 (w22.heap[gb758]? = some (.cells #[.int .i64 a0_0, .slice A0_1 l0_1.length c0_1] 37 (0, 0))) := ⟨(nb_ BK758.out)⟩; have n1_ : Aside0 (Below w.heap.size w w22) := ⟨(ne_ HB.out)⟩; clear BK758 HB; have BK758 := n0_; have HB := n1_; clear n0_ n1_)); obtain ⟨hcz23_0, hcz23_1, hfz23_0, hfz23_1⟩ := cz2_ BK758.out) | ((with_reducible refine gate_callee (f := 18) rfl ?_); refine gl_ (some 29) Try.func18 #[.agg #[.int .i64 a0_0, .slice A0_1 l0_1.length c0_1]] ?_; (with_reducible refine (laws_toNet.calls k a0_0 _ _ l0_1 t761 t762 _ ?side1 ?side2 A13.out).mono ?_); (case side1 => exact nc_ (Kd.C_below HR0_1.out HB.out)); (case side2 => exact HC0_1.out); rintro e w24 ⟨v763, rfl, ho0, hb⟩; refine ⟨_, rfl, ?_⟩; have HO764 := Aside0.mk (Kd.R_lower ho0 (below_size (ne_ HB.out))); replace BK758 := kb_ BK758 hb; replace HB := kB_ HB hb; (try clear hb); (try clear hb2); (try clear hk); (try clear hi); (try clear ho0)) | ((with_reducible refine gate_callee (f := 19) rfl ?_); refine gl_ (some 31) Try.func19 #[.slice A1 l1.length c1] ?_; (with_reducible refine (laws_toTurnS.calls k _ _ l1 t765 _ ?side1 ?side2 A14.out).mono ?_); (case side1 => exact nc_ (Kd.C_below HR1.out HB.out)); (case side2 => exact HC1.out); rintro e w25 ⟨v766, rfl, ho0, hb⟩; refine ⟨_, rfl, ?_⟩; have HO767 := Aside0.mk (Kd.R_lower ho0 (below_size (ne_ HB.out))); replace HO764 := kR_ HO764 hb; replace BK758 := kb_ BK758 hb; replace HB := kB_ HB hb; (try clear hb); (try clear hb2); (try clear hk); (try clear hi); (try clear ho0); obtain ⟨Ao26, co26, eo26⟩ := Kd.R_slice HO764.out; subst eo26; obtain ⟨Ao27, co27, eo27⟩ := Kd.R_slice HO767.out; subst eo27) | ((with_reducible refine gate_callee (f := 33) rfl ?_); refine gl_ (some 32) Try.func33 #[.agg #[.int .i64 t761, .slice Ao26 t762.length co26], .slice Ao27 t765.length co27] ?_; (with_reducible refine (spec_TurnNet.calls k t761 _ _ t762 _ _ t765 t768 t769 t772 _ ?side1 ?side2 ?side3 ?side4 A15.out).mono ?_); (case side1 => exact nc_ (rR8 HO764.out).2.2); (case side2 => exact (rR8 HO764.out).2.1); (case side3 => exact nc_ (rR8 HO767.out).2.2); (case side4 => exact (rR8 HO767.out).2.1); rintro e w28 ⟨v770, rfl, ho0, hb⟩; refine ⟨_, rfl, ?_⟩; have HO771 := Aside0.mk (Kd.R_lower (Kd.R_new' ho0 (Kd.R_lt (nr_ HO764.out))) (below_size (ne_ HB.out))); replace HO764 := Aside0.mk (Kd.R_elder' (nr_ HO764.out) (Kd.R_base ho0) hb); replace HO767 := kR_ HO767 hb; replace BK758 := kb_ BK758 hb; replace HB := kB_ HB hb; (try clear hb); (try clear hb2); (try clear hk); (try clear hi); (try clear ho0)) | ((with_reducible refine gate_dst (N := 6) rfl ?_); refine bx_ 6 #[.int .i64 0, .slice none 0 0] 25 ?_; intro gb773 hg w29 hbox hb; have BK773 := Aside0.mk (hbox); have GW773 := Aside0.mk (zs_ hg (ne_ HB.out)); have GE773 := Aside0.mk (zs_ hg (ne_ HB.out)); have NB758_773 := Aside0.mk (nl_ BK758.out hg); have NB773_758 := Aside0.mk (nm_ BK758.out hg); replace HO764 := kR_ HO764 hb; replace HO767 := kR_ HO767 hb; replace HO771 := kR_ HO771 hb; replace BK758 := kb_ BK758 hb; replace HB := kB_ HB hb; clear hb hbox hg; have hnb30 := NB773_758.out; have hnc30 := NB758_773.out; obtain ⟨hcz31_0, hcz31_1, hfz31_0, hfz31_1⟩ := cz2_ BK773.out; obtain ⟨Ao32, co32, eo32⟩ := Kd.R_slice HO771.out; subst eo32; obtain ⟨hcz33_0, hcz33_1, hfz33_0, hfz33_1⟩ := cz2_ BK758.out) | ((with_reducible refine gate_callee (f := 18) rfl ?_); refine gl_ (some 36) Try.func18 #[.agg #[.int .i64 a0_0, .slice A0_1 l0_1.length c0_1]] ?_; (with_reducible refine (laws_toNet.calls k a0_0 _ _ l0_1 t774 t775 _ ?side1 ?side2 A16.out).mono ?_); (case side1 => exact Kd.C_below HR0_1.out (ne_ HB.out)); (case side2 => exact HC0_1.out); rintro e w34 ⟨v776, rfl, ho0, hb⟩; refine ⟨_, rfl, ?_⟩; have HO777 := Aside0.mk (Kd.R_lower (Kd.R_new' (Kd.R_new' ho0 (Kd.R_lt (by (with_reducible repeat (first | apply rA8 | apply rN8 | apply rD8)); exact (Kd.R_mono (rf2_ (Kd.R_types HO764.out BK773.out (by decide))) (fun _ h_ => h_.1))))) (Kd.R_lt (by (with_reducible repeat (first | apply rA8 | apply rN8 | apply rD8)); exact (Kd.R_mono (rf2_ (Kd.R_types HO771.out BK773.out (by decide))) (fun _ h_ => h_.1))))) (below_size (ne_ HB.out))); replace HO764 := Aside0.mk (Kd.R_elder' (by (with_reducible repeat (first | apply rA8 | apply rN8 | apply rD8)); exact (Kd.R_mono (rf2_ (Kd.R_types HO764.out BK773.out (by decide))) (fun _ h_ => h_.1))) (Kd.R_base ho0) hb); replace HO767 := Aside0.mk (Kd.R_below (by (with_reducible repeat (first | apply rA8 | apply rN8 | apply rD8)); exact (Kd.R_mono (rf2_ (Kd.R_types HO767.out BK773.out (by decide))) (fun _ h_ => h_.1))) hb); replace HO771 := Aside0.mk (Kd.R_elder' (by (with_reducible repeat (first | apply rA8 | apply rN8 | apply rD8)); exact (Kd.R_mono (rf2_ (Kd.R_types HO771.out BK773.out (by decide))) (fun _ h_ => h_.1))) (Kd.R_base ho0) hb); replace BK758 := kf_ BK758 hb; replace BK773 := Aside0.mk (blk_below (g := gb773) (o := .cells #[.int .i64 t768, .slice Ao32 t769.length co32] 25 (0, 0)) (np_ BK773.out) hb); replace HB := kB_ HB hb; (try clear hb); (try clear hb2); (try clear hk); (try clear hi); (try clear ho0)) | ((with_reducible refine gate_dst (N := 8) rfl ?_); refine bx_ 8 #[.int .i64 0, .slice none 0 0] 25 ?_; intro gb778 hg w35 hbox hb; have BK778 := Aside0.mk (hbox); have GW778 := Aside0.mk (zs_ hg (ne_ HB.out)); have GE778 := Aside0.mk (zs_ hg (ne_ HB.out)); have NB758_778 := Aside0.mk (nl_ BK758.out hg); have NB778_758 := Aside0.mk (nm_ BK758.out hg); have NB773_778 := Aside0.mk (nl_ BK773.out hg); have NB778_773 := Aside0.mk (nm_ BK773.out hg); replace HO764 := kR_ HO764 hb; replace HO767 := kR_ HO767 hb; replace HO771 := kR_ HO771 hb; replace HO777 := kR_ HO777 hb; replace BK758 := kb_ BK758 hb; replace BK773 := kb_ BK773 hb; replace HB := kB_ HB hb; clear hb hbox hg; have hnb36 := NB778_758.out; have hnc36 := NB758_778.out; have hnb37 := NB778_773.out; have hnc37 := NB773_778.out; obtain ⟨hcz38_0, hcz38_1, hfz38_0, hfz38_1⟩ := cz2_ BK778.out; obtain ⟨Ao39, co39, eo39⟩ := Kd.R_slice HO777.out; subst eo39) | ((with_reducible refine gate_callee (f := 19) rfl ?_); refine gl_ (some 38) Try.func19 #[.slice A1 l1.length c1] ?_; (with_reducible refine (laws_toTurnS.calls k _ _ l1 t779 _ ?side1 ?side2 A17.out).mono ?_); (case side1 => exact Kd.C_below HR1.out (ne_ HB.out)); (case side2 => exact HC1.out); rintro e w40 ⟨v780, rfl, ho0, hb⟩; refine ⟨_, rfl, ?_⟩; have HO781 := Aside0.mk (Kd.R_lower (Kd.R_new' ho0 (Kd.R_lt (by (with_reducible repeat (first | apply rA8 | apply rN8 | apply rD8)); exact (Kd.R_mono (rf2_ (Kd.R_types HO767.out BK778.out (by decide))) (fun _ h_ => h_.1))))) (below_size (ne_ HB.out))); replace HO764 := Aside0.mk (Kd.R_below (by (with_reducible repeat (first | apply rA8 | apply rN8 | apply rD8)); exact (Kd.R_mono (rf2_ (Kd.R_types HO764.out BK778.out (by decide))) (fun _ h_ => h_.1))) hb); replace HO767 := Aside0.mk (Kd.R_elder' (by (with_reducible repeat (first | apply rA8 | apply rN8 | apply rD8)); exact (Kd.R_mono (rf2_ (Kd.R_types HO767.out BK778.out (by decide))) (fun _ h_ => h_.1))) (Kd.R_base ho0) hb); replace HO771 := Aside0.mk (Kd.R_below (by (with_reducible repeat (first | apply rA8 | apply rN8 | apply rD8)); exact (Kd.R_mono (rf2_ (Kd.R_types HO771.out BK778.out (by decide))) (fun _ h_ => h_.1))) hb); replace HO777 := Aside0.mk (Kd.R_below (by (with_reducible repeat (first | apply rA8 | apply rN8 | apply rD8)); exact (Kd.R_mono (rf2_ (Kd.R_types HO777.out BK778.out (by decide))) (fun _ h_ => h_.1))) hb); replace BK758 := kf_ BK758 hb; replace BK773 := kf_ BK773 hb; replace BK778 := Aside0.mk (blk_below (g := gb778) (o := .cells #[.int .i64 t774, .slice Ao39 t775.length co39] 25 (0, 0)) (np_ BK778.out) hb); replace HB := kB_ HB hb; (try clear hb); (try clear hb2); (try clear hk); (try clear hi); (try clear ho0); obtain ⟨hcz41_0, hcz41_1, hfz41_0, hfz41_1⟩ := cz2_ BK778.out; obtain ⟨Ao42, co42, eo42⟩ := Kd.R_slice HO781.out; subst eo42) | ((with_reducible refine gate_callee (f := 34) rfl ?_); refine gl_ (some 42) Try.func34 #[.agg #[.int .i64 t774, .slice Ao39 t775.length co39], .slice Ao42 t779.length co42] ?_; (with_reducible refine (impl_TurnNet.calls k t774 _ _ t775 _ _ t779 t782 t783 t786 _ ?side1 ?side2 ?side3 ?side4 A18.out).mono ?_); (case side1 => exact nc_ (rR8 HO777.out).2.2); (case side2 => exact (rR8 HO777.out).2.1); (case side3 => exact nc_ (rR8 HO781.out).2.2); (case side4 => exact (rR8 HO781.out).2.1); rintro e w43 ⟨v784, rfl, ho0, hb⟩; refine ⟨_, rfl, ?_⟩; have HO785 := Aside0.mk (Kd.R_lower (Kd.R_new' (Kd.R_new' (Kd.R_new' ho0 (Kd.R_lt (nr_ HO764.out))) (Kd.R_lt (nr_ HO771.out))) (Kd.R_lt (nr_ HO777.out))) (below_size (ne_ HB.out))); replace HO764 := Aside0.mk (Kd.R_elder' (nr_ HO764.out) (Kd.R_base ho0) hb); replace HO767 := kR_ HO767 hb; replace HO771 := Aside0.mk (Kd.R_elder' (nr_ HO771.out) (Kd.R_base ho0) hb); replace HO777 := Aside0.mk (Kd.R_elder' (nr_ HO777.out) (Kd.R_base ho0) hb); replace HO781 := kR_ HO781 hb; replace BK758 := kb_ BK758 hb; replace BK773 := kb_ BK773 hb; replace BK778 := kb_ BK778 hb; replace HB := kB_ HB hb; (try clear hb); (try clear hb2); (try clear hk); (try clear hi); (try clear ho0)) | ((with_reducible refine gate_dst (N := 10) rfl ?_); refine bx_ 10 #[.int .i64 0, .slice none 0 0] 25 ?_; intro gb787 hg w44 hbox hb; have BK787 := Aside0.mk (hbox); have GW787 := Aside0.mk (zs_ hg (ne_ HB.out)); have GE787 := Aside0.mk (zs_ hg (ne_ HB.out)); have NB758_787 := Aside0.mk (nl_ BK758.out hg); have NB787_758 := Aside0.mk (nm_ BK758.out hg); have NB773_787 := Aside0.mk (nl_ BK773.out hg); have NB787_773 := Aside0.mk (nm_ BK773.out hg); have NB778_787 := Aside0.mk (nl_ BK778.out hg); have NB787_778 := Aside0.mk (nm_ BK778.out hg); replace HO764 := kR_ HO764 hb; replace HO767 := kR_ HO767 hb; replace HO771 := kR_ HO771 hb; replace HO777 := kR_ HO777 hb; replace HO781 := kR_ HO781 hb; replace HO785 := kR_ HO785 hb; replace BK758 := kb_ BK758 hb; replace BK773 := kb_ BK773 hb; replace BK778 := kb_ BK778 hb; replace HB := kB_ HB hb; clear hb hbox hg; have hnb45 := NB787_758.out; have hnc45 := NB758_787.out; have hnb46 := NB787_773.out; have hnc46 := NB773_787.out; have hnb47 := NB787_778.out; have hnc47 := NB778_787.out; obtain ⟨hcz48_0, hcz48_1, hfz48_0, hfz48_1⟩ := cz2_ BK787.out; obtain ⟨Ao49, co49, eo49⟩ := Kd.R_slice HO785.out; subst eo49))
  (try simp only [Act.put, List.setIfInBounds_toArray, List.set_cons_zero, List.set_cons_succ])
  go_cut [53] (fun v53 wc => ∃ (kq : Nat) (x53_18 : Bool), v53 = .bool x53_18 ∧ Aside0 (laws_FnExactTurnNet.j0 kq l1 t772 t779 t786 x53_18 a0_0 l0_1 t768 t769 t774 t775 t782 t783 = some r) ∧ Aside0 (kq ≤ k) ∧ Aside0 (Kd.R k31 31 wc w.heap.size (fun _ => True) (.slice Ao42 t779.length co42) t779) ∧ Aside0 (Kd.R k33 33 wc w.heap.size (fun k_ => some k_ ≠ ((.slice Ao39 t775.length co39) : Value).ownBlock ∧ some k_ ≠ ((.slice Ao49 t783.length co49) : Value).ownBlock) (.slice Ao32 t769.length co32) t769) ∧ Aside0 (Kd.R k33 33 wc w.heap.size (fun k_ => some k_ ≠ ((.slice Ao32 t769.length co32) : Value).ownBlock ∧ some k_ ≠ ((.slice Ao49 t783.length co49) : Value).ownBlock) (.slice Ao39 t775.length co39) t775) ∧ Aside0 (Kd.R k33 33 wc w.heap.size (fun k_ => some k_ ≠ ((.slice Ao32 t769.length co32) : Value).ownBlock ∧ some k_ ≠ ((.slice Ao39 t775.length co39) : Value).ownBlock) (.slice Ao49 t783.length co49) t783) ∧ Aside0 (wc.heap[gb758]? = some (.cells #[.int .i64 a0_0, (.slice A0_1 l0_1.length c0_1)] 37 (0, 0))) ∧ Aside0 (wc.heap[gb773]? = some (.cells #[.int .i64 t768, (.slice Ao32 t769.length co32)] 25 (0, 0))) ∧ Aside0 (wc.heap[gb778]? = some (.cells #[.int .i64 t774, (.slice Ao39 t775.length co39)] 25 (0, 0))) ∧ Aside0 (wc.heap[gb787]? = some (.cells #[.int .i64 t782, (.slice Ao49 t783.length co49)] 25 (0, 0))) ∧ Aside0 (Below w.heap.size w wc))
  case first =>
   have H := HC19.out
   clear HC19
   replace H := Option.bind_eq_some_iff.mp H
   obtain ⟨t788, A500, H⟩ := H
   try dsimp only at H
   have A50 := Aside0.mk A500
   clear A500
   by_cases c51 : t788 = true
   ·subst c51
    rw [if_pos rfl] at H
    have H' := Aside0.mk H
    clear H
    have hnb52 := NB787_758.out
    have hnc52 := NB758_787.out
    have hnb53 := NB787_773.out
    have hnc53 := NB773_787.out
    have hnb54 := NB787_778.out
    have hnc54 := NB778_787.out
    obtain ⟨hcz55_0, hcz55_1, hfz55_0, hfz55_1⟩ := cz2_ BK787.out
    have hnb56 := NB773_758.out
    have hnc56 := NB758_773.out
    have hnb57 := NB773_778.out
    have hnc57 := NB778_773.out
    obtain ⟨hcz58_0, hcz58_1, hfz58_0, hfz58_1⟩ := cz2_ BK773.out
    go_wp2_with (first | ((with_reducible refine gate_callee (f := 20) rfl ?_); refine gl_ (some 47) Try.func20 #[.agg #[.int .i64 t782, .slice Ao49 t783.length co49], .agg #[.int .i64 t768, .slice Ao32 t769.length co32]] ?_; (with_reducible refine (laws_eqNet.calls k t782 _ _ t783 t768 _ _ t769 true _ ?side1 ?side2 ?side3 ?side4 A50.out).mono ?_); (case side1 => refine (rR8 (e := 33) (base := w.heap.size) (ok := fun k_ => (((True ∧ some k_ ≠ (.slice Ao26 t762.length co26 : Value).ownBlock) ∧ some k_ ≠ (.slice Ao32 t769.length co32 : Value).ownBlock) ∧ some k_ ≠ (.slice Ao39 t775.length co39 : Value).ownBlock)) (n := t783.length) (c := co49) ?_).2.2; exact (by (with_reducible repeat (first | apply rA8 | apply rN8 | apply rD8)); exact (Kd.R_mono (rf2_ (Kd.R_types HO785.out BK787.out (by decide))) (fun _ h_ => h_.1)))); (case side2 => exact (rR8 HO785.out).2.1); (case side3 => refine (rR8 (e := 33) (base := w.heap.size) (ok := fun k_ => (((True ∧ some k_ ≠ (.slice Ao26 t762.length co26 : Value).ownBlock) ∧ some k_ ≠ (.slice Ao39 t775.length co39 : Value).ownBlock) ∧ some k_ ≠ (.slice Ao49 t783.length co49 : Value).ownBlock)) (n := t769.length) (c := co32) ?_).2.2; exact (by (with_reducible repeat (first | apply rA8 | apply rN8 | apply rD8)); exact (Kd.R_mono (rf2_ (Kd.R_types HO771.out BK787.out (by decide))) (fun _ h_ => h_.1)))); (case side4 => exact (rR8 HO771.out).2.1); rintro e w59 ⟨rfl, hb⟩; refine ⟨_, rfl, ?_⟩; replace HO764 := Aside0.mk (Kd.R_below (by (with_reducible repeat (first | apply rA8 | apply rN8 | apply rD8)); exact (Kd.R_mono (rf2_ (Kd.R_types HO764.out BK787.out (by decide))) (fun _ h_ => h_.1))) hb); replace HO767 := Aside0.mk (Kd.R_below (by (with_reducible repeat (first | apply rA8 | apply rN8 | apply rD8)); exact (Kd.R_mono (rf2_ (Kd.R_types HO767.out BK787.out (by decide))) (fun _ h_ => h_.1))) hb); replace HO771 := Aside0.mk (Kd.R_below (by (with_reducible repeat (first | apply rA8 | apply rN8 | apply rD8)); exact (Kd.R_mono (rf2_ (Kd.R_types HO771.out BK787.out (by decide))) (fun _ h_ => h_.1))) hb); replace HO777 := Aside0.mk (Kd.R_below (by (with_reducible repeat (first | apply rA8 | apply rN8 | apply rD8)); exact (Kd.R_mono (rf2_ (Kd.R_types HO777.out BK787.out (by decide))) (fun _ h_ => h_.1))) hb); replace HO781 := Aside0.mk (Kd.R_below (by (with_reducible repeat (first | apply rA8 | apply rN8 | apply rD8)); exact (Kd.R_mono (rf2_ (Kd.R_types HO781.out BK787.out (by decide))) (fun _ h_ => h_.1))) hb); replace HO785 := Aside0.mk (Kd.R_below (by (with_reducible repeat (first | apply rA8 | apply rN8 | apply rD8)); exact (Kd.R_mono (rf2_ (Kd.R_types HO785.out BK787.out (by decide))) (fun _ h_ => h_.1))) hb); replace BK758 := kf_ BK758 hb; replace BK773 := kf_ BK773 hb; replace BK778 := kf_ BK778 hb; replace BK787 := Aside0.mk (blk_below (g := gb787) (o := .cells #[.int .i64 t782, .slice Ao49 t783.length co49] 25 (0, 0)) (np_ BK787.out) hb); replace HB := kB_ HB hb; (try clear hb); (try clear hb2); (try clear hk); (try clear hi)))
    go_meet
    case rel => exact ⟨_, ((t786 != t772)), ns_, H', ⟨by first | omega | exact Nat.le_refl _⟩, ⟨by (with_reducible repeat (first | apply rA8 | apply rN8 | apply rD8)); exact Kd.R_mono HO781.out (fun _ hk => trivial)⟩, ⟨by (with_reducible repeat (first | apply rA8 | apply rN8 | apply rD8)); exact Kd.R_mono HO771.out (fun _ hk => by first | exact ⟨hk.1.2, hk.2⟩ | trivial | simp_all)⟩, ⟨by (with_reducible repeat (first | apply rA8 | apply rN8 | apply rD8)); exact Kd.R_mono HO777.out (fun _ hk => by first | exact ⟨hk.1.2, hk.2⟩ | trivial | simp_all)⟩, ⟨by (with_reducible repeat (first | apply rA8 | apply rN8 | apply rD8)); exact Kd.R_mono HO785.out (fun _ hk => by first | exact ⟨hk.1.2, hk.2⟩ | trivial | simp_all)⟩, ⟨nb_ BK758.out⟩, ⟨nb_ BK773.out⟩, ⟨nb_ BK778.out⟩, ⟨nb_ BK787.out⟩, ⟨ne_ HB.out⟩⟩
   replace c51 := Bool.eq_false_iff.mpr c51
   subst c51
   have H1 : (laws_FnExactTurnNet.j0 k l1 t772 t779 t786 true a0_0 l0_1 t768 t769 t774 t775 t782 t783) = some r := by rw [if_neg (show ¬ (false = true) by decide)] at H; exact H
   clear H
   have H := H1
   clear H1
   have H' := Aside0.mk H
   clear H
   have hnb60 := NB787_758.out
   have hnc60 := NB758_787.out
   have hnb61 := NB787_773.out
   have hnc61 := NB773_787.out
   have hnb62 := NB787_778.out
   have hnc62 := NB778_787.out
   obtain ⟨hcz63_0, hcz63_1, hfz63_0, hfz63_1⟩ := cz2_ BK787.out
   have hnb64 := NB773_758.out
   have hnc64 := NB758_773.out
   have hnb65 := NB773_778.out
   have hnc65 := NB778_773.out
   obtain ⟨hcz66_0, hcz66_1, hfz66_0, hfz66_1⟩ := cz2_ BK773.out
   go_wp2_with (first | ((with_reducible refine gate_callee (f := 20) rfl ?_); refine gl_ (some 47) Try.func20 #[.agg #[.int .i64 t782, .slice Ao49 t783.length co49], .agg #[.int .i64 t768, .slice Ao32 t769.length co32]] ?_; (with_reducible refine (laws_eqNet.calls k t782 _ _ t783 t768 _ _ t769 false _ ?side1 ?side2 ?side3 ?side4 A50.out).mono ?_); (case side1 => refine (rR8 (e := 33) (base := w.heap.size) (ok := fun k_ => (((True ∧ some k_ ≠ (.slice Ao26 t762.length co26 : Value).ownBlock) ∧ some k_ ≠ (.slice Ao32 t769.length co32 : Value).ownBlock) ∧ some k_ ≠ (.slice Ao39 t775.length co39 : Value).ownBlock)) (n := t783.length) (c := co49) ?_).2.2; exact (by (with_reducible repeat (first | apply rA8 | apply rN8 | apply rD8)); exact (Kd.R_mono (rf2_ (Kd.R_types HO785.out BK787.out (by decide))) (fun _ h_ => h_.1)))); (case side2 => exact (rR8 HO785.out).2.1); (case side3 => refine (rR8 (e := 33) (base := w.heap.size) (ok := fun k_ => (((True ∧ some k_ ≠ (.slice Ao26 t762.length co26 : Value).ownBlock) ∧ some k_ ≠ (.slice Ao39 t775.length co39 : Value).ownBlock) ∧ some k_ ≠ (.slice Ao49 t783.length co49 : Value).ownBlock)) (n := t769.length) (c := co32) ?_).2.2; exact (by (with_reducible repeat (first | apply rA8 | apply rN8 | apply rD8)); exact (Kd.R_mono (rf2_ (Kd.R_types HO771.out BK787.out (by decide))) (fun _ h_ => h_.1)))); (case side4 => exact (rR8 HO771.out).2.1); rintro e w67 ⟨rfl, hb⟩; refine ⟨_, rfl, ?_⟩; replace HO764 := Aside0.mk (Kd.R_below (by (with_reducible repeat (first | apply rA8 | apply rN8 | apply rD8)); exact (Kd.R_mono (rf2_ (Kd.R_types HO764.out BK787.out (by decide))) (fun _ h_ => h_.1))) hb); replace HO767 := Aside0.mk (Kd.R_below (by (with_reducible repeat (first | apply rA8 | apply rN8 | apply rD8)); exact (Kd.R_mono (rf2_ (Kd.R_types HO767.out BK787.out (by decide))) (fun _ h_ => h_.1))) hb); replace HO771 := Aside0.mk (Kd.R_below (by (with_reducible repeat (first | apply rA8 | apply rN8 | apply rD8)); exact (Kd.R_mono (rf2_ (Kd.R_types HO771.out BK787.out (by decide))) (fun _ h_ => h_.1))) hb); replace HO777 := Aside0.mk (Kd.R_below (by (with_reducible repeat (first | apply rA8 | apply rN8 | apply rD8)); exact (Kd.R_mono (rf2_ (Kd.R_types HO777.out BK787.out (by decide))) (fun _ h_ => h_.1))) hb); replace HO781 := Aside0.mk (Kd.R_below (by (with_reducible repeat (first | apply rA8 | apply rN8 | apply rD8)); exact (Kd.R_mono (rf2_ (Kd.R_types HO781.out BK787.out (by decide))) (fun _ h_ => h_.1))) hb); replace HO785 := Aside0.mk (Kd.R_below (by (with_reducible repeat (first | apply rA8 | apply rN8 | apply rD8)); exact (Kd.R_mono (rf2_ (Kd.R_types HO785.out BK787.out (by decide))) (fun _ h_ => h_.1))) hb); replace BK758 := kf_ BK758 hb; replace BK773 := kf_ BK773 hb; replace BK778 := kf_ BK778 hb; replace BK787 := Aside0.mk (blk_below (g := gb787) (o := .cells #[.int .i64 t782, .slice Ao49 t783.length co49] 25 (0, 0)) (np_ BK787.out) hb); replace HB := kB_ HB hb; (try clear hb); (try clear hb2); (try clear hk); (try clear hi)))
   go_meet
   case rel => exact ⟨_, (true), ns_, H', ⟨by first | omega | exact Nat.le_refl _⟩, ⟨by (with_reducible repeat (first | apply rA8 | apply rN8 | apply rD8)); exact Kd.R_mono HO781.out (fun _ hk => trivial)⟩, ⟨by (with_reducible repeat (first | apply rA8 | apply rN8 | apply rD8)); exact Kd.R_mono HO771.out (fun _ hk => by first | exact ⟨hk.1.2, hk.2⟩ | trivial | simp_all)⟩, ⟨by (with_reducible repeat (first | apply rA8 | apply rN8 | apply rD8)); exact Kd.R_mono HO777.out (fun _ hk => by first | exact ⟨hk.1.2, hk.2⟩ | trivial | simp_all)⟩, ⟨by (with_reducible repeat (first | apply rA8 | apply rN8 | apply rD8)); exact Kd.R_mono HO785.out (fun _ hk => by first | exact ⟨hk.1.2, hk.2⟩ | trivial | simp_all)⟩, ⟨nb_ BK758.out⟩, ⟨nb_ BK773.out⟩, ⟨nb_ BK778.out⟩, ⟨nb_ BK787.out⟩, ⟨ne_ HB.out⟩⟩
  case rest =>
   clear HC19
   try clear c1
   try clear c4
   try clear c4b0
   try clear c9
   try clear c9b0
   try clear hcz21_0
   try clear hcz21_1
   try clear hcz23_0
   try clear hcz23_1
   try clear hcz31_0
   try clear hcz31_1
   try clear hcz33_0
   try clear hcz33_1
   try clear hcz38_0
   try clear hcz38_1
   try clear hcz41_0
   try clear hcz41_1
   try clear hcz48_0
   try clear hcz48_1
   try clear hfz21_0
   try clear hfz21_1
   try clear hfz23_0
   try clear hfz23_1
   try clear hfz31_0
   try clear hfz31_1
   try clear hfz33_0
   try clear hfz33_1
   try clear hfz38_0
   try clear hfz38_1
   try clear hfz41_0
   try clear hfz41_1
   try clear hfz48_0
   try clear hfz48_1
   obtain ⟨kq, x53_18, rfl, HA, HJ18, HO_9, HO_774001, HO_779001, HO_788001, BK758, BK773, BK778, BK787, HB⟩ := hcut
   cases kq with
   | zero => exact absurd HA.out (by simp [laws_FnExactTurnNet.j0])
   | succ kj18 =>
    have H := HA.out
    clear HA
    simp only [laws_FnExactTurnNet.j0] at H
    by_cases c68 : x53_18 = true
    ·subst c68
     have H1 : (some false) = some r := by rw [if_pos rfl] at H; exact H
     clear H
     have H := H1
     clear H1
     obtain rfl := Option.some.inj H
     go_wp2
     go_ret
     exact ⟨nw_, ne_ HB.out⟩
    replace c68 := Bool.eq_false_iff.mpr c68
    subst c68
    have H1 : ((laws_toNet.f kj18 a0_0 l0_1).bind fun bt789 => ((laws_eqNet.f kj18 t774 t775 bt789.1 bt789.2).bind fun t793 => (if t793 = true then ((laws_toTurnS.f kj18 l1).bind fun t794 => ((laws_eqTurnS.f kj18 t779 t794).bind fun t797 => (if t797 = true then ((laws_markNet.f kj18 t774 t775 1).bind fun bt798 => ((laws_markTurnS.f kj18 t779 bt798.1).bind fun bt800 => (if bt800.1 < 0 then (laws_FnExactTurnNet.j1 kj18 l1 t772 true a0_0 l0_1 t768 t769 t782 t783) else ((laws_eqNet.f kj18 t782 t783 t768 t769).bind fun t802 => (if t802 = true then (laws_FnExactTurnNet.j1 kj18 l1 t772 (t786 != t772) a0_0 l0_1 t768 t769 t782 t783) else (laws_FnExactTurnNet.j1 kj18 l1 t772 true a0_0 l0_1 t768 t769 t782 t783)))))) else (some false)))) else (some false)))) = some r := by rw [if_neg (show ¬ (false = true) by decide)] at H; exact H
    clear H
    have H := H1
    clear H1
    replace H := Option.bind_eq_some_iff.mp H
    obtain ⟨⟨t789, t790⟩, A690, H⟩ := H
    try dsimp only at H
    have A69 := Aside0.mk A690
    clear A690
    replace H := Option.bind_eq_some_iff.mp H
    obtain ⟨t793, A700, H⟩ := H
    try dsimp only at H
    have A70 := Aside0.mk A700
    clear A700
    by_cases c71 : t793 = true
    rotate_left
    ·replace c71 := Bool.eq_false_iff.mpr c71
     subst c71
     have H1 : (some false) = some r := by rw [if_neg (show ¬ (false = true) by decide)] at H; exact H
     clear H
     have H := H1
     clear H1
     obtain rfl := Option.some.inj H
     try go_wp2
     replace HO_9 := Aside0.mk (rD8 HO_9.out)
     replace HO_774001 := Aside0.mk (rD8 HO_774001.out)
     replace HO_779001 := Aside0.mk (rD8 HO_779001.out)
     replace HO_788001 := Aside0.mk (rD8 HO_788001.out)
     replace BK758 := Aside0.mk (blk_drew BK758.out)
     replace BK773 := Aside0.mk (blk_drew BK773.out)
     replace BK778 := Aside0.mk (blk_drew BK778.out)
     replace BK787 := Aside0.mk (blk_drew BK787.out)
     replace HB := Aside0.mk (below_drew1 HB.out)
     refine start_ (n := 5) (S := fun w' => w'.cell? ⟨gb778, 0, none⟩ = some (.int .i64 t774) ∧ w'.cell? ⟨gb778, 1, none⟩ = some (.slice Ao39 t775.length co39) ∧ w'.cell? ⟨gb758, 0, none⟩ = some (.int .i64 a0_0) ∧ w'.cell? ⟨gb758, 1, none⟩ = some (.slice A0_1 l0_1.length c0_1)) (ds := []) #[false, false, false, false, false] (by kernel_rfl) rfl rfl ⟨ct_ BK778.out 0, ct_ BK778.out 1, ct_ BK758.out 0, ct_ BK758.out 1⟩ (fun hHeld => ?_)
     generalize wc.drew = w206 at HO_9 HO_774001 HO_779001 HO_788001 BK758 BK773 BK778 BK787 HB hHeld ⊢
     refine take_ (i := 0) (N := some 54) (v := ?_) (a' := ?_) #[true, false, false, false, false] rfl rfl (by kernel_rfl) (fun _ _ _ h => h) (Or.inl ⟨by rfl, ?_⟩) hHeld ?_ ?_
     rotate_left
     ·rintro w' ⟨s0, s1, s2, s3⟩
      go_simp
      with_reducible rfl
     rotate_left
     ·simp only [Act.put, List.setIfInBounds_toArray, List.set_cons_zero, List.set_cons_succ, i64_w, i32_w]
      rfl
     refine take_ (i := 1) (N := some 55) (v := ?_) (a' := ?_) #[true, true, false, false, false] rfl rfl (by kernel_rfl) (fun _ _ _ h => h) (Or.inl ⟨by rfl, ?_⟩) hHeld ?_ ?_
     rotate_left
     ·rintro w' ⟨s0, s1, s2, s3⟩
      go_simp
      with_reducible rfl
     rotate_left
     ·simp only [Act.put, List.setIfInBounds_toArray, List.set_cons_zero, List.set_cons_succ, i64_w, i32_w]
      rfl
     refine one_ (i := 2) (N := some 56) #[true, true, true, false, false] rfl rfl (by kernel_rfl) (by decide) (fun K hK => ?_)
     refine go_ Try.func18 #[.agg #[.int .i64 a0_0, .slice A0_1 l0_1.length c0_1]] ?_
     with_reducible refine (laws_toNet.calls kj18 a0_0 _ _ l0_1 t789 t790 _ ?side1 ?side2 A69.out).mono ?_
     (case side1 => exact nc_ (Kd.C_below HR0_1.out HB.out))
     (case side2 => exact HC0_1.out)
     rintro e w207 ⟨v791, rfl, ho0, hb⟩
     refine ⟨_, rfl, ?_⟩
     replace HO_9 := kR_ HO_9 hb
     have HO792 := Aside0.mk (Kd.R_lower (Kd.R_new' (Kd.R_new' (Kd.R_new' ho0 (Kd.R_lt (nr_ HO_774001.out))) (Kd.R_lt (nr_ HO_779001.out))) (Kd.R_lt (nr_ HO_788001.out))) (below_size (ne_ HB.out)))
     replace HO_774001 := Aside0.mk (Kd.R_elder' (nr_ HO_774001.out) (Kd.R_base ho0) hb)
     replace HO_779001 := Aside0.mk (Kd.R_elder' (nr_ HO_779001.out) (Kd.R_base ho0) hb)
     replace HO_788001 := Aside0.mk (Kd.R_elder' (nr_ HO_788001.out) (Kd.R_base ho0) hb)
     replace BK758 := kb_ BK758 hb
     replace BK773 := kb_ BK773 hb
     replace BK778 := kb_ BK778 hb
     replace BK787 := kb_ BK787 hb
     replace HB := kB_ HB hb
     (try clear hb)
     (try clear hb2)
     (try clear hk)
     (try clear hi)
     (try clear ho0)
     obtain ⟨Ao208, co208, eo208⟩ := Kd.R_slice HO792.out
     (first | subst eo208 | (injection eo208 with f1_ f2_ f3_; have f4_ := f1_.symm; have f5_ := f3_.symm; clear f1_ f2_ f3_; subst f4_; subst f5_))
     refine hK.out _ _ ⟨ct_ BK778.out 0, ct_ BK778.out 1, ct_ BK758.out 0, ct_ BK758.out 1⟩ (fun hHeld => ?_)
     clear hK K
     refine nm1_ (some 56) ?_
     refine one_ (i := 3) (N := some 57) #[true, true, true, true, false] rfl rfl (by kernel_rfl) (by decide) (fun K hK => ?_)
     refine go_ Try.func20 #[.agg #[.int .i64 t774, .slice Ao39 t775.length co39], .agg #[.int .i64 t789, .slice Ao208 t790.length co208]] ?_
     with_reducible refine (laws_eqNet.calls kj18 t774 _ _ t775 t789 _ _ t790 false _ ?side1 ?side2 ?side3 ?side4 A70.out).mono ?_
     (case side1 => exact nc_ (rR8 HO_779001.out).2.2)
     (case side2 => exact (rR8 HO_779001.out).2.1)
     (case side3 => exact nc_ (rR8 HO792.out).2.2)
     (case side4 => exact (rR8 HO792.out).2.1)
     rintro e w209 ⟨rfl, hb⟩
     refine ⟨_, rfl, ?_⟩
     replace HO_9 := kR_ HO_9 hb
     replace HO_774001 := kR_ HO_774001 hb
     replace HO_779001 := kR_ HO_779001 hb
     replace HO_788001 := kR_ HO_788001 hb
     replace HO792 := kR_ HO792 hb
     replace BK758 := kb_ BK758 hb
     replace BK773 := kb_ BK773 hb
     replace BK778 := kb_ BK778 hb
     replace BK787 := kb_ BK787 hb
     replace HB := kB_ HB hb
     (try clear hb)
     (try clear hb2)
     (try clear hk)
     (try clear hi)
     refine hK.out _ _ ⟨ct_ BK778.out 0, ct_ BK778.out 1, ct_ BK758.out 0, ct_ BK758.out 1⟩ (fun hHeld => ?_)
     clear hK K
     refine nm1_ (some 57) ?_
     refine pure_ (i := 4) (N := some 58) (v := ?_) (a' := ?_) #[true, true, true, true, true] rfl rfl (by kernel_rfl) (fun _ _ _ h => h) (Or.inl ⟨by rfl, ?_⟩) ?_ ?_
     rotate_left
     ·intro w'
      go_simp
      with_reducible rfl
     rotate_left
     ·simp only [Act.put, List.setIfInBounds_toArray, List.set_cons_zero, List.set_cons_succ, i64_w, i32_w]
      rfl
     refine done_ (by kernel_rfl) ?_
     try go_wp2
     go_ret
     exact ⟨nw_, ne_ HB.out⟩

    subst c71
    rw [if_pos rfl] at H
    replace H := Option.bind_eq_some_iff.mp H
    obtain ⟨t794, A720, H⟩ := H
    try dsimp only at H
    have A72 := Aside0.mk A720
    clear A720
    replace H := Option.bind_eq_some_iff.mp H
    obtain ⟨t797, A730, H⟩ := H
    try dsimp only at H
    have A73 := Aside0.mk A730
    clear A730
    by_cases c74 : t797 = true
    rotate_left
    ·replace c74 := Bool.eq_false_iff.mpr c74
     subst c74
     have H1 : (some false) = some r := by rw [if_neg (show ¬ (false = true) by decide)] at H; exact H
     clear H
     have H := H1
     clear H1
     obtain rfl := Option.some.inj H
     try go_wp2
     replace HO_9 := Aside0.mk (rD8 HO_9.out)
     replace HO_774001 := Aside0.mk (rD8 HO_774001.out)
     replace HO_779001 := Aside0.mk (rD8 HO_779001.out)
     replace HO_788001 := Aside0.mk (rD8 HO_788001.out)
     replace BK758 := Aside0.mk (blk_drew BK758.out)
     replace BK773 := Aside0.mk (blk_drew BK773.out)
     replace BK778 := Aside0.mk (blk_drew BK778.out)
     replace BK787 := Aside0.mk (blk_drew BK787.out)
     replace HB := Aside0.mk (below_drew1 HB.out)
     refine start_ (n := 5) (S := fun w' => w'.cell? ⟨gb778, 0, none⟩ = some (.int .i64 t774) ∧ w'.cell? ⟨gb778, 1, none⟩ = some (.slice Ao39 t775.length co39) ∧ w'.cell? ⟨gb758, 0, none⟩ = some (.int .i64 a0_0) ∧ w'.cell? ⟨gb758, 1, none⟩ = some (.slice A0_1 l0_1.length c0_1)) (ds := []) #[false, false, false, false, false] (by kernel_rfl) rfl rfl ⟨ct_ BK778.out 0, ct_ BK778.out 1, ct_ BK758.out 0, ct_ BK758.out 1⟩ (fun hHeld => ?_)
     generalize wc.drew = w199 at HO_9 HO_774001 HO_779001 HO_788001 BK758 BK773 BK778 BK787 HB hHeld ⊢
     refine take_ (i := 0) (N := some 54) (v := ?_) (a' := ?_) #[true, false, false, false, false] rfl rfl (by kernel_rfl) (fun _ _ _ h => h) (Or.inl ⟨by rfl, ?_⟩) hHeld ?_ ?_
     rotate_left
     ·rintro w' ⟨s0, s1, s2, s3⟩
      go_simp
      with_reducible rfl
     rotate_left
     ·simp only [Act.put, List.setIfInBounds_toArray, List.set_cons_zero, List.set_cons_succ, i64_w, i32_w]
      rfl
     refine take_ (i := 1) (N := some 55) (v := ?_) (a' := ?_) #[true, true, false, false, false] rfl rfl (by kernel_rfl) (fun _ _ _ h => h) (Or.inl ⟨by rfl, ?_⟩) hHeld ?_ ?_
     rotate_left
     ·rintro w' ⟨s0, s1, s2, s3⟩
      go_simp
      with_reducible rfl
     rotate_left
     ·simp only [Act.put, List.setIfInBounds_toArray, List.set_cons_zero, List.set_cons_succ, i64_w, i32_w]
      rfl
     refine one_ (i := 2) (N := some 56) #[true, true, true, false, false] rfl rfl (by kernel_rfl) (by decide) (fun K hK => ?_)
     refine go_ Try.func18 #[.agg #[.int .i64 a0_0, .slice A0_1 l0_1.length c0_1]] ?_
     with_reducible refine (laws_toNet.calls kj18 a0_0 _ _ l0_1 t789 t790 _ ?side1 ?side2 A69.out).mono ?_
     (case side1 => exact nc_ (Kd.C_below HR0_1.out HB.out))
     (case side2 => exact HC0_1.out)
     rintro e w200 ⟨v791, rfl, ho0, hb⟩
     refine ⟨_, rfl, ?_⟩
     replace HO_9 := kR_ HO_9 hb
     have HO792 := Aside0.mk (Kd.R_lower (Kd.R_new' (Kd.R_new' (Kd.R_new' ho0 (Kd.R_lt (nr_ HO_774001.out))) (Kd.R_lt (nr_ HO_779001.out))) (Kd.R_lt (nr_ HO_788001.out))) (below_size (ne_ HB.out)))
     replace HO_774001 := Aside0.mk (Kd.R_elder' (nr_ HO_774001.out) (Kd.R_base ho0) hb)
     replace HO_779001 := Aside0.mk (Kd.R_elder' (nr_ HO_779001.out) (Kd.R_base ho0) hb)
     replace HO_788001 := Aside0.mk (Kd.R_elder' (nr_ HO_788001.out) (Kd.R_base ho0) hb)
     replace BK758 := kb_ BK758 hb
     replace BK773 := kb_ BK773 hb
     replace BK778 := kb_ BK778 hb
     replace BK787 := kb_ BK787 hb
     replace HB := kB_ HB hb
     (try clear hb)
     (try clear hb2)
     (try clear hk)
     (try clear hi)
     (try clear ho0)
     obtain ⟨Ao201, co201, eo201⟩ := Kd.R_slice HO792.out
     (first | subst eo201 | (injection eo201 with f1_ f2_ f3_; have f4_ := f1_.symm; have f5_ := f3_.symm; clear f1_ f2_ f3_; subst f4_; subst f5_))
     refine hK.out _ _ ⟨ct_ BK778.out 0, ct_ BK778.out 1, ct_ BK758.out 0, ct_ BK758.out 1⟩ (fun hHeld => ?_)
     clear hK K
     refine nm1_ (some 56) ?_
     refine one_ (i := 3) (N := some 57) #[true, true, true, true, false] rfl rfl (by kernel_rfl) (by decide) (fun K hK => ?_)
     refine go_ Try.func20 #[.agg #[.int .i64 t774, .slice Ao39 t775.length co39], .agg #[.int .i64 t789, .slice Ao201 t790.length co201]] ?_
     with_reducible refine (laws_eqNet.calls kj18 t774 _ _ t775 t789 _ _ t790 true _ ?side1 ?side2 ?side3 ?side4 A70.out).mono ?_
     (case side1 => exact nc_ (rR8 HO_779001.out).2.2)
     (case side2 => exact (rR8 HO_779001.out).2.1)
     (case side3 => exact nc_ (rR8 HO792.out).2.2)
     (case side4 => exact (rR8 HO792.out).2.1)
     rintro e w202 ⟨rfl, hb⟩
     refine ⟨_, rfl, ?_⟩
     replace HO_9 := kR_ HO_9 hb
     replace HO_774001 := kR_ HO_774001 hb
     replace HO_779001 := kR_ HO_779001 hb
     replace HO_788001 := kR_ HO_788001 hb
     replace HO792 := kR_ HO792 hb
     replace BK758 := kb_ BK758 hb
     replace BK773 := kb_ BK773 hb
     replace BK778 := kb_ BK778 hb
     replace BK787 := kb_ BK787 hb
     replace HB := kB_ HB hb
     (try clear hb)
     (try clear hb2)
     (try clear hk)
     (try clear hi)
     refine hK.out _ _ ⟨ct_ BK778.out 0, ct_ BK778.out 1, ct_ BK758.out 0, ct_ BK758.out 1⟩ (fun hHeld => ?_)
     clear hK K
     refine nm1_ (some 57) ?_
     refine pure_ (i := 4) (N := some 58) (v := ?_) (a' := ?_) #[true, true, true, true, true] rfl rfl (by kernel_rfl) (fun _ _ _ h => h) (Or.inl ⟨by rfl, ?_⟩) ?_ ?_
     rotate_left
     ·intro w'
      go_simp
      with_reducible rfl
     rotate_left
     ·simp only [Act.put, List.setIfInBounds_toArray, List.set_cons_zero, List.set_cons_succ, i64_w, i32_w]
      rfl
     refine done_ (by kernel_rfl) ?_
     try go_wp2_with (first | ((with_reducible refine gate_callee (f := 19) rfl ?_); refine gl_ (some 61) Try.func19 #[.slice A1 l1.length c1] ?_; (with_reducible refine (laws_toTurnS.calls kj18 _ _ l1 t794 _ ?side1 ?side2 A72.out).mono ?_); (case side1 => exact nc_ (Kd.C_below HR1.out HB.out)); (case side2 => exact HC1.out); rintro e w203 ⟨v795, rfl, ho0, hb⟩; refine ⟨_, rfl, ?_⟩; have HO796 := Aside0.mk (Kd.R_lower (Kd.R_new' ho0 (Kd.R_lt (nr_ HO_9.out))) (below_size (ne_ HB.out))); replace HO_9 := Aside0.mk (Kd.R_elder' (nr_ HO_9.out) (Kd.R_base ho0) hb); replace HO_774001 := kR_ HO_774001 hb; replace HO_779001 := kR_ HO_779001 hb; replace HO_788001 := kR_ HO_788001 hb; replace HO792 := kR_ HO792 hb; replace BK758 := kb_ BK758 hb; replace BK773 := kb_ BK773 hb; replace BK778 := kb_ BK778 hb; replace BK787 := kb_ BK787 hb; replace HB := kB_ HB hb; (try clear hb); (try clear hb2); (try clear hk); (try clear hi); (try clear ho0); obtain ⟨Ao204, co204, eo204⟩ := Kd.R_slice HO796.out; subst eo204) | ((with_reducible refine gate_callee (f := 21) rfl ?_); refine gl_ (some 62) Try.func21 #[.slice Ao42 t779.length co42, .slice Ao204 t794.length co204] ?_; (with_reducible refine (laws_eqTurnS.calls kj18 _ _ t779 _ _ t794 false _ ?side1 ?side2 ?side3 ?side4 A73.out).mono ?_); (case side1 => exact nc_ (rR8 HO_9.out).2.2); (case side2 => exact (rR8 HO_9.out).2.1); (case side3 => exact nc_ (rR8 HO796.out).2.2); (case side4 => exact (rR8 HO796.out).2.1); rintro e w205 ⟨rfl, hb⟩; refine ⟨_, rfl, ?_⟩; replace HO_9 := kR_ HO_9 hb; replace HO_774001 := kR_ HO_774001 hb; replace HO_779001 := kR_ HO_779001 hb; replace HO_788001 := kR_ HO_788001 hb; replace HO792 := kR_ HO792 hb; replace HO796 := kR_ HO796 hb; replace BK758 := kb_ BK758 hb; replace BK773 := kb_ BK773 hb; replace BK778 := kb_ BK778 hb; replace BK787 := kb_ BK787 hb; replace HB := kB_ HB hb; (try clear hb); (try clear hb2); (try clear hk); (try clear hi)))
     go_ret
     exact ⟨nw_, ne_ HB.out⟩
    subst c74
    rw [if_pos rfl] at H
    replace H := Option.bind_eq_some_iff.mp H
    obtain ⟨⟨t798, t799⟩, A750, H⟩ := H
    try dsimp only at H
    have A75 := Aside0.mk A750
    clear A750
    replace H := Option.bind_eq_some_iff.mp H
    obtain ⟨⟨t800, t801⟩, A760, H⟩ := H
    try dsimp only at H
    have A76 := Aside0.mk A760
    clear A760
    have HC77 := Aside0.mk H
    clear H
    try go_wp2
    replace HO_9 := Aside0.mk (rD8 HO_9.out)
    replace HO_774001 := Aside0.mk (rD8 HO_774001.out)
    replace HO_779001 := Aside0.mk (rD8 HO_779001.out)
    replace HO_788001 := Aside0.mk (rD8 HO_788001.out)
    replace BK758 := Aside0.mk (blk_drew BK758.out)
    replace BK773 := Aside0.mk (blk_drew BK773.out)
    replace BK778 := Aside0.mk (blk_drew BK778.out)
    replace BK787 := Aside0.mk (blk_drew BK787.out)
    replace HB := Aside0.mk (below_drew1 HB.out)
    refine start_ (n := 5) (S := fun w' => w'.cell? ⟨gb778, 0, none⟩ = some (.int .i64 t774) ∧ w'.cell? ⟨gb778, 1, none⟩ = some (.slice Ao39 t775.length co39) ∧ w'.cell? ⟨gb758, 0, none⟩ = some (.int .i64 a0_0) ∧ w'.cell? ⟨gb758, 1, none⟩ = some (.slice A0_1 l0_1.length c0_1)) (ds := []) #[false, false, false, false, false] (by kernel_rfl) rfl rfl ⟨ct_ BK778.out 0, ct_ BK778.out 1, ct_ BK758.out 0, ct_ BK758.out 1⟩ (fun hHeld => ?_)
    generalize wc.drew = w78 at HO_9 HO_774001 HO_779001 HO_788001 BK758 BK773 BK778 BK787 HB hHeld ⊢
    refine take_ (i := 0) (N := some 54) (v := ?_) (a' := ?_) #[true, false, false, false, false] rfl rfl (by kernel_rfl) (fun _ _ _ h => h) (Or.inl ⟨by rfl, ?_⟩) hHeld ?_ ?_
    rotate_left
    ·rintro w' ⟨s0, s1, s2, s3⟩
     go_simp
     with_reducible rfl
    rotate_left
    ·simp only [Act.put, List.setIfInBounds_toArray, List.set_cons_zero, List.set_cons_succ, i64_w, i32_w]
     rfl
    refine take_ (i := 1) (N := some 55) (v := ?_) (a' := ?_) #[true, true, false, false, false] rfl rfl (by kernel_rfl) (fun _ _ _ h => h) (Or.inl ⟨by rfl, ?_⟩) hHeld ?_ ?_
    rotate_left
    ·rintro w' ⟨s0, s1, s2, s3⟩
     go_simp
     with_reducible rfl
    rotate_left
    ·simp only [Act.put, List.setIfInBounds_toArray, List.set_cons_zero, List.set_cons_succ, i64_w, i32_w]
     rfl
    refine one_ (i := 2) (N := some 56) #[true, true, true, false, false] rfl rfl (by kernel_rfl) (by decide) (fun K hK => ?_)
    refine go_ Try.func18 #[.agg #[.int .i64 a0_0, .slice A0_1 l0_1.length c0_1]] ?_
    with_reducible refine (laws_toNet.calls kj18 a0_0 _ _ l0_1 t789 t790 _ ?side1 ?side2 A69.out).mono ?_
    (case side1 => exact nc_ (Kd.C_below HR0_1.out HB.out))
    (case side2 => exact HC0_1.out)
    rintro e w79 ⟨v791, rfl, ho0, hb⟩
    refine ⟨_, rfl, ?_⟩
    replace HO_9 := kR_ HO_9 hb
    have HO792 := Aside0.mk (Kd.R_lower (Kd.R_new' (Kd.R_new' (Kd.R_new' ho0 (Kd.R_lt (nr_ HO_774001.out))) (Kd.R_lt (nr_ HO_779001.out))) (Kd.R_lt (nr_ HO_788001.out))) (below_size (ne_ HB.out)))
    replace HO_774001 := Aside0.mk (Kd.R_elder' (nr_ HO_774001.out) (Kd.R_base ho0) hb)
    replace HO_779001 := Aside0.mk (Kd.R_elder' (nr_ HO_779001.out) (Kd.R_base ho0) hb)
    replace HO_788001 := Aside0.mk (Kd.R_elder' (nr_ HO_788001.out) (Kd.R_base ho0) hb)
    replace BK758 := kb_ BK758 hb
    replace BK773 := kb_ BK773 hb
    replace BK778 := kb_ BK778 hb
    replace BK787 := kb_ BK787 hb
    replace HB := kB_ HB hb
    (try clear hb)
    (try clear hb2)
    (try clear hk)
    (try clear hi)
    (try clear ho0)
    obtain ⟨Ao80, co80, eo80⟩ := Kd.R_slice HO792.out
    (first | subst eo80 | (injection eo80 with f1_ f2_ f3_; have f4_ := f1_.symm; have f5_ := f3_.symm; clear f1_ f2_ f3_; subst f4_; subst f5_))
    refine hK.out _ _ ⟨ct_ BK778.out 0, ct_ BK778.out 1, ct_ BK758.out 0, ct_ BK758.out 1⟩ (fun hHeld => ?_)
    clear hK K
    refine nm1_ (some 56) ?_
    refine one_ (i := 3) (N := some 57) #[true, true, true, true, false] rfl rfl (by kernel_rfl) (by decide) (fun K hK => ?_)
    refine go_ Try.func20 #[.agg #[.int .i64 t774, .slice Ao39 t775.length co39], .agg #[.int .i64 t789, .slice Ao80 t790.length co80]] ?_
    with_reducible refine (laws_eqNet.calls kj18 t774 _ _ t775 t789 _ _ t790 true _ ?side1 ?side2 ?side3 ?side4 A70.out).mono ?_
    (case side1 => exact nc_ (rR8 HO_779001.out).2.2)
    (case side2 => exact (rR8 HO_779001.out).2.1)
    (case side3 => exact nc_ (rR8 HO792.out).2.2)
    (case side4 => exact (rR8 HO792.out).2.1)
    rintro e w81 ⟨rfl, hb⟩
    refine ⟨_, rfl, ?_⟩
    replace HO_9 := kR_ HO_9 hb
    replace HO_774001 := kR_ HO_774001 hb
    replace HO_779001 := kR_ HO_779001 hb
    replace HO_788001 := kR_ HO_788001 hb
    replace HO792 := kR_ HO792 hb
    replace BK758 := kb_ BK758 hb
    replace BK773 := kb_ BK773 hb
    replace BK778 := kb_ BK778 hb
    replace BK787 := kb_ BK787 hb
    replace HB := kB_ HB hb
    (try clear hb)
    (try clear hb2)
    (try clear hk)
    (try clear hi)
    refine hK.out _ _ ⟨ct_ BK778.out 0, ct_ BK778.out 1, ct_ BK758.out 0, ct_ BK758.out 1⟩ (fun hHeld => ?_)
    clear hK K
    refine nm1_ (some 57) ?_
    refine pure_ (i := 4) (N := some 58) (v := ?_) (a' := ?_) #[true, true, true, true, true] rfl rfl (by kernel_rfl) (fun _ _ _ h => h) (Or.inl ⟨by rfl, ?_⟩) ?_ ?_
    rotate_left
    ·intro w'
     go_simp
     with_reducible rfl
    rotate_left
    ·simp only [Act.put, List.setIfInBounds_toArray, List.set_cons_zero, List.set_cons_succ, i64_w, i32_w]
     rfl
    refine done_ (by kernel_rfl) ?_
    go_upto_region 21 with (first | ((with_reducible refine gate_callee (f := 19) rfl ?_); refine gl_ (some 61) Try.func19 #[.slice A1 l1.length c1] ?_; (with_reducible refine (laws_toTurnS.calls kj18 _ _ l1 t794 _ ?side1 ?side2 A72.out).mono ?_); (case side1 => exact nc_ (Kd.C_below HR1.out HB.out)); (case side2 => exact HC1.out); rintro e w82 ⟨v795, rfl, ho0, hb⟩; refine ⟨_, rfl, ?_⟩; have HO796 := Aside0.mk (Kd.R_lower (Kd.R_new' ho0 (Kd.R_lt (nr_ HO_9.out))) (below_size (ne_ HB.out))); replace HO_9 := Aside0.mk (Kd.R_elder' (nr_ HO_9.out) (Kd.R_base ho0) hb); replace HO_774001 := kR_ HO_774001 hb; replace HO_779001 := kR_ HO_779001 hb; replace HO_788001 := kR_ HO_788001 hb; replace HO792 := kR_ HO792 hb; replace BK758 := kb_ BK758 hb; replace BK773 := kb_ BK773 hb; replace BK778 := kb_ BK778 hb; replace BK787 := kb_ BK787 hb; replace HB := kB_ HB hb; (try clear hb); (try clear hb2); (try clear hk); (try clear hi); (try clear ho0); obtain ⟨Ao83, co83, eo83⟩ := Kd.R_slice HO796.out; subst eo83) | ((with_reducible refine gate_callee (f := 21) rfl ?_); refine gl_ (some 62) Try.func21 #[.slice Ao42 t779.length co42, .slice Ao83 t794.length co83] ?_; (with_reducible refine (laws_eqTurnS.calls kj18 _ _ t779 _ _ t794 true _ ?side1 ?side2 ?side3 ?side4 A73.out).mono ?_); (case side1 => exact nc_ (rR8 HO_9.out).2.2); (case side2 => exact (rR8 HO_9.out).2.1); (case side3 => exact nc_ (rR8 HO796.out).2.2); (case side4 => exact (rR8 HO796.out).2.1); rintro e w84 ⟨rfl, hb⟩; refine ⟨_, rfl, ?_⟩; replace HO_9 := kR_ HO_9 hb; replace HO_774001 := kR_ HO_774001 hb; replace HO_779001 := kR_ HO_779001 hb; replace HO_788001 := kR_ HO_788001 hb; replace HO792 := kR_ HO792 hb; replace HO796 := kR_ HO796 hb; replace BK758 := kb_ BK758 hb; replace BK773 := kb_ BK773 hb; replace BK778 := kb_ BK778 hb; replace BK787 := kb_ BK787 hb; replace HB := kB_ HB hb; (try clear hb); (try clear hb2); (try clear hk); (try clear hi); have hnb85 := NB778_758.out; have hnc85 := NB758_778.out; have hnb86 := NB778_773.out; have hnc86 := NB773_778.out; have hnb87 := NB778_787.out; have hnc87 := NB787_778.out; obtain ⟨hcz88_0, hcz88_1, hfz88_0, hfz88_1⟩ := cz2_ BK778.out) | ((with_reducible refine gate_callee (f := 35) rfl ?_); refine gl_ (some 66) Try.func35 #[.agg #[.int .i64 t774, .slice Ao39 t775.length co39], .int .i64 1] ?_; (with_reducible refine (laws_markNet.calls kj18 t774 (fun k_ => some k_ = (.slice Ao39 t775.length co39 : Value).ownBlock) (.slice Ao39 t775.length co39) t775 1 t798 t799 w _ ?side1 ?side2 A75.out).mono ?_); (case side1 => exact (ne_ HB.out)); (case side2 => exact Kd.R_tight rfl HO_779001.out); rintro e w89 ⟨rfl, hy0, hb, hkp⟩; refine ⟨_, rfl, ?_⟩; replace HO_9 := Aside0.mk (Kd.R_mono (ok' := fun k_ => some k_ ≠ (.slice Ao83 t794.length co83 : Value).ownBlock) (Kd.R_keptB ((Kd.R_apart' HO_9.out (Kd.R_typed HO_779001.out) (by decide))) hkp (fun k_ hk_ hs_ => (hk_.2) hs_)) (fun k_ hk_ => hk_.1.1.2)); replace HO_774001 := Aside0.mk (Kd.R_mono (ok' := fun k_ => some k_ ≠ (.slice Ao39 t775.length co39 : Value).ownBlock ∧ some k_ ≠ (.slice Ao49 t783.length co49 : Value).ownBlock ∧ some k_ ≠ (.slice Ao80 t790.length co80 : Value).ownBlock) (Kd.R_keptB (HO_774001.out) hkp (fun k_ hk_ hs_ => (hk_.1.1) hs_)) (fun k_ hk_ => ⟨hk_.1.1.1, hk_.1.1.2, hk_.1.2⟩)); replace HO_788001 := Aside0.mk (Kd.R_mono (ok' := fun k_ => some k_ ≠ (.slice Ao32 t769.length co32 : Value).ownBlock ∧ some k_ ≠ (.slice Ao39 t775.length co39 : Value).ownBlock ∧ some k_ ≠ (.slice Ao80 t790.length co80 : Value).ownBlock) (Kd.R_keptB (HO_788001.out) hkp (fun k_ hk_ hs_ => (hk_.1.2) hs_)) (fun k_ hk_ => ⟨hk_.1.1.1, hk_.1.1.2, hk_.1.2⟩)); replace BK758 := Aside0.mk (blk_kept (g := gb758) (o := .cells #[.int .i64 a0_0, .slice A0_1 l0_1.length c0_1] 37 (0, 0)) (nb_ BK758.out) hkp (fun hs_ => (fun e_ => (Kd.R_ne HO_779001.out BK758.out (by decide)) e_) hs_)); replace BK773 := Aside0.mk (blk_kept (g := gb773) (o := .cells #[.int .i64 t768, .slice Ao32 t769.length co32] 25 (0, 0)) (nb_ BK773.out) hkp (fun hs_ => (fun e_ => (Kd.R_ne HO_779001.out BK773.out (by decide)) e_) hs_)); replace BK778 := Aside0.mk (blk_kept (g := gb778) (o := .cells #[.int .i64 t774, .slice Ao39 t775.length co39] 25 (0, 0)) (nb_ BK778.out) hkp (fun hs_ => (fun e_ => (Kd.R_ne HO_779001.out BK778.out (by decide)) e_) hs_)); replace BK787 := Aside0.mk (blk_kept (g := gb787) (o := .cells #[.int .i64 t782, .slice Ao49 t783.length co49] 25 (0, 0)) (nb_ BK787.out) hkp (fun hs_ => (fun e_ => (Kd.R_ne HO_779001.out BK787.out (by decide)) e_) hs_)); replace HO792 := Aside0.mk (Kd.R_mono (ok' := fun k_ => some k_ ≠ (.slice Ao32 t769.length co32 : Value).ownBlock ∧ some k_ ≠ (.slice Ao39 t775.length co39 : Value).ownBlock ∧ some k_ ≠ (.slice Ao49 t783.length co49 : Value).ownBlock) (Kd.R_keptB (HO792.out) hkp (fun k_ hk_ hs_ => (hk_.1.2) hs_)) (fun k_ hk_ => ⟨hk_.1.1.1.2, hk_.1.1.2, hk_.1.2⟩)); replace HO796 := Aside0.mk (Kd.R_mono (ok' := fun k_ => some k_ ≠ (.slice Ao42 t779.length co42 : Value).ownBlock) (Kd.R_keptB ((Kd.R_apart' HO796.out (Kd.R_typed HO_779001.out) (by decide))) hkp (fun k_ hk_ hs_ => (hk_.2) hs_)) (fun k_ hk_ => hk_.1.1.2)); replace HO_779001 := Aside0.mk (Kd.R_reok rfl hy0 (fun k_ e_ => HO_779001.out.1 k_ e_)); replace HB := Aside0.mk (hb); (try clear hb); (try clear hkp); (try clear hy0)) | ((with_reducible refine gate_callee (f := 36) rfl ?_); refine gl_ (some 69) Try.func36 #[.slice Ao42 t779.length co42, .int .i64 t798] ?_; (with_reducible refine (laws_markTurnS.calls kj18 (fun k_ => some k_ = (.slice Ao42 t779.length co42 : Value).ownBlock) (.slice Ao42 t779.length co42) t779 t798 t800 t801 w _ ?side1 ?side2 A76.out).mono ?_); (case side1 => exact (ne_ HB.out)); (case side2 => exact Kd.R_tight rfl HO_9.out); rintro e w90 ⟨rfl, hy0, hb, hkp⟩; refine ⟨_, rfl, ?_⟩; replace HO_774001 := Aside0.mk (Kd.R_mono (ok' := fun k_ => some k_ ≠ (.slice Ao39 t775.length co39 : Value).ownBlock ∧ some k_ ≠ (.slice Ao49 t783.length co49 : Value).ownBlock ∧ some k_ ≠ (.slice Ao80 t790.length co80 : Value).ownBlock) (Kd.R_keptB ((Kd.R_apart' HO_774001.out (Kd.R_typed HO_9.out) (by decide))) hkp (fun k_ hk_ hs_ => (hk_.2) hs_)) (fun k_ hk_ => ⟨hk_.1.1.1, hk_.1.1.2.1, hk_.1.1.2.2⟩)); replace HO_779001 := Aside0.mk (Kd.R_mono (ok' := fun k_ => some k_ ≠ (.slice Ao32 t769.length co32 : Value).ownBlock ∧ some k_ ≠ (.slice Ao49 t783.length co49 : Value).ownBlock ∧ some k_ ≠ (.slice Ao80 t790.length co80 : Value).ownBlock) (Kd.R_keptB ((Kd.R_apart' HO_779001.out (Kd.R_typed HO_9.out) (by decide))) hkp (fun k_ hk_ hs_ => (hk_.2) hs_)) (fun k_ hk_ => ⟨hk_.1.1.1.1, hk_.1.1.1.2, hk_.1.1.2⟩)); replace HO_788001 := Aside0.mk (Kd.R_mono (ok' := fun k_ => some k_ ≠ (.slice Ao32 t769.length co32 : Value).ownBlock ∧ some k_ ≠ (.slice Ao39 t775.length co39 : Value).ownBlock ∧ some k_ ≠ (.slice Ao80 t790.length co80 : Value).ownBlock) (Kd.R_keptB ((Kd.R_apart' HO_788001.out (Kd.R_typed HO_9.out) (by decide))) hkp (fun k_ hk_ hs_ => (hk_.2) hs_)) (fun k_ hk_ => ⟨hk_.1.1.1, hk_.1.1.2.1, hk_.1.1.2.2⟩)); replace BK758 := Aside0.mk (blk_kept (g := gb758) (o := .cells #[.int .i64 a0_0, .slice A0_1 l0_1.length c0_1] 37 (0, 0)) (nb_ BK758.out) hkp (fun hs_ => (fun e_ => (Kd.R_ne HO_9.out BK758.out (by decide)) e_) hs_)); replace BK773 := Aside0.mk (blk_kept (g := gb773) (o := .cells #[.int .i64 t768, .slice Ao32 t769.length co32] 25 (0, 0)) (nb_ BK773.out) hkp (fun hs_ => (fun e_ => (Kd.R_ne HO_9.out BK773.out (by decide)) e_) hs_)); replace BK778 := Aside0.mk (blk_kept (g := gb778) (o := .cells #[.int .i64 t774, .slice Ao39 t775.length co39] 25 (0, 0)) (nb_ BK778.out) hkp (fun hs_ => (fun e_ => (Kd.R_ne HO_9.out BK778.out (by decide)) e_) hs_)); replace BK787 := Aside0.mk (blk_kept (g := gb787) (o := .cells #[.int .i64 t782, .slice Ao49 t783.length co49] 25 (0, 0)) (nb_ BK787.out) hkp (fun hs_ => (fun e_ => (Kd.R_ne HO_9.out BK787.out (by decide)) e_) hs_)); replace HO792 := Aside0.mk (Kd.R_mono (ok' := fun k_ => some k_ ≠ (.slice Ao32 t769.length co32 : Value).ownBlock ∧ some k_ ≠ (.slice Ao39 t775.length co39 : Value).ownBlock ∧ some k_ ≠ (.slice Ao49 t783.length co49 : Value).ownBlock) (Kd.R_keptB ((Kd.R_apart' HO792.out (Kd.R_typed HO_9.out) (by decide))) hkp (fun k_ hk_ hs_ => (hk_.2) hs_)) (fun k_ hk_ => ⟨hk_.1.1.1, hk_.1.1.2.1, hk_.1.1.2.2⟩)); replace HO_9 := Aside0.mk (Kd.R_reok rfl hy0 (fun k_ e_ => HO_9.out.1 k_ e_)); replace HO796 := Aside0.mk (Kd.R_mono (ok' := fun k_ => some k_ ≠ (.slice Ao42 t779.length co42 : Value).ownBlock) (Kd.R_keptB (HO796.out) hkp (fun k_ hk_ hs_ => (hk_) hs_)) (fun k_ hk_ => hk_.1)); replace HB := Aside0.mk (hb); (try clear hb); (try clear hkp); (try clear hy0)))
    (try simp only [Act.put, List.setIfInBounds_toArray, List.set_cons_zero, List.set_cons_succ])
    go_cut [82] (fun v82 wc => ∃ (kq : Nat) (x82_76 : Bool), v82 = .bool x82_76 ∧ Aside0 (laws_FnExactTurnNet.j1 kq l1 t772 x82_76 a0_0 l0_1 t768 t769 t782 t783 = some r) ∧ Aside0 (kq ≤ kj18) ∧ Aside0 (Kd.R k33 33 wc w.heap.size (fun k_ => some k_ ≠ ((.slice Ao39 t775.length co39) : Value).ownBlock ∧ some k_ ≠ ((.slice Ao49 t783.length co49) : Value).ownBlock) (.slice Ao32 t769.length co32) t769) ∧ Aside0 (Kd.R k33 33 wc w.heap.size (fun k_ => some k_ ≠ ((.slice Ao32 t769.length co32) : Value).ownBlock ∧ some k_ ≠ ((.slice Ao49 t783.length co49) : Value).ownBlock) (.slice Ao39 t775.length co39) t799) ∧ Aside0 (Kd.R k33 33 wc w.heap.size (fun k_ => some k_ ≠ ((.slice Ao32 t769.length co32) : Value).ownBlock ∧ some k_ ≠ ((.slice Ao39 t775.length co39) : Value).ownBlock) (.slice Ao49 t783.length co49) t783) ∧ Aside0 (wc.heap[gb758]? = some (.cells #[.int .i64 a0_0, (.slice A0_1 l0_1.length c0_1)] 37 (0, 0))) ∧ Aside0 (wc.heap[gb773]? = some (.cells #[.int .i64 t768, (.slice Ao32 t769.length co32)] 25 (0, 0))) ∧ Aside0 (wc.heap[gb778]? = some (.cells #[.int .i64 t774, (.slice Ao39 t775.length co39)] 25 (0, 0))) ∧ Aside0 (wc.heap[gb787]? = some (.cells #[.int .i64 t782, (.slice Ao49 t783.length co49)] 25 (0, 0))) ∧ Aside0 (Below w.heap.size w wc))
    case first =>
     have H := HC77.out
     clear HC77
     by_cases c91 : t800 < 0
     ·rw [if_pos c91] at H
      have c91b0 : decide (t800 < 0) = true := decide_eq_true c91
      clear c91
      (first | rw [c91b0] | (simp only [i64_w, i32_w]; rw [c91b0]) | skip)
      have H' := Aside0.mk H
      clear H
      go_wp2
      go_meet
      case rel => exact ⟨_, (true), ns_, H', ⟨by have := HJ18.out; first | omega | exact Nat.le_refl _⟩, ⟨by (with_reducible repeat (first | apply rA8 | apply rN8 | apply rD8)); exact Kd.R_mono HO_774001.out (fun _ hk => by first | exact ⟨hk.1, hk.2.1⟩ | trivial | simp_all)⟩, ⟨by (with_reducible repeat (first | apply rA8 | apply rN8 | apply rD8)); exact Kd.R_mono HO_779001.out (fun _ hk => by first | exact ⟨hk.1, hk.2.1⟩ | trivial | simp_all)⟩, ⟨by (with_reducible repeat (first | apply rA8 | apply rN8 | apply rD8)); exact Kd.R_mono HO_788001.out (fun _ hk => by first | exact ⟨hk.1, hk.2.1⟩ | trivial | simp_all)⟩, ⟨nb_ BK758.out⟩, ⟨nb_ BK773.out⟩, ⟨nb_ BK778.out⟩, ⟨nb_ BK787.out⟩, ⟨ne_ HB.out⟩⟩
     rw [if_neg c91] at H
     have c91b0 : decide (t800 < 0) = false := decide_eq_false c91
     clear c91
     (first | rw [c91b0] | (simp only [i64_w, i32_w]; rw [c91b0]) | skip)
     replace H := Option.bind_eq_some_iff.mp H
     obtain ⟨t802, A920, H⟩ := H
     try dsimp only at H
     have A92 := Aside0.mk A920
     clear A920
     by_cases c93 : t802 = true
     ·subst c93
      rw [if_pos rfl] at H
      have H' := Aside0.mk H
      clear H
      have hnb94 := NB787_758.out
      have hnc94 := NB758_787.out
      have hnb95 := NB787_773.out
      have hnc95 := NB773_787.out
      have hnb96 := NB787_778.out
      have hnc96 := NB778_787.out
      obtain ⟨hcz97_0, hcz97_1, hfz97_0, hfz97_1⟩ := cz2_ BK787.out
      have hnb98 := NB773_758.out
      have hnc98 := NB758_773.out
      have hnb99 := NB773_778.out
      have hnc99 := NB778_773.out
      obtain ⟨hcz100_0, hcz100_1, hfz100_0, hfz100_1⟩ := cz2_ BK773.out
      go_wp2_with (first | (go_at_call 20; (with_reducible refine (laws_eqNet.calls kj18 t782 _ _ t783 t768 _ _ t769 true _ ?side1 ?side2 ?side3 ?side4 A92.out).mono ?_); (case side1 => exact nc_ (rR8 HO_788001.out).2.2); (case side2 => exact (rR8 HO_788001.out).2.1); (case side3 => exact nc_ (rR8 HO_774001.out).2.2); (case side4 => exact (rR8 HO_774001.out).2.1); rintro e w101 ⟨rfl, hb⟩; replace HO_9 := kR_ HO_9 hb; replace HO_774001 := kR_ HO_774001 hb; replace HO_779001 := kR_ HO_779001 hb; replace HO_788001 := kR_ HO_788001 hb; replace HO792 := kR_ HO792 hb; replace HO796 := kR_ HO796 hb; replace BK758 := kb_ BK758 hb; replace BK773 := kb_ BK773 hb; replace BK778 := kb_ BK778 hb; replace BK787 := kb_ BK787 hb; replace HB := kB_ HB hb; (try clear hb); (try clear hb2); (try clear hk); (try clear hi)))
      go_meet
      case rel => exact ⟨_, ((t786 != t772)), ns_, H', ⟨by have := HJ18.out; first | omega | exact Nat.le_refl _⟩, ⟨by (with_reducible repeat (first | apply rA8 | apply rN8 | apply rD8)); exact Kd.R_mono HO_774001.out (fun _ hk => by first | exact ⟨hk.1, hk.2.1⟩ | trivial | simp_all)⟩, ⟨by (with_reducible repeat (first | apply rA8 | apply rN8 | apply rD8)); exact Kd.R_mono HO_779001.out (fun _ hk => by first | exact ⟨hk.1, hk.2.1⟩ | trivial | simp_all)⟩, ⟨by (with_reducible repeat (first | apply rA8 | apply rN8 | apply rD8)); exact Kd.R_mono HO_788001.out (fun _ hk => by first | exact ⟨hk.1, hk.2.1⟩ | trivial | simp_all)⟩, ⟨nb_ BK758.out⟩, ⟨nb_ BK773.out⟩, ⟨nb_ BK778.out⟩, ⟨nb_ BK787.out⟩, ⟨ne_ HB.out⟩⟩
     replace c93 := Bool.eq_false_iff.mpr c93
     subst c93
     have H1 : (laws_FnExactTurnNet.j1 kj18 l1 t772 true a0_0 l0_1 t768 t769 t782 t783) = some r := by rw [if_neg (show ¬ (false = true) by decide)] at H; exact H
     clear H
     have H := H1
     clear H1
     have H' := Aside0.mk H
     clear H
     have hnb102 := NB787_758.out
     have hnc102 := NB758_787.out
     have hnb103 := NB787_773.out
     have hnc103 := NB773_787.out
     have hnb104 := NB787_778.out
     have hnc104 := NB778_787.out
     obtain ⟨hcz105_0, hcz105_1, hfz105_0, hfz105_1⟩ := cz2_ BK787.out
     have hnb106 := NB773_758.out
     have hnc106 := NB758_773.out
     have hnb107 := NB773_778.out
     have hnc107 := NB778_773.out
     obtain ⟨hcz108_0, hcz108_1, hfz108_0, hfz108_1⟩ := cz2_ BK773.out
     go_wp2_with (first | (go_at_call 20; (with_reducible refine (laws_eqNet.calls kj18 t782 _ _ t783 t768 _ _ t769 false _ ?side1 ?side2 ?side3 ?side4 A92.out).mono ?_); (case side1 => exact nc_ (rR8 HO_788001.out).2.2); (case side2 => exact (rR8 HO_788001.out).2.1); (case side3 => exact nc_ (rR8 HO_774001.out).2.2); (case side4 => exact (rR8 HO_774001.out).2.1); rintro e w109 ⟨rfl, hb⟩; replace HO_9 := kR_ HO_9 hb; replace HO_774001 := kR_ HO_774001 hb; replace HO_779001 := kR_ HO_779001 hb; replace HO_788001 := kR_ HO_788001 hb; replace HO792 := kR_ HO792 hb; replace HO796 := kR_ HO796 hb; replace BK758 := kb_ BK758 hb; replace BK773 := kb_ BK773 hb; replace BK778 := kb_ BK778 hb; replace BK787 := kb_ BK787 hb; replace HB := kB_ HB hb; (try clear hb); (try clear hb2); (try clear hk); (try clear hi)))
     go_meet
     case rel => exact ⟨_, (true), ns_, H', ⟨by have := HJ18.out; first | omega | exact Nat.le_refl _⟩, ⟨by (with_reducible repeat (first | apply rA8 | apply rN8 | apply rD8)); exact Kd.R_mono HO_774001.out (fun _ hk => by first | exact ⟨hk.1, hk.2.1⟩ | trivial | simp_all)⟩, ⟨by (with_reducible repeat (first | apply rA8 | apply rN8 | apply rD8)); exact Kd.R_mono HO_779001.out (fun _ hk => by first | exact ⟨hk.1, hk.2.1⟩ | trivial | simp_all)⟩, ⟨by (with_reducible repeat (first | apply rA8 | apply rN8 | apply rD8)); exact Kd.R_mono HO_788001.out (fun _ hk => by first | exact ⟨hk.1, hk.2.1⟩ | trivial | simp_all)⟩, ⟨nb_ BK758.out⟩, ⟨nb_ BK773.out⟩, ⟨nb_ BK778.out⟩, ⟨nb_ BK787.out⟩, ⟨ne_ HB.out⟩⟩
    case rest =>
     clear HC77
     try clear c1
     try clear c4
     try clear c4b0
     try clear c9
     try clear c9b0
     try clear c68
     try clear c71
     try clear c74
     try clear hcz21_0
     try clear hcz21_1
     try clear hcz23_0
     try clear hcz23_1
     try clear hcz31_0
     try clear hcz31_1
     try clear hcz33_0
     try clear hcz33_1
     try clear hcz38_0
     try clear hcz38_1
     try clear hcz41_0
     try clear hcz41_1
     try clear hcz48_0
     try clear hcz48_1
     try clear hcz88_0
     try clear hcz88_1
     try clear hfz21_0
     try clear hfz21_1
     try clear hfz23_0
     try clear hfz23_1
     try clear hfz31_0
     try clear hfz31_1
     try clear hfz33_0
     try clear hfz33_1
     try clear hfz38_0
     try clear hfz38_1
     try clear hfz41_0
     try clear hfz41_1
     try clear hfz48_0
     try clear hfz48_1
     try clear hfz88_0
     try clear hfz88_1
     obtain ⟨kq, x82_76, rfl, HA, HJ76, HO_774001, HO_779001, HO_788001, BK758, BK773, BK778, BK787, HB⟩ := hcut
     have hl779001_76 := (rR8 HO_779001.out).1
     rw [hl779001_76] at HO_779001
     (try simp only [hl779001_76])
     (try simp only [hl779001_76] at BK758)
     (try simp only [hl779001_76] at BK773)
     (try simp only [hl779001_76] at BK778)
     (try simp only [hl779001_76] at BK787)
     (try simp only [hl779001_76] at HO_774001)
     (try simp only [hl779001_76] at HO_788001)
     cases kq with
     | zero => exact absurd HA.out (by simp [laws_FnExactTurnNet.j1])
     | succ kj76 =>
      have H := HA.out
      clear HA
      simp only [laws_FnExactTurnNet.j1] at H
      by_cases c110 : x82_76 = true
      ·subst c110
       have H1 : (some false) = some r := by rw [if_pos rfl] at H; exact H
       clear H
       have H := H1
       clear H1
       obtain rfl := Option.some.inj H
       go_wp2
       go_ret
       exact ⟨nw_, ne_ HB.out⟩
      replace c110 := Bool.eq_false_iff.mpr c110
      subst c110
      have H1 : ((laws_markNet.f kj76 t782 t783 1).bind fun bt803 => ((laws_heldNet.f kj76 t782 bt803.2 1).bind fun t805 => (if t805 < 0 then (some false) else (if t805 = bt803.1 then ((laws_toNet.f kj76 a0_0 l0_1).bind fun bt806 => ((laws_toTurnS.f kj76 l1).bind fun t810 => ((impl_TurnNet.f kj76 bt806.1 bt806.2 t810).bind fun bt813 => ((laws_eqNet.f kj76 bt813.1 bt813.2.1 t768 t769).bind fun t819 => (if t819 = true then (laws_FnExactTurnNet.j2 kj76 bt803.1 (bt813.2.2 != t772) t782 bt803.2) else (laws_FnExactTurnNet.j2 kj76 bt803.1 true t782 bt803.2)))))) else (some false))))) = some r := by rw [if_neg (show ¬ (false = true) by decide)] at H; exact H
      clear H
      have H := H1
      clear H1
      replace H := Option.bind_eq_some_iff.mp H
      obtain ⟨⟨t803, t804⟩, A1110, H⟩ := H
      try dsimp only at H
      have A111 := Aside0.mk A1110
      clear A1110
      replace H := Option.bind_eq_some_iff.mp H
      obtain ⟨t805, A1120, H⟩ := H
      try dsimp only at H
      have A112 := Aside0.mk A1120
      clear A1120
      by_cases c113 : t805 < 0
      ·rw [if_pos c113] at H
       have c113b0 : decide (t805 < 0) = true := decide_eq_true c113
       clear c113
       obtain rfl := Option.some.inj H
       have hnb114 := NB787_758.out
       have hnc114 := NB758_787.out
       have hnb115 := NB787_773.out
       have hnc115 := NB773_787.out
       have hnb116 := NB787_778.out
       have hnc116 := NB778_787.out
       obtain ⟨hcz117_0, hcz117_1, hfz117_0, hfz117_1⟩ := cz2_ BK787.out
       go_wp2_with (first | ((with_reducible refine gate_callee (f := 35) rfl ?_); refine gl_ (some 85) Try.func35 #[.agg #[.int .i64 t782, .slice Ao49 t783.length co49], .int .i64 1] ?_; (with_reducible refine (laws_markNet.calls kj76 t782 (fun k_ => some k_ = (.slice Ao49 t783.length co49 : Value).ownBlock) (.slice Ao49 t783.length co49) t783 1 t803 t804 w _ ?side1 ?side2 A111.out).mono ?_); (case side1 => exact (ne_ HB.out)); (case side2 => exact Kd.R_tight rfl HO_788001.out); rintro e w118 ⟨rfl, hy0, hb, hkp⟩; refine ⟨_, rfl, ?_⟩; replace HO_774001 := Aside0.mk (Kd.R_mono (ok' := fun k_ => some k_ ≠ (.slice Ao39 t799.length co39 : Value).ownBlock ∧ some k_ ≠ (.slice Ao49 t783.length co49 : Value).ownBlock) (Kd.R_keptB (HO_774001.out) hkp (fun k_ hk_ hs_ => (hk_.2) hs_)) (fun k_ hk_ => ⟨hk_.1.1, hk_.1.2⟩)); replace HO_779001 := Aside0.mk (Kd.R_mono (ok' := fun k_ => some k_ ≠ (.slice Ao32 t769.length co32 : Value).ownBlock ∧ some k_ ≠ (.slice Ao49 t783.length co49 : Value).ownBlock) (Kd.R_keptB (HO_779001.out) hkp (fun k_ hk_ hs_ => (hk_.2) hs_)) (fun k_ hk_ => ⟨hk_.1.1, hk_.1.2⟩)); replace BK758 := Aside0.mk (blk_kept (g := gb758) (o := .cells #[.int .i64 a0_0, .slice A0_1 l0_1.length c0_1] 37 (0, 0)) (nb_ BK758.out) hkp (fun hs_ => (fun e_ => (Kd.R_ne HO_788001.out BK758.out (by decide)) e_) hs_)); replace BK773 := Aside0.mk (blk_kept (g := gb773) (o := .cells #[.int .i64 t768, .slice Ao32 t769.length co32] 25 (0, 0)) (nb_ BK773.out) hkp (fun hs_ => (fun e_ => (Kd.R_ne HO_788001.out BK773.out (by decide)) e_) hs_)); replace BK778 := Aside0.mk (blk_kept (g := gb778) (o := .cells #[.int .i64 t774, .slice Ao39 t799.length co39] 25 (0, 0)) (nb_ BK778.out) hkp (fun hs_ => (fun e_ => (Kd.R_ne HO_788001.out BK778.out (by decide)) e_) hs_)); replace BK787 := Aside0.mk (blk_kept (g := gb787) (o := .cells #[.int .i64 t782, .slice Ao49 t783.length co49] 25 (0, 0)) (nb_ BK787.out) hkp (fun hs_ => (fun e_ => (Kd.R_ne HO_788001.out BK787.out (by decide)) e_) hs_)); replace HO_788001 := Aside0.mk (Kd.R_reok rfl hy0 (fun k_ e_ => HO_788001.out.1 k_ e_)); replace HB := Aside0.mk (hb); (try clear hb); (try clear hkp); (try clear hy0); obtain ⟨hcz119_0, hcz119_1, hfz119_0, hfz119_1⟩ := cz2_ BK787.out) | ((with_reducible refine gate_callee (f := 37) rfl ?_); refine goesL_ (some 88) rfl rfl Try.func37 (by kernel_rfl) rfl #[.agg #[.int .i64 t782, .slice Ao49 t804.length co49], .int .i64 1] rfl (by (try simp only [List.map_toArray, List.map_cons, List.map_nil]); first | done | (rw [show t804.length = t783.length from (rR8 HO_788001.out).1.symm] <;> rfl) | rfl | (simp only [List.length_drop, List.length_take]; rfl)) ?_; (with_reducible refine (laws_heldNet.calls kj76 t782 _ _ t804 1 t805 _ ?side1 ?side2 A112.out).mono ?_); (case side1 => exact nc_ (rR8 HO_788001.out).2.2); (case side2 => rw [show t804.length = t783.length from (rR8 HO_788001.out).1.symm]; exact (rR8 HO_788001.out).2.1); rintro e w120 ⟨rfl, hb⟩; refine ⟨_, rfl, ?_⟩; replace HO_774001 := kR_ HO_774001 hb; replace HO_779001 := kR_ HO_779001 hb; replace HO_788001 := kR_ HO_788001 hb; replace BK758 := kb_ BK758 hb; replace BK773 := kb_ BK773 hb; replace BK778 := kb_ BK778 hb; replace BK787 := kb_ BK787 hb; replace HB := kB_ HB hb; (try clear hb); (try clear hb2); (try clear hk); (try clear hi)))
       go_ret
       exact ⟨nw_, ne_ HB.out⟩
      rw [if_neg c113] at H
      have c113b0 : decide (t805 < 0) = false := decide_eq_false c113
      clear c113
      by_cases c121 : t805 = t803
      rotate_left
      ·rw [if_neg c121] at H
       have c121b0 : (t805 == t803) = false := beq_eq_false_iff_ne.mpr c121
       have c121b1 : (t805 != t803) = true := bne_iff_ne.mpr c121
       obtain rfl := Option.some.inj H
       have hnb192 := NB787_758.out
       have hnc192 := NB758_787.out
       have hnb193 := NB787_773.out
       have hnc193 := NB773_787.out
       have hnb194 := NB787_778.out
       have hnc194 := NB778_787.out
       obtain ⟨hcz195_0, hcz195_1, hfz195_0, hfz195_1⟩ := cz2_ BK787.out
       go_wp2_with (first | ((with_reducible refine gate_callee (f := 35) rfl ?_); refine gl_ (some 85) Try.func35 #[.agg #[.int .i64 t782, .slice Ao49 t783.length co49], .int .i64 1] ?_; (with_reducible refine (laws_markNet.calls kj76 t782 (fun k_ => some k_ = (.slice Ao49 t783.length co49 : Value).ownBlock) (.slice Ao49 t783.length co49) t783 1 t803 t804 w _ ?side1 ?side2 A111.out).mono ?_); (case side1 => exact (ne_ HB.out)); (case side2 => exact Kd.R_tight rfl HO_788001.out); rintro e w196 ⟨rfl, hy0, hb, hkp⟩; refine ⟨_, rfl, ?_⟩; replace HO_774001 := Aside0.mk (Kd.R_mono (ok' := fun k_ => some k_ ≠ (.slice Ao39 t799.length co39 : Value).ownBlock ∧ some k_ ≠ (.slice Ao49 t783.length co49 : Value).ownBlock) (Kd.R_keptB (HO_774001.out) hkp (fun k_ hk_ hs_ => (hk_.2) hs_)) (fun k_ hk_ => ⟨hk_.1.1, hk_.1.2⟩)); replace HO_779001 := Aside0.mk (Kd.R_mono (ok' := fun k_ => some k_ ≠ (.slice Ao32 t769.length co32 : Value).ownBlock ∧ some k_ ≠ (.slice Ao49 t783.length co49 : Value).ownBlock) (Kd.R_keptB (HO_779001.out) hkp (fun k_ hk_ hs_ => (hk_.2) hs_)) (fun k_ hk_ => ⟨hk_.1.1, hk_.1.2⟩)); replace BK758 := Aside0.mk (blk_kept (g := gb758) (o := .cells #[.int .i64 a0_0, .slice A0_1 l0_1.length c0_1] 37 (0, 0)) (nb_ BK758.out) hkp (fun hs_ => (fun e_ => (Kd.R_ne HO_788001.out BK758.out (by decide)) e_) hs_)); replace BK773 := Aside0.mk (blk_kept (g := gb773) (o := .cells #[.int .i64 t768, .slice Ao32 t769.length co32] 25 (0, 0)) (nb_ BK773.out) hkp (fun hs_ => (fun e_ => (Kd.R_ne HO_788001.out BK773.out (by decide)) e_) hs_)); replace BK778 := Aside0.mk (blk_kept (g := gb778) (o := .cells #[.int .i64 t774, .slice Ao39 t799.length co39] 25 (0, 0)) (nb_ BK778.out) hkp (fun hs_ => (fun e_ => (Kd.R_ne HO_788001.out BK778.out (by decide)) e_) hs_)); replace BK787 := Aside0.mk (blk_kept (g := gb787) (o := .cells #[.int .i64 t782, .slice Ao49 t783.length co49] 25 (0, 0)) (nb_ BK787.out) hkp (fun hs_ => (fun e_ => (Kd.R_ne HO_788001.out BK787.out (by decide)) e_) hs_)); replace HO_788001 := Aside0.mk (Kd.R_reok rfl hy0 (fun k_ e_ => HO_788001.out.1 k_ e_)); replace HB := Aside0.mk (hb); (try clear hb); (try clear hkp); (try clear hy0); obtain ⟨hcz197_0, hcz197_1, hfz197_0, hfz197_1⟩ := cz2_ BK787.out) | ((with_reducible refine gate_callee (f := 37) rfl ?_); refine goesL_ (some 88) rfl rfl Try.func37 (by kernel_rfl) rfl #[.agg #[.int .i64 t782, .slice Ao49 t804.length co49], .int .i64 1] rfl (by (try simp only [List.map_toArray, List.map_cons, List.map_nil]); first | done | (rw [show t804.length = t783.length from (rR8 HO_788001.out).1.symm] <;> rfl) | rfl | (simp only [List.length_drop, List.length_take]; rfl)) ?_; (with_reducible refine (laws_heldNet.calls kj76 t782 _ _ t804 1 t805 _ ?side1 ?side2 A112.out).mono ?_); (case side1 => exact nc_ (rR8 HO_788001.out).2.2); (case side2 => rw [show t804.length = t783.length from (rR8 HO_788001.out).1.symm]; exact (rR8 HO_788001.out).2.1); rintro e w198 ⟨rfl, hb⟩; refine ⟨_, rfl, ?_⟩; replace HO_774001 := kR_ HO_774001 hb; replace HO_779001 := kR_ HO_779001 hb; replace HO_788001 := kR_ HO_788001 hb; replace BK758 := kb_ BK758 hb; replace BK773 := kb_ BK773 hb; replace BK778 := kb_ BK778 hb; replace BK787 := kb_ BK787 hb; replace HB := kB_ HB hb; (try clear hb); (try clear hb2); (try clear hk); (try clear hi)))
       go_ret
       exact ⟨nw_, ne_ HB.out⟩
      rw [if_pos c121] at H
      have c121b0 : (t805 == t803) = true := beq_iff_eq.mpr c121
      have c121b1 : (t805 != t803) = false := bne_eq_false_iff_eq.mpr c121
      clear c121
      replace H := Option.bind_eq_some_iff.mp H
      obtain ⟨⟨t806, t807⟩, A1220, H⟩ := H
      try dsimp only at H
      have A122 := Aside0.mk A1220
      clear A1220
      replace H := Option.bind_eq_some_iff.mp H
      obtain ⟨t810, A1230, H⟩ := H
      try dsimp only at H
      have A123 := Aside0.mk A1230
      clear A1230
      replace H := Option.bind_eq_some_iff.mp H
      obtain ⟨⟨t813, t814, t817⟩, A1240, H⟩ := H
      try dsimp only at H
      have A124 := Aside0.mk A1240
      clear A1240
      have HC125 := Aside0.mk H
      clear H
      have hnb126 := NB787_758.out
      have hnc126 := NB758_787.out
      have hnb127 := NB787_773.out
      have hnc127 := NB773_787.out
      have hnb128 := NB787_778.out
      have hnc128 := NB778_787.out
      obtain ⟨hcz129_0, hcz129_1, hfz129_0, hfz129_1⟩ := cz2_ BK787.out
      go_upto_region 32 with (first | ((with_reducible refine gate_callee (f := 35) rfl ?_); refine gl_ (some 85) Try.func35 #[.agg #[.int .i64 t782, .slice Ao49 t783.length co49], .int .i64 1] ?_; (with_reducible refine (laws_markNet.calls kj76 t782 (fun k_ => some k_ = (.slice Ao49 t783.length co49 : Value).ownBlock) (.slice Ao49 t783.length co49) t783 1 t803 t804 w _ ?side1 ?side2 A111.out).mono ?_); (case side1 => exact (ne_ HB.out)); (case side2 => exact Kd.R_tight rfl HO_788001.out); rintro e w130 ⟨rfl, hy0, hb, hkp⟩; refine ⟨_, rfl, ?_⟩; replace HO_774001 := Aside0.mk (Kd.R_mono (ok' := fun k_ => some k_ ≠ (.slice Ao39 t799.length co39 : Value).ownBlock ∧ some k_ ≠ (.slice Ao49 t783.length co49 : Value).ownBlock) (Kd.R_keptB (HO_774001.out) hkp (fun k_ hk_ hs_ => (hk_.2) hs_)) (fun k_ hk_ => ⟨hk_.1.1, hk_.1.2⟩)); replace HO_779001 := Aside0.mk (Kd.R_mono (ok' := fun k_ => some k_ ≠ (.slice Ao32 t769.length co32 : Value).ownBlock ∧ some k_ ≠ (.slice Ao49 t783.length co49 : Value).ownBlock) (Kd.R_keptB (HO_779001.out) hkp (fun k_ hk_ hs_ => (hk_.2) hs_)) (fun k_ hk_ => ⟨hk_.1.1, hk_.1.2⟩)); replace BK758 := Aside0.mk (blk_kept (g := gb758) (o := .cells #[.int .i64 a0_0, .slice A0_1 l0_1.length c0_1] 37 (0, 0)) (nb_ BK758.out) hkp (fun hs_ => (fun e_ => (Kd.R_ne HO_788001.out BK758.out (by decide)) e_) hs_)); replace BK773 := Aside0.mk (blk_kept (g := gb773) (o := .cells #[.int .i64 t768, .slice Ao32 t769.length co32] 25 (0, 0)) (nb_ BK773.out) hkp (fun hs_ => (fun e_ => (Kd.R_ne HO_788001.out BK773.out (by decide)) e_) hs_)); replace BK778 := Aside0.mk (blk_kept (g := gb778) (o := .cells #[.int .i64 t774, .slice Ao39 t799.length co39] 25 (0, 0)) (nb_ BK778.out) hkp (fun hs_ => (fun e_ => (Kd.R_ne HO_788001.out BK778.out (by decide)) e_) hs_)); replace BK787 := Aside0.mk (blk_kept (g := gb787) (o := .cells #[.int .i64 t782, .slice Ao49 t783.length co49] 25 (0, 0)) (nb_ BK787.out) hkp (fun hs_ => (fun e_ => (Kd.R_ne HO_788001.out BK787.out (by decide)) e_) hs_)); replace HO_788001 := Aside0.mk (Kd.R_reok rfl hy0 (fun k_ e_ => HO_788001.out.1 k_ e_)); replace HB := Aside0.mk (hb); (try clear hb); (try clear hkp); (try clear hy0); obtain ⟨hcz131_0, hcz131_1, hfz131_0, hfz131_1⟩ := cz2_ BK787.out) | ((with_reducible refine gate_callee (f := 37) rfl ?_); refine goesL_ (some 88) rfl rfl Try.func37 (by kernel_rfl) rfl #[.agg #[.int .i64 t782, .slice Ao49 t804.length co49], .int .i64 1] rfl (by (try simp only [List.map_toArray, List.map_cons, List.map_nil]); first | done | (rw [show t804.length = t783.length from (rR8 HO_788001.out).1.symm] <;> rfl) | rfl | (simp only [List.length_drop, List.length_take]; rfl)) ?_; (with_reducible refine (laws_heldNet.calls kj76 t782 _ _ t804 1 t805 _ ?side1 ?side2 A112.out).mono ?_); (case side1 => exact nc_ (rR8 HO_788001.out).2.2); (case side2 => rw [show t804.length = t783.length from (rR8 HO_788001.out).1.symm]; exact (rR8 HO_788001.out).2.1); rintro e w132 ⟨rfl, hb⟩; refine ⟨_, rfl, ?_⟩; replace HO_774001 := kR_ HO_774001 hb; replace HO_779001 := kR_ HO_779001 hb; replace HO_788001 := kR_ HO_788001 hb; replace BK758 := kb_ BK758 hb; replace BK773 := kb_ BK773 hb; replace BK778 := kb_ BK778 hb; replace BK787 := kb_ BK787 hb; replace HB := kB_ HB hb; (try clear hb); (try clear hb2); (try clear hk); (try clear hi); have hnb133 := NB758_773.out; have hnc133 := NB773_758.out; have hnb134 := NB758_778.out; have hnc134 := NB778_758.out; obtain ⟨hcz135_0, hcz135_1, hfz135_0, hfz135_1⟩ := cz2_ BK758.out) | ((with_reducible refine gate_callee (f := 18) rfl ?_); refine gl_ (some 96) Try.func18 #[.agg #[.int .i64 a0_0, .slice A0_1 l0_1.length c0_1]] ?_; (with_reducible refine (laws_toNet.calls kj76 a0_0 _ _ l0_1 t806 t807 _ ?side1 ?side2 A122.out).mono ?_); (case side1 => exact nc_ (Kd.C_below HR0_1.out HB.out)); (case side2 => exact HC0_1.out); rintro e w136 ⟨v808, rfl, ho0, hb⟩; refine ⟨_, rfl, ?_⟩; have HO809 := Aside0.mk (Kd.R_lower (Kd.R_new' (Kd.R_new' (Kd.R_new' ho0 (Kd.R_lt (nr_ HO_774001.out))) (Kd.R_lt (nr_ HO_779001.out))) (Kd.R_lt (nr_ HO_788001.out))) (below_size (ne_ HB.out))); replace HO_774001 := Aside0.mk (Kd.R_elder' (nr_ HO_774001.out) (Kd.R_base ho0) hb); replace HO_779001 := Aside0.mk (Kd.R_elder' (nr_ HO_779001.out) (Kd.R_base ho0) hb); replace HO_788001 := Aside0.mk (Kd.R_elder' (nr_ HO_788001.out) (Kd.R_base ho0) hb); replace BK758 := kb_ BK758 hb; replace BK773 := kb_ BK773 hb; replace BK778 := kb_ BK778 hb; replace BK787 := kb_ BK787 hb; replace HB := kB_ HB hb; (try clear hb); (try clear hb2); (try clear hk); (try clear hi); (try clear ho0)) | ((with_reducible refine gate_callee (f := 19) rfl ?_); refine gl_ (some 98) Try.func19 #[.slice A1 l1.length c1] ?_; (with_reducible refine (laws_toTurnS.calls kj76 _ _ l1 t810 _ ?side1 ?side2 A123.out).mono ?_); (case side1 => exact nc_ (Kd.C_below HR1.out HB.out)); (case side2 => exact HC1.out); rintro e w137 ⟨v811, rfl, ho0, hb⟩; refine ⟨_, rfl, ?_⟩; have HO812 := Aside0.mk (Kd.R_lower ho0 (below_size (ne_ HB.out))); replace HO_774001 := kR_ HO_774001 hb; replace HO_779001 := kR_ HO_779001 hb; replace HO_788001 := kR_ HO_788001 hb; replace HO809 := kR_ HO809 hb; replace BK758 := kb_ BK758 hb; replace BK773 := kb_ BK773 hb; replace BK778 := kb_ BK778 hb; replace BK787 := kb_ BK787 hb; replace HB := kB_ HB hb; (try clear hb); (try clear hb2); (try clear hk); (try clear hi); (try clear ho0); obtain ⟨Ao138, co138, eo138⟩ := Kd.R_slice HO809.out; subst eo138; obtain ⟨Ao139, co139, eo139⟩ := Kd.R_slice HO812.out; subst eo139) | ((with_reducible refine gate_callee (f := 34) rfl ?_); refine gl_ (some 99) Try.func34 #[.agg #[.int .i64 t806, .slice Ao138 t807.length co138], .slice Ao139 t810.length co139] ?_; (with_reducible refine (impl_TurnNet.calls kj76 t806 _ _ t807 _ _ t810 t813 t814 t817 _ ?side1 ?side2 ?side3 ?side4 A124.out).mono ?_); (case side1 => exact nc_ (rR8 HO809.out).2.2); (case side2 => exact (rR8 HO809.out).2.1); (case side3 => exact nc_ (rR8 HO812.out).2.2); (case side4 => exact (rR8 HO812.out).2.1); rintro e w140 ⟨v815, rfl, ho0, hb⟩; refine ⟨_, rfl, ?_⟩; have HO816 := Aside0.mk (Kd.R_lower (Kd.R_new' (Kd.R_new' (Kd.R_new' (Kd.R_new' ho0 (Kd.R_lt (nr_ HO_774001.out))) (Kd.R_lt (nr_ HO_779001.out))) (Kd.R_lt (nr_ HO_788001.out))) (Kd.R_lt (nr_ HO809.out))) (below_size (ne_ HB.out))); replace HO_774001 := Aside0.mk (Kd.R_elder' (nr_ HO_774001.out) (Kd.R_base ho0) hb); replace HO_779001 := Aside0.mk (Kd.R_elder' (nr_ HO_779001.out) (Kd.R_base ho0) hb); replace HO_788001 := Aside0.mk (Kd.R_elder' (nr_ HO_788001.out) (Kd.R_base ho0) hb); replace HO809 := Aside0.mk (Kd.R_elder' (nr_ HO809.out) (Kd.R_base ho0) hb); replace HO812 := kR_ HO812 hb; replace BK758 := kb_ BK758 hb; replace BK773 := kb_ BK773 hb; replace BK778 := kb_ BK778 hb; replace BK787 := kb_ BK787 hb; replace HB := kB_ HB hb; (try clear hb); (try clear hb2); (try clear hk); (try clear hi); (try clear ho0)) | ((with_reducible refine gate_dst (N := 15) rfl ?_); refine bx_ 15 #[.int .i64 0, .slice none 0 0] 25 ?_; intro gb818 hg w141 hbox hb; have BK818 := Aside0.mk (hbox); have GW818 := Aside0.mk (zs_ hg (ne_ HB.out)); have GE818 := Aside0.mk (zs_ hg (ne_ HB.out)); have NB758_818 := Aside0.mk (nl_ BK758.out hg); have NB818_758 := Aside0.mk (nm_ BK758.out hg); have NB773_818 := Aside0.mk (nl_ BK773.out hg); have NB818_773 := Aside0.mk (nm_ BK773.out hg); have NB778_818 := Aside0.mk (nl_ BK778.out hg); have NB818_778 := Aside0.mk (nm_ BK778.out hg); have NB787_818 := Aside0.mk (nl_ BK787.out hg); have NB818_787 := Aside0.mk (nm_ BK787.out hg); replace HO_774001 := kR_ HO_774001 hb; replace HO_779001 := kR_ HO_779001 hb; replace HO_788001 := kR_ HO_788001 hb; replace HO809 := kR_ HO809 hb; replace HO812 := kR_ HO812 hb; replace HO816 := kR_ HO816 hb; replace BK758 := kb_ BK758 hb; replace BK773 := kb_ BK773 hb; replace BK778 := kb_ BK778 hb; replace BK787 := kb_ BK787 hb; replace HB := kB_ HB hb; clear hb hbox hg; have hnb142 := NB818_758.out; have hnc142 := NB758_818.out; have hnb143 := NB818_773.out; have hnc143 := NB773_818.out; have hnb144 := NB818_778.out; have hnc144 := NB778_818.out; have hnb145 := NB818_787.out; have hnc145 := NB787_818.out; obtain ⟨hcz146_0, hcz146_1, hfz146_0, hfz146_1⟩ := cz2_ BK818.out; obtain ⟨Ao147, co147, eo147⟩ := Kd.R_slice HO816.out; subst eo147))
      (try simp only [Act.put, List.setIfInBounds_toArray, List.set_cons_zero, List.set_cons_succ])
      go_cut [110] (fun v110 wc => ∃ (kq : Nat) (x110_124 : Bool), v110 = .bool x110_124 ∧ Aside0 (laws_FnExactTurnNet.j2 kq t803 x110_124 t782 t804 = some r) ∧ Aside0 (kq ≤ kj76) ∧ Aside0 (Kd.R k33 33 wc w.heap.size (fun k_ => some k_ ≠ ((.slice Ao39 t799.length co39) : Value).ownBlock ∧ some k_ ≠ ((.slice Ao49 t783.length co49) : Value).ownBlock ∧ some k_ ≠ ((.slice Ao147 t814.length co147) : Value).ownBlock) (.slice Ao32 t769.length co32) t769) ∧ Aside0 (Kd.R k33 33 wc w.heap.size (fun k_ => some k_ ≠ ((.slice Ao32 t769.length co32) : Value).ownBlock ∧ some k_ ≠ ((.slice Ao49 t783.length co49) : Value).ownBlock ∧ some k_ ≠ ((.slice Ao147 t814.length co147) : Value).ownBlock) (.slice Ao39 t799.length co39) t799) ∧ Aside0 (Kd.R k33 33 wc w.heap.size (fun k_ => some k_ ≠ ((.slice Ao32 t769.length co32) : Value).ownBlock ∧ some k_ ≠ ((.slice Ao39 t799.length co39) : Value).ownBlock ∧ some k_ ≠ ((.slice Ao147 t814.length co147) : Value).ownBlock) (.slice Ao49 t783.length co49) t804) ∧ Aside0 (Kd.R k33 33 wc w.heap.size (fun k_ => some k_ ≠ ((.slice Ao32 t769.length co32) : Value).ownBlock ∧ some k_ ≠ ((.slice Ao39 t799.length co39) : Value).ownBlock ∧ some k_ ≠ ((.slice Ao49 t783.length co49) : Value).ownBlock) (.slice Ao147 t814.length co147) t814) ∧ Aside0 (wc.heap[gb758]? = some (.cells #[.int .i64 a0_0, (.slice A0_1 l0_1.length c0_1)] 37 (0, 0))) ∧ Aside0 (wc.heap[gb773]? = some (.cells #[.int .i64 t768, (.slice Ao32 t769.length co32)] 25 (0, 0))) ∧ Aside0 (wc.heap[gb778]? = some (.cells #[.int .i64 t774, (.slice Ao39 t799.length co39)] 25 (0, 0))) ∧ Aside0 (wc.heap[gb787]? = some (.cells #[.int .i64 t782, (.slice Ao49 t783.length co49)] 25 (0, 0))) ∧ Aside0 (wc.heap[gb818]? = some (.cells #[.int .i64 t813, (.slice Ao147 t814.length co147)] 25 (0, 0))) ∧ Aside0 (Below w.heap.size w wc))
      case first =>
       have H := HC125.out
       clear HC125
       replace H := Option.bind_eq_some_iff.mp H
       obtain ⟨t819, A1480, H⟩ := H
       try dsimp only at H
       have A148 := Aside0.mk A1480
       clear A1480
       by_cases c149 : t819 = true
       ·subst c149
        have H1 : (laws_FnExactTurnNet.j2 kj76 t803 (t817 != t772) t782 t804) = some r := by rw [if_pos rfl] at H; exact H
        clear H
        have H := H1
        clear H1
        have H' := Aside0.mk H
        clear H
        have hnb150 := NB818_758.out
        have hnc150 := NB758_818.out
        have hnb151 := NB818_773.out
        have hnc151 := NB773_818.out
        have hnb152 := NB818_778.out
        have hnc152 := NB778_818.out
        have hnb153 := NB818_787.out
        have hnc153 := NB787_818.out
        obtain ⟨hcz154_0, hcz154_1, hfz154_0, hfz154_1⟩ := cz2_ BK818.out
        have hnb155 := NB773_758.out
        have hnc155 := NB758_773.out
        have hnb156 := NB773_778.out
        have hnc156 := NB778_773.out
        have hnb157 := NB773_787.out
        have hnc157 := NB787_773.out
        obtain ⟨hcz158_0, hcz158_1, hfz158_0, hfz158_1⟩ := cz2_ BK773.out
        go_wp2_with (first | ((with_reducible refine gate_callee (f := 20) rfl ?_); refine gl_ (some 104) Try.func20 #[.agg #[.int .i64 t813, .slice Ao147 t814.length co147], .agg #[.int .i64 t768, .slice Ao32 t769.length co32]] ?_; (with_reducible refine (laws_eqNet.calls kj76 t813 _ _ t814 t768 _ _ t769 true _ ?side1 ?side2 ?side3 ?side4 A148.out).mono ?_); (case side1 => refine (rR8 (e := 33) (base := w.heap.size) (ok := fun k_ => ((((True ∧ some k_ ≠ (.slice Ao32 t769.length co32 : Value).ownBlock) ∧ some k_ ≠ (.slice Ao39 t799.length co39 : Value).ownBlock) ∧ some k_ ≠ (.slice Ao49 t783.length co49 : Value).ownBlock) ∧ some k_ ≠ (.slice Ao138 t807.length co138 : Value).ownBlock)) (n := t814.length) (c := co147) ?_).2.2; exact (by (with_reducible repeat (first | apply rA8 | apply rN8 | apply rD8)); exact (Kd.R_mono (rf2_ (Kd.R_types HO816.out BK818.out (by decide))) (fun _ h_ => h_.1)))); (case side2 => exact (rR8 HO816.out).2.1); (case side3 => refine (rR8 (e := 33) (base := w.heap.size) (ok := fun k_ => (((some k_ ≠ (.slice Ao39 t799.length co39 : Value).ownBlock ∧ some k_ ≠ (.slice Ao49 t783.length co49 : Value).ownBlock) ∧ some k_ ≠ (.slice Ao138 t807.length co138 : Value).ownBlock) ∧ some k_ ≠ (.slice Ao147 t814.length co147 : Value).ownBlock)) (n := t769.length) (c := co32) ?_).2.2; exact (by (with_reducible repeat (first | apply rA8 | apply rN8 | apply rD8)); exact (Kd.R_mono (rf2_ (Kd.R_types HO_774001.out BK818.out (by decide))) (fun _ h_ => h_.1)))); (case side4 => exact (rR8 HO_774001.out).2.1); rintro e w159 ⟨rfl, hb⟩; refine ⟨_, rfl, ?_⟩; replace HO_774001 := Aside0.mk (Kd.R_below (by (with_reducible repeat (first | apply rA8 | apply rN8 | apply rD8)); exact (Kd.R_mono (rf2_ (Kd.R_types HO_774001.out BK818.out (by decide))) (fun _ h_ => h_.1))) hb); replace HO_779001 := Aside0.mk (Kd.R_below (by (with_reducible repeat (first | apply rA8 | apply rN8 | apply rD8)); exact (Kd.R_mono (rf2_ (Kd.R_types HO_779001.out BK818.out (by decide))) (fun _ h_ => h_.1))) hb); replace HO_788001 := Aside0.mk (Kd.R_below (by (with_reducible repeat (first | apply rA8 | apply rN8 | apply rD8)); exact (Kd.R_mono (rf2_ (Kd.R_types HO_788001.out BK818.out (by decide))) (fun _ h_ => h_.1))) hb); replace HO809 := Aside0.mk (Kd.R_below (by (with_reducible repeat (first | apply rA8 | apply rN8 | apply rD8)); exact (Kd.R_mono (rf2_ (Kd.R_types HO809.out BK818.out (by decide))) (fun _ h_ => h_.1))) hb); replace HO812 := Aside0.mk (Kd.R_below (by (with_reducible repeat (first | apply rA8 | apply rN8 | apply rD8)); exact (Kd.R_mono (rf2_ (Kd.R_types HO812.out BK818.out (by decide))) (fun _ h_ => h_.1))) hb); replace HO816 := Aside0.mk (Kd.R_below (by (with_reducible repeat (first | apply rA8 | apply rN8 | apply rD8)); exact (Kd.R_mono (rf2_ (Kd.R_types HO816.out BK818.out (by decide))) (fun _ h_ => h_.1))) hb); replace BK758 := kf_ BK758 hb; replace BK773 := kf_ BK773 hb; replace BK778 := kf_ BK778 hb; replace BK787 := kf_ BK787 hb; replace BK818 := Aside0.mk (blk_below (g := gb818) (o := .cells #[.int .i64 t813, .slice Ao147 t814.length co147] 25 (0, 0)) (np_ BK818.out) hb); replace HB := kB_ HB hb; (try clear hb); (try clear hb2); (try clear hk); (try clear hi)))
        go_meet
        case rel => exact ⟨_, ((t817 != t772)), ns_, H', ⟨by have := HJ18.out; have := HJ76.out; first | omega | exact Nat.le_refl _⟩, ⟨by (try simp only [hl779001_76]); (with_reducible repeat (first | apply rA8 | apply rN8 | apply rD8)); exact Kd.R_mono HO_774001.out (fun _ hk => by first | exact ⟨hk.1.1.1, ⟨hk.1.1.2, hk.2⟩⟩ | trivial | simp_all)⟩, ⟨by (try simp only [hl779001_76]); (with_reducible repeat (first | apply rA8 | apply rN8 | apply rD8)); exact Kd.R_mono HO_779001.out (fun _ hk => by first | exact ⟨hk.1.1.1, ⟨hk.1.1.2, hk.2⟩⟩ | trivial | simp_all)⟩, ⟨by (try simp only [hl779001_76]); (with_reducible repeat (first | apply rA8 | apply rN8 | apply rD8)); exact Kd.R_mono HO_788001.out (fun _ hk => by first | exact ⟨hk.1.1.1, ⟨hk.1.1.2, hk.2⟩⟩ | trivial | simp_all)⟩, ⟨by (try simp only [hl779001_76]); (with_reducible repeat (first | apply rA8 | apply rN8 | apply rD8)); exact Kd.R_mono HO816.out (fun _ hk => by first | exact ⟨hk.1.1.1.2, ⟨hk.1.1.2, hk.1.2⟩⟩ | trivial | simp_all)⟩, ⟨by (try simp only [hl779001_76]); (with_reducible repeat (first | refine blk_drewN ?_ _ | refine blk_drew ?_ | refine blk_alloc ?_ _)); exact BK758.out⟩, ⟨by (try simp only [hl779001_76]); (with_reducible repeat (first | refine blk_drewN ?_ _ | refine blk_drew ?_ | refine blk_alloc ?_ _)); exact BK773.out⟩, ⟨by (try simp only [hl779001_76]); (with_reducible repeat (first | refine blk_drewN ?_ _ | refine blk_drew ?_ | refine blk_alloc ?_ _)); exact BK778.out⟩, ⟨by (try simp only [hl779001_76]); (with_reducible repeat (first | refine blk_drewN ?_ _ | refine blk_drew ?_ | refine blk_alloc ?_ _)); exact BK787.out⟩, ⟨by (try simp only [hl779001_76]); (with_reducible repeat (first | refine blk_drewN ?_ _ | refine blk_drew ?_ | refine blk_alloc ?_ _)); exact BK818.out⟩, ⟨ne_ HB.out⟩⟩
       replace c149 := Bool.eq_false_iff.mpr c149
       subst c149
       have H1 : (laws_FnExactTurnNet.j2 kj76 t803 true t782 t804) = some r := by rw [if_neg (show ¬ (false = true) by decide)] at H; exact H
       clear H
       have H := H1
       clear H1
       have H' := Aside0.mk H
       clear H
       have hnb160 := NB818_758.out
       have hnc160 := NB758_818.out
       have hnb161 := NB818_773.out
       have hnc161 := NB773_818.out
       have hnb162 := NB818_778.out
       have hnc162 := NB778_818.out
       have hnb163 := NB818_787.out
       have hnc163 := NB787_818.out
       obtain ⟨hcz164_0, hcz164_1, hfz164_0, hfz164_1⟩ := cz2_ BK818.out
       have hnb165 := NB773_758.out
       have hnc165 := NB758_773.out
       have hnb166 := NB773_778.out
       have hnc166 := NB778_773.out
       have hnb167 := NB773_787.out
       have hnc167 := NB787_773.out
       obtain ⟨hcz168_0, hcz168_1, hfz168_0, hfz168_1⟩ := cz2_ BK773.out
       go_wp2_with (first | ((with_reducible refine gate_callee (f := 20) rfl ?_); refine gl_ (some 104) Try.func20 #[.agg #[.int .i64 t813, .slice Ao147 t814.length co147], .agg #[.int .i64 t768, .slice Ao32 t769.length co32]] ?_; (with_reducible refine (laws_eqNet.calls kj76 t813 _ _ t814 t768 _ _ t769 false _ ?side1 ?side2 ?side3 ?side4 A148.out).mono ?_); (case side1 => refine (rR8 (e := 33) (base := w.heap.size) (ok := fun k_ => ((((True ∧ some k_ ≠ (.slice Ao32 t769.length co32 : Value).ownBlock) ∧ some k_ ≠ (.slice Ao39 t799.length co39 : Value).ownBlock) ∧ some k_ ≠ (.slice Ao49 t783.length co49 : Value).ownBlock) ∧ some k_ ≠ (.slice Ao138 t807.length co138 : Value).ownBlock)) (n := t814.length) (c := co147) ?_).2.2; exact (by (with_reducible repeat (first | apply rA8 | apply rN8 | apply rD8)); exact (Kd.R_mono (rf2_ (Kd.R_types HO816.out BK818.out (by decide))) (fun _ h_ => h_.1)))); (case side2 => exact (rR8 HO816.out).2.1); (case side3 => refine (rR8 (e := 33) (base := w.heap.size) (ok := fun k_ => (((some k_ ≠ (.slice Ao39 t799.length co39 : Value).ownBlock ∧ some k_ ≠ (.slice Ao49 t783.length co49 : Value).ownBlock) ∧ some k_ ≠ (.slice Ao138 t807.length co138 : Value).ownBlock) ∧ some k_ ≠ (.slice Ao147 t814.length co147 : Value).ownBlock)) (n := t769.length) (c := co32) ?_).2.2; exact (by (with_reducible repeat (first | apply rA8 | apply rN8 | apply rD8)); exact (Kd.R_mono (rf2_ (Kd.R_types HO_774001.out BK818.out (by decide))) (fun _ h_ => h_.1)))); (case side4 => exact (rR8 HO_774001.out).2.1); rintro e w169 ⟨rfl, hb⟩; refine ⟨_, rfl, ?_⟩; replace HO_774001 := Aside0.mk (Kd.R_below (by (with_reducible repeat (first | apply rA8 | apply rN8 | apply rD8)); exact (Kd.R_mono (rf2_ (Kd.R_types HO_774001.out BK818.out (by decide))) (fun _ h_ => h_.1))) hb); replace HO_779001 := Aside0.mk (Kd.R_below (by (with_reducible repeat (first | apply rA8 | apply rN8 | apply rD8)); exact (Kd.R_mono (rf2_ (Kd.R_types HO_779001.out BK818.out (by decide))) (fun _ h_ => h_.1))) hb); replace HO_788001 := Aside0.mk (Kd.R_below (by (with_reducible repeat (first | apply rA8 | apply rN8 | apply rD8)); exact (Kd.R_mono (rf2_ (Kd.R_types HO_788001.out BK818.out (by decide))) (fun _ h_ => h_.1))) hb); replace HO809 := Aside0.mk (Kd.R_below (by (with_reducible repeat (first | apply rA8 | apply rN8 | apply rD8)); exact (Kd.R_mono (rf2_ (Kd.R_types HO809.out BK818.out (by decide))) (fun _ h_ => h_.1))) hb); replace HO812 := Aside0.mk (Kd.R_below (by (with_reducible repeat (first | apply rA8 | apply rN8 | apply rD8)); exact (Kd.R_mono (rf2_ (Kd.R_types HO812.out BK818.out (by decide))) (fun _ h_ => h_.1))) hb); replace HO816 := Aside0.mk (Kd.R_below (by (with_reducible repeat (first | apply rA8 | apply rN8 | apply rD8)); exact (Kd.R_mono (rf2_ (Kd.R_types HO816.out BK818.out (by decide))) (fun _ h_ => h_.1))) hb); replace BK758 := kf_ BK758 hb; replace BK773 := kf_ BK773 hb; replace BK778 := kf_ BK778 hb; replace BK787 := kf_ BK787 hb; replace BK818 := Aside0.mk (blk_below (g := gb818) (o := .cells #[.int .i64 t813, .slice Ao147 t814.length co147] 25 (0, 0)) (np_ BK818.out) hb); replace HB := kB_ HB hb; (try clear hb); (try clear hb2); (try clear hk); (try clear hi)))
       go_meet
       case rel => exact ⟨_, (true), ns_, H', ⟨by have := HJ18.out; have := HJ76.out; first | omega | exact Nat.le_refl _⟩, ⟨by (try simp only [hl779001_76]); (with_reducible repeat (first | apply rA8 | apply rN8 | apply rD8)); exact Kd.R_mono HO_774001.out (fun _ hk => by first | exact ⟨hk.1.1.1, ⟨hk.1.1.2, hk.2⟩⟩ | trivial | simp_all)⟩, ⟨by (try simp only [hl779001_76]); (with_reducible repeat (first | apply rA8 | apply rN8 | apply rD8)); exact Kd.R_mono HO_779001.out (fun _ hk => by first | exact ⟨hk.1.1.1, ⟨hk.1.1.2, hk.2⟩⟩ | trivial | simp_all)⟩, ⟨by (try simp only [hl779001_76]); (with_reducible repeat (first | apply rA8 | apply rN8 | apply rD8)); exact Kd.R_mono HO_788001.out (fun _ hk => by first | exact ⟨hk.1.1.1, ⟨hk.1.1.2, hk.2⟩⟩ | trivial | simp_all)⟩, ⟨by (try simp only [hl779001_76]); (with_reducible repeat (first | apply rA8 | apply rN8 | apply rD8)); exact Kd.R_mono HO816.out (fun _ hk => by first | exact ⟨hk.1.1.1.2, ⟨hk.1.1.2, hk.1.2⟩⟩ | trivial | simp_all)⟩, ⟨by (try simp only [hl779001_76]); (with_reducible repeat (first | refine blk_drewN ?_ _ | refine blk_drew ?_ | refine blk_alloc ?_ _)); exact BK758.out⟩, ⟨by (try simp only [hl779001_76]); (with_reducible repeat (first | refine blk_drewN ?_ _ | refine blk_drew ?_ | refine blk_alloc ?_ _)); exact BK773.out⟩, ⟨by (try simp only [hl779001_76]); (with_reducible repeat (first | refine blk_drewN ?_ _ | refine blk_drew ?_ | refine blk_alloc ?_ _)); exact BK778.out⟩, ⟨by (try simp only [hl779001_76]); (with_reducible repeat (first | refine blk_drewN ?_ _ | refine blk_drew ?_ | refine blk_alloc ?_ _)); exact BK787.out⟩, ⟨by (try simp only [hl779001_76]); (with_reducible repeat (first | refine blk_drewN ?_ _ | refine blk_drew ?_ | refine blk_alloc ?_ _)); exact BK818.out⟩, ⟨ne_ HB.out⟩⟩
      case rest =>
       clear HC125
       try clear c1
       try clear c4
       try clear c4b0
       try clear c9
       try clear c9b0
       try clear c68
       try clear c71
       try clear c74
       try clear c110
       try clear c113
       try clear c113b0
       try clear c121
       try clear c121b0
       try clear c121b1
       try clear hcz129_0
       try clear hcz129_1
       try clear hcz131_0
       try clear hcz131_1
       try clear hcz135_0
       try clear hcz135_1
       try clear hcz146_0
       try clear hcz146_1
       try clear hcz21_0
       try clear hcz21_1
       try clear hcz23_0
       try clear hcz23_1
       try clear hcz31_0
       try clear hcz31_1
       try clear hcz33_0
       try clear hcz33_1
       try clear hcz38_0
       try clear hcz38_1
       try clear hcz41_0
       try clear hcz41_1
       try clear hcz48_0
       try clear hcz48_1
       try clear hcz88_0
       try clear hcz88_1
       try clear hfz129_0
       try clear hfz129_1
       try clear hfz131_0
       try clear hfz131_1
       try clear hfz135_0
       try clear hfz135_1
       try clear hfz146_0
       try clear hfz146_1
       try clear hfz21_0
       try clear hfz21_1
       try clear hfz23_0
       try clear hfz23_1
       try clear hfz31_0
       try clear hfz31_1
       try clear hfz33_0
       try clear hfz33_1
       try clear hfz38_0
       try clear hfz38_1
       try clear hfz41_0
       try clear hfz41_1
       try clear hfz48_0
       try clear hfz48_1
       try clear hfz88_0
       try clear hfz88_1
       obtain ⟨kq, x110_124, rfl, HA, HJ124, HO_774001, HO_779001, HO_788001, HO_819001, BK758, BK773, BK778, BK787, BK818, HB⟩ := hcut
       have hl788001_124 := (rR8 HO_788001.out).1
       rw [hl788001_124] at HO_788001
       (try simp only [hl788001_124])
       (try simp only [hl788001_124] at BK758)
       (try simp only [hl788001_124] at BK773)
       (try simp only [hl788001_124] at BK778)
       (try simp only [hl788001_124] at BK787)
       (try simp only [hl788001_124] at BK818)
       (try simp only [hl788001_124] at HO_774001)
       (try simp only [hl788001_124] at HO_779001)
       (try simp only [hl788001_124] at HO_819001)
       cases kq with
       | zero => exact absurd HA.out (by simp [laws_FnExactTurnNet.j2])
       | succ kj124 =>
        have H := HA.out
        clear HA
        simp only [laws_FnExactTurnNet.j2] at H
        by_cases c170 : x110_124 = true
        ·subst c170
         have H1 : (some false) = some r := by rw [if_pos rfl] at H; exact H
         clear H
         have H := H1
         clear H1
         obtain rfl := Option.some.inj H
         go_wp2
         go_ret
         exact ⟨nw_, ne_ HB.out⟩
        replace c170 := Bool.eq_false_iff.mpr c170
        subst c170
        have H1 : ((laws_heldNet.f kj124 t782 t804 1).bind fun t820 => (if t820 < 0 then (some false) else (if t820 = t803 then (some true) else (some false)))) = some r := by rw [if_neg (show ¬ (false = true) by decide)] at H; exact H
        clear H
        have H := H1
        clear H1
        replace H := Option.bind_eq_some_iff.mp H
        obtain ⟨t820, A1710, H⟩ := H
        replace H : (if t820 < 0 then (some false) else (if t820 = t803 then (some true) else (some false))) = some r := H
        have A171 := Aside0.mk A1710
        clear A1710
        by_cases c172 : t820 < 0
        ·rw [if_pos c172] at H
         have c172b0 : decide (t820 < 0) = true := decide_eq_true c172
         clear c172
         obtain rfl := Option.some.inj H
         have hnb173 := NB787_758.out
         have hnc173 := NB758_787.out
         have hnb174 := NB787_773.out
         have hnc174 := NB773_787.out
         have hnb175 := NB787_778.out
         have hnc175 := NB778_787.out
         have hnb176 := NB787_818.out
         have hnc176 := NB818_787.out
         obtain ⟨hcz177_0, hcz177_1, hfz177_0, hfz177_1⟩ := cz2_ BK787.out
         go_wp2_with (first | ((with_reducible refine gate_callee (f := 37) rfl ?_); refine gl_ (some 113) Try.func37 #[.agg #[.int .i64 t782, .slice Ao49 t804.length co49], .int .i64 1] ?_; (with_reducible refine (laws_heldNet.calls kj124 t782 _ _ t804 1 t820 _ ?side1 ?side2 A171.out).mono ?_); (case side1 => exact nc_ (rR8 HO_788001.out).2.2); (case side2 => exact (rR8 HO_788001.out).2.1); rintro e w178 ⟨rfl, hb⟩; refine ⟨_, rfl, ?_⟩; replace HO_774001 := kR_ HO_774001 hb; replace HO_779001 := kR_ HO_779001 hb; replace HO_788001 := kR_ HO_788001 hb; replace HO_819001 := kR_ HO_819001 hb; replace BK758 := kb_ BK758 hb; replace BK773 := kb_ BK773 hb; replace BK778 := kb_ BK778 hb; replace BK787 := kb_ BK787 hb; replace BK818 := kb_ BK818 hb; replace HB := kB_ HB hb; (try clear hb); (try clear hb2); (try clear hk); (try clear hi)))
         go_ret
         exact ⟨nw_, ne_ HB.out⟩
        rw [if_neg c172] at H
        have c172b0 : decide (t820 < 0) = false := decide_eq_false c172
        clear c172
        by_cases c179 : t820 = t803
        rotate_left
        ·rw [if_neg c179] at H
         have c179b0 : (t820 == t803) = false := beq_eq_false_iff_ne.mpr c179
         have c179b1 : (t820 != t803) = true := bne_iff_ne.mpr c179
         obtain rfl := Option.some.inj H
         have hnb186 := NB787_758.out
         have hnc186 := NB758_787.out
         have hnb187 := NB787_773.out
         have hnc187 := NB773_787.out
         have hnb188 := NB787_778.out
         have hnc188 := NB778_787.out
         have hnb189 := NB787_818.out
         have hnc189 := NB818_787.out
         obtain ⟨hcz190_0, hcz190_1, hfz190_0, hfz190_1⟩ := cz2_ BK787.out
         go_wp2_with (first | ((with_reducible refine gate_callee (f := 37) rfl ?_); refine gl_ (some 113) Try.func37 #[.agg #[.int .i64 t782, .slice Ao49 t804.length co49], .int .i64 1] ?_; (with_reducible refine (laws_heldNet.calls kj124 t782 _ _ t804 1 t820 _ ?side1 ?side2 A171.out).mono ?_); (case side1 => exact nc_ (rR8 HO_788001.out).2.2); (case side2 => exact (rR8 HO_788001.out).2.1); rintro e w191 ⟨rfl, hb⟩; refine ⟨_, rfl, ?_⟩; replace HO_774001 := kR_ HO_774001 hb; replace HO_779001 := kR_ HO_779001 hb; replace HO_788001 := kR_ HO_788001 hb; replace HO_819001 := kR_ HO_819001 hb; replace BK758 := kb_ BK758 hb; replace BK773 := kb_ BK773 hb; replace BK778 := kb_ BK778 hb; replace BK787 := kb_ BK787 hb; replace BK818 := kb_ BK818 hb; replace HB := kB_ HB hb; (try clear hb); (try clear hb2); (try clear hk); (try clear hi)))
         go_ret
         exact ⟨nw_, ne_ HB.out⟩
        rw [if_pos c179] at H
        have c179b0 : (t820 == t803) = true := beq_iff_eq.mpr c179
        have c179b1 : (t820 != t803) = false := bne_eq_false_iff_eq.mpr c179
        clear c179
        obtain rfl := Option.some.inj H
        have hnb180 := NB787_758.out
        have hnc180 := NB758_787.out
        have hnb181 := NB787_773.out
        have hnc181 := NB773_787.out
        have hnb182 := NB787_778.out
        have hnc182 := NB778_787.out
        have hnb183 := NB787_818.out
        have hnc183 := NB818_787.out
        obtain ⟨hcz184_0, hcz184_1, hfz184_0, hfz184_1⟩ := cz2_ BK787.out
        go_wp2_with (first | ((with_reducible refine gate_callee (f := 37) rfl ?_); refine gl_ (some 113) Try.func37 #[.agg #[.int .i64 t782, .slice Ao49 t804.length co49], .int .i64 1] ?_; (with_reducible refine (laws_heldNet.calls kj124 t782 _ _ t804 1 t820 _ ?side1 ?side2 A171.out).mono ?_); (case side1 => exact nc_ (rR8 HO_788001.out).2.2); (case side2 => exact (rR8 HO_788001.out).2.1); rintro e w185 ⟨rfl, hb⟩; refine ⟨_, rfl, ?_⟩; replace HO_774001 := kR_ HO_774001 hb; replace HO_779001 := kR_ HO_779001 hb; replace HO_788001 := kR_ HO_788001 hb; replace HO_819001 := kR_ HO_819001 hb; replace BK758 := kb_ BK758 hb; replace BK773 := kb_ BK773 hb; replace BK778 := kb_ BK778 hb; replace BK787 := kb_ BK787 hb; replace BK818 := kb_ BK818 hb; replace HB := kB_ HB hb; (try clear hb); (try clear hb2); (try clear hk); (try clear hi)))
        go_ret
        exact ⟨nw_, ne_ HB.out⟩
/-- THE ONE PURE STATEMENT of laws_FnExactTurnNet. -/
def laws_FnExactTurnNet.Pure : Prop := ∀ (a0_0 : Int) (l0_1 : List (S97)) (l1 : List (S76)), (Lit.int .i64 a0_0).wf = true → l0_1.length ≤ maxLen → (∀ x ∈ l0_1, (Lit.int .i64 x.f0).wf = true ∧ (Lit.int .i64 x.f1).wf = true ∧ (Lit.int .i64 x.f2).wf = true ∧ (Lit.int .i64 x.f3).wf = true ∧ (Lit.int .i64 x.f4).wf = true) → l1.length ≤ maxLen → (∀ x ∈ l1, (Lit.int .i64 x.f0).wf = true ∧ (Lit.int .i64 x.f1).wf = true ∧ (Lit.int .i64 x.f2).wf = true) → ∃ k, laws_FnExactTurnNet.f k a0_0 l0_1 l1 = some true
theorem laws_FnExactTurnNet.walk (P : laws_FnExactTurnNet.Pure) (a0_0 : Int) (A0_1 : Option Addr) (c0_1 : Nat) (l0_1 : List (S97)) (A1 : Option Addr) (c1 : Nat) (l1 : List (S76)) (w : World) (hw0_0 : (Lit.int .i64 a0_0).wf = true) (hr0_1 : Kd.C k97 w A0_1 l0_1.length l0_1) (hm0_1 : l0_1.length ≤ maxLen) (hw0_1 : ∀ x ∈ l0_1, (Lit.int .i64 x.f0).wf = true ∧ (Lit.int .i64 x.f1).wf = true ∧ (Lit.int .i64 x.f2).wf = true ∧ (Lit.int .i64 x.f3).wf = true ∧ (Lit.int .i64 x.f4).wf = true) (hc0_1 : l0_1.length ≤ c0_1) (hr1 : Kd.C k76 w A1 l1.length l1) (hm1 : l1.length ≤ maxLen) (hw1 : ∀ x ∈ l1, (Lit.int .i64 x.f0).wf = true ∧ (Lit.int .i64 x.f1).wf = true ∧ (Lit.int .i64 x.f2).wf = true) (hc1 : l1.length ≤ c1) :
    Calls Try.prog 8 #[.agg #[.int .i64 a0_0, .slice A0_1 l0_1.length c0_1], .slice A1 l1.length c1] w fun e w' => e = .returned (.bool true) ∧ Below w.heap.size w w' := by
  obtain ⟨k, h⟩ := P a0_0 l0_1 l1 hw0_0 hm0_1 hw0_1 hm1 hw1
  refine (laws_FnExactTurnNet.calls k a0_0 A0_1 c0_1 l0_1 A1 c1 l1 true w hr0_1 hc0_1 hr1 hc1 h).mono ?_
  rintro e w' ⟨rfl, hd⟩
  exact ⟨rfl, hd⟩

end Go.Proofs.Ytcfmejfmjjgoaaa.Print
