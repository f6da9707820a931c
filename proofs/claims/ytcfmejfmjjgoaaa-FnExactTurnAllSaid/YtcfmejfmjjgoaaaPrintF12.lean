-- Made by this session's own program (wip/patch_print.py, over the kit's print). Lean checks it.
import Derived.Test.YtcfmejfmjjgoaaaPrint0
import Derived.Test.YtcfmejfmjjgoaaaPrintF16
import Derived.Test.YtcfmejfmjjgoaaaPrintF17
import Derived.Test.YtcfmejfmjjgoaaaPrintF18
import Derived.Test.YtcfmejfmjjgoaaaPrintF19
import Derived.Test.YtcfmejfmjjgoaaaPrintF20
import Derived.Test.YtcfmejfmjjgoaaaPrintF21
import Derived.Test.YtcfmejfmjjgoaaaPrintF28
import Derived.Test.YtcfmejfmjjgoaaaPrintF30
import Derived.Test.YtcfmejfmjjgoaaaPrintF32
import Derived.Test.YtcfmejfmjjgoaaaPrintF35
import Derived.Test.YtcfmejfmjjgoaaaPrintF36
import Derived.Test.YtcfmejfmjjgoaaaPrintF42
import Derived.Test.YtcfmejfmjjgoaaaPrintF43
namespace Go.Proofs.Ytcfmejfmjjgoaaa.Print
open Go.RowKit Go.Proofs.YtcfmejfmjjgoaaaW.PrintWords Go.Proofs.YtcfmejfmjjgoaaaW.PrintLast Go.Proofs.YtcfmejfmjjgoaaaW.PrintMore Go.Proofs.YtcfmejfmjjgoaaaX
attribute [local go_sem] max2_int min2_int max_two min_two max_three min_three max_four min_four   -- for this text's walks alone
set_option linter.unusedVariables false
set_option linter.unusedSimpArgs false

abbrev rN12 := @Kd.R_drewN
abbrev rD12 := @Kd.R_drew
abbrev eZ12 := @below_size
abbrev rR12 := @Kd.R_reads'
/-! ### laws_FnExactTurnAll: function 12 -/
def laws_FnExactTurnAll.j0 : Nat → List (S76) → Int → List Int → List Int → Bool → Int → List (S97) → Option (Bool)
  | 0, _, _, _, _, _, _, _ => none
  | k + 1, x1, x2, x8, x11, x67, x994000, x994001 => if x67 = true then (some false) else ((laws_markIntS.f k x11 1).bind fun bt1032 => ((laws_heldIntS.f k bt1032.2 1).bind fun t1034 => (if t1034 < 0 then (some false) else (if t1034 = bt1032.1 then ((laws_toNet.f k x994000 x994001).bind fun bt1035 => ((laws_toTurnS.f k x1).bind fun t1039 => ((impl_TurnAll.f k bt1035.1 bt1035.2 t1039 x2).bind fun t1042 => ((laws_eqIntS.f k t1042 x8).bind fun t1045 => (if t1045 = true then ((laws_heldIntS.f k bt1032.2 1).bind fun t1046 => (if t1046 < 0 then (some false) else (if t1046 = bt1032.1 then (some true) else (some false)))) else (some false)))))) else (some false)))))
def laws_FnExactTurnAll.f (k : Nat) (a0_0 : Int) (l0_1 : List (S97)) (l1 : List (S76)) (a2 : Int) : Option (Bool) := (laws_szNet.f a0_0 l0_1 1048576).bind fun t994 => (if t994 < 0 then (some true) else ((laws_szTurnS.f l1 t994).bind fun t995 => (if t995 < 0 then (some true) else ((laws_toNet.f k a0_0 l0_1).bind fun bt996 => ((laws_toTurnS.f k l1).bind fun t1000 => ((spec_TurnAll.f k bt996.1 bt996.2 t1000 a2).bind fun t1003 => ((laws_toNet.f k a0_0 l0_1).bind fun bt1006 => ((laws_toTurnS.f k l1).bind fun t1011 => ((impl_TurnAll.f k bt1006.1 bt1006.2 t1011 a2).bind fun t1014 => ((laws_eqIntS.f k t1014 t1003).bind fun t1017 => (if t1017 = true then ((laws_toNet.f k a0_0 l0_1).bind fun bt1018 => ((laws_eqNet.f k bt1006.1 bt1006.2 bt1018.1 bt1018.2).bind fun t1022 => (if t1022 = true then ((laws_toTurnS.f k l1).bind fun t1023 => ((laws_eqTurnS.f k t1011 t1023).bind fun t1026 => (if t1026 = true then ((laws_markNet.f k bt1006.1 bt1006.2 1).bind fun bt1027 => ((laws_markTurnS.f k t1011 bt1027.1).bind fun bt1029 => (if bt1029.1 < 0 then (laws_FnExactTurnAll.j0 k l1 a2 t1003 t1014 true a0_0 l0_1) else ((laws_eqIntS.f k t1014 t1003).bind fun t1031 => (laws_FnExactTurnAll.j0 k l1 a2 t1003 t1014 (!t1031) a0_0 l0_1))))) else (some false)))) else (some false)))) else (some false))))))))))))
set_option maxHeartbeats 200000000 in
set_option maxRecDepth 100000 in
theorem laws_FnExactTurnAll.calls (k : Nat) (a0_0 : Int) (A0_1 : Option Addr) (c0_1 : Nat) (l0_1 : List (S97)) (A1 : Option Addr) (c1 : Nat) (l1 : List (S76)) (a2 : Int) (r : Bool) (w : World) (hr0_1 : Kd.C k97 w A0_1 l0_1.length l0_1) (hc0_1 : l0_1.length ≤ c0_1) (hr1 : Kd.C k76 w A1 l1.length l1) (hc1 : l1.length ≤ c1) (h : laws_FnExactTurnAll.f k a0_0 l0_1 l1 a2 = some r) :
    Calls Try.prog 12 #[.agg #[.int .i64 a0_0, .slice A0_1 l0_1.length c0_1], .slice A1 l1.length c1, .int .i64 a2] w fun e w' => e = .returned (.bool r) ∧ Below w.heap.size w w' := by
  have hu37 := Try.underlying37
  have hu25 := Try.underlying25
  have HR0_1 := Aside0.mk hr0_1
  have HC0_1 := Aside0.mk hc0_1
  clear hr0_1 hc0_1
  have HR1 := Aside0.mk hr1
  have HC1 := Aside0.mk hc1
  clear hr1 hc1
  have HB := Aside0.mk (Below.refl w.heap.size w)
  have H : ((laws_szNet.f a0_0 l0_1 1048576).bind fun t994 => (if t994 < 0 then (some true) else ((laws_szTurnS.f l1 t994).bind fun t995 => (if t995 < 0 then (some true) else ((laws_toNet.f k a0_0 l0_1).bind fun bt996 => ((laws_toTurnS.f k l1).bind fun t1000 => ((spec_TurnAll.f k bt996.1 bt996.2 t1000 a2).bind fun t1003 => ((laws_toNet.f k a0_0 l0_1).bind fun bt1006 => ((laws_toTurnS.f k l1).bind fun t1011 => ((impl_TurnAll.f k bt1006.1 bt1006.2 t1011 a2).bind fun t1014 => ((laws_eqIntS.f k t1014 t1003).bind fun t1017 => (if t1017 = true then ((laws_toNet.f k a0_0 l0_1).bind fun bt1018 => ((laws_eqNet.f k bt1006.1 bt1006.2 bt1018.1 bt1018.2).bind fun t1022 => (if t1022 = true then ((laws_toTurnS.f k l1).bind fun t1023 => ((laws_eqTurnS.f k t1011 t1023).bind fun t1026 => (if t1026 = true then ((laws_markNet.f k bt1006.1 bt1006.2 1).bind fun bt1027 => ((laws_markTurnS.f k t1011 bt1027.1).bind fun bt1029 => (if bt1029.1 < 0 then (laws_FnExactTurnAll.j0 k l1 a2 t1003 t1014 true a0_0 l0_1) else ((laws_eqIntS.f k t1014 t1003).bind fun t1031 => (laws_FnExactTurnAll.j0 k l1 a2 t1003 t1014 (!t1031) a0_0 l0_1))))) else (some false)))) else (some false)))) else (some false))))))))))))) = some r := h
  clear h
  replace H := Option.bind_eq_some_iff.mp H
  obtain ⟨t994, A40, H⟩ := H
  try dsimp only at H
  have A4 := Aside0.mk A40
  clear A40
  by_cases c5 : t994 < 0
  ·rw [if_pos c5] at H
   have c5b0 : decide (t994 < 0) = true := decide_eq_true c5
   clear c5
   obtain rfl := Option.some.inj H
   go_enter Try.func12, Try.ntmps12
   go_wp2_with (first | ((with_reducible refine gate_dst (N := 3) rfl ?_); refine bx_ 3 #[.int .i64 a0_0, .slice A0_1 l0_1.length c0_1] 37 ?_; intro gb993 hg w6 hbox hb; have BK993 := Aside0.mk (hbox); have GW993 := Aside0.mk (zs_ hg (ne_ HB.out)); have GE993 := Aside0.mk (zs_ hg (ne_ HB.out)); replace HB := kB_ HB hb; clear hb hbox hg; obtain ⟨hcz7_0, hcz7_1, hfz7_0, hfz7_1⟩ := cz2_ BK993.out) | ((with_reducible refine gate_callee (f := 16) rfl ?_); refine gl_ (some 18) Try.func16 #[.agg #[.int .i64 a0_0, .slice A0_1 l0_1.length c0_1], .int .i64 1048576] ?_; (with_reducible refine (laws_szNet.calls a0_0 _ _ l0_1 1048576 t994 _ ?side1 ?side2 A4.out).mono ?_); (case side1 => exact nc_ (Kd.C_below HR0_1.out HB.out)); (case side2 => exact HC0_1.out); rintro e w8 ⟨rfl, hb⟩; refine ⟨_, rfl, ?_⟩; replace BK993 := kb_ BK993 hb; replace HB := kB_ HB hb; (try clear hb); (try clear hb2); (try clear hk); (try clear hi)))
   go_ret
   exact ⟨nw_, ne_ HB.out⟩
  rw [if_neg c5] at H
  have c5b0 : decide (t994 < 0) = false := decide_eq_false c5
  clear c5
  replace H := Option.bind_eq_some_iff.mp H
  obtain ⟨t995, A90, H⟩ := H
  try dsimp only at H
  have A9 := Aside0.mk A90
  clear A90
  by_cases c10 : t995 < 0
  ·rw [if_pos c10] at H
   have c10b0 : decide (t995 < 0) = true := decide_eq_true c10
   clear c10
   obtain rfl := Option.some.inj H
   go_enter Try.func12, Try.ntmps12
   go_wp2_with (first | ((with_reducible refine gate_dst (N := 3) rfl ?_); refine bx_ 3 #[.int .i64 a0_0, .slice A0_1 l0_1.length c0_1] 37 ?_; intro gb993 hg w11 hbox hb; have BK993 := Aside0.mk (hbox); have GW993 := Aside0.mk (zs_ hg (ne_ HB.out)); have GE993 := Aside0.mk (zs_ hg (ne_ HB.out)); replace HB := kB_ HB hb; clear hb hbox hg; obtain ⟨hcz12_0, hcz12_1, hfz12_0, hfz12_1⟩ := cz2_ BK993.out) | ((with_reducible refine gate_callee (f := 16) rfl ?_); refine gl_ (some 18) Try.func16 #[.agg #[.int .i64 a0_0, .slice A0_1 l0_1.length c0_1], .int .i64 1048576] ?_; (with_reducible refine (laws_szNet.calls a0_0 _ _ l0_1 1048576 t994 _ ?side1 ?side2 A4.out).mono ?_); (case side1 => exact nc_ (Kd.C_below HR0_1.out HB.out)); (case side2 => exact HC0_1.out); rintro e w13 ⟨rfl, hb⟩; refine ⟨_, rfl, ?_⟩; replace BK993 := kb_ BK993 hb; replace HB := kB_ HB hb; (try clear hb); (try clear hb2); (try clear hk); (try clear hi)) | ((with_reducible refine gate_callee (f := 17) rfl ?_); refine gl_ (some 23) Try.func17 #[.slice A1 l1.length c1, .int .i64 t994] ?_; (with_reducible refine (laws_szTurnS.calls _ _ l1 t994 t995 _ ?side1 ?side2 A9.out).mono ?_); (case side1 => exact nc_ (Kd.C_below HR1.out HB.out)); (case side2 => exact HC1.out); rintro e w' ⟨rfl, ⟨nd, rfl⟩⟩; refine ⟨_, rfl, ?_⟩))
   go_ret
   exact ⟨nw_, ne_ HB.out⟩
  rw [if_neg c10] at H
  have c10b0 : decide (t995 < 0) = false := decide_eq_false c10
  clear c10
  replace H := Option.bind_eq_some_iff.mp H
  obtain ⟨⟨t996, t997⟩, A140, H⟩ := H
  try dsimp only at H
  have A14 := Aside0.mk A140
  clear A140
  replace H := Option.bind_eq_some_iff.mp H
  obtain ⟨t1000, A150, H⟩ := H
  try dsimp only at H
  have A15 := Aside0.mk A150
  clear A150
  replace H := Option.bind_eq_some_iff.mp H
  obtain ⟨t1003, A160, H⟩ := H
  try dsimp only at H
  have A16 := Aside0.mk A160
  clear A160
  replace H := Option.bind_eq_some_iff.mp H
  obtain ⟨⟨t1006, t1007⟩, A170, H⟩ := H
  try dsimp only at H
  have A17 := Aside0.mk A170
  clear A170
  replace H := Option.bind_eq_some_iff.mp H
  obtain ⟨t1011, A180, H⟩ := H
  try dsimp only at H
  have A18 := Aside0.mk A180
  clear A180
  replace H := Option.bind_eq_some_iff.mp H
  obtain ⟨t1014, A190, H⟩ := H
  try dsimp only at H
  have A19 := Aside0.mk A190
  clear A190
  replace H := Option.bind_eq_some_iff.mp H
  obtain ⟨t1017, A200, H⟩ := H
  try dsimp only at H
  have A20 := Aside0.mk A200
  clear A200
  by_cases c21 : t1017 = true
  rotate_left
  ·replace c21 := Bool.eq_false_iff.mpr c21
   subst c21
   have H1 : (some false) = some r := by rw [if_neg (show ¬ (false = true) by decide)] at H; exact H
   clear H
   have H := H1
   clear H1
   obtain rfl := Option.some.inj H
   go_enter Try.func12, Try.ntmps12
   go_wp2_with (first | ((with_reducible refine gate_dst (N := 3) rfl ?_); refine bx_ 3 #[.int .i64 a0_0, .slice A0_1 l0_1.length c0_1] 37 ?_; intro gb993 hg w168 hbox hb; have BK993 := Aside0.mk (hbox); have GW993 := Aside0.mk (zs_ hg (ne_ HB.out)); have GE993 := Aside0.mk (zs_ hg (ne_ HB.out)); replace HB := kB_ HB hb; clear hb hbox hg; obtain ⟨hcz169_0, hcz169_1, hfz169_0, hfz169_1⟩ := cz2_ BK993.out) | ((with_reducible refine gate_callee (f := 16) rfl ?_); refine gl_ (some 18) Try.func16 #[.agg #[.int .i64 a0_0, .slice A0_1 l0_1.length c0_1], .int .i64 1048576] ?_; (with_reducible refine (laws_szNet.calls a0_0 _ _ l0_1 1048576 t994 _ ?side1 ?side2 A4.out).mono ?_); (case side1 => exact nc_ (Kd.C_below HR0_1.out HB.out)); (case side2 => exact HC0_1.out); rintro e w170 ⟨rfl, hb⟩; refine ⟨_, rfl, ?_⟩; replace BK993 := kb_ BK993 hb; replace HB := kB_ HB hb; (try clear hb); (try clear hb2); (try clear hk); (try clear hi)) | ((with_reducible refine gate_callee (f := 17) rfl ?_); refine gl_ (some 23) Try.func17 #[.slice A1 l1.length c1, .int .i64 t994] ?_; (with_reducible refine (laws_szTurnS.calls _ _ l1 t994 t995 _ ?side1 ?side2 A9.out).mono ?_); (case side1 => exact nc_ (Kd.C_below HR1.out HB.out)); (case side2 => exact HC1.out); rintro e w' ⟨rfl, ⟨nd, rfl⟩⟩; refine ⟨_, rfl, ?_⟩; (first | (rw [drewN_self w170]; generalize hq_ : World.drewN w170 _ = w170; replace BK993 : Aside0 (w170.heap[gb993]? = some (.cells #[.int .i64 a0_0, .slice A0_1 l0_1.length c0_1] 37 (0, 0))) := ⟨by rw [← hq_]; exact (nb_ BK993.out)⟩; replace HB : Aside0 (Below w.heap.size w w170) := ⟨by rw [← hq_]; exact (ne_ HB.out)⟩; clear hq_) | (have n0_ : Aside0 (w170.heap[gb993]? = some (.cells #[.int .i64 a0_0, .slice A0_1 l0_1.length c0_1] 37 (0, 0))) := ⟨(nb_ BK993.out)⟩; have n1_ : Aside0 (Below w.heap.size w w170) := ⟨(ne_ HB.out)⟩; clear BK993 HB; have BK993 := n0_; have HB := n1_; clear n0_ n1_)); obtain ⟨hcz171_0, hcz171_1, hfz171_0, hfz171_1⟩ := cz2_ BK993.out) | ((with_reducible refine gate_callee (f := 18) rfl ?_); refine gl_ (some 27) Try.func18 #[.agg #[.int .i64 a0_0, .slice A0_1 l0_1.length c0_1]] ?_; (with_reducible refine (laws_toNet.calls k a0_0 _ _ l0_1 t996 t997 _ ?side1 ?side2 A14.out).mono ?_); (case side1 => exact nc_ (Kd.C_below HR0_1.out HB.out)); (case side2 => exact HC0_1.out); rintro e w172 ⟨v998, rfl, ho0, hb⟩; refine ⟨_, rfl, ?_⟩; have HO999 := Aside0.mk (Kd.R_lower ho0 (eZ12 (ne_ HB.out))); replace BK993 := kb_ BK993 hb; replace HB := kB_ HB hb; (try clear hb); (try clear hb2); (try clear hk); (try clear hi); (try clear ho0)) | ((with_reducible refine gate_callee (f := 19) rfl ?_); refine gl_ (some 29) Try.func19 #[.slice A1 l1.length c1] ?_; (with_reducible refine (laws_toTurnS.calls k _ _ l1 t1000 _ ?side1 ?side2 A15.out).mono ?_); (case side1 => exact nc_ (Kd.C_below HR1.out HB.out)); (case side2 => exact HC1.out); rintro e w173 ⟨v1001, rfl, ho0, hb⟩; refine ⟨_, rfl, ?_⟩; have HO1002 := Aside0.mk (Kd.R_lower ho0 (eZ12 (ne_ HB.out))); replace HO999 := kR_ HO999 hb; replace BK993 := kb_ BK993 hb; replace HB := kB_ HB hb; (try clear hb); (try clear hb2); (try clear hk); (try clear hi); (try clear ho0); obtain ⟨Ao174, co174, eo174⟩ := Kd.R_slice HO999.out; subst eo174; obtain ⟨Ao175, co175, eo175⟩ := Kd.R_slice HO1002.out; subst eo175) | ((with_reducible refine gate_callee (f := 32) rfl ?_); refine gl_ (some 31) Try.func32 #[.agg #[.int .i64 t996, .slice Ao174 t997.length co174], .slice Ao175 t1000.length co175, .int .i64 a2] ?_; (with_reducible refine (spec_TurnAll.calls k t996 _ _ t997 _ _ t1000 a2 t1003 _ ?side1 ?side2 ?side3 ?side4 A16.out).mono ?_); (case side1 => exact nc_ (rR12 HO999.out).2.2); (case side2 => exact (rR12 HO999.out).2.1); (case side3 => exact nc_ (rR12 HO1002.out).2.2); (case side4 => exact (rR12 HO1002.out).2.1); rintro e w176 ⟨v1004, rfl, ho0, hb⟩; refine ⟨_, rfl, ?_⟩; have HO1005 := Aside0.mk (Kd.R_lower ho0 (eZ12 (ne_ HB.out))); replace HO999 := kR_ HO999 hb; replace HO1002 := kR_ HO1002 hb; replace BK993 := kb_ BK993 hb; replace HB := kB_ HB hb; (try clear hb); (try clear hb2); (try clear hk); (try clear hi); (try clear ho0); obtain ⟨hcz177_0, hcz177_1, hfz177_0, hfz177_1⟩ := cz2_ BK993.out) | ((with_reducible refine gate_callee (f := 18) rfl ?_); refine gl_ (some 33) Try.func18 #[.agg #[.int .i64 a0_0, .slice A0_1 l0_1.length c0_1]] ?_; (with_reducible refine (laws_toNet.calls k a0_0 _ _ l0_1 t1006 t1007 _ ?side1 ?side2 A17.out).mono ?_); (case side1 => exact nc_ (Kd.C_below HR0_1.out HB.out)); (case side2 => exact HC0_1.out); rintro e w178 ⟨v1008, rfl, ho0, hb⟩; refine ⟨_, rfl, ?_⟩; have HO1009 := Aside0.mk (Kd.R_lower (Kd.R_new' ho0 (Kd.R_lt (nr_ HO999.out))) (eZ12 (ne_ HB.out))); replace HO999 := Aside0.mk (Kd.R_elder' (nr_ HO999.out) (Kd.R_base ho0) hb); replace HO1002 := kR_ HO1002 hb; replace HO1005 := kR_ HO1005 hb; replace BK993 := kb_ BK993 hb; replace HB := kB_ HB hb; (try clear hb); (try clear hb2); (try clear hk); (try clear hi); (try clear ho0)) | ((with_reducible refine gate_dst (N := 9) rfl ?_); refine bx_ 9 #[.int .i64 0, .slice none 0 0] 25 ?_; intro gb1010 hg w179 hbox hb; have BK1010 := Aside0.mk (hbox); have GW1010 := Aside0.mk (zs_ hg (ne_ HB.out)); have GE1010 := Aside0.mk (zs_ hg (ne_ HB.out)); have NB993_1010 := Aside0.mk (nl_ BK993.out hg); have NB1010_993 := Aside0.mk (nm_ BK993.out hg); replace HO999 := kR_ HO999 hb; replace HO1002 := kR_ HO1002 hb; replace HO1005 := kR_ HO1005 hb; replace HO1009 := kR_ HO1009 hb; replace BK993 := kb_ BK993 hb; replace HB := kB_ HB hb; clear hb hbox hg; have hnb180 := NB1010_993.out; have hnc180 := NB993_1010.out; obtain ⟨hcz181_0, hcz181_1, hfz181_0, hfz181_1⟩ := cz2_ BK1010.out; obtain ⟨Ao182, co182, eo182⟩ := Kd.R_slice HO1009.out; subst eo182) | ((with_reducible refine gate_callee (f := 19) rfl ?_); refine gl_ (some 35) Try.func19 #[.slice A1 l1.length c1] ?_; (with_reducible refine (laws_toTurnS.calls k _ _ l1 t1011 _ ?side1 ?side2 A18.out).mono ?_); (case side1 => exact Kd.C_below HR1.out (ne_ HB.out)); (case side2 => exact HC1.out); rintro e w183 ⟨v1012, rfl, ho0, hb⟩; refine ⟨_, rfl, ?_⟩; have HO1013 := Aside0.mk (Kd.R_lower (Kd.R_new' ho0 (Kd.R_lt (by (with_reducible repeat (first | apply rA12 | apply rN12 | apply rD12)); exact (Kd.R_mono (rf2_ (Kd.R_types HO1002.out BK1010.out (by decide))) (fun _ h_ => h_.1))))) (eZ12 (ne_ HB.out))); replace HO999 := Aside0.mk (Kd.R_below (by (with_reducible repeat (first | apply rA12 | apply rN12 | apply rD12)); exact (Kd.R_mono (rf2_ (Kd.R_types HO999.out BK1010.out (by decide))) (fun _ h_ => h_.1))) hb); replace HO1002 := Aside0.mk (Kd.R_elder' (by (with_reducible repeat (first | apply rA12 | apply rN12 | apply rD12)); exact (Kd.R_mono (rf2_ (Kd.R_types HO1002.out BK1010.out (by decide))) (fun _ h_ => h_.1))) (Kd.R_base ho0) hb); replace HO1005 := Aside0.mk (Kd.R_below (by (with_reducible repeat (first | apply rA12 | apply rN12 | apply rD12)); exact (Kd.R_mono (rf2_ (Kd.R_types HO1005.out BK1010.out (by decide))) (fun _ h_ => h_.1))) hb); replace HO1009 := Aside0.mk (Kd.R_below (by (with_reducible repeat (first | apply rA12 | apply rN12 | apply rD12)); exact (Kd.R_mono (rf2_ (Kd.R_types HO1009.out BK1010.out (by decide))) (fun _ h_ => h_.1))) hb); replace BK993 := kf_ BK993 hb; replace BK1010 := Aside0.mk (blk_below (g := gb1010) (o := .cells #[.int .i64 t1006, .slice Ao182 t1007.length co182] 25 (0, 0)) (np_ BK1010.out) hb); replace HB := kB_ HB hb; (try clear hb); (try clear hb2); (try clear hk); (try clear hi); (try clear ho0); obtain ⟨hcz184_0, hcz184_1, hfz184_0, hfz184_1⟩ := cz2_ BK1010.out; obtain ⟨Ao185, co185, eo185⟩ := Kd.R_slice HO1013.out; subst eo185) | ((with_reducible refine gate_callee (f := 30) rfl ?_); refine gl_ (some 39) Try.func30 #[.agg #[.int .i64 t1006, .slice Ao182 t1007.length co182], .slice Ao185 t1011.length co185, .int .i64 a2] ?_; (with_reducible refine (impl_TurnAll.calls k t1006 _ _ t1007 _ _ t1011 a2 t1014 _ ?side1 ?side2 ?side3 ?side4 A19.out).mono ?_); (case side1 => exact nc_ (rR12 HO1009.out).2.2); (case side2 => exact (rR12 HO1009.out).2.1); (case side3 => exact nc_ (rR12 HO1013.out).2.2); (case side4 => exact (rR12 HO1013.out).2.1); rintro e w186 ⟨v1015, rfl, ho0, hb⟩; refine ⟨_, rfl, ?_⟩; have HO1016 := Aside0.mk (Kd.R_lower (Kd.R_new' ho0 (Kd.R_lt (nr_ HO1005.out))) (eZ12 (ne_ HB.out))); replace HO999 := kR_ HO999 hb; replace HO1002 := kR_ HO1002 hb; replace HO1005 := Aside0.mk (Kd.R_elder' (nr_ HO1005.out) (Kd.R_base ho0) hb); replace HO1009 := kR_ HO1009 hb; replace HO1013 := kR_ HO1013 hb; replace BK993 := kb_ BK993 hb; replace BK1010 := kb_ BK1010 hb; replace HB := kB_ HB hb; (try clear hb); (try clear hb2); (try clear hk); (try clear hi); (try clear ho0); obtain ⟨Ao187, co187, eo187⟩ := Kd.R_slice HO1016.out; subst eo187; obtain ⟨Ao188, co188, eo188⟩ := Kd.R_slice HO1005.out; subst eo188) | ((with_reducible refine gate_callee (f := 28) rfl ?_); refine gl_ (some 42) Try.func28 #[.slice Ao187 t1014.length co187, .slice Ao188 t1003.length co188] ?_; (with_reducible refine (laws_eqIntS.calls k _ _ t1014 _ _ t1003 false _ ?side1 ?side2 ?side3 ?side4 A20.out).mono ?_); (case side1 => exact nc_ (rR12 HO1016.out).2.2); (case side2 => exact (rR12 HO1016.out).2.1); (case side3 => exact nc_ (rR12 HO1005.out).2.2); (case side4 => exact (rR12 HO1005.out).2.1); rintro e w' ⟨rfl, ⟨nd, rfl⟩⟩; refine ⟨_, rfl, ?_⟩))
   go_ret
   exact ⟨nw_, ne_ HB.out⟩

  subst c21
  rw [if_pos rfl] at H
  replace H := Option.bind_eq_some_iff.mp H
  obtain ⟨⟨t1018, t1019⟩, A220, H⟩ := H
  try dsimp only at H
  have A22 := Aside0.mk A220
  clear A220
  replace H := Option.bind_eq_some_iff.mp H
  obtain ⟨t1022, A230, H⟩ := H
  try dsimp only at H
  have A23 := Aside0.mk A230
  clear A230
  by_cases c24 : t1022 = true
  rotate_left
  ·replace c24 := Bool.eq_false_iff.mpr c24
   subst c24
   have H1 : (some false) = some r := by rw [if_neg (show ¬ (false = true) by decide)] at H; exact H
   clear H
   have H := H1
   clear H1
   obtain rfl := Option.some.inj H
   go_enter Try.func12, Try.ntmps12
   try go_wp2_with (first | ((with_reducible refine gate_dst (N := 3) rfl ?_); refine bx_ 3 #[.int .i64 a0_0, .slice A0_1 l0_1.length c0_1] 37 ?_; intro gb993 hg w143 hbox hb; have BK993 := Aside0.mk (hbox); have GW993 := Aside0.mk (zs_ hg (ne_ HB.out)); have GE993 := Aside0.mk (zs_ hg (ne_ HB.out)); replace HB := kB_ HB hb; clear hb hbox hg; obtain ⟨hcz144_0, hcz144_1, hfz144_0, hfz144_1⟩ := cz2_ BK993.out) | ((with_reducible refine gate_callee (f := 16) rfl ?_); refine gl_ (some 18) Try.func16 #[.agg #[.int .i64 a0_0, .slice A0_1 l0_1.length c0_1], .int .i64 1048576] ?_; (with_reducible refine (laws_szNet.calls a0_0 _ _ l0_1 1048576 t994 _ ?side1 ?side2 A4.out).mono ?_); (case side1 => exact nc_ (Kd.C_below HR0_1.out HB.out)); (case side2 => exact HC0_1.out); rintro e w145 ⟨rfl, hb⟩; refine ⟨_, rfl, ?_⟩; replace BK993 := kb_ BK993 hb; replace HB := kB_ HB hb; (try clear hb); (try clear hb2); (try clear hk); (try clear hi)) | ((with_reducible refine gate_callee (f := 17) rfl ?_); refine gl_ (some 23) Try.func17 #[.slice A1 l1.length c1, .int .i64 t994] ?_; (with_reducible refine (laws_szTurnS.calls _ _ l1 t994 t995 _ ?side1 ?side2 A9.out).mono ?_); (case side1 => exact nc_ (Kd.C_below HR1.out HB.out)); (case side2 => exact HC1.out); rintro e w' ⟨rfl, ⟨nd, rfl⟩⟩; refine ⟨_, rfl, ?_⟩; (first | (rw [drewN_self w145]; generalize hq_ : World.drewN w145 _ = w145; replace BK993 : Aside0 (w145.heap[gb993]? = some (.cells #[.int .i64 a0_0, .slice A0_1 l0_1.length c0_1] 37 (0, 0))) := ⟨by rw [← hq_]; exact (nb_ BK993.out)⟩; replace HB : Aside0 (Below w.heap.size w w145) := ⟨by rw [← hq_]; exact (ne_ HB.out)⟩; clear hq_) | (have n0_ : Aside0 (w145.heap[gb993]? = some (.cells #[.int .i64 a0_0, .slice A0_1 l0_1.length c0_1] 37 (0, 0))) := ⟨(nb_ BK993.out)⟩; have n1_ : Aside0 (Below w.heap.size w w145) := ⟨(ne_ HB.out)⟩; clear BK993 HB; have BK993 := n0_; have HB := n1_; clear n0_ n1_)); obtain ⟨hcz146_0, hcz146_1, hfz146_0, hfz146_1⟩ := cz2_ BK993.out) | ((with_reducible refine gate_callee (f := 18) rfl ?_); refine gl_ (some 27) Try.func18 #[.agg #[.int .i64 a0_0, .slice A0_1 l0_1.length c0_1]] ?_; (with_reducible refine (laws_toNet.calls k a0_0 _ _ l0_1 t996 t997 _ ?side1 ?side2 A14.out).mono ?_); (case side1 => exact nc_ (Kd.C_below HR0_1.out HB.out)); (case side2 => exact HC0_1.out); rintro e w147 ⟨v998, rfl, ho0, hb⟩; refine ⟨_, rfl, ?_⟩; have HO999 := Aside0.mk (Kd.R_lower ho0 (eZ12 (ne_ HB.out))); replace BK993 := kb_ BK993 hb; replace HB := kB_ HB hb; (try clear hb); (try clear hb2); (try clear hk); (try clear hi); (try clear ho0)) | ((with_reducible refine gate_callee (f := 19) rfl ?_); refine gl_ (some 29) Try.func19 #[.slice A1 l1.length c1] ?_; (with_reducible refine (laws_toTurnS.calls k _ _ l1 t1000 _ ?side1 ?side2 A15.out).mono ?_); (case side1 => exact nc_ (Kd.C_below HR1.out HB.out)); (case side2 => exact HC1.out); rintro e w148 ⟨v1001, rfl, ho0, hb⟩; refine ⟨_, rfl, ?_⟩; have HO1002 := Aside0.mk (Kd.R_lower ho0 (eZ12 (ne_ HB.out))); replace HO999 := kR_ HO999 hb; replace BK993 := kb_ BK993 hb; replace HB := kB_ HB hb; (try clear hb); (try clear hb2); (try clear hk); (try clear hi); (try clear ho0); obtain ⟨Ao149, co149, eo149⟩ := Kd.R_slice HO999.out; subst eo149; obtain ⟨Ao150, co150, eo150⟩ := Kd.R_slice HO1002.out; subst eo150) | ((with_reducible refine gate_callee (f := 32) rfl ?_); refine gl_ (some 31) Try.func32 #[.agg #[.int .i64 t996, .slice Ao149 t997.length co149], .slice Ao150 t1000.length co150, .int .i64 a2] ?_; (with_reducible refine (spec_TurnAll.calls k t996 _ _ t997 _ _ t1000 a2 t1003 _ ?side1 ?side2 ?side3 ?side4 A16.out).mono ?_); (case side1 => exact nc_ (rR12 HO999.out).2.2); (case side2 => exact (rR12 HO999.out).2.1); (case side3 => exact nc_ (rR12 HO1002.out).2.2); (case side4 => exact (rR12 HO1002.out).2.1); rintro e w151 ⟨v1004, rfl, ho0, hb⟩; refine ⟨_, rfl, ?_⟩; have HO1005 := Aside0.mk (Kd.R_lower ho0 (eZ12 (ne_ HB.out))); replace HO999 := kR_ HO999 hb; replace HO1002 := kR_ HO1002 hb; replace BK993 := kb_ BK993 hb; replace HB := kB_ HB hb; (try clear hb); (try clear hb2); (try clear hk); (try clear hi); (try clear ho0); obtain ⟨hcz152_0, hcz152_1, hfz152_0, hfz152_1⟩ := cz2_ BK993.out) | ((with_reducible refine gate_callee (f := 18) rfl ?_); refine gl_ (some 33) Try.func18 #[.agg #[.int .i64 a0_0, .slice A0_1 l0_1.length c0_1]] ?_; (with_reducible refine (laws_toNet.calls k a0_0 _ _ l0_1 t1006 t1007 _ ?side1 ?side2 A17.out).mono ?_); (case side1 => exact nc_ (Kd.C_below HR0_1.out HB.out)); (case side2 => exact HC0_1.out); rintro e w153 ⟨v1008, rfl, ho0, hb⟩; refine ⟨_, rfl, ?_⟩; have HO1009 := Aside0.mk (Kd.R_lower (Kd.R_new' ho0 (Kd.R_lt (nr_ HO999.out))) (eZ12 (ne_ HB.out))); replace HO999 := Aside0.mk (Kd.R_elder' (nr_ HO999.out) (Kd.R_base ho0) hb); replace HO1002 := kR_ HO1002 hb; replace HO1005 := kR_ HO1005 hb; replace BK993 := kb_ BK993 hb; replace HB := kB_ HB hb; (try clear hb); (try clear hb2); (try clear hk); (try clear hi); (try clear ho0)) | ((with_reducible refine gate_dst (N := 9) rfl ?_); refine bx_ 9 #[.int .i64 0, .slice none 0 0] 25 ?_; intro gb1010 hg w154 hbox hb; have BK1010 := Aside0.mk (hbox); have GW1010 := Aside0.mk (zs_ hg (ne_ HB.out)); have GE1010 := Aside0.mk (zs_ hg (ne_ HB.out)); have NB993_1010 := Aside0.mk (nl_ BK993.out hg); have NB1010_993 := Aside0.mk (nm_ BK993.out hg); replace HO999 := kR_ HO999 hb; replace HO1002 := kR_ HO1002 hb; replace HO1005 := kR_ HO1005 hb; replace HO1009 := kR_ HO1009 hb; replace BK993 := kb_ BK993 hb; replace HB := kB_ HB hb; clear hb hbox hg; have hnb155 := NB1010_993.out; have hnc155 := NB993_1010.out; obtain ⟨hcz156_0, hcz156_1, hfz156_0, hfz156_1⟩ := cz2_ BK1010.out; obtain ⟨Ao157, co157, eo157⟩ := Kd.R_slice HO1009.out; subst eo157) | ((with_reducible refine gate_callee (f := 19) rfl ?_); refine gl_ (some 35) Try.func19 #[.slice A1 l1.length c1] ?_; (with_reducible refine (laws_toTurnS.calls k _ _ l1 t1011 _ ?side1 ?side2 A18.out).mono ?_); (case side1 => exact Kd.C_below HR1.out (ne_ HB.out)); (case side2 => exact HC1.out); rintro e w158 ⟨v1012, rfl, ho0, hb⟩; refine ⟨_, rfl, ?_⟩; have HO1013 := Aside0.mk (Kd.R_lower (Kd.R_new' ho0 (Kd.R_lt (by (with_reducible repeat (first | apply rA12 | apply rN12 | apply rD12)); exact (Kd.R_mono (rf2_ (Kd.R_types HO1002.out BK1010.out (by decide))) (fun _ h_ => h_.1))))) (eZ12 (ne_ HB.out))); replace HO999 := Aside0.mk (Kd.R_below (by (with_reducible repeat (first | apply rA12 | apply rN12 | apply rD12)); exact (Kd.R_mono (rf2_ (Kd.R_types HO999.out BK1010.out (by decide))) (fun _ h_ => h_.1))) hb); replace HO1002 := Aside0.mk (Kd.R_elder' (by (with_reducible repeat (first | apply rA12 | apply rN12 | apply rD12)); exact (Kd.R_mono (rf2_ (Kd.R_types HO1002.out BK1010.out (by decide))) (fun _ h_ => h_.1))) (Kd.R_base ho0) hb); replace HO1005 := Aside0.mk (Kd.R_below (by (with_reducible repeat (first | apply rA12 | apply rN12 | apply rD12)); exact (Kd.R_mono (rf2_ (Kd.R_types HO1005.out BK1010.out (by decide))) (fun _ h_ => h_.1))) hb); replace HO1009 := Aside0.mk (Kd.R_below (by (with_reducible repeat (first | apply rA12 | apply rN12 | apply rD12)); exact (Kd.R_mono (rf2_ (Kd.R_types HO1009.out BK1010.out (by decide))) (fun _ h_ => h_.1))) hb); replace BK993 := kf_ BK993 hb; replace BK1010 := Aside0.mk (blk_below (g := gb1010) (o := .cells #[.int .i64 t1006, .slice Ao157 t1007.length co157] 25 (0, 0)) (np_ BK1010.out) hb); replace HB := kB_ HB hb; (try clear hb); (try clear hb2); (try clear hk); (try clear hi); (try clear ho0); obtain ⟨hcz159_0, hcz159_1, hfz159_0, hfz159_1⟩ := cz2_ BK1010.out; obtain ⟨Ao160, co160, eo160⟩ := Kd.R_slice HO1013.out; subst eo160) | ((with_reducible refine gate_callee (f := 30) rfl ?_); refine gl_ (some 39) Try.func30 #[.agg #[.int .i64 t1006, .slice Ao157 t1007.length co157], .slice Ao160 t1011.length co160, .int .i64 a2] ?_; (with_reducible refine (impl_TurnAll.calls k t1006 _ _ t1007 _ _ t1011 a2 t1014 _ ?side1 ?side2 ?side3 ?side4 A19.out).mono ?_); (case side1 => exact nc_ (rR12 HO1009.out).2.2); (case side2 => exact (rR12 HO1009.out).2.1); (case side3 => exact nc_ (rR12 HO1013.out).2.2); (case side4 => exact (rR12 HO1013.out).2.1); rintro e w161 ⟨v1015, rfl, ho0, hb⟩; refine ⟨_, rfl, ?_⟩; have HO1016 := Aside0.mk (Kd.R_lower (Kd.R_new' ho0 (Kd.R_lt (nr_ HO1005.out))) (eZ12 (ne_ HB.out))); replace HO999 := kR_ HO999 hb; replace HO1002 := kR_ HO1002 hb; replace HO1005 := Aside0.mk (Kd.R_elder' (nr_ HO1005.out) (Kd.R_base ho0) hb); replace HO1009 := kR_ HO1009 hb; replace HO1013 := kR_ HO1013 hb; replace BK993 := kb_ BK993 hb; replace BK1010 := kb_ BK1010 hb; replace HB := kB_ HB hb; (try clear hb); (try clear hb2); (try clear hk); (try clear hi); (try clear ho0); obtain ⟨Ao162, co162, eo162⟩ := Kd.R_slice HO1016.out; subst eo162; obtain ⟨Ao163, co163, eo163⟩ := Kd.R_slice HO1005.out; subst eo163) | ((with_reducible refine gate_callee (f := 28) rfl ?_); refine gl_ (some 42) Try.func28 #[.slice Ao162 t1014.length co162, .slice Ao163 t1003.length co163] ?_; (with_reducible refine (laws_eqIntS.calls k _ _ t1014 _ _ t1003 true _ ?side1 ?side2 ?side3 ?side4 A20.out).mono ?_); (case side1 => exact nc_ (rR12 HO1016.out).2.2); (case side2 => exact (rR12 HO1016.out).2.1); (case side3 => exact nc_ (rR12 HO1005.out).2.2); (case side4 => exact (rR12 HO1005.out).2.1); rintro e w' ⟨rfl, ⟨nd, rfl⟩⟩; refine ⟨_, rfl, ?_⟩))
   (first | (rw [drewN_self w161]; generalize hq_ : World.drewN w161 _ = w161; replace HO1002 : Aside0 (Kd.R k31 31 w161 w.heap.size (fun k_ => some k_ ≠ (.slice Ao160 t1011.length co160 : Value).ownBlock) (.slice Ao150 t1000.length co150) t1000) := ⟨by rw [← hq_]; exact (by (with_reducible repeat (first | apply rA12 | apply rN12 | apply rD12)); exact Kd.R_mono HO1002.out (fun _ hk => by first | exact hk.2 | trivial | simp_all))⟩; replace HO1005 : Aside0 (Kd.R (Kd.int .i64) 3 w161 w.heap.size (fun k_ => some k_ ≠ (.slice Ao162 t1014.length co162 : Value).ownBlock) (.slice Ao163 t1003.length co163) t1003) := ⟨by rw [← hq_]; exact (by (with_reducible repeat (first | apply rA12 | apply rN12 | apply rD12)); exact Kd.R_mono HO1005.out (fun _ hk => by first | exact hk.2 | trivial | simp_all))⟩; replace HO1009 : Aside0 (Kd.R k33 33 w161 w.heap.size (fun k_ => some k_ ≠ (.slice Ao149 t997.length co149 : Value).ownBlock) (.slice Ao157 t1007.length co157) t1007) := ⟨by rw [← hq_]; exact (by (with_reducible repeat (first | apply rA12 | apply rN12 | apply rD12)); exact Kd.R_mono HO1009.out (fun _ hk => by first | exact hk.2 | trivial | simp_all))⟩; replace HO1013 : Aside0 (Kd.R k31 31 w161 w.heap.size (fun k_ => some k_ ≠ (.slice Ao150 t1000.length co150 : Value).ownBlock) (.slice Ao160 t1011.length co160) t1011) := ⟨by rw [← hq_]; exact (by (with_reducible repeat (first | apply rA12 | apply rN12 | apply rD12)); exact Kd.R_mono HO1013.out (fun _ hk => by first | exact hk.2 | trivial | simp_all))⟩; replace HO1016 : Aside0 (Kd.R (Kd.int .i64) 3 w161 w.heap.size (fun k_ => some k_ ≠ (.slice Ao163 t1003.length co163 : Value).ownBlock) (.slice Ao162 t1014.length co162) t1014) := ⟨by rw [← hq_]; exact (by (with_reducible repeat (first | apply rA12 | apply rN12 | apply rD12)); exact Kd.R_mono HO1016.out (fun _ hk => by first | exact hk.2 | trivial | simp_all))⟩; replace HO999 : Aside0 (Kd.R k33 33 w161 w.heap.size (fun k_ => some k_ ≠ (.slice Ao157 t1007.length co157 : Value).ownBlock) (.slice Ao149 t997.length co149) t997) := ⟨by rw [← hq_]; exact (by (with_reducible repeat (first | apply rA12 | apply rN12 | apply rD12)); exact Kd.R_mono HO999.out (fun _ hk => by first | exact hk.2 | trivial | simp_all))⟩; replace BK1010 : Aside0 (w161.heap[gb1010]? = some (.cells #[.int .i64 t1006, .slice Ao157 t1007.length co157] 25 (0, 0))) := ⟨by rw [← hq_]; exact (nb_ BK1010.out)⟩; replace BK993 : Aside0 (w161.heap[gb993]? = some (.cells #[.int .i64 a0_0, .slice A0_1 l0_1.length c0_1] 37 (0, 0))) := ⟨by rw [← hq_]; exact (nb_ BK993.out)⟩; replace HB : Aside0 (Below w.heap.size w w161) := ⟨by rw [← hq_]; exact (ne_ HB.out)⟩; clear hq_) | (have n0_ : Aside0 (Kd.R k31 31 w161 w.heap.size (fun k_ => some k_ ≠ (.slice Ao160 t1011.length co160 : Value).ownBlock) (.slice Ao150 t1000.length co150) t1000) := ⟨(by (with_reducible repeat (first | apply rA12 | apply rN12 | apply rD12)); exact Kd.R_mono HO1002.out (fun _ hk => by first | exact hk.2 | trivial | simp_all))⟩; have n1_ : Aside0 (Kd.R (Kd.int .i64) 3 w161 w.heap.size (fun k_ => some k_ ≠ (.slice Ao162 t1014.length co162 : Value).ownBlock) (.slice Ao163 t1003.length co163) t1003) := ⟨(by (with_reducible repeat (first | apply rA12 | apply rN12 | apply rD12)); exact Kd.R_mono HO1005.out (fun _ hk => by first | exact hk.2 | trivial | simp_all))⟩; have n2_ : Aside0 (Kd.R k33 33 w161 w.heap.size (fun k_ => some k_ ≠ (.slice Ao149 t997.length co149 : Value).ownBlock) (.slice Ao157 t1007.length co157) t1007) := ⟨(by (with_reducible repeat (first | apply rA12 | apply rN12 | apply rD12)); exact Kd.R_mono HO1009.out (fun _ hk => by first | exact hk.2 | trivial | simp_all))⟩; have n3_ : Aside0 (Kd.R k31 31 w161 w.heap.size (fun k_ => some k_ ≠ (.slice Ao150 t1000.length co150 : Value).ownBlock) (.slice Ao160 t1011.length co160) t1011) := ⟨(by (with_reducible repeat (first | apply rA12 | apply rN12 | apply rD12)); exact Kd.R_mono HO1013.out (fun _ hk => by first | exact hk.2 | trivial | simp_all))⟩; have n4_ : Aside0 (Kd.R (Kd.int .i64) 3 w161 w.heap.size (fun k_ => some k_ ≠ (.slice Ao163 t1003.length co163 : Value).ownBlock) (.slice Ao162 t1014.length co162) t1014) := ⟨(by (with_reducible repeat (first | apply rA12 | apply rN12 | apply rD12)); exact Kd.R_mono HO1016.out (fun _ hk => by first | exact hk.2 | trivial | simp_all))⟩; have n5_ : Aside0 (Kd.R k33 33 w161 w.heap.size (fun k_ => some k_ ≠ (.slice Ao157 t1007.length co157 : Value).ownBlock) (.slice Ao149 t997.length co149) t997) := ⟨(by (with_reducible repeat (first | apply rA12 | apply rN12 | apply rD12)); exact Kd.R_mono HO999.out (fun _ hk => by first | exact hk.2 | trivial | simp_all))⟩; have n6_ : Aside0 (w161.heap[gb1010]? = some (.cells #[.int .i64 t1006, .slice Ao157 t1007.length co157] 25 (0, 0))) := ⟨(nb_ BK1010.out)⟩; have n7_ : Aside0 (w161.heap[gb993]? = some (.cells #[.int .i64 a0_0, .slice A0_1 l0_1.length c0_1] 37 (0, 0))) := ⟨(nb_ BK993.out)⟩; have n8_ : Aside0 (Below w.heap.size w w161) := ⟨(ne_ HB.out)⟩; clear HO1002 HO1005 HO1009 HO1013 HO1016 HO999 BK1010 BK993 HB; have HO1002 := n0_; have HO1005 := n1_; have HO1009 := n2_; have HO1013 := n3_; have HO1016 := n4_; have HO999 := n5_; have BK1010 := n6_; have BK993 := n7_; have HB := n8_; clear n0_ n1_ n2_ n3_ n4_ n5_ n6_ n7_ n8_))
   replace HO999 := Aside0.mk (rD12 HO999.out)
   replace HO1002 := Aside0.mk (rD12 HO1002.out)
   replace HO1005 := Aside0.mk (rD12 HO1005.out)
   replace HO1009 := Aside0.mk (rD12 HO1009.out)
   replace HO1013 := Aside0.mk (rD12 HO1013.out)
   replace HO1016 := Aside0.mk (rD12 HO1016.out)
   replace BK993 := Aside0.mk (blk_drew BK993.out)
   replace BK1010 := Aside0.mk (blk_drew BK1010.out)
   replace HB := Aside0.mk (below_drew1 HB.out)
   refine start_ (n := 5) (S := fun w' => w'.cell? ⟨gb1010, 0, none⟩ = some (.int .i64 t1006) ∧ w'.cell? ⟨gb1010, 1, none⟩ = some (.slice Ao157 t1007.length co157) ∧ w'.cell? ⟨gb993, 0, none⟩ = some (.int .i64 a0_0) ∧ w'.cell? ⟨gb993, 1, none⟩ = some (.slice A0_1 l0_1.length c0_1)) (ds := []) #[false, false, false, false, false] (by kernel_rfl) rfl rfl ⟨ct_ BK1010.out 0, ct_ BK1010.out 1, ct_ BK993.out 0, ct_ BK993.out 1⟩ (fun hHeld => ?_)
   generalize w161.drew = w164 at HO999 HO1002 HO1005 HO1009 HO1013 HO1016 BK993 BK1010 HB hHeld ⊢
   refine take_ (i := 0) (N := some 44) (v := ?_) (a' := ?_) #[true, false, false, false, false] rfl rfl (by kernel_rfl) (fun _ _ _ h => h) (Or.inl ⟨by rfl, ?_⟩) hHeld ?_ ?_
   rotate_left
   ·rintro w' ⟨s0, s1, s2, s3⟩
    go_simp
    with_reducible rfl
   rotate_left
   ·simp only [Act.put, List.setIfInBounds_toArray, List.set_cons_zero, List.set_cons_succ, i64_w, i32_w]
    rfl
   refine take_ (i := 1) (N := some 45) (v := ?_) (a' := ?_) #[true, true, false, false, false] rfl rfl (by kernel_rfl) (fun _ _ _ h => h) (Or.inl ⟨by rfl, ?_⟩) hHeld ?_ ?_
   rotate_left
   ·rintro w' ⟨s0, s1, s2, s3⟩
    go_simp
    with_reducible rfl
   rotate_left
   ·simp only [Act.put, List.setIfInBounds_toArray, List.set_cons_zero, List.set_cons_succ, i64_w, i32_w]
    rfl
   refine one_ (i := 2) (N := some 46) #[true, true, true, false, false] rfl rfl (by kernel_rfl) (by decide) (fun K hK => ?_)
   refine go_ Try.func18 #[.agg #[.int .i64 a0_0, .slice A0_1 l0_1.length c0_1]] ?_
   with_reducible refine (laws_toNet.calls k a0_0 _ _ l0_1 t1018 t1019 _ ?side1 ?side2 A22.out).mono ?_
   (case side1 => exact nc_ (Kd.C_below HR0_1.out HB.out))
   (case side2 => exact HC0_1.out)
   rintro e w165 ⟨v1020, rfl, ho0, hb⟩
   refine ⟨_, rfl, ?_⟩
   replace HO1002 := kR_ HO1002 hb
   replace HO1005 := kR_ HO1005 hb
   replace HO1013 := kR_ HO1013 hb
   replace HO1016 := kR_ HO1016 hb
   have HO1021 := Aside0.mk (Kd.R_lower (Kd.R_new' (Kd.R_new' ho0 (Kd.R_lt (nr_ HO999.out))) (Kd.R_lt (nr_ HO1009.out))) (eZ12 (ne_ HB.out)))
   replace HO999 := Aside0.mk (Kd.R_elder' (nr_ HO999.out) (Kd.R_base ho0) hb)
   replace HO1009 := Aside0.mk (Kd.R_elder' (nr_ HO1009.out) (Kd.R_base ho0) hb)
   replace BK993 := kb_ BK993 hb
   replace BK1010 := kb_ BK1010 hb
   replace HB := kB_ HB hb
   (try clear hb)
   (try clear hb2)
   (try clear hk)
   (try clear hi)
   (try clear ho0)
   obtain ⟨Ao166, co166, eo166⟩ := Kd.R_slice HO1021.out
   (first | subst eo166 | (injection eo166 with f1_ f2_ f3_; have f4_ := f1_.symm; have f5_ := f3_.symm; clear f1_ f2_ f3_; subst f4_; subst f5_))
   refine hK.out _ _ ⟨ct_ BK1010.out 0, ct_ BK1010.out 1, ct_ BK993.out 0, ct_ BK993.out 1⟩ (fun hHeld => ?_)
   clear hK K
   refine nm1_ (some 46) ?_
   refine one_ (i := 3) (N := some 47) #[true, true, true, true, false] rfl rfl (by kernel_rfl) (by decide) (fun K hK => ?_)
   refine go_ Try.func20 #[.agg #[.int .i64 t1006, .slice Ao157 t1007.length co157], .agg #[.int .i64 t1018, .slice Ao166 t1019.length co166]] ?_
   with_reducible refine (laws_eqNet.calls k t1006 _ _ t1007 t1018 _ _ t1019 false _ ?side1 ?side2 ?side3 ?side4 A23.out).mono ?_
   (case side1 => exact nc_ (rR12 HO1009.out).2.2)
   (case side2 => exact (rR12 HO1009.out).2.1)
   (case side3 => exact nc_ (rR12 HO1021.out).2.2)
   (case side4 => exact (rR12 HO1021.out).2.1)
   rintro e w167 ⟨rfl, hb⟩
   refine ⟨_, rfl, ?_⟩
   replace HO999 := kR_ HO999 hb
   replace HO1002 := kR_ HO1002 hb
   replace HO1005 := kR_ HO1005 hb
   replace HO1009 := kR_ HO1009 hb
   replace HO1013 := kR_ HO1013 hb
   replace HO1016 := kR_ HO1016 hb
   replace HO1021 := kR_ HO1021 hb
   replace BK993 := kb_ BK993 hb
   replace BK1010 := kb_ BK1010 hb
   replace HB := kB_ HB hb
   (try clear hb)
   (try clear hb2)
   (try clear hk)
   (try clear hi)
   refine hK.out _ _ ⟨ct_ BK1010.out 0, ct_ BK1010.out 1, ct_ BK993.out 0, ct_ BK993.out 1⟩ (fun hHeld => ?_)
   clear hK K
   refine nm1_ (some 47) ?_
   refine pure_ (i := 4) (N := some 48) (v := ?_) (a' := ?_) #[true, true, true, true, true] rfl rfl (by kernel_rfl) (fun _ _ _ h => h) (Or.inl ⟨by rfl, ?_⟩) ?_ ?_
   rotate_left
   ·intro w'
    go_simp
    with_reducible rfl
   rotate_left
   ·simp only [Act.put, List.setIfInBounds_toArray, List.set_cons_zero, List.set_cons_succ, i64_w, i32_w]
    rfl
   refine done_ (by kernel_rfl) ?_
   try go_wp2
   go_ret
   exact ⟨nw_, ne_ HB.out⟩
  subst c24
  rw [if_pos rfl] at H
  replace H := Option.bind_eq_some_iff.mp H
  obtain ⟨t1023, A250, H⟩ := H
  try dsimp only at H
  have A25 := Aside0.mk A250
  clear A250
  replace H := Option.bind_eq_some_iff.mp H
  obtain ⟨t1026, A260, H⟩ := H
  try dsimp only at H
  have A26 := Aside0.mk A260
  clear A260
  by_cases c27 : t1026 = true
  rotate_left
  ·replace c27 := Bool.eq_false_iff.mpr c27
   subst c27
   have H1 : (some false) = some r := by rw [if_neg (show ¬ (false = true) by decide)] at H; exact H
   clear H
   have H := H1
   clear H1
   obtain rfl := Option.some.inj H
   go_enter Try.func12, Try.ntmps12
   try go_wp2_with (first | ((with_reducible refine gate_dst (N := 3) rfl ?_); refine bx_ 3 #[.int .i64 a0_0, .slice A0_1 l0_1.length c0_1] 37 ?_; intro gb993 hg w115 hbox hb; have BK993 := Aside0.mk (hbox); have GW993 := Aside0.mk (zs_ hg (ne_ HB.out)); have GE993 := Aside0.mk (zs_ hg (ne_ HB.out)); replace HB := kB_ HB hb; clear hb hbox hg; obtain ⟨hcz116_0, hcz116_1, hfz116_0, hfz116_1⟩ := cz2_ BK993.out) | ((with_reducible refine gate_callee (f := 16) rfl ?_); refine gl_ (some 18) Try.func16 #[.agg #[.int .i64 a0_0, .slice A0_1 l0_1.length c0_1], .int .i64 1048576] ?_; (with_reducible refine (laws_szNet.calls a0_0 _ _ l0_1 1048576 t994 _ ?side1 ?side2 A4.out).mono ?_); (case side1 => exact nc_ (Kd.C_below HR0_1.out HB.out)); (case side2 => exact HC0_1.out); rintro e w117 ⟨rfl, hb⟩; refine ⟨_, rfl, ?_⟩; replace BK993 := kb_ BK993 hb; replace HB := kB_ HB hb; (try clear hb); (try clear hb2); (try clear hk); (try clear hi)) | ((with_reducible refine gate_callee (f := 17) rfl ?_); refine gl_ (some 23) Try.func17 #[.slice A1 l1.length c1, .int .i64 t994] ?_; (with_reducible refine (laws_szTurnS.calls _ _ l1 t994 t995 _ ?side1 ?side2 A9.out).mono ?_); (case side1 => exact nc_ (Kd.C_below HR1.out HB.out)); (case side2 => exact HC1.out); rintro e w' ⟨rfl, ⟨nd, rfl⟩⟩; refine ⟨_, rfl, ?_⟩; (first | (rw [drewN_self w117]; generalize hq_ : World.drewN w117 _ = w117; replace BK993 : Aside0 (w117.heap[gb993]? = some (.cells #[.int .i64 a0_0, .slice A0_1 l0_1.length c0_1] 37 (0, 0))) := ⟨by rw [← hq_]; exact (nb_ BK993.out)⟩; replace HB : Aside0 (Below w.heap.size w w117) := ⟨by rw [← hq_]; exact (ne_ HB.out)⟩; clear hq_) | (have n0_ : Aside0 (w117.heap[gb993]? = some (.cells #[.int .i64 a0_0, .slice A0_1 l0_1.length c0_1] 37 (0, 0))) := ⟨(nb_ BK993.out)⟩; have n1_ : Aside0 (Below w.heap.size w w117) := ⟨(ne_ HB.out)⟩; clear BK993 HB; have BK993 := n0_; have HB := n1_; clear n0_ n1_)); obtain ⟨hcz118_0, hcz118_1, hfz118_0, hfz118_1⟩ := cz2_ BK993.out) | ((with_reducible refine gate_callee (f := 18) rfl ?_); refine gl_ (some 27) Try.func18 #[.agg #[.int .i64 a0_0, .slice A0_1 l0_1.length c0_1]] ?_; (with_reducible refine (laws_toNet.calls k a0_0 _ _ l0_1 t996 t997 _ ?side1 ?side2 A14.out).mono ?_); (case side1 => exact nc_ (Kd.C_below HR0_1.out HB.out)); (case side2 => exact HC0_1.out); rintro e w119 ⟨v998, rfl, ho0, hb⟩; refine ⟨_, rfl, ?_⟩; have HO999 := Aside0.mk (Kd.R_lower ho0 (eZ12 (ne_ HB.out))); replace BK993 := kb_ BK993 hb; replace HB := kB_ HB hb; (try clear hb); (try clear hb2); (try clear hk); (try clear hi); (try clear ho0)) | ((with_reducible refine gate_callee (f := 19) rfl ?_); refine gl_ (some 29) Try.func19 #[.slice A1 l1.length c1] ?_; (with_reducible refine (laws_toTurnS.calls k _ _ l1 t1000 _ ?side1 ?side2 A15.out).mono ?_); (case side1 => exact nc_ (Kd.C_below HR1.out HB.out)); (case side2 => exact HC1.out); rintro e w120 ⟨v1001, rfl, ho0, hb⟩; refine ⟨_, rfl, ?_⟩; have HO1002 := Aside0.mk (Kd.R_lower ho0 (eZ12 (ne_ HB.out))); replace HO999 := kR_ HO999 hb; replace BK993 := kb_ BK993 hb; replace HB := kB_ HB hb; (try clear hb); (try clear hb2); (try clear hk); (try clear hi); (try clear ho0); obtain ⟨Ao121, co121, eo121⟩ := Kd.R_slice HO999.out; subst eo121; obtain ⟨Ao122, co122, eo122⟩ := Kd.R_slice HO1002.out; subst eo122) | ((with_reducible refine gate_callee (f := 32) rfl ?_); refine gl_ (some 31) Try.func32 #[.agg #[.int .i64 t996, .slice Ao121 t997.length co121], .slice Ao122 t1000.length co122, .int .i64 a2] ?_; (with_reducible refine (spec_TurnAll.calls k t996 _ _ t997 _ _ t1000 a2 t1003 _ ?side1 ?side2 ?side3 ?side4 A16.out).mono ?_); (case side1 => exact nc_ (rR12 HO999.out).2.2); (case side2 => exact (rR12 HO999.out).2.1); (case side3 => exact nc_ (rR12 HO1002.out).2.2); (case side4 => exact (rR12 HO1002.out).2.1); rintro e w123 ⟨v1004, rfl, ho0, hb⟩; refine ⟨_, rfl, ?_⟩; have HO1005 := Aside0.mk (Kd.R_lower ho0 (eZ12 (ne_ HB.out))); replace HO999 := kR_ HO999 hb; replace HO1002 := kR_ HO1002 hb; replace BK993 := kb_ BK993 hb; replace HB := kB_ HB hb; (try clear hb); (try clear hb2); (try clear hk); (try clear hi); (try clear ho0); obtain ⟨hcz124_0, hcz124_1, hfz124_0, hfz124_1⟩ := cz2_ BK993.out) | ((with_reducible refine gate_callee (f := 18) rfl ?_); refine gl_ (some 33) Try.func18 #[.agg #[.int .i64 a0_0, .slice A0_1 l0_1.length c0_1]] ?_; (with_reducible refine (laws_toNet.calls k a0_0 _ _ l0_1 t1006 t1007 _ ?side1 ?side2 A17.out).mono ?_); (case side1 => exact nc_ (Kd.C_below HR0_1.out HB.out)); (case side2 => exact HC0_1.out); rintro e w125 ⟨v1008, rfl, ho0, hb⟩; refine ⟨_, rfl, ?_⟩; have HO1009 := Aside0.mk (Kd.R_lower (Kd.R_new' ho0 (Kd.R_lt (nr_ HO999.out))) (eZ12 (ne_ HB.out))); replace HO999 := Aside0.mk (Kd.R_elder' (nr_ HO999.out) (Kd.R_base ho0) hb); replace HO1002 := kR_ HO1002 hb; replace HO1005 := kR_ HO1005 hb; replace BK993 := kb_ BK993 hb; replace HB := kB_ HB hb; (try clear hb); (try clear hb2); (try clear hk); (try clear hi); (try clear ho0)) | ((with_reducible refine gate_dst (N := 9) rfl ?_); refine bx_ 9 #[.int .i64 0, .slice none 0 0] 25 ?_; intro gb1010 hg w126 hbox hb; have BK1010 := Aside0.mk (hbox); have GW1010 := Aside0.mk (zs_ hg (ne_ HB.out)); have GE1010 := Aside0.mk (zs_ hg (ne_ HB.out)); have NB993_1010 := Aside0.mk (nl_ BK993.out hg); have NB1010_993 := Aside0.mk (nm_ BK993.out hg); replace HO999 := kR_ HO999 hb; replace HO1002 := kR_ HO1002 hb; replace HO1005 := kR_ HO1005 hb; replace HO1009 := kR_ HO1009 hb; replace BK993 := kb_ BK993 hb; replace HB := kB_ HB hb; clear hb hbox hg; have hnb127 := NB1010_993.out; have hnc127 := NB993_1010.out; obtain ⟨hcz128_0, hcz128_1, hfz128_0, hfz128_1⟩ := cz2_ BK1010.out; obtain ⟨Ao129, co129, eo129⟩ := Kd.R_slice HO1009.out; subst eo129) | ((with_reducible refine gate_callee (f := 19) rfl ?_); refine gl_ (some 35) Try.func19 #[.slice A1 l1.length c1] ?_; (with_reducible refine (laws_toTurnS.calls k _ _ l1 t1011 _ ?side1 ?side2 A18.out).mono ?_); (case side1 => exact Kd.C_below HR1.out (ne_ HB.out)); (case side2 => exact HC1.out); rintro e w130 ⟨v1012, rfl, ho0, hb⟩; refine ⟨_, rfl, ?_⟩; have HO1013 := Aside0.mk (Kd.R_lower (Kd.R_new' ho0 (Kd.R_lt (by (with_reducible repeat (first | apply rA12 | apply rN12 | apply rD12)); exact (Kd.R_mono (rf2_ (Kd.R_types HO1002.out BK1010.out (by decide))) (fun _ h_ => h_.1))))) (eZ12 (ne_ HB.out))); replace HO999 := Aside0.mk (Kd.R_below (by (with_reducible repeat (first | apply rA12 | apply rN12 | apply rD12)); exact (Kd.R_mono (rf2_ (Kd.R_types HO999.out BK1010.out (by decide))) (fun _ h_ => h_.1))) hb); replace HO1002 := Aside0.mk (Kd.R_elder' (by (with_reducible repeat (first | apply rA12 | apply rN12 | apply rD12)); exact (Kd.R_mono (rf2_ (Kd.R_types HO1002.out BK1010.out (by decide))) (fun _ h_ => h_.1))) (Kd.R_base ho0) hb); replace HO1005 := Aside0.mk (Kd.R_below (by (with_reducible repeat (first | apply rA12 | apply rN12 | apply rD12)); exact (Kd.R_mono (rf2_ (Kd.R_types HO1005.out BK1010.out (by decide))) (fun _ h_ => h_.1))) hb); replace HO1009 := Aside0.mk (Kd.R_below (by (with_reducible repeat (first | apply rA12 | apply rN12 | apply rD12)); exact (Kd.R_mono (rf2_ (Kd.R_types HO1009.out BK1010.out (by decide))) (fun _ h_ => h_.1))) hb); replace BK993 := kf_ BK993 hb; replace BK1010 := Aside0.mk (blk_below (g := gb1010) (o := .cells #[.int .i64 t1006, .slice Ao129 t1007.length co129] 25 (0, 0)) (np_ BK1010.out) hb); replace HB := kB_ HB hb; (try clear hb); (try clear hb2); (try clear hk); (try clear hi); (try clear ho0); obtain ⟨hcz131_0, hcz131_1, hfz131_0, hfz131_1⟩ := cz2_ BK1010.out; obtain ⟨Ao132, co132, eo132⟩ := Kd.R_slice HO1013.out; subst eo132) | ((with_reducible refine gate_callee (f := 30) rfl ?_); refine gl_ (some 39) Try.func30 #[.agg #[.int .i64 t1006, .slice Ao129 t1007.length co129], .slice Ao132 t1011.length co132, .int .i64 a2] ?_; (with_reducible refine (impl_TurnAll.calls k t1006 _ _ t1007 _ _ t1011 a2 t1014 _ ?side1 ?side2 ?side3 ?side4 A19.out).mono ?_); (case side1 => exact nc_ (rR12 HO1009.out).2.2); (case side2 => exact (rR12 HO1009.out).2.1); (case side3 => exact nc_ (rR12 HO1013.out).2.2); (case side4 => exact (rR12 HO1013.out).2.1); rintro e w133 ⟨v1015, rfl, ho0, hb⟩; refine ⟨_, rfl, ?_⟩; have HO1016 := Aside0.mk (Kd.R_lower (Kd.R_new' ho0 (Kd.R_lt (nr_ HO1005.out))) (eZ12 (ne_ HB.out))); replace HO999 := kR_ HO999 hb; replace HO1002 := kR_ HO1002 hb; replace HO1005 := Aside0.mk (Kd.R_elder' (nr_ HO1005.out) (Kd.R_base ho0) hb); replace HO1009 := kR_ HO1009 hb; replace HO1013 := kR_ HO1013 hb; replace BK993 := kb_ BK993 hb; replace BK1010 := kb_ BK1010 hb; replace HB := kB_ HB hb; (try clear hb); (try clear hb2); (try clear hk); (try clear hi); (try clear ho0); obtain ⟨Ao134, co134, eo134⟩ := Kd.R_slice HO1016.out; subst eo134; obtain ⟨Ao135, co135, eo135⟩ := Kd.R_slice HO1005.out; subst eo135) | ((with_reducible refine gate_callee (f := 28) rfl ?_); refine gl_ (some 42) Try.func28 #[.slice Ao134 t1014.length co134, .slice Ao135 t1003.length co135] ?_; (with_reducible refine (laws_eqIntS.calls k _ _ t1014 _ _ t1003 true _ ?side1 ?side2 ?side3 ?side4 A20.out).mono ?_); (case side1 => exact nc_ (rR12 HO1016.out).2.2); (case side2 => exact (rR12 HO1016.out).2.1); (case side3 => exact nc_ (rR12 HO1005.out).2.2); (case side4 => exact (rR12 HO1005.out).2.1); rintro e w' ⟨rfl, ⟨nd, rfl⟩⟩; refine ⟨_, rfl, ?_⟩))
   (first | (rw [drewN_self w133]; generalize hq_ : World.drewN w133 _ = w133; replace HO1002 : Aside0 (Kd.R k31 31 w133 w.heap.size (fun k_ => some k_ ≠ (.slice Ao132 t1011.length co132 : Value).ownBlock) (.slice Ao122 t1000.length co122) t1000) := ⟨by rw [← hq_]; exact (by (with_reducible repeat (first | apply rA12 | apply rN12 | apply rD12)); exact Kd.R_mono HO1002.out (fun _ hk => by first | exact hk.2 | trivial | simp_all))⟩; replace HO1005 : Aside0 (Kd.R (Kd.int .i64) 3 w133 w.heap.size (fun k_ => some k_ ≠ (.slice Ao134 t1014.length co134 : Value).ownBlock) (.slice Ao135 t1003.length co135) t1003) := ⟨by rw [← hq_]; exact (by (with_reducible repeat (first | apply rA12 | apply rN12 | apply rD12)); exact Kd.R_mono HO1005.out (fun _ hk => by first | exact hk.2 | trivial | simp_all))⟩; replace HO1009 : Aside0 (Kd.R k33 33 w133 w.heap.size (fun k_ => some k_ ≠ (.slice Ao121 t997.length co121 : Value).ownBlock) (.slice Ao129 t1007.length co129) t1007) := ⟨by rw [← hq_]; exact (by (with_reducible repeat (first | apply rA12 | apply rN12 | apply rD12)); exact Kd.R_mono HO1009.out (fun _ hk => by first | exact hk.2 | trivial | simp_all))⟩; replace HO1013 : Aside0 (Kd.R k31 31 w133 w.heap.size (fun k_ => some k_ ≠ (.slice Ao122 t1000.length co122 : Value).ownBlock) (.slice Ao132 t1011.length co132) t1011) := ⟨by rw [← hq_]; exact (by (with_reducible repeat (first | apply rA12 | apply rN12 | apply rD12)); exact Kd.R_mono HO1013.out (fun _ hk => by first | exact hk.2 | trivial | simp_all))⟩; replace HO1016 : Aside0 (Kd.R (Kd.int .i64) 3 w133 w.heap.size (fun k_ => some k_ ≠ (.slice Ao135 t1003.length co135 : Value).ownBlock) (.slice Ao134 t1014.length co134) t1014) := ⟨by rw [← hq_]; exact (by (with_reducible repeat (first | apply rA12 | apply rN12 | apply rD12)); exact Kd.R_mono HO1016.out (fun _ hk => by first | exact hk.2 | trivial | simp_all))⟩; replace HO999 : Aside0 (Kd.R k33 33 w133 w.heap.size (fun k_ => some k_ ≠ (.slice Ao129 t1007.length co129 : Value).ownBlock) (.slice Ao121 t997.length co121) t997) := ⟨by rw [← hq_]; exact (by (with_reducible repeat (first | apply rA12 | apply rN12 | apply rD12)); exact Kd.R_mono HO999.out (fun _ hk => by first | exact hk.2 | trivial | simp_all))⟩; replace BK1010 : Aside0 (w133.heap[gb1010]? = some (.cells #[.int .i64 t1006, .slice Ao129 t1007.length co129] 25 (0, 0))) := ⟨by rw [← hq_]; exact (nb_ BK1010.out)⟩; replace BK993 : Aside0 (w133.heap[gb993]? = some (.cells #[.int .i64 a0_0, .slice A0_1 l0_1.length c0_1] 37 (0, 0))) := ⟨by rw [← hq_]; exact (nb_ BK993.out)⟩; replace HB : Aside0 (Below w.heap.size w w133) := ⟨by rw [← hq_]; exact (ne_ HB.out)⟩; clear hq_) | (have n0_ : Aside0 (Kd.R k31 31 w133 w.heap.size (fun k_ => some k_ ≠ (.slice Ao132 t1011.length co132 : Value).ownBlock) (.slice Ao122 t1000.length co122) t1000) := ⟨(by (with_reducible repeat (first | apply rA12 | apply rN12 | apply rD12)); exact Kd.R_mono HO1002.out (fun _ hk => by first | exact hk.2 | trivial | simp_all))⟩; have n1_ : Aside0 (Kd.R (Kd.int .i64) 3 w133 w.heap.size (fun k_ => some k_ ≠ (.slice Ao134 t1014.length co134 : Value).ownBlock) (.slice Ao135 t1003.length co135) t1003) := ⟨(by (with_reducible repeat (first | apply rA12 | apply rN12 | apply rD12)); exact Kd.R_mono HO1005.out (fun _ hk => by first | exact hk.2 | trivial | simp_all))⟩; have n2_ : Aside0 (Kd.R k33 33 w133 w.heap.size (fun k_ => some k_ ≠ (.slice Ao121 t997.length co121 : Value).ownBlock) (.slice Ao129 t1007.length co129) t1007) := ⟨(by (with_reducible repeat (first | apply rA12 | apply rN12 | apply rD12)); exact Kd.R_mono HO1009.out (fun _ hk => by first | exact hk.2 | trivial | simp_all))⟩; have n3_ : Aside0 (Kd.R k31 31 w133 w.heap.size (fun k_ => some k_ ≠ (.slice Ao122 t1000.length co122 : Value).ownBlock) (.slice Ao132 t1011.length co132) t1011) := ⟨(by (with_reducible repeat (first | apply rA12 | apply rN12 | apply rD12)); exact Kd.R_mono HO1013.out (fun _ hk => by first | exact hk.2 | trivial | simp_all))⟩; have n4_ : Aside0 (Kd.R (Kd.int .i64) 3 w133 w.heap.size (fun k_ => some k_ ≠ (.slice Ao135 t1003.length co135 : Value).ownBlock) (.slice Ao134 t1014.length co134) t1014) := ⟨(by (with_reducible repeat (first | apply rA12 | apply rN12 | apply rD12)); exact Kd.R_mono HO1016.out (fun _ hk => by first | exact hk.2 | trivial | simp_all))⟩; have n5_ : Aside0 (Kd.R k33 33 w133 w.heap.size (fun k_ => some k_ ≠ (.slice Ao129 t1007.length co129 : Value).ownBlock) (.slice Ao121 t997.length co121) t997) := ⟨(by (with_reducible repeat (first | apply rA12 | apply rN12 | apply rD12)); exact Kd.R_mono HO999.out (fun _ hk => by first | exact hk.2 | trivial | simp_all))⟩; have n6_ : Aside0 (w133.heap[gb1010]? = some (.cells #[.int .i64 t1006, .slice Ao129 t1007.length co129] 25 (0, 0))) := ⟨(nb_ BK1010.out)⟩; have n7_ : Aside0 (w133.heap[gb993]? = some (.cells #[.int .i64 a0_0, .slice A0_1 l0_1.length c0_1] 37 (0, 0))) := ⟨(nb_ BK993.out)⟩; have n8_ : Aside0 (Below w.heap.size w w133) := ⟨(ne_ HB.out)⟩; clear HO1002 HO1005 HO1009 HO1013 HO1016 HO999 BK1010 BK993 HB; have HO1002 := n0_; have HO1005 := n1_; have HO1009 := n2_; have HO1013 := n3_; have HO1016 := n4_; have HO999 := n5_; have BK1010 := n6_; have BK993 := n7_; have HB := n8_; clear n0_ n1_ n2_ n3_ n4_ n5_ n6_ n7_ n8_))
   replace HO999 := Aside0.mk (rD12 HO999.out)
   replace HO1002 := Aside0.mk (rD12 HO1002.out)
   replace HO1005 := Aside0.mk (rD12 HO1005.out)
   replace HO1009 := Aside0.mk (rD12 HO1009.out)
   replace HO1013 := Aside0.mk (rD12 HO1013.out)
   replace HO1016 := Aside0.mk (rD12 HO1016.out)
   replace BK993 := Aside0.mk (blk_drew BK993.out)
   replace BK1010 := Aside0.mk (blk_drew BK1010.out)
   replace HB := Aside0.mk (below_drew1 HB.out)
   refine start_ (n := 5) (S := fun w' => w'.cell? ⟨gb1010, 0, none⟩ = some (.int .i64 t1006) ∧ w'.cell? ⟨gb1010, 1, none⟩ = some (.slice Ao129 t1007.length co129) ∧ w'.cell? ⟨gb993, 0, none⟩ = some (.int .i64 a0_0) ∧ w'.cell? ⟨gb993, 1, none⟩ = some (.slice A0_1 l0_1.length c0_1)) (ds := []) #[false, false, false, false, false] (by kernel_rfl) rfl rfl ⟨ct_ BK1010.out 0, ct_ BK1010.out 1, ct_ BK993.out 0, ct_ BK993.out 1⟩ (fun hHeld => ?_)
   generalize w133.drew = w136 at HO999 HO1002 HO1005 HO1009 HO1013 HO1016 BK993 BK1010 HB hHeld ⊢
   refine take_ (i := 0) (N := some 44) (v := ?_) (a' := ?_) #[true, false, false, false, false] rfl rfl (by kernel_rfl) (fun _ _ _ h => h) (Or.inl ⟨by rfl, ?_⟩) hHeld ?_ ?_
   rotate_left
   ·rintro w' ⟨s0, s1, s2, s3⟩
    go_simp
    with_reducible rfl
   rotate_left
   ·simp only [Act.put, List.setIfInBounds_toArray, List.set_cons_zero, List.set_cons_succ, i64_w, i32_w]
    rfl
   refine take_ (i := 1) (N := some 45) (v := ?_) (a' := ?_) #[true, true, false, false, false] rfl rfl (by kernel_rfl) (fun _ _ _ h => h) (Or.inl ⟨by rfl, ?_⟩) hHeld ?_ ?_
   rotate_left
   ·rintro w' ⟨s0, s1, s2, s3⟩
    go_simp
    with_reducible rfl
   rotate_left
   ·simp only [Act.put, List.setIfInBounds_toArray, List.set_cons_zero, List.set_cons_succ, i64_w, i32_w]
    rfl
   refine one_ (i := 2) (N := some 46) #[true, true, true, false, false] rfl rfl (by kernel_rfl) (by decide) (fun K hK => ?_)
   refine go_ Try.func18 #[.agg #[.int .i64 a0_0, .slice A0_1 l0_1.length c0_1]] ?_
   with_reducible refine (laws_toNet.calls k a0_0 _ _ l0_1 t1018 t1019 _ ?side1 ?side2 A22.out).mono ?_
   (case side1 => exact nc_ (Kd.C_below HR0_1.out HB.out))
   (case side2 => exact HC0_1.out)
   rintro e w137 ⟨v1020, rfl, ho0, hb⟩
   refine ⟨_, rfl, ?_⟩
   replace HO1002 := kR_ HO1002 hb
   replace HO1005 := kR_ HO1005 hb
   replace HO1013 := kR_ HO1013 hb
   replace HO1016 := kR_ HO1016 hb
   have HO1021 := Aside0.mk (Kd.R_lower (Kd.R_new' (Kd.R_new' ho0 (Kd.R_lt (nr_ HO999.out))) (Kd.R_lt (nr_ HO1009.out))) (eZ12 (ne_ HB.out)))
   replace HO999 := Aside0.mk (Kd.R_elder' (nr_ HO999.out) (Kd.R_base ho0) hb)
   replace HO1009 := Aside0.mk (Kd.R_elder' (nr_ HO1009.out) (Kd.R_base ho0) hb)
   replace BK993 := kb_ BK993 hb
   replace BK1010 := kb_ BK1010 hb
   replace HB := kB_ HB hb
   (try clear hb)
   (try clear hb2)
   (try clear hk)
   (try clear hi)
   (try clear ho0)
   obtain ⟨Ao138, co138, eo138⟩ := Kd.R_slice HO1021.out
   (first | subst eo138 | (injection eo138 with f1_ f2_ f3_; have f4_ := f1_.symm; have f5_ := f3_.symm; clear f1_ f2_ f3_; subst f4_; subst f5_))
   refine hK.out _ _ ⟨ct_ BK1010.out 0, ct_ BK1010.out 1, ct_ BK993.out 0, ct_ BK993.out 1⟩ (fun hHeld => ?_)
   clear hK K
   refine nm1_ (some 46) ?_
   refine one_ (i := 3) (N := some 47) #[true, true, true, true, false] rfl rfl (by kernel_rfl) (by decide) (fun K hK => ?_)
   refine go_ Try.func20 #[.agg #[.int .i64 t1006, .slice Ao129 t1007.length co129], .agg #[.int .i64 t1018, .slice Ao138 t1019.length co138]] ?_
   with_reducible refine (laws_eqNet.calls k t1006 _ _ t1007 t1018 _ _ t1019 true _ ?side1 ?side2 ?side3 ?side4 A23.out).mono ?_
   (case side1 => exact nc_ (rR12 HO1009.out).2.2)
   (case side2 => exact (rR12 HO1009.out).2.1)
   (case side3 => exact nc_ (rR12 HO1021.out).2.2)
   (case side4 => exact (rR12 HO1021.out).2.1)
   rintro e w139 ⟨rfl, hb⟩
   refine ⟨_, rfl, ?_⟩
   replace HO999 := kR_ HO999 hb
   replace HO1002 := kR_ HO1002 hb
   replace HO1005 := kR_ HO1005 hb
   replace HO1009 := kR_ HO1009 hb
   replace HO1013 := kR_ HO1013 hb
   replace HO1016 := kR_ HO1016 hb
   replace HO1021 := kR_ HO1021 hb
   replace BK993 := kb_ BK993 hb
   replace BK1010 := kb_ BK1010 hb
   replace HB := kB_ HB hb
   (try clear hb)
   (try clear hb2)
   (try clear hk)
   (try clear hi)
   refine hK.out _ _ ⟨ct_ BK1010.out 0, ct_ BK1010.out 1, ct_ BK993.out 0, ct_ BK993.out 1⟩ (fun hHeld => ?_)
   clear hK K
   refine nm1_ (some 47) ?_
   refine pure_ (i := 4) (N := some 48) (v := ?_) (a' := ?_) #[true, true, true, true, true] rfl rfl (by kernel_rfl) (fun _ _ _ h => h) (Or.inl ⟨by rfl, ?_⟩) ?_ ?_
   rotate_left
   ·intro w'
    go_simp
    with_reducible rfl
   rotate_left
   ·simp only [Act.put, List.setIfInBounds_toArray, List.set_cons_zero, List.set_cons_succ, i64_w, i32_w]
    rfl
   refine done_ (by kernel_rfl) ?_
   try go_wp2_with (first | ((with_reducible refine gate_callee (f := 19) rfl ?_); refine gl_ (some 51) Try.func19 #[.slice A1 l1.length c1] ?_; (with_reducible refine (laws_toTurnS.calls k _ _ l1 t1023 _ ?side1 ?side2 A25.out).mono ?_); (case side1 => exact nc_ (Kd.C_below HR1.out HB.out)); (case side2 => exact HC1.out); rintro e w140 ⟨v1024, rfl, ho0, hb⟩; refine ⟨_, rfl, ?_⟩; have HO1025 := Aside0.mk (Kd.R_lower (Kd.R_new' (Kd.R_new' ho0 (Kd.R_lt (nr_ HO1002.out))) (Kd.R_lt (nr_ HO1013.out))) (eZ12 (ne_ HB.out))); replace HO999 := kR_ HO999 hb; replace HO1002 := Aside0.mk (Kd.R_elder' (nr_ HO1002.out) (Kd.R_base ho0) hb); replace HO1005 := kR_ HO1005 hb; replace HO1009 := kR_ HO1009 hb; replace HO1013 := Aside0.mk (Kd.R_elder' (nr_ HO1013.out) (Kd.R_base ho0) hb); replace HO1016 := kR_ HO1016 hb; replace HO1021 := kR_ HO1021 hb; replace BK993 := kb_ BK993 hb; replace BK1010 := kb_ BK1010 hb; replace HB := kB_ HB hb; (try clear hb); (try clear hb2); (try clear hk); (try clear hi); (try clear ho0); obtain ⟨Ao141, co141, eo141⟩ := Kd.R_slice HO1025.out; subst eo141) | ((with_reducible refine gate_callee (f := 21) rfl ?_); refine gl_ (some 52) Try.func21 #[.slice Ao132 t1011.length co132, .slice Ao141 t1023.length co141] ?_; (with_reducible refine (laws_eqTurnS.calls k _ _ t1011 _ _ t1023 false _ ?side1 ?side2 ?side3 ?side4 A26.out).mono ?_); (case side1 => exact nc_ (rR12 HO1013.out).2.2); (case side2 => exact (rR12 HO1013.out).2.1); (case side3 => exact nc_ (rR12 HO1025.out).2.2); (case side4 => exact (rR12 HO1025.out).2.1); rintro e w142 ⟨rfl, hb⟩; refine ⟨_, rfl, ?_⟩; replace HO999 := kR_ HO999 hb; replace HO1002 := kR_ HO1002 hb; replace HO1005 := kR_ HO1005 hb; replace HO1009 := kR_ HO1009 hb; replace HO1013 := kR_ HO1013 hb; replace HO1016 := kR_ HO1016 hb; replace HO1021 := kR_ HO1021 hb; replace HO1025 := kR_ HO1025 hb; replace BK993 := kb_ BK993 hb; replace BK1010 := kb_ BK1010 hb; replace HB := kB_ HB hb; (try clear hb); (try clear hb2); (try clear hk); (try clear hi)))
   go_ret
   exact ⟨nw_, ne_ HB.out⟩
  subst c27
  rw [if_pos rfl] at H
  replace H := Option.bind_eq_some_iff.mp H
  obtain ⟨⟨t1027, t1028⟩, A280, H⟩ := H
  try dsimp only at H
  have A28 := Aside0.mk A280
  clear A280
  replace H := Option.bind_eq_some_iff.mp H
  obtain ⟨⟨t1029, t1030⟩, A290, H⟩ := H
  try dsimp only at H
  have A29 := Aside0.mk A290
  clear A290
  have HC30 := Aside0.mk H
  clear H
  go_enter Try.func12, Try.ntmps12
  try go_wp2_with (first | ((with_reducible refine gate_dst (N := 3) rfl ?_); refine bx_ 3 #[.int .i64 a0_0, .slice A0_1 l0_1.length c0_1] 37 ?_; intro gb993 hg w31 hbox hb; have BK993 := Aside0.mk (hbox); have GW993 := Aside0.mk (zs_ hg (ne_ HB.out)); have GE993 := Aside0.mk (zs_ hg (ne_ HB.out)); replace HB := kB_ HB hb; clear hb hbox hg; obtain ⟨hcz32_0, hcz32_1, hfz32_0, hfz32_1⟩ := cz2_ BK993.out) | ((with_reducible refine gate_callee (f := 16) rfl ?_); refine gl_ (some 18) Try.func16 #[.agg #[.int .i64 a0_0, .slice A0_1 l0_1.length c0_1], .int .i64 1048576] ?_; (with_reducible refine (laws_szNet.calls a0_0 _ _ l0_1 1048576 t994 _ ?side1 ?side2 A4.out).mono ?_); (case side1 => exact nc_ (Kd.C_below HR0_1.out HB.out)); (case side2 => exact HC0_1.out); rintro e w33 ⟨rfl, hb⟩; refine ⟨_, rfl, ?_⟩; replace BK993 := kb_ BK993 hb; replace HB := kB_ HB hb; (try clear hb); (try clear hb2); (try clear hk); (try clear hi)) | ((with_reducible refine gate_callee (f := 17) rfl ?_); refine gl_ (some 23) Try.func17 #[.slice A1 l1.length c1, .int .i64 t994] ?_; (with_reducible refine (laws_szTurnS.calls _ _ l1 t994 t995 _ ?side1 ?side2 A9.out).mono ?_); (case side1 => exact nc_ (Kd.C_below HR1.out HB.out)); (case side2 => exact HC1.out); rintro e w' ⟨rfl, ⟨nd, rfl⟩⟩; refine ⟨_, rfl, ?_⟩; (first | (rw [drewN_self w33]; generalize hq_ : World.drewN w33 _ = w33; replace BK993 : Aside0 (w33.heap[gb993]? = some (.cells #[.int .i64 a0_0, .slice A0_1 l0_1.length c0_1] 37 (0, 0))) := ⟨by rw [← hq_]; exact (nb_ BK993.out)⟩; replace HB : Aside0 (Below w.heap.size w w33) := ⟨by rw [← hq_]; exact (ne_ HB.out)⟩; clear hq_) | (have n0_ : Aside0 (w33.heap[gb993]? = some (.cells #[.int .i64 a0_0, .slice A0_1 l0_1.length c0_1] 37 (0, 0))) := ⟨(nb_ BK993.out)⟩; have n1_ : Aside0 (Below w.heap.size w w33) := ⟨(ne_ HB.out)⟩; clear BK993 HB; have BK993 := n0_; have HB := n1_; clear n0_ n1_)); obtain ⟨hcz34_0, hcz34_1, hfz34_0, hfz34_1⟩ := cz2_ BK993.out) | ((with_reducible refine gate_callee (f := 18) rfl ?_); refine gl_ (some 27) Try.func18 #[.agg #[.int .i64 a0_0, .slice A0_1 l0_1.length c0_1]] ?_; (with_reducible refine (laws_toNet.calls k a0_0 _ _ l0_1 t996 t997 _ ?side1 ?side2 A14.out).mono ?_); (case side1 => exact nc_ (Kd.C_below HR0_1.out HB.out)); (case side2 => exact HC0_1.out); rintro e w35 ⟨v998, rfl, ho0, hb⟩; refine ⟨_, rfl, ?_⟩; have HO999 := Aside0.mk (Kd.R_lower ho0 (eZ12 (ne_ HB.out))); replace BK993 := kb_ BK993 hb; replace HB := kB_ HB hb; (try clear hb); (try clear hb2); (try clear hk); (try clear hi); (try clear ho0)) | ((with_reducible refine gate_callee (f := 19) rfl ?_); refine gl_ (some 29) Try.func19 #[.slice A1 l1.length c1] ?_; (with_reducible refine (laws_toTurnS.calls k _ _ l1 t1000 _ ?side1 ?side2 A15.out).mono ?_); (case side1 => exact nc_ (Kd.C_below HR1.out HB.out)); (case side2 => exact HC1.out); rintro e w36 ⟨v1001, rfl, ho0, hb⟩; refine ⟨_, rfl, ?_⟩; have HO1002 := Aside0.mk (Kd.R_lower ho0 (eZ12 (ne_ HB.out))); replace HO999 := kR_ HO999 hb; replace BK993 := kb_ BK993 hb; replace HB := kB_ HB hb; (try clear hb); (try clear hb2); (try clear hk); (try clear hi); (try clear ho0); obtain ⟨Ao37, co37, eo37⟩ := Kd.R_slice HO999.out; subst eo37; obtain ⟨Ao38, co38, eo38⟩ := Kd.R_slice HO1002.out; subst eo38) | ((with_reducible refine gate_callee (f := 32) rfl ?_); refine gl_ (some 31) Try.func32 #[.agg #[.int .i64 t996, .slice Ao37 t997.length co37], .slice Ao38 t1000.length co38, .int .i64 a2] ?_; (with_reducible refine (spec_TurnAll.calls k t996 _ _ t997 _ _ t1000 a2 t1003 _ ?side1 ?side2 ?side3 ?side4 A16.out).mono ?_); (case side1 => exact nc_ (rR12 HO999.out).2.2); (case side2 => exact (rR12 HO999.out).2.1); (case side3 => exact nc_ (rR12 HO1002.out).2.2); (case side4 => exact (rR12 HO1002.out).2.1); rintro e w39 ⟨v1004, rfl, ho0, hb⟩; refine ⟨_, rfl, ?_⟩; have HO1005 := Aside0.mk (Kd.R_lower ho0 (eZ12 (ne_ HB.out))); replace HO999 := kR_ HO999 hb; replace HO1002 := kR_ HO1002 hb; replace BK993 := kb_ BK993 hb; replace HB := kB_ HB hb; (try clear hb); (try clear hb2); (try clear hk); (try clear hi); (try clear ho0); obtain ⟨hcz40_0, hcz40_1, hfz40_0, hfz40_1⟩ := cz2_ BK993.out) | ((with_reducible refine gate_callee (f := 18) rfl ?_); refine gl_ (some 33) Try.func18 #[.agg #[.int .i64 a0_0, .slice A0_1 l0_1.length c0_1]] ?_; (with_reducible refine (laws_toNet.calls k a0_0 _ _ l0_1 t1006 t1007 _ ?side1 ?side2 A17.out).mono ?_); (case side1 => exact nc_ (Kd.C_below HR0_1.out HB.out)); (case side2 => exact HC0_1.out); rintro e w41 ⟨v1008, rfl, ho0, hb⟩; refine ⟨_, rfl, ?_⟩; have HO1009 := Aside0.mk (Kd.R_lower (Kd.R_new' ho0 (Kd.R_lt (nr_ HO999.out))) (eZ12 (ne_ HB.out))); replace HO999 := Aside0.mk (Kd.R_elder' (nr_ HO999.out) (Kd.R_base ho0) hb); replace HO1002 := kR_ HO1002 hb; replace HO1005 := kR_ HO1005 hb; replace BK993 := kb_ BK993 hb; replace HB := kB_ HB hb; (try clear hb); (try clear hb2); (try clear hk); (try clear hi); (try clear ho0)) | ((with_reducible refine gate_dst (N := 9) rfl ?_); refine bx_ 9 #[.int .i64 0, .slice none 0 0] 25 ?_; intro gb1010 hg w42 hbox hb; have BK1010 := Aside0.mk (hbox); have GW1010 := Aside0.mk (zs_ hg (ne_ HB.out)); have GE1010 := Aside0.mk (zs_ hg (ne_ HB.out)); have NB993_1010 := Aside0.mk (nl_ BK993.out hg); have NB1010_993 := Aside0.mk (nm_ BK993.out hg); replace HO999 := kR_ HO999 hb; replace HO1002 := kR_ HO1002 hb; replace HO1005 := kR_ HO1005 hb; replace HO1009 := kR_ HO1009 hb; replace BK993 := kb_ BK993 hb; replace HB := kB_ HB hb; clear hb hbox hg; have hnb43 := NB1010_993.out; have hnc43 := NB993_1010.out; obtain ⟨hcz44_0, hcz44_1, hfz44_0, hfz44_1⟩ := cz2_ BK1010.out; obtain ⟨Ao45, co45, eo45⟩ := Kd.R_slice HO1009.out; subst eo45) | ((with_reducible refine gate_callee (f := 19) rfl ?_); refine gl_ (some 35) Try.func19 #[.slice A1 l1.length c1] ?_; (with_reducible refine (laws_toTurnS.calls k _ _ l1 t1011 _ ?side1 ?side2 A18.out).mono ?_); (case side1 => exact Kd.C_below HR1.out (ne_ HB.out)); (case side2 => exact HC1.out); rintro e w46 ⟨v1012, rfl, ho0, hb⟩; refine ⟨_, rfl, ?_⟩; have HO1013 := Aside0.mk (Kd.R_lower (Kd.R_new' ho0 (Kd.R_lt (by (with_reducible repeat (first | apply rA12 | apply rN12 | apply rD12)); exact (Kd.R_mono (rf2_ (Kd.R_types HO1002.out BK1010.out (by decide))) (fun _ h_ => h_.1))))) (eZ12 (ne_ HB.out))); replace HO999 := Aside0.mk (Kd.R_below (by (with_reducible repeat (first | apply rA12 | apply rN12 | apply rD12)); exact (Kd.R_mono (rf2_ (Kd.R_types HO999.out BK1010.out (by decide))) (fun _ h_ => h_.1))) hb); replace HO1002 := Aside0.mk (Kd.R_elder' (by (with_reducible repeat (first | apply rA12 | apply rN12 | apply rD12)); exact (Kd.R_mono (rf2_ (Kd.R_types HO1002.out BK1010.out (by decide))) (fun _ h_ => h_.1))) (Kd.R_base ho0) hb); replace HO1005 := Aside0.mk (Kd.R_below (by (with_reducible repeat (first | apply rA12 | apply rN12 | apply rD12)); exact (Kd.R_mono (rf2_ (Kd.R_types HO1005.out BK1010.out (by decide))) (fun _ h_ => h_.1))) hb); replace HO1009 := Aside0.mk (Kd.R_below (by (with_reducible repeat (first | apply rA12 | apply rN12 | apply rD12)); exact (Kd.R_mono (rf2_ (Kd.R_types HO1009.out BK1010.out (by decide))) (fun _ h_ => h_.1))) hb); replace BK993 := kf_ BK993 hb; replace BK1010 := Aside0.mk (blk_below (g := gb1010) (o := .cells #[.int .i64 t1006, .slice Ao45 t1007.length co45] 25 (0, 0)) (np_ BK1010.out) hb); replace HB := kB_ HB hb; (try clear hb); (try clear hb2); (try clear hk); (try clear hi); (try clear ho0); obtain ⟨hcz47_0, hcz47_1, hfz47_0, hfz47_1⟩ := cz2_ BK1010.out; obtain ⟨Ao48, co48, eo48⟩ := Kd.R_slice HO1013.out; subst eo48) | ((with_reducible refine gate_callee (f := 30) rfl ?_); refine gl_ (some 39) Try.func30 #[.agg #[.int .i64 t1006, .slice Ao45 t1007.length co45], .slice Ao48 t1011.length co48, .int .i64 a2] ?_; (with_reducible refine (impl_TurnAll.calls k t1006 _ _ t1007 _ _ t1011 a2 t1014 _ ?side1 ?side2 ?side3 ?side4 A19.out).mono ?_); (case side1 => exact nc_ (rR12 HO1009.out).2.2); (case side2 => exact (rR12 HO1009.out).2.1); (case side3 => exact nc_ (rR12 HO1013.out).2.2); (case side4 => exact (rR12 HO1013.out).2.1); rintro e w49 ⟨v1015, rfl, ho0, hb⟩; refine ⟨_, rfl, ?_⟩; have HO1016 := Aside0.mk (Kd.R_lower (Kd.R_new' ho0 (Kd.R_lt (nr_ HO1005.out))) (eZ12 (ne_ HB.out))); replace HO999 := kR_ HO999 hb; replace HO1002 := kR_ HO1002 hb; replace HO1005 := Aside0.mk (Kd.R_elder' (nr_ HO1005.out) (Kd.R_base ho0) hb); replace HO1009 := kR_ HO1009 hb; replace HO1013 := kR_ HO1013 hb; replace BK993 := kb_ BK993 hb; replace BK1010 := kb_ BK1010 hb; replace HB := kB_ HB hb; (try clear hb); (try clear hb2); (try clear hk); (try clear hi); (try clear ho0); obtain ⟨Ao50, co50, eo50⟩ := Kd.R_slice HO1016.out; subst eo50; obtain ⟨Ao51, co51, eo51⟩ := Kd.R_slice HO1005.out; subst eo51) | ((with_reducible refine gate_callee (f := 28) rfl ?_); refine gl_ (some 42) Try.func28 #[.slice Ao50 t1014.length co50, .slice Ao51 t1003.length co51] ?_; (with_reducible refine (laws_eqIntS.calls k _ _ t1014 _ _ t1003 true _ ?side1 ?side2 ?side3 ?side4 A20.out).mono ?_); (case side1 => exact nc_ (rR12 HO1016.out).2.2); (case side2 => exact (rR12 HO1016.out).2.1); (case side3 => exact nc_ (rR12 HO1005.out).2.2); (case side4 => exact (rR12 HO1005.out).2.1); rintro e w' ⟨rfl, ⟨nd, rfl⟩⟩; refine ⟨_, rfl, ?_⟩))
  (first | (rw [drewN_self w49]; generalize hq_ : World.drewN w49 _ = w49; replace HO1002 : Aside0 (Kd.R k31 31 w49 w.heap.size (fun k_ => some k_ ≠ (.slice Ao48 t1011.length co48 : Value).ownBlock) (.slice Ao38 t1000.length co38) t1000) := ⟨by rw [← hq_]; exact (by (with_reducible repeat (first | apply rA12 | apply rN12 | apply rD12)); exact Kd.R_mono HO1002.out (fun _ hk => by first | exact hk.2 | trivial | simp_all))⟩; replace HO1005 : Aside0 (Kd.R (Kd.int .i64) 3 w49 w.heap.size (fun k_ => some k_ ≠ (.slice Ao50 t1014.length co50 : Value).ownBlock) (.slice Ao51 t1003.length co51) t1003) := ⟨by rw [← hq_]; exact (by (with_reducible repeat (first | apply rA12 | apply rN12 | apply rD12)); exact Kd.R_mono HO1005.out (fun _ hk => by first | exact hk.2 | trivial | simp_all))⟩; replace HO1009 : Aside0 (Kd.R k33 33 w49 w.heap.size (fun k_ => some k_ ≠ (.slice Ao37 t997.length co37 : Value).ownBlock) (.slice Ao45 t1007.length co45) t1007) := ⟨by rw [← hq_]; exact (by (with_reducible repeat (first | apply rA12 | apply rN12 | apply rD12)); exact Kd.R_mono HO1009.out (fun _ hk => by first | exact hk.2 | trivial | simp_all))⟩; replace HO1013 : Aside0 (Kd.R k31 31 w49 w.heap.size (fun k_ => some k_ ≠ (.slice Ao38 t1000.length co38 : Value).ownBlock) (.slice Ao48 t1011.length co48) t1011) := ⟨by rw [← hq_]; exact (by (with_reducible repeat (first | apply rA12 | apply rN12 | apply rD12)); exact Kd.R_mono HO1013.out (fun _ hk => by first | exact hk.2 | trivial | simp_all))⟩; replace HO1016 : Aside0 (Kd.R (Kd.int .i64) 3 w49 w.heap.size (fun k_ => some k_ ≠ (.slice Ao51 t1003.length co51 : Value).ownBlock) (.slice Ao50 t1014.length co50) t1014) := ⟨by rw [← hq_]; exact (by (with_reducible repeat (first | apply rA12 | apply rN12 | apply rD12)); exact Kd.R_mono HO1016.out (fun _ hk => by first | exact hk.2 | trivial | simp_all))⟩; replace HO999 : Aside0 (Kd.R k33 33 w49 w.heap.size (fun k_ => some k_ ≠ (.slice Ao45 t1007.length co45 : Value).ownBlock) (.slice Ao37 t997.length co37) t997) := ⟨by rw [← hq_]; exact (by (with_reducible repeat (first | apply rA12 | apply rN12 | apply rD12)); exact Kd.R_mono HO999.out (fun _ hk => by first | exact hk.2 | trivial | simp_all))⟩; replace BK1010 : Aside0 (w49.heap[gb1010]? = some (.cells #[.int .i64 t1006, .slice Ao45 t1007.length co45] 25 (0, 0))) := ⟨by rw [← hq_]; exact (nb_ BK1010.out)⟩; replace BK993 : Aside0 (w49.heap[gb993]? = some (.cells #[.int .i64 a0_0, .slice A0_1 l0_1.length c0_1] 37 (0, 0))) := ⟨by rw [← hq_]; exact (nb_ BK993.out)⟩; replace HB : Aside0 (Below w.heap.size w w49) := ⟨by rw [← hq_]; exact (ne_ HB.out)⟩; clear hq_) | (have n0_ : Aside0 (Kd.R k31 31 w49 w.heap.size (fun k_ => some k_ ≠ (.slice Ao48 t1011.length co48 : Value).ownBlock) (.slice Ao38 t1000.length co38) t1000) := ⟨(by (with_reducible repeat (first | apply rA12 | apply rN12 | apply rD12)); exact Kd.R_mono HO1002.out (fun _ hk => by first | exact hk.2 | trivial | simp_all))⟩; have n1_ : Aside0 (Kd.R (Kd.int .i64) 3 w49 w.heap.size (fun k_ => some k_ ≠ (.slice Ao50 t1014.length co50 : Value).ownBlock) (.slice Ao51 t1003.length co51) t1003) := ⟨(by (with_reducible repeat (first | apply rA12 | apply rN12 | apply rD12)); exact Kd.R_mono HO1005.out (fun _ hk => by first | exact hk.2 | trivial | simp_all))⟩; have n2_ : Aside0 (Kd.R k33 33 w49 w.heap.size (fun k_ => some k_ ≠ (.slice Ao37 t997.length co37 : Value).ownBlock) (.slice Ao45 t1007.length co45) t1007) := ⟨(by (with_reducible repeat (first | apply rA12 | apply rN12 | apply rD12)); exact Kd.R_mono HO1009.out (fun _ hk => by first | exact hk.2 | trivial | simp_all))⟩; have n3_ : Aside0 (Kd.R k31 31 w49 w.heap.size (fun k_ => some k_ ≠ (.slice Ao38 t1000.length co38 : Value).ownBlock) (.slice Ao48 t1011.length co48) t1011) := ⟨(by (with_reducible repeat (first | apply rA12 | apply rN12 | apply rD12)); exact Kd.R_mono HO1013.out (fun _ hk => by first | exact hk.2 | trivial | simp_all))⟩; have n4_ : Aside0 (Kd.R (Kd.int .i64) 3 w49 w.heap.size (fun k_ => some k_ ≠ (.slice Ao51 t1003.length co51 : Value).ownBlock) (.slice Ao50 t1014.length co50) t1014) := ⟨(by (with_reducible repeat (first | apply rA12 | apply rN12 | apply rD12)); exact Kd.R_mono HO1016.out (fun _ hk => by first | exact hk.2 | trivial | simp_all))⟩; have n5_ : Aside0 (Kd.R k33 33 w49 w.heap.size (fun k_ => some k_ ≠ (.slice Ao45 t1007.length co45 : Value).ownBlock) (.slice Ao37 t997.length co37) t997) := ⟨(by (with_reducible repeat (first | apply rA12 | apply rN12 | apply rD12)); exact Kd.R_mono HO999.out (fun _ hk => by first | exact hk.2 | trivial | simp_all))⟩; have n6_ : Aside0 (w49.heap[gb1010]? = some (.cells #[.int .i64 t1006, .slice Ao45 t1007.length co45] 25 (0, 0))) := ⟨(nb_ BK1010.out)⟩; have n7_ : Aside0 (w49.heap[gb993]? = some (.cells #[.int .i64 a0_0, .slice A0_1 l0_1.length c0_1] 37 (0, 0))) := ⟨(nb_ BK993.out)⟩; have n8_ : Aside0 (Below w.heap.size w w49) := ⟨(ne_ HB.out)⟩; clear HO1002 HO1005 HO1009 HO1013 HO1016 HO999 BK1010 BK993 HB; have HO1002 := n0_; have HO1005 := n1_; have HO1009 := n2_; have HO1013 := n3_; have HO1016 := n4_; have HO999 := n5_; have BK1010 := n6_; have BK993 := n7_; have HB := n8_; clear n0_ n1_ n2_ n3_ n4_ n5_ n6_ n7_ n8_))
  replace HO999 := Aside0.mk (rD12 HO999.out)
  replace HO1002 := Aside0.mk (rD12 HO1002.out)
  replace HO1005 := Aside0.mk (rD12 HO1005.out)
  replace HO1009 := Aside0.mk (rD12 HO1009.out)
  replace HO1013 := Aside0.mk (rD12 HO1013.out)
  replace HO1016 := Aside0.mk (rD12 HO1016.out)
  replace BK993 := Aside0.mk (blk_drew BK993.out)
  replace BK1010 := Aside0.mk (blk_drew BK1010.out)
  replace HB := Aside0.mk (below_drew1 HB.out)
  refine start_ (n := 5) (S := fun w' => w'.cell? ⟨gb1010, 0, none⟩ = some (.int .i64 t1006) ∧ w'.cell? ⟨gb1010, 1, none⟩ = some (.slice Ao45 t1007.length co45) ∧ w'.cell? ⟨gb993, 0, none⟩ = some (.int .i64 a0_0) ∧ w'.cell? ⟨gb993, 1, none⟩ = some (.slice A0_1 l0_1.length c0_1)) (ds := []) #[false, false, false, false, false] (by kernel_rfl) rfl rfl ⟨ct_ BK1010.out 0, ct_ BK1010.out 1, ct_ BK993.out 0, ct_ BK993.out 1⟩ (fun hHeld => ?_)
  generalize w49.drew = w52 at HO999 HO1002 HO1005 HO1009 HO1013 HO1016 BK993 BK1010 HB hHeld ⊢
  refine take_ (i := 0) (N := some 44) (v := ?_) (a' := ?_) #[true, false, false, false, false] rfl rfl (by kernel_rfl) (fun _ _ _ h => h) (Or.inl ⟨by rfl, ?_⟩) hHeld ?_ ?_
  rotate_left
  ·rintro w' ⟨s0, s1, s2, s3⟩
   go_simp
   with_reducible rfl
  rotate_left
  ·simp only [Act.put, List.setIfInBounds_toArray, List.set_cons_zero, List.set_cons_succ, i64_w, i32_w]
   rfl
  refine take_ (i := 1) (N := some 45) (v := ?_) (a' := ?_) #[true, true, false, false, false] rfl rfl (by kernel_rfl) (fun _ _ _ h => h) (Or.inl ⟨by rfl, ?_⟩) hHeld ?_ ?_
  rotate_left
  ·rintro w' ⟨s0, s1, s2, s3⟩
   go_simp
   with_reducible rfl
  rotate_left
  ·simp only [Act.put, List.setIfInBounds_toArray, List.set_cons_zero, List.set_cons_succ, i64_w, i32_w]
   rfl
  refine one_ (i := 2) (N := some 46) #[true, true, true, false, false] rfl rfl (by kernel_rfl) (by decide) (fun K hK => ?_)
  refine go_ Try.func18 #[.agg #[.int .i64 a0_0, .slice A0_1 l0_1.length c0_1]] ?_
  with_reducible refine (laws_toNet.calls k a0_0 _ _ l0_1 t1018 t1019 _ ?side1 ?side2 A22.out).mono ?_
  (case side1 => exact nc_ (Kd.C_below HR0_1.out HB.out))
  (case side2 => exact HC0_1.out)
  rintro e w53 ⟨v1020, rfl, ho0, hb⟩
  refine ⟨_, rfl, ?_⟩
  replace HO1002 := kR_ HO1002 hb
  replace HO1005 := kR_ HO1005 hb
  replace HO1013 := kR_ HO1013 hb
  replace HO1016 := kR_ HO1016 hb
  have HO1021 := Aside0.mk (Kd.R_lower (Kd.R_new' (Kd.R_new' ho0 (Kd.R_lt (nr_ HO999.out))) (Kd.R_lt (nr_ HO1009.out))) (eZ12 (ne_ HB.out)))
  replace HO999 := Aside0.mk (Kd.R_elder' (nr_ HO999.out) (Kd.R_base ho0) hb)
  replace HO1009 := Aside0.mk (Kd.R_elder' (nr_ HO1009.out) (Kd.R_base ho0) hb)
  replace BK993 := kb_ BK993 hb
  replace BK1010 := kb_ BK1010 hb
  replace HB := kB_ HB hb
  (try clear hb)
  (try clear hb2)
  (try clear hk)
  (try clear hi)
  (try clear ho0)
  obtain ⟨Ao54, co54, eo54⟩ := Kd.R_slice HO1021.out
  (first | subst eo54 | (injection eo54 with f1_ f2_ f3_; have f4_ := f1_.symm; have f5_ := f3_.symm; clear f1_ f2_ f3_; subst f4_; subst f5_))
  refine hK.out _ _ ⟨ct_ BK1010.out 0, ct_ BK1010.out 1, ct_ BK993.out 0, ct_ BK993.out 1⟩ (fun hHeld => ?_)
  clear hK K
  refine nm1_ (some 46) ?_
  refine one_ (i := 3) (N := some 47) #[true, true, true, true, false] rfl rfl (by kernel_rfl) (by decide) (fun K hK => ?_)
  refine go_ Try.func20 #[.agg #[.int .i64 t1006, .slice Ao45 t1007.length co45], .agg #[.int .i64 t1018, .slice Ao54 t1019.length co54]] ?_
  with_reducible refine (laws_eqNet.calls k t1006 _ _ t1007 t1018 _ _ t1019 true _ ?side1 ?side2 ?side3 ?side4 A23.out).mono ?_
  (case side1 => exact nc_ (rR12 HO1009.out).2.2)
  (case side2 => exact (rR12 HO1009.out).2.1)
  (case side3 => exact nc_ (rR12 HO1021.out).2.2)
  (case side4 => exact (rR12 HO1021.out).2.1)
  rintro e w55 ⟨rfl, hb⟩
  refine ⟨_, rfl, ?_⟩
  replace HO999 := kR_ HO999 hb
  replace HO1002 := kR_ HO1002 hb
  replace HO1005 := kR_ HO1005 hb
  replace HO1009 := kR_ HO1009 hb
  replace HO1013 := kR_ HO1013 hb
  replace HO1016 := kR_ HO1016 hb
  replace HO1021 := kR_ HO1021 hb
  replace BK993 := kb_ BK993 hb
  replace BK1010 := kb_ BK1010 hb
  replace HB := kB_ HB hb
  (try clear hb)
  (try clear hb2)
  (try clear hk)
  (try clear hi)
  refine hK.out _ _ ⟨ct_ BK1010.out 0, ct_ BK1010.out 1, ct_ BK993.out 0, ct_ BK993.out 1⟩ (fun hHeld => ?_)
  clear hK K
  refine nm1_ (some 47) ?_
  refine pure_ (i := 4) (N := some 48) (v := ?_) (a' := ?_) #[true, true, true, true, true] rfl rfl (by kernel_rfl) (fun _ _ _ h => h) (Or.inl ⟨by rfl, ?_⟩) ?_ ?_
  rotate_left
  ·intro w'
   go_simp
   with_reducible rfl
  rotate_left
  ·simp only [Act.put, List.setIfInBounds_toArray, List.set_cons_zero, List.set_cons_succ, i64_w, i32_w]
   rfl
  refine done_ (by kernel_rfl) ?_
  go_upto_region 21 with (first | ((with_reducible refine gate_callee (f := 19) rfl ?_); refine gl_ (some 51) Try.func19 #[.slice A1 l1.length c1] ?_; (with_reducible refine (laws_toTurnS.calls k _ _ l1 t1023 _ ?side1 ?side2 A25.out).mono ?_); (case side1 => exact nc_ (Kd.C_below HR1.out HB.out)); (case side2 => exact HC1.out); rintro e w56 ⟨v1024, rfl, ho0, hb⟩; refine ⟨_, rfl, ?_⟩; have HO1025 := Aside0.mk (Kd.R_lower (Kd.R_new' (Kd.R_new' ho0 (Kd.R_lt (nr_ HO1002.out))) (Kd.R_lt (nr_ HO1013.out))) (eZ12 (ne_ HB.out))); replace HO999 := kR_ HO999 hb; replace HO1002 := Aside0.mk (Kd.R_elder' (nr_ HO1002.out) (Kd.R_base ho0) hb); replace HO1005 := kR_ HO1005 hb; replace HO1009 := kR_ HO1009 hb; replace HO1013 := Aside0.mk (Kd.R_elder' (nr_ HO1013.out) (Kd.R_base ho0) hb); replace HO1016 := kR_ HO1016 hb; replace HO1021 := kR_ HO1021 hb; replace BK993 := kb_ BK993 hb; replace BK1010 := kb_ BK1010 hb; replace HB := kB_ HB hb; (try clear hb); (try clear hb2); (try clear hk); (try clear hi); (try clear ho0); obtain ⟨Ao57, co57, eo57⟩ := Kd.R_slice HO1025.out; subst eo57) | ((with_reducible refine gate_callee (f := 21) rfl ?_); refine gl_ (some 52) Try.func21 #[.slice Ao48 t1011.length co48, .slice Ao57 t1023.length co57] ?_; (with_reducible refine (laws_eqTurnS.calls k _ _ t1011 _ _ t1023 true _ ?side1 ?side2 ?side3 ?side4 A26.out).mono ?_); (case side1 => exact nc_ (rR12 HO1013.out).2.2); (case side2 => exact (rR12 HO1013.out).2.1); (case side3 => exact nc_ (rR12 HO1025.out).2.2); (case side4 => exact (rR12 HO1025.out).2.1); rintro e w58 ⟨rfl, hb⟩; refine ⟨_, rfl, ?_⟩; replace HO999 := kR_ HO999 hb; replace HO1002 := kR_ HO1002 hb; replace HO1005 := kR_ HO1005 hb; replace HO1009 := kR_ HO1009 hb; replace HO1013 := kR_ HO1013 hb; replace HO1016 := kR_ HO1016 hb; replace HO1021 := kR_ HO1021 hb; replace HO1025 := kR_ HO1025 hb; replace BK993 := kb_ BK993 hb; replace BK1010 := kb_ BK1010 hb; replace HB := kB_ HB hb; (try clear hb); (try clear hb2); (try clear hk); (try clear hi); obtain ⟨hcz59_0, hcz59_1, hfz59_0, hfz59_1⟩ := cz2_ BK1010.out) | ((with_reducible refine gate_callee (f := 35) rfl ?_); refine gl_ (some 56) Try.func35 #[.agg #[.int .i64 t1006, .slice Ao45 t1007.length co45], .int .i64 1] ?_; (with_reducible refine (laws_markNet.calls k t1006 (fun k_ => some k_ = (.slice Ao45 t1007.length co45 : Value).ownBlock) (.slice Ao45 t1007.length co45) t1007 1 t1027 t1028 w _ ?side1 ?side2 A28.out).mono ?_); (case side1 => exact (ne_ HB.out)); (case side2 => exact Kd.R_tight rfl HO1009.out); rintro e w60 ⟨rfl, hy0, hb, hkp⟩; refine ⟨_, rfl, ?_⟩; replace BK993 := Aside0.mk (blk_kept (g := gb993) (o := .cells #[.int .i64 a0_0, .slice A0_1 l0_1.length c0_1] 37 (0, 0)) (nb_ BK993.out) hkp (fun hs_ => (fun e_ => (Kd.R_ne HO1009.out BK993.out (by decide)) e_) hs_)); replace HO999 := Aside0.mk (Kd.R_mono (ok' := fun k_ => some k_ ≠ (.slice Ao45 t1007.length co45 : Value).ownBlock ∧ some k_ ≠ (.slice Ao54 t1019.length co54 : Value).ownBlock) (Kd.R_keptB (HO999.out) hkp (fun k_ hk_ hs_ => (hk_.1) hs_)) (fun k_ hk_ => ⟨hk_.1.1, hk_.1.2⟩)); replace HO1002 := Aside0.mk (Kd.R_mono (ok' := fun k_ => some k_ ≠ (.slice Ao48 t1011.length co48 : Value).ownBlock ∧ some k_ ≠ (.slice Ao57 t1023.length co57 : Value).ownBlock) (Kd.R_keptB ((Kd.R_apart' HO1002.out (Kd.R_typed HO1009.out) (by decide))) hkp (fun k_ hk_ hs_ => (hk_.2) hs_)) (fun k_ hk_ => ⟨hk_.1.1.1, hk_.1.1.2⟩)); replace HO1005 := Aside0.mk (Kd.R_mono (ok' := fun k_ => some k_ ≠ (.slice Ao50 t1014.length co50 : Value).ownBlock) (Kd.R_keptB ((Kd.R_apart' HO1005.out (Kd.R_typed HO1009.out) (by decide))) hkp (fun k_ hk_ hs_ => (hk_.2) hs_)) (fun k_ hk_ => hk_.1.1)); replace BK1010 := Aside0.mk (blk_kept (g := gb1010) (o := .cells #[.int .i64 t1006, .slice Ao45 t1007.length co45] 25 (0, 0)) (nb_ BK1010.out) hkp (fun hs_ => (fun e_ => (Kd.R_ne HO1009.out BK1010.out (by decide)) e_) hs_)); replace HO1013 := Aside0.mk (Kd.R_mono (ok' := fun k_ => some k_ ≠ (.slice Ao38 t1000.length co38 : Value).ownBlock ∧ some k_ ≠ (.slice Ao57 t1023.length co57 : Value).ownBlock) (Kd.R_keptB ((Kd.R_apart' HO1013.out (Kd.R_typed HO1009.out) (by decide))) hkp (fun k_ hk_ hs_ => (hk_.2) hs_)) (fun k_ hk_ => ⟨hk_.1.1.1, hk_.1.1.2⟩)); replace HO1016 := Aside0.mk (Kd.R_mono (ok' := fun k_ => some k_ ≠ (.slice Ao51 t1003.length co51 : Value).ownBlock) (Kd.R_keptB ((Kd.R_apart' HO1016.out (Kd.R_typed HO1009.out) (by decide))) hkp (fun k_ hk_ hs_ => (hk_.2) hs_)) (fun k_ hk_ => hk_.1.1)); replace HO1021 := Aside0.mk (Kd.R_mono (ok' := fun k_ => some k_ ≠ (.slice Ao37 t997.length co37 : Value).ownBlock ∧ some k_ ≠ (.slice Ao45 t1007.length co45 : Value).ownBlock) (Kd.R_keptB (HO1021.out) hkp (fun k_ hk_ hs_ => (hk_.2) hs_)) (fun k_ hk_ => ⟨hk_.1.1.2, hk_.1.2⟩)); replace HO1025 := Aside0.mk (Kd.R_mono (ok' := fun k_ => some k_ ≠ (.slice Ao38 t1000.length co38 : Value).ownBlock ∧ some k_ ≠ (.slice Ao48 t1011.length co48 : Value).ownBlock) (Kd.R_keptB ((Kd.R_apart' HO1025.out (Kd.R_typed HO1009.out) (by decide))) hkp (fun k_ hk_ hs_ => (hk_.2) hs_)) (fun k_ hk_ => ⟨hk_.1.1.1.2, hk_.1.1.2⟩)); replace HO1009 := Aside0.mk (Kd.R_reok rfl hy0 (fun k_ e_ => HO1009.out.1 k_ e_)); replace HB := Aside0.mk (hb); (try clear hb); (try clear hkp); (try clear hy0)) | ((with_reducible refine gate_callee (f := 36) rfl ?_); refine gl_ (some 59) Try.func36 #[.slice Ao48 t1011.length co48, .int .i64 t1027] ?_; (with_reducible refine (laws_markTurnS.calls k (fun k_ => some k_ = (.slice Ao48 t1011.length co48 : Value).ownBlock) (.slice Ao48 t1011.length co48) t1011 t1027 t1029 t1030 w _ ?side1 ?side2 A29.out).mono ?_); (case side1 => exact (ne_ HB.out)); (case side2 => exact Kd.R_tight rfl HO1013.out); rintro e w61 ⟨rfl, hy0, hb, hkp⟩; refine ⟨_, rfl, ?_⟩; replace BK993 := Aside0.mk (blk_kept (g := gb993) (o := .cells #[.int .i64 a0_0, .slice A0_1 l0_1.length c0_1] 37 (0, 0)) (nb_ BK993.out) hkp (fun hs_ => (fun e_ => (Kd.R_ne HO1013.out BK993.out (by decide)) e_) hs_)); replace HO999 := Aside0.mk (Kd.R_mono (ok' := fun k_ => some k_ ≠ (.slice Ao45 t1007.length co45 : Value).ownBlock ∧ some k_ ≠ (.slice Ao54 t1019.length co54 : Value).ownBlock) (Kd.R_keptB ((Kd.R_apart' HO999.out (Kd.R_typed HO1013.out) (by decide))) hkp (fun k_ hk_ hs_ => (hk_.2) hs_)) (fun k_ hk_ => ⟨hk_.1.1.1, hk_.1.1.2⟩)); replace HO1002 := Aside0.mk (Kd.R_mono (ok' := fun k_ => some k_ ≠ (.slice Ao48 t1011.length co48 : Value).ownBlock ∧ some k_ ≠ (.slice Ao57 t1023.length co57 : Value).ownBlock) (Kd.R_keptB (HO1002.out) hkp (fun k_ hk_ hs_ => (hk_.1) hs_)) (fun k_ hk_ => ⟨hk_.1.1, hk_.1.2⟩)); replace HO1005 := Aside0.mk (Kd.R_mono (ok' := fun k_ => some k_ ≠ (.slice Ao50 t1014.length co50 : Value).ownBlock) (Kd.R_keptB ((Kd.R_apart' HO1005.out (Kd.R_typed HO1013.out) (by decide))) hkp (fun k_ hk_ hs_ => (hk_.2) hs_)) (fun k_ hk_ => hk_.1.1)); replace HO1009 := Aside0.mk (Kd.R_mono (ok' := fun k_ => some k_ ≠ (.slice Ao37 t997.length co37 : Value).ownBlock ∧ some k_ ≠ (.slice Ao54 t1019.length co54 : Value).ownBlock) (Kd.R_keptB ((Kd.R_apart' HO1009.out (Kd.R_typed HO1013.out) (by decide))) hkp (fun k_ hk_ hs_ => (hk_.2) hs_)) (fun k_ hk_ => ⟨hk_.1.1.1, hk_.1.1.2⟩)); replace BK1010 := Aside0.mk (blk_kept (g := gb1010) (o := .cells #[.int .i64 t1006, .slice Ao45 t1007.length co45] 25 (0, 0)) (nb_ BK1010.out) hkp (fun hs_ => (fun e_ => (Kd.R_ne HO1013.out BK1010.out (by decide)) e_) hs_)); replace HO1016 := Aside0.mk (Kd.R_mono (ok' := fun k_ => some k_ ≠ (.slice Ao51 t1003.length co51 : Value).ownBlock) (Kd.R_keptB ((Kd.R_apart' HO1016.out (Kd.R_typed HO1013.out) (by decide))) hkp (fun k_ hk_ hs_ => (hk_.2) hs_)) (fun k_ hk_ => hk_.1.1)); replace HO1021 := Aside0.mk (Kd.R_mono (ok' := fun k_ => some k_ ≠ (.slice Ao37 t997.length co37 : Value).ownBlock ∧ some k_ ≠ (.slice Ao45 t1007.length co45 : Value).ownBlock) (Kd.R_keptB ((Kd.R_apart' HO1021.out (Kd.R_typed HO1013.out) (by decide))) hkp (fun k_ hk_ hs_ => (hk_.2) hs_)) (fun k_ hk_ => ⟨hk_.1.1.1, hk_.1.1.2⟩)); replace HO1013 := Aside0.mk (Kd.R_reok rfl hy0 (fun k_ e_ => HO1013.out.1 k_ e_)); replace HO1025 := Aside0.mk (Kd.R_mono (ok' := fun k_ => some k_ ≠ (.slice Ao38 t1000.length co38 : Value).ownBlock ∧ some k_ ≠ (.slice Ao48 t1011.length co48 : Value).ownBlock) (Kd.R_keptB (HO1025.out) hkp (fun k_ hk_ hs_ => (hk_.2) hs_)) (fun k_ hk_ => ⟨hk_.1.1, hk_.1.2⟩)); replace HB := Aside0.mk (hb); (try clear hb); (try clear hkp); (try clear hy0)))
  (try simp only [Act.put, List.setIfInBounds_toArray, List.set_cons_zero, List.set_cons_succ])
  go_cut [67] (fun v67 wc => ∃ (kq : Nat) (x67_29 : Bool), v67 = .bool x67_29 ∧ Aside0 (laws_FnExactTurnAll.j0 kq l1 a2 t1003 t1014 x67_29 a0_0 l0_1 = some r) ∧ Aside0 (kq ≤ k) ∧ Aside0 (Kd.R (Kd.int .i64) 3 wc w.heap.size (fun k_ => some k_ ≠ ((.slice Ao50 t1014.length co50) : Value).ownBlock) (.slice Ao51 t1003.length co51) t1003) ∧ Aside0 (Kd.R (Kd.int .i64) 3 wc w.heap.size (fun k_ => some k_ ≠ ((.slice Ao51 t1003.length co51) : Value).ownBlock) (.slice Ao50 t1014.length co50) t1014) ∧ Aside0 (Kd.R k33 33 wc w.heap.size (fun _ => True) (.slice Ao45 t1007.length co45) t1028) ∧ Aside0 (wc.heap[gb993]? = some (.cells #[.int .i64 a0_0, (.slice A0_1 l0_1.length c0_1)] 37 (0, 0))) ∧ Aside0 (wc.heap[gb1010]? = some (.cells #[.int .i64 t1006, (.slice Ao45 t1007.length co45)] 25 (0, 0))) ∧ Aside0 (Below w.heap.size w wc))
  case first =>
   have H := HC30.out
   clear HC30
   by_cases c62 : t1029 < 0
   ·rw [if_pos c62] at H
    have c62b0 : decide (t1029 < 0) = true := decide_eq_true c62
    clear c62
    (first | rw [c62b0] | (simp only [i64_w, i32_w]; rw [c62b0]) | skip)
    have H' := Aside0.mk H
    clear H
    go_wp2
    go_meet
    case rel => exact ⟨_, (true), ns_, H', ⟨by first | omega | exact Nat.le_refl _⟩, ⟨nr_ HO1005.out⟩, ⟨nr_ HO1016.out⟩, ⟨by (with_reducible repeat (first | apply rA12 | apply rN12 | apply rD12)); exact Kd.R_mono HO1009.out (fun _ hk => trivial)⟩, ⟨nb_ BK993.out⟩, ⟨nb_ BK1010.out⟩, ⟨ne_ HB.out⟩⟩
   rw [if_neg c62] at H
   have c62b0 : decide (t1029 < 0) = false := decide_eq_false c62
   clear c62
   (first | rw [c62b0] | (simp only [i64_w, i32_w]; rw [c62b0]) | skip)
   replace H := Option.bind_eq_some_iff.mp H
   obtain ⟨t1031, A630, H⟩ := H
   replace H : (laws_FnExactTurnAll.j0 k l1 a2 t1003 t1014 (!t1031) a0_0 l0_1) = some r := H
   have A63 := Aside0.mk A630
   clear A630
   have H' := Aside0.mk H
   clear H
   go_wp2_with (first | (go_at_call 28; (with_reducible refine (laws_eqIntS.calls k _ _ t1014 _ _ t1003 t1031 _ ?side1 ?side2 ?side3 ?side4 A63.out).mono ?_); (case side1 => exact nc_ (rR12 HO1016.out).2.2); (case side2 => exact (rR12 HO1016.out).2.1); (case side3 => exact nc_ (rR12 HO1005.out).2.2); (case side4 => exact (rR12 HO1005.out).2.1); rintro e w' ⟨rfl, ⟨nd, rfl⟩⟩))
   go_meet
   case rel => exact ⟨_, (!t1031), ns_, H', ⟨by first | omega | exact Nat.le_refl _⟩, ⟨nr_ HO1005.out⟩, ⟨nr_ HO1016.out⟩, ⟨by (with_reducible repeat (first | apply rA12 | apply rN12 | apply rD12)); exact Kd.R_mono HO1009.out (fun _ hk => trivial)⟩, ⟨nb_ BK993.out⟩, ⟨nb_ BK1010.out⟩, ⟨ne_ HB.out⟩⟩
  case rest =>
   clear HC30
   try clear c1
   try clear c5
   try clear c5b0
   try clear c10
   try clear c10b0
   try clear c21
   try clear c24
   try clear c27
   try clear hcz32_0
   try clear hcz32_1
   try clear hcz34_0
   try clear hcz34_1
   try clear hcz40_0
   try clear hcz40_1
   try clear hcz44_0
   try clear hcz44_1
   try clear hcz47_0
   try clear hcz47_1
   try clear hcz59_0
   try clear hcz59_1
   try clear hfz32_0
   try clear hfz32_1
   try clear hfz34_0
   try clear hfz34_1
   try clear hfz40_0
   try clear hfz40_1
   try clear hfz44_0
   try clear hfz44_1
   try clear hfz47_0
   try clear hfz47_1
   try clear hfz59_0
   try clear hfz59_1
   obtain ⟨kq, x67_29, rfl, HA, HJ29, HO_8, HO_11, HO_1011001, BK993, BK1010, HB⟩ := hcut
   have hl1011001_29 := (rR12 HO_1011001.out).1
   rw [hl1011001_29] at HO_1011001
   (try simp only [hl1011001_29])
   (try simp only [hl1011001_29] at BK993)
   (try simp only [hl1011001_29] at BK1010)
   (try simp only [hl1011001_29] at HO_8)
   (try simp only [hl1011001_29] at HO_11)
   cases kq with
   | zero => exact absurd HA.out (by simp [laws_FnExactTurnAll.j0])
   | succ kj29 =>
    have H := HA.out
    clear HA
    simp only [laws_FnExactTurnAll.j0] at H
    by_cases c64 : x67_29 = true
    ·subst c64
     have H1 : (some false) = some r := by rw [if_pos rfl] at H; exact H
     clear H
     have H := H1
     clear H1
     obtain rfl := Option.some.inj H
     go_wp2
     go_ret
     exact ⟨nw_, ne_ HB.out⟩
    replace c64 := Bool.eq_false_iff.mpr c64
    subst c64
    have H1 : ((laws_markIntS.f kj29 t1014 1).bind fun bt1032 => ((laws_heldIntS.f kj29 bt1032.2 1).bind fun t1034 => (if t1034 < 0 then (some false) else (if t1034 = bt1032.1 then ((laws_toNet.f kj29 a0_0 l0_1).bind fun bt1035 => ((laws_toTurnS.f kj29 l1).bind fun t1039 => ((impl_TurnAll.f kj29 bt1035.1 bt1035.2 t1039 a2).bind fun t1042 => ((laws_eqIntS.f kj29 t1042 t1003).bind fun t1045 => (if t1045 = true then ((laws_heldIntS.f kj29 bt1032.2 1).bind fun t1046 => (if t1046 < 0 then (some false) else (if t1046 = bt1032.1 then (some true) else (some false)))) else (some false)))))) else (some false))))) = some r := by rw [if_neg (show ¬ (false = true) by decide)] at H; exact H
    clear H
    have H := H1
    clear H1
    replace H := Option.bind_eq_some_iff.mp H
    obtain ⟨⟨t1032, t1033⟩, A650, H⟩ := H
    try dsimp only at H
    have A65 := Aside0.mk A650
    clear A650
    replace H := Option.bind_eq_some_iff.mp H
    obtain ⟨t1034, A660, H⟩ := H
    try dsimp only at H
    have A66 := Aside0.mk A660
    clear A660
    by_cases c67 : t1034 < 0
    ·rw [if_pos c67] at H
     have c67b0 : decide (t1034 < 0) = true := decide_eq_true c67
     clear c67
     obtain rfl := Option.some.inj H
     go_wp2_with (first | ((with_reducible refine gate_callee (f := 42) rfl ?_); refine gl_ (some 70) Try.func42 #[.slice Ao50 t1014.length co50, .int .i64 1] ?_; (with_reducible refine (laws_markIntS.calls kj29 (fun k_ => some k_ = (.slice Ao50 t1014.length co50 : Value).ownBlock) (.slice Ao50 t1014.length co50) t1014 1 t1032 t1033 w _ ?side1 ?side2 A65.out).mono ?_); (case side1 => exact (ne_ HB.out)); (case side2 => exact Kd.R_tight rfl HO_11.out); rintro e w68 ⟨rfl, hy0, hb, hkp⟩; refine ⟨_, rfl, ?_⟩; replace HO_8 := Aside0.mk (Kd.R_mono (ok' := fun k_ => some k_ ≠ (.slice Ao50 t1014.length co50 : Value).ownBlock) (Kd.R_keptB (HO_8.out) hkp (fun k_ hk_ hs_ => (hk_) hs_)) (fun k_ hk_ => hk_.1)); replace HO_1011001 := Aside0.mk (Kd.R_mono (ok' := fun k_ => True) (Kd.R_keptB ((Kd.R_apart' HO_1011001.out (Kd.R_typed HO_11.out) (by decide))) hkp (fun k_ hk_ hs_ => (hk_.2) hs_)) (fun k_ hk_ => trivial)); replace BK993 := Aside0.mk (blk_kept (g := gb993) (o := .cells #[.int .i64 a0_0, .slice A0_1 l0_1.length c0_1] 37 (0, 0)) (nb_ BK993.out) hkp (fun hs_ => (fun e_ => (Kd.R_ne HO_11.out BK993.out (by decide)) e_) hs_)); replace BK1010 := Aside0.mk (blk_kept (g := gb1010) (o := .cells #[.int .i64 t1006, .slice Ao45 t1028.length co45] 25 (0, 0)) (nb_ BK1010.out) hkp (fun hs_ => (fun e_ => (Kd.R_ne HO_11.out BK1010.out (by decide)) e_) hs_)); replace HO_11 := Aside0.mk (Kd.R_reok rfl hy0 (fun k_ e_ => HO_11.out.1 k_ e_)); replace HB := Aside0.mk (hb); (try clear hb); (try clear hkp); (try clear hy0)) | ((with_reducible refine gate_callee (f := 43) rfl ?_); refine goesL_ (some 73) rfl rfl Try.func43 (by kernel_rfl) rfl #[.slice Ao50 t1033.length co50, .int .i64 1] rfl (by (try simp only [List.map_toArray, List.map_cons, List.map_nil]); first | done | (rw [show t1033.length = t1014.length from (rR12 HO_11.out).1.symm] <;> rfl) | rfl | (simp only [List.length_drop, List.length_take]; rfl)) ?_; (with_reducible refine (laws_heldIntS.calls kj29 _ _ t1033 1 t1034 _ ?side1 ?side2 A66.out).mono ?_); (case side1 => exact nc_ (rR12 HO_11.out).2.2); (case side2 => rw [show t1033.length = t1014.length from (rR12 HO_11.out).1.symm]; exact (rR12 HO_11.out).2.1); rintro e w' ⟨rfl, ⟨nd, rfl⟩⟩; refine ⟨_, rfl, ?_⟩))
     go_ret
     exact ⟨nw_, ne_ HB.out⟩
    rw [if_neg c67] at H
    have c67b0 : decide (t1034 < 0) = false := decide_eq_false c67
    clear c67
    by_cases c69 : t1034 = t1032
    rotate_left
    ·rw [if_neg c69] at H
     have c69b0 : (t1034 == t1032) = false := beq_eq_false_iff_ne.mpr c69
     have c69b1 : (t1034 != t1032) = true := bne_iff_ne.mpr c69
     obtain rfl := Option.some.inj H
     go_wp2_with (first | ((with_reducible refine gate_callee (f := 42) rfl ?_); refine gl_ (some 70) Try.func42 #[.slice Ao50 t1014.length co50, .int .i64 1] ?_; (with_reducible refine (laws_markIntS.calls kj29 (fun k_ => some k_ = (.slice Ao50 t1014.length co50 : Value).ownBlock) (.slice Ao50 t1014.length co50) t1014 1 t1032 t1033 w _ ?side1 ?side2 A65.out).mono ?_); (case side1 => exact (ne_ HB.out)); (case side2 => exact Kd.R_tight rfl HO_11.out); rintro e w114 ⟨rfl, hy0, hb, hkp⟩; refine ⟨_, rfl, ?_⟩; replace HO_8 := Aside0.mk (Kd.R_mono (ok' := fun k_ => some k_ ≠ (.slice Ao50 t1014.length co50 : Value).ownBlock) (Kd.R_keptB (HO_8.out) hkp (fun k_ hk_ hs_ => (hk_) hs_)) (fun k_ hk_ => hk_.1)); replace HO_1011001 := Aside0.mk (Kd.R_mono (ok' := fun k_ => True) (Kd.R_keptB ((Kd.R_apart' HO_1011001.out (Kd.R_typed HO_11.out) (by decide))) hkp (fun k_ hk_ hs_ => (hk_.2) hs_)) (fun k_ hk_ => trivial)); replace BK993 := Aside0.mk (blk_kept (g := gb993) (o := .cells #[.int .i64 a0_0, .slice A0_1 l0_1.length c0_1] 37 (0, 0)) (nb_ BK993.out) hkp (fun hs_ => (fun e_ => (Kd.R_ne HO_11.out BK993.out (by decide)) e_) hs_)); replace BK1010 := Aside0.mk (blk_kept (g := gb1010) (o := .cells #[.int .i64 t1006, .slice Ao45 t1028.length co45] 25 (0, 0)) (nb_ BK1010.out) hkp (fun hs_ => (fun e_ => (Kd.R_ne HO_11.out BK1010.out (by decide)) e_) hs_)); replace HO_11 := Aside0.mk (Kd.R_reok rfl hy0 (fun k_ e_ => HO_11.out.1 k_ e_)); replace HB := Aside0.mk (hb); (try clear hb); (try clear hkp); (try clear hy0)) | ((with_reducible refine gate_callee (f := 43) rfl ?_); refine goesL_ (some 73) rfl rfl Try.func43 (by kernel_rfl) rfl #[.slice Ao50 t1033.length co50, .int .i64 1] rfl (by (try simp only [List.map_toArray, List.map_cons, List.map_nil]); first | done | (rw [show t1033.length = t1014.length from (rR12 HO_11.out).1.symm] <;> rfl) | rfl | (simp only [List.length_drop, List.length_take]; rfl)) ?_; (with_reducible refine (laws_heldIntS.calls kj29 _ _ t1033 1 t1034 _ ?side1 ?side2 A66.out).mono ?_); (case side1 => exact nc_ (rR12 HO_11.out).2.2); (case side2 => rw [show t1033.length = t1014.length from (rR12 HO_11.out).1.symm]; exact (rR12 HO_11.out).2.1); rintro e w' ⟨rfl, ⟨nd, rfl⟩⟩; refine ⟨_, rfl, ?_⟩))
     go_ret
     exact ⟨nw_, ne_ HB.out⟩
    rw [if_pos c69] at H
    have c69b0 : (t1034 == t1032) = true := beq_iff_eq.mpr c69
    have c69b1 : (t1034 != t1032) = false := bne_eq_false_iff_eq.mpr c69
    clear c69
    replace H := Option.bind_eq_some_iff.mp H
    obtain ⟨⟨t1035, t1036⟩, A700, H⟩ := H
    try dsimp only at H
    have A70 := Aside0.mk A700
    clear A700
    replace H := Option.bind_eq_some_iff.mp H
    obtain ⟨t1039, A710, H⟩ := H
    try dsimp only at H
    have A71 := Aside0.mk A710
    clear A710
    replace H := Option.bind_eq_some_iff.mp H
    obtain ⟨t1042, A720, H⟩ := H
    try dsimp only at H
    have A72 := Aside0.mk A720
    clear A720
    replace H := Option.bind_eq_some_iff.mp H
    obtain ⟨t1045, A730, H⟩ := H
    try dsimp only at H
    have A73 := Aside0.mk A730
    clear A730
    by_cases c74 : t1045 = true
    rotate_left
    ·replace c74 := Bool.eq_false_iff.mpr c74
     subst c74
     have H1 : (some false) = some r := by rw [if_neg (show ¬ (false = true) by decide)] at H; exact H
     clear H
     have H := H1
     clear H1
     obtain rfl := Option.some.inj H
     go_wp2_with (first | ((with_reducible refine gate_callee (f := 42) rfl ?_); refine gl_ (some 70) Try.func42 #[.slice Ao50 t1014.length co50, .int .i64 1] ?_; (with_reducible refine (laws_markIntS.calls kj29 (fun k_ => some k_ = (.slice Ao50 t1014.length co50 : Value).ownBlock) (.slice Ao50 t1014.length co50) t1014 1 t1032 t1033 w _ ?side1 ?side2 A65.out).mono ?_); (case side1 => exact (ne_ HB.out)); (case side2 => exact Kd.R_tight rfl HO_11.out); rintro e w105 ⟨rfl, hy0, hb, hkp⟩; refine ⟨_, rfl, ?_⟩; replace HO_8 := Aside0.mk (Kd.R_mono (ok' := fun k_ => some k_ ≠ (.slice Ao50 t1014.length co50 : Value).ownBlock) (Kd.R_keptB (HO_8.out) hkp (fun k_ hk_ hs_ => (hk_) hs_)) (fun k_ hk_ => hk_.1)); replace HO_1011001 := Aside0.mk (Kd.R_mono (ok' := fun k_ => True) (Kd.R_keptB ((Kd.R_apart' HO_1011001.out (Kd.R_typed HO_11.out) (by decide))) hkp (fun k_ hk_ hs_ => (hk_.2) hs_)) (fun k_ hk_ => trivial)); replace BK993 := Aside0.mk (blk_kept (g := gb993) (o := .cells #[.int .i64 a0_0, .slice A0_1 l0_1.length c0_1] 37 (0, 0)) (nb_ BK993.out) hkp (fun hs_ => (fun e_ => (Kd.R_ne HO_11.out BK993.out (by decide)) e_) hs_)); replace BK1010 := Aside0.mk (blk_kept (g := gb1010) (o := .cells #[.int .i64 t1006, .slice Ao45 t1028.length co45] 25 (0, 0)) (nb_ BK1010.out) hkp (fun hs_ => (fun e_ => (Kd.R_ne HO_11.out BK1010.out (by decide)) e_) hs_)); replace HO_11 := Aside0.mk (Kd.R_reok rfl hy0 (fun k_ e_ => HO_11.out.1 k_ e_)); replace HB := Aside0.mk (hb); (try clear hb); (try clear hkp); (try clear hy0)) | ((with_reducible refine gate_callee (f := 43) rfl ?_); refine goesL_ (some 73) rfl rfl Try.func43 (by kernel_rfl) rfl #[.slice Ao50 t1033.length co50, .int .i64 1] rfl (by (try simp only [List.map_toArray, List.map_cons, List.map_nil]); first | done | (rw [show t1033.length = t1014.length from (rR12 HO_11.out).1.symm] <;> rfl) | rfl | (simp only [List.length_drop, List.length_take]; rfl)) ?_; (with_reducible refine (laws_heldIntS.calls kj29 _ _ t1033 1 t1034 _ ?side1 ?side2 A66.out).mono ?_); (case side1 => exact nc_ (rR12 HO_11.out).2.2); (case side2 => rw [show t1033.length = t1014.length from (rR12 HO_11.out).1.symm]; exact (rR12 HO_11.out).2.1); rintro e w' ⟨rfl, ⟨nd, rfl⟩⟩; refine ⟨_, rfl, ?_⟩; have hnb106 := NB993_1010.out; have hnc106 := NB1010_993.out; obtain ⟨hcz107_0, hcz107_1, hfz107_0, hfz107_1⟩ := cz2_ BK993.out) | ((with_reducible refine gate_callee (f := 18) rfl ?_); refine gl_ (some 80) Try.func18 #[.agg #[.int .i64 a0_0, .slice A0_1 l0_1.length c0_1]] ?_; (with_reducible refine (laws_toNet.calls kj29 a0_0 _ _ l0_1 t1035 t1036 _ ?side1 ?side2 A70.out).mono ?_); (case side1 => exact nc_ (Kd.C_below HR0_1.out (ne_ HB.out))); (case side2 => exact HC0_1.out); rintro e w108 ⟨v1037, rfl, ho0, hb⟩; refine ⟨_, rfl, ?_⟩; have HO1038 := Aside0.mk (Kd.R_lower (Kd.R_new' ho0 (Kd.R_lt (nr_ HO_1011001.out))) (eZ12 (ne_ HB.out))); replace HO_8 := kR_ HO_8 hb; replace HO_11 := kR_ HO_11 hb; replace HO_1011001 := Aside0.mk (Kd.R_elder' (nr_ HO_1011001.out) (Kd.R_base ho0) hb); replace BK993 := kb_ BK993 hb; replace BK1010 := kb_ BK1010 hb; replace HB := kB_ HB hb; (try clear hb); (try clear hb2); (try clear hk); (try clear hi); (try clear ho0)) | ((with_reducible refine gate_callee (f := 19) rfl ?_); refine gl_ (some 82) Try.func19 #[.slice A1 l1.length c1] ?_; (with_reducible refine (laws_toTurnS.calls kj29 _ _ l1 t1039 _ ?side1 ?side2 A71.out).mono ?_); (case side1 => exact nc_ (Kd.C_below HR1.out HB.out)); (case side2 => exact HC1.out); rintro e w109 ⟨v1040, rfl, ho0, hb⟩; refine ⟨_, rfl, ?_⟩; have HO1041 := Aside0.mk (Kd.R_lower ho0 (eZ12 (ne_ HB.out))); replace HO_8 := kR_ HO_8 hb; replace HO_11 := kR_ HO_11 hb; replace HO_1011001 := kR_ HO_1011001 hb; replace HO1038 := kR_ HO1038 hb; replace BK993 := kb_ BK993 hb; replace BK1010 := kb_ BK1010 hb; replace HB := kB_ HB hb; (try clear hb); (try clear hb2); (try clear hk); (try clear hi); (try clear ho0); obtain ⟨Ao110, co110, eo110⟩ := Kd.R_slice HO1038.out; subst eo110; obtain ⟨Ao111, co111, eo111⟩ := Kd.R_slice HO1041.out; subst eo111) | ((with_reducible refine gate_callee (f := 30) rfl ?_); refine gl_ (some 84) Try.func30 #[.agg #[.int .i64 t1035, .slice Ao110 t1036.length co110], .slice Ao111 t1039.length co111, .int .i64 a2] ?_; (with_reducible refine (impl_TurnAll.calls kj29 t1035 _ _ t1036 _ _ t1039 a2 t1042 _ ?side1 ?side2 ?side3 ?side4 A72.out).mono ?_); (case side1 => exact nc_ (rR12 HO1038.out).2.2); (case side2 => exact (rR12 HO1038.out).2.1); (case side3 => exact nc_ (rR12 HO1041.out).2.2); (case side4 => exact (rR12 HO1041.out).2.1); rintro e w112 ⟨v1043, rfl, ho0, hb⟩; refine ⟨_, rfl, ?_⟩; have HO1044 := Aside0.mk (Kd.R_lower (Kd.R_new' (Kd.R_new' ho0 (Kd.R_lt (nr_ HO_8.out))) (Kd.R_lt (nr_ HO_11.out))) (eZ12 (ne_ HB.out))); replace HO_8 := Aside0.mk (Kd.R_elder' (nr_ HO_8.out) (Kd.R_base ho0) hb); replace HO_11 := Aside0.mk (Kd.R_elder' (nr_ HO_11.out) (Kd.R_base ho0) hb); replace HO_1011001 := kR_ HO_1011001 hb; replace HO1038 := kR_ HO1038 hb; replace HO1041 := kR_ HO1041 hb; replace BK993 := kb_ BK993 hb; replace BK1010 := kb_ BK1010 hb; replace HB := kB_ HB hb; (try clear hb); (try clear hb2); (try clear hk); (try clear hi); (try clear ho0); obtain ⟨Ao113, co113, eo113⟩ := Kd.R_slice HO1044.out; subst eo113) | ((with_reducible refine gate_callee (f := 28) rfl ?_); refine gl_ (some 87) Try.func28 #[.slice Ao113 t1042.length co113, .slice Ao51 t1003.length co51] ?_; (with_reducible refine (laws_eqIntS.calls kj29 _ _ t1042 _ _ t1003 false _ ?side1 ?side2 ?side3 ?side4 A73.out).mono ?_); (case side1 => exact nc_ (rR12 HO1044.out).2.2); (case side2 => exact (rR12 HO1044.out).2.1); (case side3 => exact nc_ (rR12 HO_8.out).2.2); (case side4 => exact (rR12 HO_8.out).2.1); rintro e w' ⟨rfl, ⟨nd, rfl⟩⟩; refine ⟨_, rfl, ?_⟩))
     go_ret
     exact ⟨nw_, ne_ HB.out⟩
    subst c74
    rw [if_pos rfl] at H
    replace H := Option.bind_eq_some_iff.mp H
    obtain ⟨t1046, A750, H⟩ := H
    replace H : (if t1046 < 0 then (some false) else (if t1046 = t1032 then (some true) else (some false))) = some r := H
    have A75 := Aside0.mk A750
    clear A750
    by_cases c76 : t1046 < 0
    ·rw [if_pos c76] at H
     have c76b0 : decide (t1046 < 0) = true := decide_eq_true c76
     clear c76
     obtain rfl := Option.some.inj H
     go_wp2_with (first | ((with_reducible refine gate_callee (f := 42) rfl ?_); refine gl_ (some 70) Try.func42 #[.slice Ao50 t1014.length co50, .int .i64 1] ?_; (with_reducible refine (laws_markIntS.calls kj29 (fun k_ => some k_ = (.slice Ao50 t1014.length co50 : Value).ownBlock) (.slice Ao50 t1014.length co50) t1014 1 t1032 t1033 w _ ?side1 ?side2 A65.out).mono ?_); (case side1 => exact (ne_ HB.out)); (case side2 => exact Kd.R_tight rfl HO_11.out); rintro e w77 ⟨rfl, hy0, hb, hkp⟩; refine ⟨_, rfl, ?_⟩; replace HO_8 := Aside0.mk (Kd.R_mono (ok' := fun k_ => some k_ ≠ (.slice Ao50 t1014.length co50 : Value).ownBlock) (Kd.R_keptB (HO_8.out) hkp (fun k_ hk_ hs_ => (hk_) hs_)) (fun k_ hk_ => hk_.1)); replace HO_1011001 := Aside0.mk (Kd.R_mono (ok' := fun k_ => True) (Kd.R_keptB ((Kd.R_apart' HO_1011001.out (Kd.R_typed HO_11.out) (by decide))) hkp (fun k_ hk_ hs_ => (hk_.2) hs_)) (fun k_ hk_ => trivial)); replace BK993 := Aside0.mk (blk_kept (g := gb993) (o := .cells #[.int .i64 a0_0, .slice A0_1 l0_1.length c0_1] 37 (0, 0)) (nb_ BK993.out) hkp (fun hs_ => (fun e_ => (Kd.R_ne HO_11.out BK993.out (by decide)) e_) hs_)); replace BK1010 := Aside0.mk (blk_kept (g := gb1010) (o := .cells #[.int .i64 t1006, .slice Ao45 t1028.length co45] 25 (0, 0)) (nb_ BK1010.out) hkp (fun hs_ => (fun e_ => (Kd.R_ne HO_11.out BK1010.out (by decide)) e_) hs_)); replace HO_11 := Aside0.mk (Kd.R_reok rfl hy0 (fun k_ e_ => HO_11.out.1 k_ e_)); replace HB := Aside0.mk (hb); (try clear hb); (try clear hkp); (try clear hy0)) | ((with_reducible refine gate_callee (f := 43) rfl ?_); refine goesL_ (some 73) rfl rfl Try.func43 (by kernel_rfl) rfl #[.slice Ao50 t1033.length co50, .int .i64 1] rfl (by (try simp only [List.map_toArray, List.map_cons, List.map_nil]); first | done | (rw [show t1033.length = t1014.length from (rR12 HO_11.out).1.symm] <;> rfl) | rfl | (simp only [List.length_drop, List.length_take]; rfl)) ?_; (with_reducible refine (laws_heldIntS.calls kj29 _ _ t1033 1 t1034 _ ?side1 ?side2 A66.out).mono ?_); (case side1 => exact nc_ (rR12 HO_11.out).2.2); (case side2 => rw [show t1033.length = t1014.length from (rR12 HO_11.out).1.symm]; exact (rR12 HO_11.out).2.1); rintro e w' ⟨rfl, ⟨nd, rfl⟩⟩; refine ⟨_, rfl, ?_⟩; have hnb78 := NB993_1010.out; have hnc78 := NB1010_993.out; obtain ⟨hcz79_0, hcz79_1, hfz79_0, hfz79_1⟩ := cz2_ BK993.out) | ((with_reducible refine gate_callee (f := 18) rfl ?_); refine gl_ (some 80) Try.func18 #[.agg #[.int .i64 a0_0, .slice A0_1 l0_1.length c0_1]] ?_; (with_reducible refine (laws_toNet.calls kj29 a0_0 _ _ l0_1 t1035 t1036 _ ?side1 ?side2 A70.out).mono ?_); (case side1 => exact nc_ (Kd.C_below HR0_1.out (ne_ HB.out))); (case side2 => exact HC0_1.out); rintro e w80 ⟨v1037, rfl, ho0, hb⟩; refine ⟨_, rfl, ?_⟩; have HO1038 := Aside0.mk (Kd.R_lower (Kd.R_new' ho0 (Kd.R_lt (nr_ HO_1011001.out))) (eZ12 (ne_ HB.out))); replace HO_8 := kR_ HO_8 hb; replace HO_11 := kR_ HO_11 hb; replace HO_1011001 := Aside0.mk (Kd.R_elder' (nr_ HO_1011001.out) (Kd.R_base ho0) hb); replace BK993 := kb_ BK993 hb; replace BK1010 := kb_ BK1010 hb; replace HB := kB_ HB hb; (try clear hb); (try clear hb2); (try clear hk); (try clear hi); (try clear ho0)) | ((with_reducible refine gate_callee (f := 19) rfl ?_); refine gl_ (some 82) Try.func19 #[.slice A1 l1.length c1] ?_; (with_reducible refine (laws_toTurnS.calls kj29 _ _ l1 t1039 _ ?side1 ?side2 A71.out).mono ?_); (case side1 => exact nc_ (Kd.C_below HR1.out HB.out)); (case side2 => exact HC1.out); rintro e w81 ⟨v1040, rfl, ho0, hb⟩; refine ⟨_, rfl, ?_⟩; have HO1041 := Aside0.mk (Kd.R_lower ho0 (eZ12 (ne_ HB.out))); replace HO_8 := kR_ HO_8 hb; replace HO_11 := kR_ HO_11 hb; replace HO_1011001 := kR_ HO_1011001 hb; replace HO1038 := kR_ HO1038 hb; replace BK993 := kb_ BK993 hb; replace BK1010 := kb_ BK1010 hb; replace HB := kB_ HB hb; (try clear hb); (try clear hb2); (try clear hk); (try clear hi); (try clear ho0); obtain ⟨Ao82, co82, eo82⟩ := Kd.R_slice HO1038.out; subst eo82; obtain ⟨Ao83, co83, eo83⟩ := Kd.R_slice HO1041.out; subst eo83) | ((with_reducible refine gate_callee (f := 30) rfl ?_); refine gl_ (some 84) Try.func30 #[.agg #[.int .i64 t1035, .slice Ao82 t1036.length co82], .slice Ao83 t1039.length co83, .int .i64 a2] ?_; (with_reducible refine (impl_TurnAll.calls kj29 t1035 _ _ t1036 _ _ t1039 a2 t1042 _ ?side1 ?side2 ?side3 ?side4 A72.out).mono ?_); (case side1 => exact nc_ (rR12 HO1038.out).2.2); (case side2 => exact (rR12 HO1038.out).2.1); (case side3 => exact nc_ (rR12 HO1041.out).2.2); (case side4 => exact (rR12 HO1041.out).2.1); rintro e w84 ⟨v1043, rfl, ho0, hb⟩; refine ⟨_, rfl, ?_⟩; have HO1044 := Aside0.mk (Kd.R_lower (Kd.R_new' (Kd.R_new' ho0 (Kd.R_lt (nr_ HO_8.out))) (Kd.R_lt (nr_ HO_11.out))) (eZ12 (ne_ HB.out))); replace HO_8 := Aside0.mk (Kd.R_elder' (nr_ HO_8.out) (Kd.R_base ho0) hb); replace HO_11 := Aside0.mk (Kd.R_elder' (nr_ HO_11.out) (Kd.R_base ho0) hb); replace HO_1011001 := kR_ HO_1011001 hb; replace HO1038 := kR_ HO1038 hb; replace HO1041 := kR_ HO1041 hb; replace BK993 := kb_ BK993 hb; replace BK1010 := kb_ BK1010 hb; replace HB := kB_ HB hb; (try clear hb); (try clear hb2); (try clear hk); (try clear hi); (try clear ho0); obtain ⟨Ao85, co85, eo85⟩ := Kd.R_slice HO1044.out; subst eo85) | ((with_reducible refine gate_callee (f := 28) rfl ?_); refine gl_ (some 87) Try.func28 #[.slice Ao85 t1042.length co85, .slice Ao51 t1003.length co51] ?_; (with_reducible refine (laws_eqIntS.calls kj29 _ _ t1042 _ _ t1003 true _ ?side1 ?side2 ?side3 ?side4 A73.out).mono ?_); (case side1 => exact nc_ (rR12 HO1044.out).2.2); (case side2 => exact (rR12 HO1044.out).2.1); (case side3 => exact nc_ (rR12 HO_8.out).2.2); (case side4 => exact (rR12 HO_8.out).2.1); rintro e w' ⟨rfl, ⟨nd, rfl⟩⟩; refine ⟨_, rfl, ?_⟩) | ((with_reducible refine gate_callee (f := 43) rfl ?_); refine goesL_ (some 91) rfl rfl Try.func43 (by kernel_rfl) rfl #[.slice Ao50 t1033.length co50, .int .i64 1] rfl (by (try simp only [List.map_toArray, List.map_cons, List.map_nil]); first | done | (rw [show t1033.length = t1014.length from (rR12 HO_11.out).1.symm] <;> rfl) | rfl | (simp only [List.length_drop, List.length_take]; rfl)) ?_; (with_reducible refine (laws_heldIntS.calls kj29 _ _ t1033 1 t1046 _ ?side1 ?side2 A75.out).mono ?_); (case side1 => exact nc_ (rR12 HO_11.out).2.2); (case side2 => rw [show t1033.length = t1014.length from (rR12 HO_11.out).1.symm]; exact (rR12 HO_11.out).2.1); rintro e w' ⟨rfl, ⟨nd, rfl⟩⟩; refine ⟨_, rfl, ?_⟩))
     go_ret
     exact ⟨nw_, ne_ HB.out⟩
    rw [if_neg c76] at H
    have c76b0 : decide (t1046 < 0) = false := decide_eq_false c76
    clear c76
    by_cases c86 : t1046 = t1032
    ·rw [if_pos c86] at H
     have c86b0 : (t1046 == t1032) = true := beq_iff_eq.mpr c86
     have c86b1 : (t1046 != t1032) = false := bne_eq_false_iff_eq.mpr c86
     clear c86
     obtain rfl := Option.some.inj H
     go_wp2_with (first | ((with_reducible refine gate_callee (f := 42) rfl ?_); refine gl_ (some 70) Try.func42 #[.slice Ao50 t1014.length co50, .int .i64 1] ?_; (with_reducible refine (laws_markIntS.calls kj29 (fun k_ => some k_ = (.slice Ao50 t1014.length co50 : Value).ownBlock) (.slice Ao50 t1014.length co50) t1014 1 t1032 t1033 w _ ?side1 ?side2 A65.out).mono ?_); (case side1 => exact (ne_ HB.out)); (case side2 => exact Kd.R_tight rfl HO_11.out); rintro e w87 ⟨rfl, hy0, hb, hkp⟩; refine ⟨_, rfl, ?_⟩; replace HO_8 := Aside0.mk (Kd.R_mono (ok' := fun k_ => some k_ ≠ (.slice Ao50 t1014.length co50 : Value).ownBlock) (Kd.R_keptB (HO_8.out) hkp (fun k_ hk_ hs_ => (hk_) hs_)) (fun k_ hk_ => hk_.1)); replace HO_1011001 := Aside0.mk (Kd.R_mono (ok' := fun k_ => True) (Kd.R_keptB ((Kd.R_apart' HO_1011001.out (Kd.R_typed HO_11.out) (by decide))) hkp (fun k_ hk_ hs_ => (hk_.2) hs_)) (fun k_ hk_ => trivial)); replace BK993 := Aside0.mk (blk_kept (g := gb993) (o := .cells #[.int .i64 a0_0, .slice A0_1 l0_1.length c0_1] 37 (0, 0)) (nb_ BK993.out) hkp (fun hs_ => (fun e_ => (Kd.R_ne HO_11.out BK993.out (by decide)) e_) hs_)); replace BK1010 := Aside0.mk (blk_kept (g := gb1010) (o := .cells #[.int .i64 t1006, .slice Ao45 t1028.length co45] 25 (0, 0)) (nb_ BK1010.out) hkp (fun hs_ => (fun e_ => (Kd.R_ne HO_11.out BK1010.out (by decide)) e_) hs_)); replace HO_11 := Aside0.mk (Kd.R_reok rfl hy0 (fun k_ e_ => HO_11.out.1 k_ e_)); replace HB := Aside0.mk (hb); (try clear hb); (try clear hkp); (try clear hy0)) | ((with_reducible refine gate_callee (f := 43) rfl ?_); refine goesL_ (some 73) rfl rfl Try.func43 (by kernel_rfl) rfl #[.slice Ao50 t1033.length co50, .int .i64 1] rfl (by (try simp only [List.map_toArray, List.map_cons, List.map_nil]); first | done | (rw [show t1033.length = t1014.length from (rR12 HO_11.out).1.symm] <;> rfl) | rfl | (simp only [List.length_drop, List.length_take]; rfl)) ?_; (with_reducible refine (laws_heldIntS.calls kj29 _ _ t1033 1 t1034 _ ?side1 ?side2 A66.out).mono ?_); (case side1 => exact nc_ (rR12 HO_11.out).2.2); (case side2 => rw [show t1033.length = t1014.length from (rR12 HO_11.out).1.symm]; exact (rR12 HO_11.out).2.1); rintro e w' ⟨rfl, ⟨nd, rfl⟩⟩; refine ⟨_, rfl, ?_⟩; have hnb88 := NB993_1010.out; have hnc88 := NB1010_993.out; obtain ⟨hcz89_0, hcz89_1, hfz89_0, hfz89_1⟩ := cz2_ BK993.out) | ((with_reducible refine gate_callee (f := 18) rfl ?_); refine gl_ (some 80) Try.func18 #[.agg #[.int .i64 a0_0, .slice A0_1 l0_1.length c0_1]] ?_; (with_reducible refine (laws_toNet.calls kj29 a0_0 _ _ l0_1 t1035 t1036 _ ?side1 ?side2 A70.out).mono ?_); (case side1 => exact nc_ (Kd.C_below HR0_1.out (ne_ HB.out))); (case side2 => exact HC0_1.out); rintro e w90 ⟨v1037, rfl, ho0, hb⟩; refine ⟨_, rfl, ?_⟩; have HO1038 := Aside0.mk (Kd.R_lower (Kd.R_new' ho0 (Kd.R_lt (nr_ HO_1011001.out))) (eZ12 (ne_ HB.out))); replace HO_8 := kR_ HO_8 hb; replace HO_11 := kR_ HO_11 hb; replace HO_1011001 := Aside0.mk (Kd.R_elder' (nr_ HO_1011001.out) (Kd.R_base ho0) hb); replace BK993 := kb_ BK993 hb; replace BK1010 := kb_ BK1010 hb; replace HB := kB_ HB hb; (try clear hb); (try clear hb2); (try clear hk); (try clear hi); (try clear ho0)) | ((with_reducible refine gate_callee (f := 19) rfl ?_); refine gl_ (some 82) Try.func19 #[.slice A1 l1.length c1] ?_; (with_reducible refine (laws_toTurnS.calls kj29 _ _ l1 t1039 _ ?side1 ?side2 A71.out).mono ?_); (case side1 => exact nc_ (Kd.C_below HR1.out HB.out)); (case side2 => exact HC1.out); rintro e w91 ⟨v1040, rfl, ho0, hb⟩; refine ⟨_, rfl, ?_⟩; have HO1041 := Aside0.mk (Kd.R_lower ho0 (eZ12 (ne_ HB.out))); replace HO_8 := kR_ HO_8 hb; replace HO_11 := kR_ HO_11 hb; replace HO_1011001 := kR_ HO_1011001 hb; replace HO1038 := kR_ HO1038 hb; replace BK993 := kb_ BK993 hb; replace BK1010 := kb_ BK1010 hb; replace HB := kB_ HB hb; (try clear hb); (try clear hb2); (try clear hk); (try clear hi); (try clear ho0); obtain ⟨Ao92, co92, eo92⟩ := Kd.R_slice HO1038.out; subst eo92; obtain ⟨Ao93, co93, eo93⟩ := Kd.R_slice HO1041.out; subst eo93) | ((with_reducible refine gate_callee (f := 30) rfl ?_); refine gl_ (some 84) Try.func30 #[.agg #[.int .i64 t1035, .slice Ao92 t1036.length co92], .slice Ao93 t1039.length co93, .int .i64 a2] ?_; (with_reducible refine (impl_TurnAll.calls kj29 t1035 _ _ t1036 _ _ t1039 a2 t1042 _ ?side1 ?side2 ?side3 ?side4 A72.out).mono ?_); (case side1 => exact nc_ (rR12 HO1038.out).2.2); (case side2 => exact (rR12 HO1038.out).2.1); (case side3 => exact nc_ (rR12 HO1041.out).2.2); (case side4 => exact (rR12 HO1041.out).2.1); rintro e w94 ⟨v1043, rfl, ho0, hb⟩; refine ⟨_, rfl, ?_⟩; have HO1044 := Aside0.mk (Kd.R_lower (Kd.R_new' (Kd.R_new' ho0 (Kd.R_lt (nr_ HO_8.out))) (Kd.R_lt (nr_ HO_11.out))) (eZ12 (ne_ HB.out))); replace HO_8 := Aside0.mk (Kd.R_elder' (nr_ HO_8.out) (Kd.R_base ho0) hb); replace HO_11 := Aside0.mk (Kd.R_elder' (nr_ HO_11.out) (Kd.R_base ho0) hb); replace HO_1011001 := kR_ HO_1011001 hb; replace HO1038 := kR_ HO1038 hb; replace HO1041 := kR_ HO1041 hb; replace BK993 := kb_ BK993 hb; replace BK1010 := kb_ BK1010 hb; replace HB := kB_ HB hb; (try clear hb); (try clear hb2); (try clear hk); (try clear hi); (try clear ho0); obtain ⟨Ao95, co95, eo95⟩ := Kd.R_slice HO1044.out; subst eo95) | ((with_reducible refine gate_callee (f := 28) rfl ?_); refine gl_ (some 87) Try.func28 #[.slice Ao95 t1042.length co95, .slice Ao51 t1003.length co51] ?_; (with_reducible refine (laws_eqIntS.calls kj29 _ _ t1042 _ _ t1003 true _ ?side1 ?side2 ?side3 ?side4 A73.out).mono ?_); (case side1 => exact nc_ (rR12 HO1044.out).2.2); (case side2 => exact (rR12 HO1044.out).2.1); (case side3 => exact nc_ (rR12 HO_8.out).2.2); (case side4 => exact (rR12 HO_8.out).2.1); rintro e w' ⟨rfl, ⟨nd, rfl⟩⟩; refine ⟨_, rfl, ?_⟩) | ((with_reducible refine gate_callee (f := 43) rfl ?_); refine goesL_ (some 91) rfl rfl Try.func43 (by kernel_rfl) rfl #[.slice Ao50 t1033.length co50, .int .i64 1] rfl (by (try simp only [List.map_toArray, List.map_cons, List.map_nil]); first | done | (rw [show t1033.length = t1014.length from (rR12 HO_11.out).1.symm] <;> rfl) | rfl | (simp only [List.length_drop, List.length_take]; rfl)) ?_; (with_reducible refine (laws_heldIntS.calls kj29 _ _ t1033 1 t1046 _ ?side1 ?side2 A75.out).mono ?_); (case side1 => exact nc_ (rR12 HO_11.out).2.2); (case side2 => rw [show t1033.length = t1014.length from (rR12 HO_11.out).1.symm]; exact (rR12 HO_11.out).2.1); rintro e w' ⟨rfl, ⟨nd, rfl⟩⟩; refine ⟨_, rfl, ?_⟩))
     go_ret
     exact ⟨nw_, ne_ HB.out⟩
    rw [if_neg c86] at H
    have c86b0 : (t1046 == t1032) = false := beq_eq_false_iff_ne.mpr c86
    have c86b1 : (t1046 != t1032) = true := bne_iff_ne.mpr c86
    obtain rfl := Option.some.inj H
    go_wp2_with (first | ((with_reducible refine gate_callee (f := 42) rfl ?_); refine gl_ (some 70) Try.func42 #[.slice Ao50 t1014.length co50, .int .i64 1] ?_; (with_reducible refine (laws_markIntS.calls kj29 (fun k_ => some k_ = (.slice Ao50 t1014.length co50 : Value).ownBlock) (.slice Ao50 t1014.length co50) t1014 1 t1032 t1033 w _ ?side1 ?side2 A65.out).mono ?_); (case side1 => exact (ne_ HB.out)); (case side2 => exact Kd.R_tight rfl HO_11.out); rintro e w96 ⟨rfl, hy0, hb, hkp⟩; refine ⟨_, rfl, ?_⟩; replace HO_8 := Aside0.mk (Kd.R_mono (ok' := fun k_ => some k_ ≠ (.slice Ao50 t1014.length co50 : Value).ownBlock) (Kd.R_keptB (HO_8.out) hkp (fun k_ hk_ hs_ => (hk_) hs_)) (fun k_ hk_ => hk_.1)); replace HO_1011001 := Aside0.mk (Kd.R_mono (ok' := fun k_ => True) (Kd.R_keptB ((Kd.R_apart' HO_1011001.out (Kd.R_typed HO_11.out) (by decide))) hkp (fun k_ hk_ hs_ => (hk_.2) hs_)) (fun k_ hk_ => trivial)); replace BK993 := Aside0.mk (blk_kept (g := gb993) (o := .cells #[.int .i64 a0_0, .slice A0_1 l0_1.length c0_1] 37 (0, 0)) (nb_ BK993.out) hkp (fun hs_ => (fun e_ => (Kd.R_ne HO_11.out BK993.out (by decide)) e_) hs_)); replace BK1010 := Aside0.mk (blk_kept (g := gb1010) (o := .cells #[.int .i64 t1006, .slice Ao45 t1028.length co45] 25 (0, 0)) (nb_ BK1010.out) hkp (fun hs_ => (fun e_ => (Kd.R_ne HO_11.out BK1010.out (by decide)) e_) hs_)); replace HO_11 := Aside0.mk (Kd.R_reok rfl hy0 (fun k_ e_ => HO_11.out.1 k_ e_)); replace HB := Aside0.mk (hb); (try clear hb); (try clear hkp); (try clear hy0)) | ((with_reducible refine gate_callee (f := 43) rfl ?_); refine goesL_ (some 73) rfl rfl Try.func43 (by kernel_rfl) rfl #[.slice Ao50 t1033.length co50, .int .i64 1] rfl (by (try simp only [List.map_toArray, List.map_cons, List.map_nil]); first | done | (rw [show t1033.length = t1014.length from (rR12 HO_11.out).1.symm] <;> rfl) | rfl | (simp only [List.length_drop, List.length_take]; rfl)) ?_; (with_reducible refine (laws_heldIntS.calls kj29 _ _ t1033 1 t1034 _ ?side1 ?side2 A66.out).mono ?_); (case side1 => exact nc_ (rR12 HO_11.out).2.2); (case side2 => rw [show t1033.length = t1014.length from (rR12 HO_11.out).1.symm]; exact (rR12 HO_11.out).2.1); rintro e w' ⟨rfl, ⟨nd, rfl⟩⟩; refine ⟨_, rfl, ?_⟩; have hnb97 := NB993_1010.out; have hnc97 := NB1010_993.out; obtain ⟨hcz98_0, hcz98_1, hfz98_0, hfz98_1⟩ := cz2_ BK993.out) | ((with_reducible refine gate_callee (f := 18) rfl ?_); refine gl_ (some 80) Try.func18 #[.agg #[.int .i64 a0_0, .slice A0_1 l0_1.length c0_1]] ?_; (with_reducible refine (laws_toNet.calls kj29 a0_0 _ _ l0_1 t1035 t1036 _ ?side1 ?side2 A70.out).mono ?_); (case side1 => exact nc_ (Kd.C_below HR0_1.out (ne_ HB.out))); (case side2 => exact HC0_1.out); rintro e w99 ⟨v1037, rfl, ho0, hb⟩; refine ⟨_, rfl, ?_⟩; have HO1038 := Aside0.mk (Kd.R_lower (Kd.R_new' ho0 (Kd.R_lt (nr_ HO_1011001.out))) (eZ12 (ne_ HB.out))); replace HO_8 := kR_ HO_8 hb; replace HO_11 := kR_ HO_11 hb; replace HO_1011001 := Aside0.mk (Kd.R_elder' (nr_ HO_1011001.out) (Kd.R_base ho0) hb); replace BK993 := kb_ BK993 hb; replace BK1010 := kb_ BK1010 hb; replace HB := kB_ HB hb; (try clear hb); (try clear hb2); (try clear hk); (try clear hi); (try clear ho0)) | ((with_reducible refine gate_callee (f := 19) rfl ?_); refine gl_ (some 82) Try.func19 #[.slice A1 l1.length c1] ?_; (with_reducible refine (laws_toTurnS.calls kj29 _ _ l1 t1039 _ ?side1 ?side2 A71.out).mono ?_); (case side1 => exact nc_ (Kd.C_below HR1.out HB.out)); (case side2 => exact HC1.out); rintro e w100 ⟨v1040, rfl, ho0, hb⟩; refine ⟨_, rfl, ?_⟩; have HO1041 := Aside0.mk (Kd.R_lower ho0 (eZ12 (ne_ HB.out))); replace HO_8 := kR_ HO_8 hb; replace HO_11 := kR_ HO_11 hb; replace HO_1011001 := kR_ HO_1011001 hb; replace HO1038 := kR_ HO1038 hb; replace BK993 := kb_ BK993 hb; replace BK1010 := kb_ BK1010 hb; replace HB := kB_ HB hb; (try clear hb); (try clear hb2); (try clear hk); (try clear hi); (try clear ho0); obtain ⟨Ao101, co101, eo101⟩ := Kd.R_slice HO1038.out; subst eo101; obtain ⟨Ao102, co102, eo102⟩ := Kd.R_slice HO1041.out; subst eo102) | ((with_reducible refine gate_callee (f := 30) rfl ?_); refine gl_ (some 84) Try.func30 #[.agg #[.int .i64 t1035, .slice Ao101 t1036.length co101], .slice Ao102 t1039.length co102, .int .i64 a2] ?_; (with_reducible refine (impl_TurnAll.calls kj29 t1035 _ _ t1036 _ _ t1039 a2 t1042 _ ?side1 ?side2 ?side3 ?side4 A72.out).mono ?_); (case side1 => exact nc_ (rR12 HO1038.out).2.2); (case side2 => exact (rR12 HO1038.out).2.1); (case side3 => exact nc_ (rR12 HO1041.out).2.2); (case side4 => exact (rR12 HO1041.out).2.1); rintro e w103 ⟨v1043, rfl, ho0, hb⟩; refine ⟨_, rfl, ?_⟩; have HO1044 := Aside0.mk (Kd.R_lower (Kd.R_new' (Kd.R_new' ho0 (Kd.R_lt (nr_ HO_8.out))) (Kd.R_lt (nr_ HO_11.out))) (eZ12 (ne_ HB.out))); replace HO_8 := Aside0.mk (Kd.R_elder' (nr_ HO_8.out) (Kd.R_base ho0) hb); replace HO_11 := Aside0.mk (Kd.R_elder' (nr_ HO_11.out) (Kd.R_base ho0) hb); replace HO_1011001 := kR_ HO_1011001 hb; replace HO1038 := kR_ HO1038 hb; replace HO1041 := kR_ HO1041 hb; replace BK993 := kb_ BK993 hb; replace BK1010 := kb_ BK1010 hb; replace HB := kB_ HB hb; (try clear hb); (try clear hb2); (try clear hk); (try clear hi); (try clear ho0); obtain ⟨Ao104, co104, eo104⟩ := Kd.R_slice HO1044.out; subst eo104) | ((with_reducible refine gate_callee (f := 28) rfl ?_); refine gl_ (some 87) Try.func28 #[.slice Ao104 t1042.length co104, .slice Ao51 t1003.length co51] ?_; (with_reducible refine (laws_eqIntS.calls kj29 _ _ t1042 _ _ t1003 true _ ?side1 ?side2 ?side3 ?side4 A73.out).mono ?_); (case side1 => exact nc_ (rR12 HO1044.out).2.2); (case side2 => exact (rR12 HO1044.out).2.1); (case side3 => exact nc_ (rR12 HO_8.out).2.2); (case side4 => exact (rR12 HO_8.out).2.1); rintro e w' ⟨rfl, ⟨nd, rfl⟩⟩; refine ⟨_, rfl, ?_⟩) | ((with_reducible refine gate_callee (f := 43) rfl ?_); refine goesL_ (some 91) rfl rfl Try.func43 (by kernel_rfl) rfl #[.slice Ao50 t1033.length co50, .int .i64 1] rfl (by (try simp only [List.map_toArray, List.map_cons, List.map_nil]); first | done | (rw [show t1033.length = t1014.length from (rR12 HO_11.out).1.symm] <;> rfl) | rfl | (simp only [List.length_drop, List.length_take]; rfl)) ?_; (with_reducible refine (laws_heldIntS.calls kj29 _ _ t1033 1 t1046 _ ?side1 ?side2 A75.out).mono ?_); (case side1 => exact nc_ (rR12 HO_11.out).2.2); (case side2 => rw [show t1033.length = t1014.length from (rR12 HO_11.out).1.symm]; exact (rR12 HO_11.out).2.1); rintro e w' ⟨rfl, ⟨nd, rfl⟩⟩; refine ⟨_, rfl, ?_⟩))
    go_ret
    exact ⟨nw_, ne_ HB.out⟩
/-- THE ONE PURE STATEMENT of laws_FnExactTurnAll. -/
def laws_FnExactTurnAll.Pure : Prop := ∀ (a0_0 : Int) (l0_1 : List (S97)) (l1 : List (S76)) (a2 : Int), (Lit.int .i64 a0_0).wf = true → l0_1.length ≤ maxLen → (∀ x ∈ l0_1, (Lit.int .i64 x.f0).wf = true ∧ (Lit.int .i64 x.f1).wf = true ∧ (Lit.int .i64 x.f2).wf = true ∧ (Lit.int .i64 x.f3).wf = true ∧ (Lit.int .i64 x.f4).wf = true) → l1.length ≤ maxLen → (∀ x ∈ l1, (Lit.int .i64 x.f0).wf = true ∧ (Lit.int .i64 x.f1).wf = true ∧ (Lit.int .i64 x.f2).wf = true) → (Lit.int .i64 a2).wf = true → ∃ k, laws_FnExactTurnAll.f k a0_0 l0_1 l1 a2 = some true
theorem laws_FnExactTurnAll.walk (P : laws_FnExactTurnAll.Pure) (a0_0 : Int) (A0_1 : Option Addr) (c0_1 : Nat) (l0_1 : List (S97)) (A1 : Option Addr) (c1 : Nat) (l1 : List (S76)) (a2 : Int) (w : World) (hw0_0 : (Lit.int .i64 a0_0).wf = true) (hr0_1 : Kd.C k97 w A0_1 l0_1.length l0_1) (hm0_1 : l0_1.length ≤ maxLen) (hw0_1 : ∀ x ∈ l0_1, (Lit.int .i64 x.f0).wf = true ∧ (Lit.int .i64 x.f1).wf = true ∧ (Lit.int .i64 x.f2).wf = true ∧ (Lit.int .i64 x.f3).wf = true ∧ (Lit.int .i64 x.f4).wf = true) (hc0_1 : l0_1.length ≤ c0_1) (hr1 : Kd.C k76 w A1 l1.length l1) (hm1 : l1.length ≤ maxLen) (hw1 : ∀ x ∈ l1, (Lit.int .i64 x.f0).wf = true ∧ (Lit.int .i64 x.f1).wf = true ∧ (Lit.int .i64 x.f2).wf = true) (hc1 : l1.length ≤ c1) (hw2 : (Lit.int .i64 a2).wf = true) :
    Calls Try.prog 12 #[.agg #[.int .i64 a0_0, .slice A0_1 l0_1.length c0_1], .slice A1 l1.length c1, .int .i64 a2] w fun e w' => e = .returned (.bool true) ∧ Below w.heap.size w w' := by
  obtain ⟨k, h⟩ := P a0_0 l0_1 l1 a2 hw0_0 hm0_1 hw0_1 hm1 hw1 hw2
  refine (laws_FnExactTurnAll.calls k a0_0 A0_1 c0_1 l0_1 A1 c1 l1 a2 true w hr0_1 hc0_1 hr1 hc1 h).mono ?_
  rintro e w' ⟨rfl, hd⟩
  exact ⟨rfl, hd⟩

end Go.Proofs.Ytcfmejfmjjgoaaa.Print
