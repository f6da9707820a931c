-- Made by this session's own program (wip/patch_print.py, over the kit's print). Lean checks it.
import Derived.Test.YtpjmkghmjpbldaaPrint0
import Derived.Test.YtpjmkghmjpbldaaPrintB
import Derived.Test.YtpjmkghmjpbldaaPrintF21
import Derived.Test.YtpjmkghmjpbldaaPrintF23
import Derived.Test.YtpjmkghmjpbldaaPrintF33
import Derived.Test.YtpjmkghmjpbldaaPrintF56
import Derived.Test.YtpjmkghmjpbldaaPrintF57
namespace Go.Proofs.Ytpjmkghmjpbldaa.Print
open Go.RowKit Go.Proofs.YtpjmkghmjpbldaaW.PrintWords Go.Proofs.YtpjmkghmjpbldaaW.PrintLast Go.Proofs.YtpjmkghmjpbldaaW.PrintMore Go.Proofs.YtpjmkghmjpbldaaX
attribute [local go_sem] max2_int min2_int max_two min_two max_three min_three max_four min_four   -- for this text's walks alone
set_option linter.unusedVariables false
set_option linter.unusedSimpArgs false

abbrev rA18 := @Kd.R_alloc
abbrev rN18 := @Kd.R_drewN
abbrev rD18 := @Kd.R_drew
abbrev eZ18 := @below_size
abbrev rR18 := @Kd.R_reads'
/-! ### laws_FnExactWalkPlain: function 18 -/
def laws_FnExactWalkPlain.j0 : Nat → List Int → List Int → List Int → Bool → Int → List (S101) → Option (Bool)
  | 0, _, _, _, _, _, _ => none
  | k + 1, x1, x6, x9, x61, x1149000, x1149001 => if x61 = true then (some false) else ((laws_markIntS.f k x9 1).bind fun bt1186 => ((laws_heldIntS.f k bt1186.2 1).bind fun t1188 => (if t1188 < 0 then (some false) else (if t1188 = bt1186.1 then ((laws_toNet.f k x1149000 x1149001).bind fun bt1189 => ((laws_toIntS.f k x1).bind fun t1193 => ((impl_WalkPlain.f k bt1189.1 bt1189.2 t1193).bind fun t1196 => ((laws_eqIntS.f k t1196 x6).bind fun t1199 => (if t1199 = true then ((laws_heldIntS.f k bt1186.2 1).bind fun t1200 => (if t1200 < 0 then (some false) else (if t1200 = bt1186.1 then (some true) else (some false)))) else (some false)))))) else (some false)))))
def laws_FnExactWalkPlain.f (k : Nat) (a0_0 : Int) (l0_1 : List (S101)) (l1 : List Int) : Option (Bool) := if (l1.length : Int) > 1048576 then (some true) else ((laws_szNet.f a0_0 l0_1 1048576).bind fun t1149 => (if t1149 < 0 then (some true) else ((laws_toNet.f k a0_0 l0_1).bind fun bt1150 => ((laws_toIntS.f k l1).bind fun t1154 => ((spec_WalkPlain.f k bt1150.1 bt1150.2 t1154).bind fun t1157 => ((laws_toNet.f k a0_0 l0_1).bind fun bt1160 => ((laws_toIntS.f k l1).bind fun t1165 => ((impl_WalkPlain.f k bt1160.1 bt1160.2 t1165).bind fun t1168 => ((laws_eqIntS.f k t1168 t1157).bind fun t1171 => (if t1171 = true then ((laws_toNet.f k a0_0 l0_1).bind fun bt1172 => ((laws_eqNet.f k bt1160.1 bt1160.2 bt1172.1 bt1172.2).bind fun t1176 => (if t1176 = true then ((laws_toIntS.f k l1).bind fun t1177 => ((laws_eqIntS.f k t1165 t1177).bind fun t1180 => (if t1180 = true then ((laws_markNet.f k bt1160.1 bt1160.2 1).bind fun bt1181 => ((laws_markIntS.f k t1165 bt1181.1).bind fun bt1183 => (if bt1183.1 < 0 then (laws_FnExactWalkPlain.j0 k l1 t1157 t1168 true a0_0 l0_1) else ((laws_eqIntS.f k t1168 t1157).bind fun t1185 => (laws_FnExactWalkPlain.j0 k l1 t1157 t1168 (!t1185) a0_0 l0_1))))) else (some false)))) else (some false)))) else (some false)))))))))))
theorem laws_FnExactWalkPlain.mono_l : ∀ k, (∀ y0 y1 y2 y3 y4 y5, LeO (laws_FnExactWalkPlain.j0 k y0 y1 y2 y3 y4 y5) (laws_FnExactWalkPlain.j0 (k + 1) y0 y1 y2 y3 y4 y5))
  | 0 => fun _ _ _ _ _ _ r h => by simp [laws_FnExactWalkPlain.j0] at h
  | k + 1 => by
    have ih0 := laws_FnExactWalkPlain.mono_l k
    · intro y0 y1 y2 y3 y4 y5
      unfold laws_FnExactWalkPlain.j0
      repeat' first | (with_reducible first | exact ih0 _ _ _ _ _ _ | exact impl_WalkPlain.mono _ _ _ _ | exact laws_eqIntS.mono _ _ _ | exact laws_eqNet.mono _ _ _ _ _ | exact laws_heldIntS.mono _ _ _ | exact laws_markIntS.mono _ _ _ | exact laws_markNet.mono _ _ _ _ | exact laws_toIntS.mono _ _ | exact laws_toNet.mono _ _ _ | exact spec_WalkPlain.mono _ _ _ _ | exact LeO.refl _ | exact LeO.none _ | refine LeO.ite ?_ ?_ | refine LeO.bind ?_ (fun _ => ?_)) | exact ih0 _ _ _ _ _ _ | exact impl_WalkPlain.mono _ _ _ _ | exact laws_eqIntS.mono _ _ _ | exact laws_eqNet.mono _ _ _ _ _ | exact laws_heldIntS.mono _ _ _ | exact laws_markIntS.mono _ _ _ | exact laws_markNet.mono _ _ _ _ | exact laws_toIntS.mono _ _ | exact laws_toNet.mono _ _ _ | exact spec_WalkPlain.mono _ _ _ _ | exact LeO.none _ | refine LeO.ite ?_ ?_ | refine LeO.bind ?_ (fun _ => ?_)
theorem laws_FnExactWalkPlain.mono : ∀ a0 a1 a2 k, LeO (laws_FnExactWalkPlain.f k a0 a1 a2) (laws_FnExactWalkPlain.f (k + 1) a0 a1 a2) := by
  intro a0 a1 a2 k
  have ih0 := laws_FnExactWalkPlain.mono_l k
  unfold laws_FnExactWalkPlain.f
  repeat' first | (with_reducible first | exact ih0 _ _ _ _ _ _ | exact impl_WalkPlain.mono _ _ _ _ | exact laws_eqIntS.mono _ _ _ | exact laws_eqNet.mono _ _ _ _ _ | exact laws_heldIntS.mono _ _ _ | exact laws_markIntS.mono _ _ _ | exact laws_markNet.mono _ _ _ _ | exact laws_toIntS.mono _ _ | exact laws_toNet.mono _ _ _ | exact spec_WalkPlain.mono _ _ _ _ | exact LeO.refl _ | exact LeO.none _ | refine LeO.ite ?_ ?_ | refine LeO.bind ?_ (fun _ => ?_)) | exact ih0 _ _ _ _ _ _ | exact impl_WalkPlain.mono _ _ _ _ | exact laws_eqIntS.mono _ _ _ | exact laws_eqNet.mono _ _ _ _ _ | exact laws_heldIntS.mono _ _ _ | exact laws_markIntS.mono _ _ _ | exact laws_markNet.mono _ _ _ _ | exact laws_toIntS.mono _ _ | exact laws_toNet.mono _ _ _ | exact spec_WalkPlain.mono _ _ _ _ | exact LeO.none _ | refine LeO.ite ?_ ?_ | refine LeO.bind ?_ (fun _ => ?_)
set_option maxHeartbeats 200000000 in
set_option maxRecDepth 100000 in
theorem laws_FnExactWalkPlain.calls (k : Nat) (a0_0 : Int) (A0_1 : Option Addr) (c0_1 : Nat) (l0_1 : List (S101)) (A1 : Option Addr) (c1 : Nat) (l1 : List Int) (r : Bool) (w : World) (hr0_1 : Kd.C k101 w A0_1 l0_1.length l0_1) (hc0_1 : l0_1.length ≤ c0_1) (hr1 : Kd.C (Kd.int .i64) w A1 l1.length l1) (hc1 : l1.length ≤ c1) (h : laws_FnExactWalkPlain.f k a0_0 l0_1 l1 = some r) :
    Calls Try.prog 18 #[.agg #[.int .i64 a0_0, .slice A0_1 l0_1.length c0_1], .slice A1 l1.length c1] w fun e w' => e = .returned (.bool r) ∧ Below w.heap.size w w' := by
  have hu24 := Try.underlying24
  have hu29 := Try.underlying29
  have HR0_1 := Aside0.mk hr0_1
  have HC0_1 := Aside0.mk hc0_1
  clear hr0_1 hc0_1
  have HR1 := Aside0.mk hr1
  have HC1 := Aside0.mk hc1
  clear hr1 hc1
  have HB := Aside0.mk (Below.refl w.heap.size w)
  have H : (if (l1.length : Int) > 1048576 then (some true) else ((laws_szNet.f a0_0 l0_1 1048576).bind fun t1149 => (if t1149 < 0 then (some true) else ((laws_toNet.f k a0_0 l0_1).bind fun bt1150 => ((laws_toIntS.f k l1).bind fun t1154 => ((spec_WalkPlain.f k bt1150.1 bt1150.2 t1154).bind fun t1157 => ((laws_toNet.f k a0_0 l0_1).bind fun bt1160 => ((laws_toIntS.f k l1).bind fun t1165 => ((impl_WalkPlain.f k bt1160.1 bt1160.2 t1165).bind fun t1168 => ((laws_eqIntS.f k t1168 t1157).bind fun t1171 => (if t1171 = true then ((laws_toNet.f k a0_0 l0_1).bind fun bt1172 => ((laws_eqNet.f k bt1160.1 bt1160.2 bt1172.1 bt1172.2).bind fun t1176 => (if t1176 = true then ((laws_toIntS.f k l1).bind fun t1177 => ((laws_eqIntS.f k t1165 t1177).bind fun t1180 => (if t1180 = true then ((laws_markNet.f k bt1160.1 bt1160.2 1).bind fun bt1181 => ((laws_markIntS.f k t1165 bt1181.1).bind fun bt1183 => (if bt1183.1 < 0 then (laws_FnExactWalkPlain.j0 k l1 t1157 t1168 true a0_0 l0_1) else ((laws_eqIntS.f k t1168 t1157).bind fun t1185 => (laws_FnExactWalkPlain.j0 k l1 t1157 t1168 (!t1185) a0_0 l0_1))))) else (some false)))) else (some false)))) else (some false)))))))))))) = some r := h
  clear h
  by_cases c3 : (l1.length : Int) > 1048576
  ·rw [if_pos c3] at H
   have c3b0 : decide (1048576 < (l1.length : Int)) = true := decide_eq_true c3
   have c3b1 : decide (1048576 < l1.length) = true := decide_eq_true (by omega)
   clear c3
   obtain rfl := Option.some.inj H
   go_enter Try.func18, Try.ntmps18
   go_wp2_with (first | ((with_reducible refine gate_dst (N := 2) rfl ?_); refine bx_ 2 #[.int .i64 a0_0, .slice A0_1 l0_1.length c0_1] 24 ?_; intro gb1148 hg w4 hbox hb; have BK1148 := Aside0.mk (hbox); have GW1148 := Aside0.mk (zs_ hg (ne_ HB.out)); have GE1148 := Aside0.mk (zs_ hg (ne_ HB.out)); replace HB := kB_ HB hb; clear hb hbox hg))
   go_ret
   exact ⟨nw_, ne_ HB.out⟩
  rw [if_neg c3] at H
  have c3b0 : decide (1048576 < (l1.length : Int)) = false := decide_eq_false c3
  have c3b1 : decide (1048576 < l1.length) = false := decide_eq_false (by omega)
  clear c3
  replace H := Option.bind_eq_some_iff.mp H
  obtain ⟨t1149, A50, H⟩ := H
  try dsimp only at H
  have A5 := Aside0.mk A50
  clear A50
  by_cases c6 : t1149 < 0
  ·rw [if_pos c6] at H
   have c6b0 : decide (t1149 < 0) = true := decide_eq_true c6
   clear c6
   obtain rfl := Option.some.inj H
   go_enter Try.func18, Try.ntmps18
   go_wp2_with (first | ((with_reducible refine gate_dst (N := 2) rfl ?_); refine bx_ 2 #[.int .i64 a0_0, .slice A0_1 l0_1.length c0_1] 24 ?_; intro gb1148 hg w7 hbox hb; have BK1148 := Aside0.mk (hbox); have GW1148 := Aside0.mk (zs_ hg (ne_ HB.out)); have GE1148 := Aside0.mk (zs_ hg (ne_ HB.out)); replace HB := kB_ HB hb; clear hb hbox hg; obtain ⟨hcz8_0, hcz8_1, hfz8_0, hfz8_1⟩ := cz2_ BK1148.out) | ((with_reducible refine gate_callee (f := 19) rfl ?_); refine gl_ (some 19) Try.func19 #[.agg #[.int .i64 a0_0, .slice A0_1 l0_1.length c0_1], .int .i64 1048576] ?_; (with_reducible refine (laws_szNet.calls a0_0 _ _ l0_1 1048576 t1149 _ ?side1 ?side2 A5.out).mono ?_); (case side1 => exact nc_ (Kd.C_below HR0_1.out HB.out)); (case side2 => exact HC0_1.out); rintro e w9 ⟨rfl, hb⟩; refine ⟨_, rfl, ?_⟩; replace BK1148 := kb_ BK1148 hb; replace HB := kB_ HB hb; (try clear hb); (try clear hb2); (try clear hk); (try clear hi)))
   go_ret
   exact ⟨nw_, ne_ HB.out⟩
  rw [if_neg c6] at H
  have c6b0 : decide (t1149 < 0) = false := decide_eq_false c6
  clear c6
  replace H := Option.bind_eq_some_iff.mp H
  obtain ⟨⟨t1150, t1151⟩, A100, H⟩ := H
  try dsimp only at H
  have A10 := Aside0.mk A100
  clear A100
  replace H := Option.bind_eq_some_iff.mp H
  obtain ⟨t1154, A110, H⟩ := H
  try dsimp only at H
  have A11 := Aside0.mk A110
  clear A110
  replace H := Option.bind_eq_some_iff.mp H
  obtain ⟨t1157, A120, H⟩ := H
  try dsimp only at H
  have A12 := Aside0.mk A120
  clear A120
  replace H := Option.bind_eq_some_iff.mp H
  obtain ⟨⟨t1160, t1161⟩, A130, H⟩ := H
  try dsimp only at H
  have A13 := Aside0.mk A130
  clear A130
  replace H := Option.bind_eq_some_iff.mp H
  obtain ⟨t1165, A140, H⟩ := H
  try dsimp only at H
  have A14 := Aside0.mk A140
  clear A140
  replace H := Option.bind_eq_some_iff.mp H
  obtain ⟨t1168, A150, H⟩ := H
  try dsimp only at H
  have A15 := Aside0.mk A150
  clear A150
  replace H := Option.bind_eq_some_iff.mp H
  obtain ⟨t1171, A160, H⟩ := H
  try dsimp only at H
  have A16 := Aside0.mk A160
  clear A160
  by_cases c17 : t1171 = true
  rotate_left
  ·replace c17 := Bool.eq_false_iff.mpr c17
   subst c17
   have H1 : (some false) = some r := by rw [if_neg (show ¬ (false = true) by decide)] at H; exact H
   clear H
   have H := H1
   clear H1
   obtain rfl := Option.some.inj H
   go_enter Try.func18, Try.ntmps18
   go_wp2_with (first | ((with_reducible refine gate_dst (N := 2) rfl ?_); refine bx_ 2 #[.int .i64 a0_0, .slice A0_1 l0_1.length c0_1] 24 ?_; intro gb1148 hg w162 hbox hb; have BK1148 := Aside0.mk (hbox); have GW1148 := Aside0.mk (zs_ hg (ne_ HB.out)); have GE1148 := Aside0.mk (zs_ hg (ne_ HB.out)); replace HB := kB_ HB hb; clear hb hbox hg; obtain ⟨hcz163_0, hcz163_1, hfz163_0, hfz163_1⟩ := cz2_ BK1148.out) | ((with_reducible refine gate_callee (f := 19) rfl ?_); refine gl_ (some 19) Try.func19 #[.agg #[.int .i64 a0_0, .slice A0_1 l0_1.length c0_1], .int .i64 1048576] ?_; (with_reducible refine (laws_szNet.calls a0_0 _ _ l0_1 1048576 t1149 _ ?side1 ?side2 A5.out).mono ?_); (case side1 => exact nc_ (Kd.C_below HR0_1.out HB.out)); (case side2 => exact HC0_1.out); rintro e w164 ⟨rfl, hb⟩; refine ⟨_, rfl, ?_⟩; replace BK1148 := kb_ BK1148 hb; replace HB := kB_ HB hb; (try clear hb); (try clear hb2); (try clear hk); (try clear hi); obtain ⟨hcz165_0, hcz165_1, hfz165_0, hfz165_1⟩ := cz2_ BK1148.out) | ((with_reducible refine gate_callee (f := 21) rfl ?_); refine gl_ (some 23) Try.func21 #[.agg #[.int .i64 a0_0, .slice A0_1 l0_1.length c0_1]] ?_; (with_reducible refine (laws_toNet.calls k a0_0 _ _ l0_1 t1150 t1151 _ ?side1 ?side2 A10.out).mono ?_); (case side1 => exact nc_ (Kd.C_below HR0_1.out HB.out)); (case side2 => exact HC0_1.out); rintro e w166 ⟨v1152, rfl, ho0, hb⟩; refine ⟨_, rfl, ?_⟩; have HO1153 := Aside0.mk (Kd.R_lower ho0 (eZ18 (ne_ HB.out))); replace BK1148 := kb_ BK1148 hb; replace HB := kB_ HB hb; (try clear hb); (try clear hb2); (try clear hk); (try clear hi); (try clear ho0)) | ((with_reducible refine gate_callee (f := 45) rfl ?_); refine gl_ (some 25) Try.func45 #[.slice A1 l1.length c1] ?_; (with_reducible refine (laws_toIntS.calls k _ _ l1 t1154 _ ?side1 ?side2 A11.out).mono ?_); (case side1 => exact nc_ (Kd.C_below HR1.out HB.out)); (case side2 => exact HC1.out); rintro e w167 ⟨v1155, rfl, ho0, hb⟩; refine ⟨_, rfl, ?_⟩; have HO1156 := Aside0.mk (Kd.R_lower ho0 (eZ18 (ne_ HB.out))); replace HO1153 := kR_ HO1153 hb; replace BK1148 := kb_ BK1148 hb; replace HB := kB_ HB hb; (try clear hb); (try clear hb2); (try clear hk); (try clear hi); (try clear ho0); obtain ⟨Ao168, co168, eo168⟩ := Kd.R_slice HO1153.out; subst eo168; obtain ⟨Ao169, co169, eo169⟩ := Kd.R_slice HO1156.out; subst eo169) | ((with_reducible refine gate_callee (f := 57) rfl ?_); refine gl_ (some 26) Try.func57 #[.agg #[.int .i64 t1150, .slice Ao168 t1151.length co168], .slice Ao169 t1154.length co169] ?_; (with_reducible refine (spec_WalkPlain.calls k t1150 _ _ t1151 _ _ t1154 t1157 _ ?side1 ?side2 ?side3 ?side4 A12.out).mono ?_); (case side1 => exact nc_ (rR18 HO1153.out).2.2); (case side2 => exact (rR18 HO1153.out).2.1); (case side3 => exact nc_ (rR18 HO1156.out).2.2); (case side4 => exact (rR18 HO1156.out).2.1); rintro e w170 ⟨v1158, rfl, ho0, hb⟩; refine ⟨_, rfl, ?_⟩; have HO1159 := Aside0.mk (Kd.R_lower (Kd.R_new' ho0 (Kd.R_lt (nr_ HO1156.out))) (eZ18 (ne_ HB.out))); replace HO1153 := kR_ HO1153 hb; replace HO1156 := Aside0.mk (Kd.R_elder' (nr_ HO1156.out) (Kd.R_base ho0) hb); replace BK1148 := kb_ BK1148 hb; replace HB := kB_ HB hb; (try clear hb); (try clear hb2); (try clear hk); (try clear hi); (try clear ho0); obtain ⟨hcz171_0, hcz171_1, hfz171_0, hfz171_1⟩ := cz2_ BK1148.out) | ((with_reducible refine gate_callee (f := 21) rfl ?_); refine gl_ (some 28) Try.func21 #[.agg #[.int .i64 a0_0, .slice A0_1 l0_1.length c0_1]] ?_; (with_reducible refine (laws_toNet.calls k a0_0 _ _ l0_1 t1160 t1161 _ ?side1 ?side2 A13.out).mono ?_); (case side1 => exact nc_ (Kd.C_below HR0_1.out HB.out)); (case side2 => exact HC0_1.out); rintro e w172 ⟨v1162, rfl, ho0, hb⟩; refine ⟨_, rfl, ?_⟩; have HO1163 := Aside0.mk (Kd.R_lower (Kd.R_new' ho0 (Kd.R_lt (nr_ HO1153.out))) (eZ18 (ne_ HB.out))); replace HO1153 := Aside0.mk (Kd.R_elder' (nr_ HO1153.out) (Kd.R_base ho0) hb); replace HO1156 := kR_ HO1156 hb; replace HO1159 := kR_ HO1159 hb; replace BK1148 := kb_ BK1148 hb; replace HB := kB_ HB hb; (try clear hb); (try clear hb2); (try clear hk); (try clear hi); (try clear ho0)) | ((with_reducible refine gate_dst (N := 7) rfl ?_); refine bx_ 7 #[.int .i64 0, .slice none 0 0] 29 ?_; intro gb1164 hg w173 hbox hb; have BK1164 := Aside0.mk (hbox); have GW1164 := Aside0.mk (zs_ hg (ne_ HB.out)); have GE1164 := Aside0.mk (zs_ hg (ne_ HB.out)); have NB1148_1164 := Aside0.mk (nl_ BK1148.out hg); have NB1164_1148 := Aside0.mk (nm_ BK1148.out hg); replace HO1153 := kR_ HO1153 hb; replace HO1156 := kR_ HO1156 hb; replace HO1159 := kR_ HO1159 hb; replace HO1163 := kR_ HO1163 hb; replace BK1148 := kb_ BK1148 hb; replace HB := kB_ HB hb; clear hb hbox hg; have hnb174 := NB1164_1148.out; have hnc174 := NB1148_1164.out; obtain ⟨hcz175_0, hcz175_1, hfz175_0, hfz175_1⟩ := cz2_ BK1164.out; obtain ⟨Ao176, co176, eo176⟩ := Kd.R_slice HO1163.out; subst eo176) | ((with_reducible refine gate_callee (f := 45) rfl ?_); refine gl_ (some 30) Try.func45 #[.slice A1 l1.length c1] ?_; (with_reducible refine (laws_toIntS.calls k _ _ l1 t1165 _ ?side1 ?side2 A14.out).mono ?_); (case side1 => exact Kd.C_below HR1.out (ne_ HB.out)); (case side2 => exact HC1.out); rintro e w177 ⟨v1166, rfl, ho0, hb⟩; refine ⟨_, rfl, ?_⟩; have HO1167 := Aside0.mk (Kd.R_lower (Kd.R_new' (Kd.R_new' ho0 (Kd.R_lt (by (with_reducible repeat (first | apply rA18 | apply rN18 | apply rD18)); exact (Kd.R_mono (rf2_ (Kd.R_types HO1156.out BK1164.out (by decide))) (fun _ h_ => h_.1))))) (Kd.R_lt (by (with_reducible repeat (first | apply rA18 | apply rN18 | apply rD18)); exact (Kd.R_mono (rf2_ (Kd.R_types HO1159.out BK1164.out (by decide))) (fun _ h_ => h_.1))))) (eZ18 (ne_ HB.out))); replace HO1153 := Aside0.mk (Kd.R_below (by (with_reducible repeat (first | apply rA18 | apply rN18 | apply rD18)); exact (Kd.R_mono (rf2_ (Kd.R_types HO1153.out BK1164.out (by decide))) (fun _ h_ => h_.1))) hb); replace HO1156 := Aside0.mk (Kd.R_elder' (by (with_reducible repeat (first | apply rA18 | apply rN18 | apply rD18)); exact (Kd.R_mono (rf2_ (Kd.R_types HO1156.out BK1164.out (by decide))) (fun _ h_ => h_.1))) (Kd.R_base ho0) hb); replace HO1159 := Aside0.mk (Kd.R_elder' (by (with_reducible repeat (first | apply rA18 | apply rN18 | apply rD18)); exact (Kd.R_mono (rf2_ (Kd.R_types HO1159.out BK1164.out (by decide))) (fun _ h_ => h_.1))) (Kd.R_base ho0) hb); replace HO1163 := Aside0.mk (Kd.R_below (by (with_reducible repeat (first | apply rA18 | apply rN18 | apply rD18)); exact (Kd.R_mono (rf2_ (Kd.R_types HO1163.out BK1164.out (by decide))) (fun _ h_ => h_.1))) hb); replace BK1148 := kf_ BK1148 hb; replace BK1164 := Aside0.mk (blk_below (g := gb1164) (o := .cells #[.int .i64 t1160, .slice Ao176 t1161.length co176] 29 (0, 0)) (np_ BK1164.out) hb); replace HB := kB_ HB hb; (try clear hb); (try clear hb2); (try clear hk); (try clear hi); (try clear ho0); obtain ⟨hcz178_0, hcz178_1, hfz178_0, hfz178_1⟩ := cz2_ BK1164.out; obtain ⟨Ao179, co179, eo179⟩ := Kd.R_slice HO1167.out; subst eo179) | ((with_reducible refine gate_callee (f := 56) rfl ?_); refine gl_ (some 33) Try.func56 #[.agg #[.int .i64 t1160, .slice Ao176 t1161.length co176], .slice Ao179 t1165.length co179] ?_; (with_reducible refine (impl_WalkPlain.calls k t1160 _ _ t1161 _ _ t1165 t1168 _ ?side1 ?side2 ?side3 ?side4 A15.out).mono ?_); (case side1 => exact nc_ (rR18 HO1163.out).2.2); (case side2 => exact (rR18 HO1163.out).2.1); (case side3 => exact nc_ (rR18 HO1167.out).2.2); (case side4 => exact (rR18 HO1167.out).2.1); rintro e w180 ⟨v1169, rfl, ho0, hb⟩; refine ⟨_, rfl, ?_⟩; have HO1170 := Aside0.mk (Kd.R_lower (Kd.R_new' (Kd.R_new' (Kd.R_new' ho0 (Kd.R_lt (nr_ HO1156.out))) (Kd.R_lt (nr_ HO1159.out))) (Kd.R_lt (nr_ HO1167.out))) (eZ18 (ne_ HB.out))); replace HO1153 := kR_ HO1153 hb; replace HO1156 := Aside0.mk (Kd.R_elder' (nr_ HO1156.out) (Kd.R_base ho0) hb); replace HO1159 := Aside0.mk (Kd.R_elder' (nr_ HO1159.out) (Kd.R_base ho0) hb); replace HO1163 := kR_ HO1163 hb; replace HO1167 := Aside0.mk (Kd.R_elder' (nr_ HO1167.out) (Kd.R_base ho0) hb); replace BK1148 := kb_ BK1148 hb; replace BK1164 := kb_ BK1164 hb; replace HB := kB_ HB hb; (try clear hb); (try clear hb2); (try clear hk); (try clear hi); (try clear ho0); obtain ⟨Ao181, co181, eo181⟩ := Kd.R_slice HO1170.out; subst eo181; obtain ⟨Ao182, co182, eo182⟩ := Kd.R_slice HO1159.out; subst eo182) | ((with_reducible refine gate_callee (f := 32) rfl ?_); refine gl_ (some 36) Try.func32 #[.slice Ao181 t1168.length co181, .slice Ao182 t1157.length co182] ?_; (with_reducible refine (laws_eqIntS.calls k _ _ t1168 _ _ t1157 false _ ?side1 ?side2 ?side3 ?side4 A16.out).mono ?_); (case side1 => exact nc_ (rR18 HO1170.out).2.2); (case side2 => exact (rR18 HO1170.out).2.1); (case side3 => exact nc_ (rR18 HO1159.out).2.2); (case side4 => exact (rR18 HO1159.out).2.1); rintro e w' ⟨rfl, ⟨nd, rfl⟩⟩; refine ⟨_, rfl, ?_⟩))
   go_ret
   exact ⟨nw_, ne_ HB.out⟩

  subst c17
  rw [if_pos rfl] at H
  replace H := Option.bind_eq_some_iff.mp H
  obtain ⟨⟨t1172, t1173⟩, A180, H⟩ := H
  try dsimp only at H
  have A18 := Aside0.mk A180
  clear A180
  replace H := Option.bind_eq_some_iff.mp H
  obtain ⟨t1176, A190, H⟩ := H
  try dsimp only at H
  have A19 := Aside0.mk A190
  clear A190
  by_cases c20 : t1176 = true
  rotate_left
  ·replace c20 := Bool.eq_false_iff.mpr c20
   subst c20
   have H1 : (some false) = some r := by rw [if_neg (show ¬ (false = true) by decide)] at H; exact H
   clear H
   have H := H1
   clear H1
   obtain rfl := Option.some.inj H
   go_enter Try.func18, Try.ntmps18
   try go_wp2_with (first | ((with_reducible refine gate_dst (N := 2) rfl ?_); refine bx_ 2 #[.int .i64 a0_0, .slice A0_1 l0_1.length c0_1] 24 ?_; intro gb1148 hg w137 hbox hb; have BK1148 := Aside0.mk (hbox); have GW1148 := Aside0.mk (zs_ hg (ne_ HB.out)); have GE1148 := Aside0.mk (zs_ hg (ne_ HB.out)); replace HB := kB_ HB hb; clear hb hbox hg; obtain ⟨hcz138_0, hcz138_1, hfz138_0, hfz138_1⟩ := cz2_ BK1148.out) | ((with_reducible refine gate_callee (f := 19) rfl ?_); refine gl_ (some 19) Try.func19 #[.agg #[.int .i64 a0_0, .slice A0_1 l0_1.length c0_1], .int .i64 1048576] ?_; (with_reducible refine (laws_szNet.calls a0_0 _ _ l0_1 1048576 t1149 _ ?side1 ?side2 A5.out).mono ?_); (case side1 => exact nc_ (Kd.C_below HR0_1.out HB.out)); (case side2 => exact HC0_1.out); rintro e w139 ⟨rfl, hb⟩; refine ⟨_, rfl, ?_⟩; replace BK1148 := kb_ BK1148 hb; replace HB := kB_ HB hb; (try clear hb); (try clear hb2); (try clear hk); (try clear hi); obtain ⟨hcz140_0, hcz140_1, hfz140_0, hfz140_1⟩ := cz2_ BK1148.out) | ((with_reducible refine gate_callee (f := 21) rfl ?_); refine gl_ (some 23) Try.func21 #[.agg #[.int .i64 a0_0, .slice A0_1 l0_1.length c0_1]] ?_; (with_reducible refine (laws_toNet.calls k a0_0 _ _ l0_1 t1150 t1151 _ ?side1 ?side2 A10.out).mono ?_); (case side1 => exact nc_ (Kd.C_below HR0_1.out HB.out)); (case side2 => exact HC0_1.out); rintro e w141 ⟨v1152, rfl, ho0, hb⟩; refine ⟨_, rfl, ?_⟩; have HO1153 := Aside0.mk (Kd.R_lower ho0 (eZ18 (ne_ HB.out))); replace BK1148 := kb_ BK1148 hb; replace HB := kB_ HB hb; (try clear hb); (try clear hb2); (try clear hk); (try clear hi); (try clear ho0)) | ((with_reducible refine gate_callee (f := 45) rfl ?_); refine gl_ (some 25) Try.func45 #[.slice A1 l1.length c1] ?_; (with_reducible refine (laws_toIntS.calls k _ _ l1 t1154 _ ?side1 ?side2 A11.out).mono ?_); (case side1 => exact nc_ (Kd.C_below HR1.out HB.out)); (case side2 => exact HC1.out); rintro e w142 ⟨v1155, rfl, ho0, hb⟩; refine ⟨_, rfl, ?_⟩; have HO1156 := Aside0.mk (Kd.R_lower ho0 (eZ18 (ne_ HB.out))); replace HO1153 := kR_ HO1153 hb; replace BK1148 := kb_ BK1148 hb; replace HB := kB_ HB hb; (try clear hb); (try clear hb2); (try clear hk); (try clear hi); (try clear ho0); obtain ⟨Ao143, co143, eo143⟩ := Kd.R_slice HO1153.out; subst eo143; obtain ⟨Ao144, co144, eo144⟩ := Kd.R_slice HO1156.out; subst eo144) | ((with_reducible refine gate_callee (f := 57) rfl ?_); refine gl_ (some 26) Try.func57 #[.agg #[.int .i64 t1150, .slice Ao143 t1151.length co143], .slice Ao144 t1154.length co144] ?_; (with_reducible refine (spec_WalkPlain.calls k t1150 _ _ t1151 _ _ t1154 t1157 _ ?side1 ?side2 ?side3 ?side4 A12.out).mono ?_); (case side1 => exact nc_ (rR18 HO1153.out).2.2); (case side2 => exact (rR18 HO1153.out).2.1); (case side3 => exact nc_ (rR18 HO1156.out).2.2); (case side4 => exact (rR18 HO1156.out).2.1); rintro e w145 ⟨v1158, rfl, ho0, hb⟩; refine ⟨_, rfl, ?_⟩; have HO1159 := Aside0.mk (Kd.R_lower (Kd.R_new' ho0 (Kd.R_lt (nr_ HO1156.out))) (eZ18 (ne_ HB.out))); replace HO1153 := kR_ HO1153 hb; replace HO1156 := Aside0.mk (Kd.R_elder' (nr_ HO1156.out) (Kd.R_base ho0) hb); replace BK1148 := kb_ BK1148 hb; replace HB := kB_ HB hb; (try clear hb); (try clear hb2); (try clear hk); (try clear hi); (try clear ho0); obtain ⟨hcz146_0, hcz146_1, hfz146_0, hfz146_1⟩ := cz2_ BK1148.out) | ((with_reducible refine gate_callee (f := 21) rfl ?_); refine gl_ (some 28) Try.func21 #[.agg #[.int .i64 a0_0, .slice A0_1 l0_1.length c0_1]] ?_; (with_reducible refine (laws_toNet.calls k a0_0 _ _ l0_1 t1160 t1161 _ ?side1 ?side2 A13.out).mono ?_); (case side1 => exact nc_ (Kd.C_below HR0_1.out HB.out)); (case side2 => exact HC0_1.out); rintro e w147 ⟨v1162, rfl, ho0, hb⟩; refine ⟨_, rfl, ?_⟩; have HO1163 := Aside0.mk (Kd.R_lower (Kd.R_new' ho0 (Kd.R_lt (nr_ HO1153.out))) (eZ18 (ne_ HB.out))); replace HO1153 := Aside0.mk (Kd.R_elder' (nr_ HO1153.out) (Kd.R_base ho0) hb); replace HO1156 := kR_ HO1156 hb; replace HO1159 := kR_ HO1159 hb; replace BK1148 := kb_ BK1148 hb; replace HB := kB_ HB hb; (try clear hb); (try clear hb2); (try clear hk); (try clear hi); (try clear ho0)) | ((with_reducible refine gate_dst (N := 7) rfl ?_); refine bx_ 7 #[.int .i64 0, .slice none 0 0] 29 ?_; intro gb1164 hg w148 hbox hb; have BK1164 := Aside0.mk (hbox); have GW1164 := Aside0.mk (zs_ hg (ne_ HB.out)); have GE1164 := Aside0.mk (zs_ hg (ne_ HB.out)); have NB1148_1164 := Aside0.mk (nl_ BK1148.out hg); have NB1164_1148 := Aside0.mk (nm_ BK1148.out hg); replace HO1153 := kR_ HO1153 hb; replace HO1156 := kR_ HO1156 hb; replace HO1159 := kR_ HO1159 hb; replace HO1163 := kR_ HO1163 hb; replace BK1148 := kb_ BK1148 hb; replace HB := kB_ HB hb; clear hb hbox hg; have hnb149 := NB1164_1148.out; have hnc149 := NB1148_1164.out; obtain ⟨hcz150_0, hcz150_1, hfz150_0, hfz150_1⟩ := cz2_ BK1164.out; obtain ⟨Ao151, co151, eo151⟩ := Kd.R_slice HO1163.out; subst eo151) | ((with_reducible refine gate_callee (f := 45) rfl ?_); refine gl_ (some 30) Try.func45 #[.slice A1 l1.length c1] ?_; (with_reducible refine (laws_toIntS.calls k _ _ l1 t1165 _ ?side1 ?side2 A14.out).mono ?_); (case side1 => exact Kd.C_below HR1.out (ne_ HB.out)); (case side2 => exact HC1.out); rintro e w152 ⟨v1166, rfl, ho0, hb⟩; refine ⟨_, rfl, ?_⟩; have HO1167 := Aside0.mk (Kd.R_lower (Kd.R_new' (Kd.R_new' ho0 (Kd.R_lt (by (with_reducible repeat (first | apply rA18 | apply rN18 | apply rD18)); exact (Kd.R_mono (rf2_ (Kd.R_types HO1156.out BK1164.out (by decide))) (fun _ h_ => h_.1))))) (Kd.R_lt (by (with_reducible repeat (first | apply rA18 | apply rN18 | apply rD18)); exact (Kd.R_mono (rf2_ (Kd.R_types HO1159.out BK1164.out (by decide))) (fun _ h_ => h_.1))))) (eZ18 (ne_ HB.out))); replace HO1153 := Aside0.mk (Kd.R_below (by (with_reducible repeat (first | apply rA18 | apply rN18 | apply rD18)); exact (Kd.R_mono (rf2_ (Kd.R_types HO1153.out BK1164.out (by decide))) (fun _ h_ => h_.1))) hb); replace HO1156 := Aside0.mk (Kd.R_elder' (by (with_reducible repeat (first | apply rA18 | apply rN18 | apply rD18)); exact (Kd.R_mono (rf2_ (Kd.R_types HO1156.out BK1164.out (by decide))) (fun _ h_ => h_.1))) (Kd.R_base ho0) hb); replace HO1159 := Aside0.mk (Kd.R_elder' (by (with_reducible repeat (first | apply rA18 | apply rN18 | apply rD18)); exact (Kd.R_mono (rf2_ (Kd.R_types HO1159.out BK1164.out (by decide))) (fun _ h_ => h_.1))) (Kd.R_base ho0) hb); replace HO1163 := Aside0.mk (Kd.R_below (by (with_reducible repeat (first | apply rA18 | apply rN18 | apply rD18)); exact (Kd.R_mono (rf2_ (Kd.R_types HO1163.out BK1164.out (by decide))) (fun _ h_ => h_.1))) hb); replace BK1148 := kf_ BK1148 hb; replace BK1164 := Aside0.mk (blk_below (g := gb1164) (o := .cells #[.int .i64 t1160, .slice Ao151 t1161.length co151] 29 (0, 0)) (np_ BK1164.out) hb); replace HB := kB_ HB hb; (try clear hb); (try clear hb2); (try clear hk); (try clear hi); (try clear ho0); obtain ⟨hcz153_0, hcz153_1, hfz153_0, hfz153_1⟩ := cz2_ BK1164.out; obtain ⟨Ao154, co154, eo154⟩ := Kd.R_slice HO1167.out; subst eo154) | ((with_reducible refine gate_callee (f := 56) rfl ?_); refine gl_ (some 33) Try.func56 #[.agg #[.int .i64 t1160, .slice Ao151 t1161.length co151], .slice Ao154 t1165.length co154] ?_; (with_reducible refine (impl_WalkPlain.calls k t1160 _ _ t1161 _ _ t1165 t1168 _ ?side1 ?side2 ?side3 ?side4 A15.out).mono ?_); (case side1 => exact nc_ (rR18 HO1163.out).2.2); (case side2 => exact (rR18 HO1163.out).2.1); (case side3 => exact nc_ (rR18 HO1167.out).2.2); (case side4 => exact (rR18 HO1167.out).2.1); rintro e w155 ⟨v1169, rfl, ho0, hb⟩; refine ⟨_, rfl, ?_⟩; have HO1170 := Aside0.mk (Kd.R_lower (Kd.R_new' (Kd.R_new' (Kd.R_new' ho0 (Kd.R_lt (nr_ HO1156.out))) (Kd.R_lt (nr_ HO1159.out))) (Kd.R_lt (nr_ HO1167.out))) (eZ18 (ne_ HB.out))); replace HO1153 := kR_ HO1153 hb; replace HO1156 := Aside0.mk (Kd.R_elder' (nr_ HO1156.out) (Kd.R_base ho0) hb); replace HO1159 := Aside0.mk (Kd.R_elder' (nr_ HO1159.out) (Kd.R_base ho0) hb); replace HO1163 := kR_ HO1163 hb; replace HO1167 := Aside0.mk (Kd.R_elder' (nr_ HO1167.out) (Kd.R_base ho0) hb); replace BK1148 := kb_ BK1148 hb; replace BK1164 := kb_ BK1164 hb; replace HB := kB_ HB hb; (try clear hb); (try clear hb2); (try clear hk); (try clear hi); (try clear ho0); obtain ⟨Ao156, co156, eo156⟩ := Kd.R_slice HO1170.out; subst eo156; obtain ⟨Ao157, co157, eo157⟩ := Kd.R_slice HO1159.out; subst eo157) | ((with_reducible refine gate_callee (f := 32) rfl ?_); refine gl_ (some 36) Try.func32 #[.slice Ao156 t1168.length co156, .slice Ao157 t1157.length co157] ?_; (with_reducible refine (laws_eqIntS.calls k _ _ t1168 _ _ t1157 true _ ?side1 ?side2 ?side3 ?side4 A16.out).mono ?_); (case side1 => exact nc_ (rR18 HO1170.out).2.2); (case side2 => exact (rR18 HO1170.out).2.1); (case side3 => exact nc_ (rR18 HO1159.out).2.2); (case side4 => exact (rR18 HO1159.out).2.1); rintro e w' ⟨rfl, ⟨nd, rfl⟩⟩; refine ⟨_, rfl, ?_⟩))
   (first | (rw [drewN_self w155]; generalize hq_ : World.drewN w155 _ = w155; replace HO1153 : Aside0 (Kd.R k37 37 w155 w.heap.size (fun k_ => some k_ ≠ (.slice Ao151 t1161.length co151 : Value).ownBlock) (.slice Ao143 t1151.length co143) t1151) := ⟨by rw [← hq_]; exact (by (with_reducible repeat (first | apply rA18 | apply rN18 | apply rD18)); exact Kd.R_mono HO1153.out (fun _ hk => by first | exact hk.2 | trivial | simp_all))⟩; replace HO1156 : Aside0 (Kd.R (Kd.int .i64) 3 w155 w.heap.size (fun k_ => some k_ ≠ (.slice Ao157 t1157.length co157 : Value).ownBlock ∧ some k_ ≠ (.slice Ao154 t1165.length co154 : Value).ownBlock ∧ some k_ ≠ (.slice Ao156 t1168.length co156 : Value).ownBlock) (.slice Ao144 t1154.length co144) t1154) := ⟨by rw [← hq_]; exact (by (with_reducible repeat (first | apply rA18 | apply rN18 | apply rD18)); exact Kd.R_mono HO1156.out (fun _ hk => by first | exact ⟨hk.1.1.2, ⟨hk.1.2, hk.2⟩⟩ | trivial | simp_all))⟩; replace HO1159 : Aside0 (Kd.R (Kd.int .i64) 3 w155 w.heap.size (fun k_ => some k_ ≠ (.slice Ao144 t1154.length co144 : Value).ownBlock ∧ some k_ ≠ (.slice Ao154 t1165.length co154 : Value).ownBlock ∧ some k_ ≠ (.slice Ao156 t1168.length co156 : Value).ownBlock) (.slice Ao157 t1157.length co157) t1157) := ⟨by rw [← hq_]; exact (by (with_reducible repeat (first | apply rA18 | apply rN18 | apply rD18)); exact Kd.R_mono HO1159.out (fun _ hk => by first | exact ⟨hk.1.1.2, ⟨hk.1.2, hk.2⟩⟩ | trivial | simp_all))⟩; replace HO1163 : Aside0 (Kd.R k37 37 w155 w.heap.size (fun k_ => some k_ ≠ (.slice Ao143 t1151.length co143 : Value).ownBlock) (.slice Ao151 t1161.length co151) t1161) := ⟨by rw [← hq_]; exact (by (with_reducible repeat (first | apply rA18 | apply rN18 | apply rD18)); exact Kd.R_mono HO1163.out (fun _ hk => by first | exact hk.2 | trivial | simp_all))⟩; replace HO1167 : Aside0 (Kd.R (Kd.int .i64) 3 w155 w.heap.size (fun k_ => some k_ ≠ (.slice Ao144 t1154.length co144 : Value).ownBlock ∧ some k_ ≠ (.slice Ao157 t1157.length co157 : Value).ownBlock ∧ some k_ ≠ (.slice Ao156 t1168.length co156 : Value).ownBlock) (.slice Ao154 t1165.length co154) t1165) := ⟨by rw [← hq_]; exact (by (with_reducible repeat (first | apply rA18 | apply rN18 | apply rD18)); exact Kd.R_mono HO1167.out (fun _ hk => by first | exact ⟨hk.1.1.2, ⟨hk.1.2, hk.2⟩⟩ | trivial | simp_all))⟩; replace HO1170 : Aside0 (Kd.R (Kd.int .i64) 3 w155 w.heap.size (fun k_ => some k_ ≠ (.slice Ao144 t1154.length co144 : Value).ownBlock ∧ some k_ ≠ (.slice Ao157 t1157.length co157 : Value).ownBlock ∧ some k_ ≠ (.slice Ao154 t1165.length co154 : Value).ownBlock) (.slice Ao156 t1168.length co156) t1168) := ⟨by rw [← hq_]; exact (by (with_reducible repeat (first | apply rA18 | apply rN18 | apply rD18)); exact Kd.R_mono HO1170.out (fun _ hk => by first | exact ⟨hk.1.1.2, ⟨hk.1.2, hk.2⟩⟩ | trivial | simp_all))⟩; replace BK1148 : Aside0 (w155.heap[gb1148]? = some (.cells #[.int .i64 a0_0, .slice A0_1 l0_1.length c0_1] 24 (0, 0))) := ⟨by rw [← hq_]; exact (nb_ BK1148.out)⟩; replace BK1164 : Aside0 (w155.heap[gb1164]? = some (.cells #[.int .i64 t1160, .slice Ao151 t1161.length co151] 29 (0, 0))) := ⟨by rw [← hq_]; exact (nb_ BK1164.out)⟩; replace HB : Aside0 (Below w.heap.size w w155) := ⟨by rw [← hq_]; exact (ne_ HB.out)⟩; clear hq_) | (have n0_ : Aside0 (Kd.R k37 37 w155 w.heap.size (fun k_ => some k_ ≠ (.slice Ao151 t1161.length co151 : Value).ownBlock) (.slice Ao143 t1151.length co143) t1151) := ⟨(by (with_reducible repeat (first | apply rA18 | apply rN18 | apply rD18)); exact Kd.R_mono HO1153.out (fun _ hk => by first | exact hk.2 | trivial | simp_all))⟩; have n1_ : Aside0 (Kd.R (Kd.int .i64) 3 w155 w.heap.size (fun k_ => some k_ ≠ (.slice Ao157 t1157.length co157 : Value).ownBlock ∧ some k_ ≠ (.slice Ao154 t1165.length co154 : Value).ownBlock ∧ some k_ ≠ (.slice Ao156 t1168.length co156 : Value).ownBlock) (.slice Ao144 t1154.length co144) t1154) := ⟨(by (with_reducible repeat (first | apply rA18 | apply rN18 | apply rD18)); exact Kd.R_mono HO1156.out (fun _ hk => by first | exact ⟨hk.1.1.2, ⟨hk.1.2, hk.2⟩⟩ | trivial | simp_all))⟩; have n2_ : Aside0 (Kd.R (Kd.int .i64) 3 w155 w.heap.size (fun k_ => some k_ ≠ (.slice Ao144 t1154.length co144 : Value).ownBlock ∧ some k_ ≠ (.slice Ao154 t1165.length co154 : Value).ownBlock ∧ some k_ ≠ (.slice Ao156 t1168.length co156 : Value).ownBlock) (.slice Ao157 t1157.length co157) t1157) := ⟨(by (with_reducible repeat (first | apply rA18 | apply rN18 | apply rD18)); exact Kd.R_mono HO1159.out (fun _ hk => by first | exact ⟨hk.1.1.2, ⟨hk.1.2, hk.2⟩⟩ | trivial | simp_all))⟩; have n3_ : Aside0 (Kd.R k37 37 w155 w.heap.size (fun k_ => some k_ ≠ (.slice Ao143 t1151.length co143 : Value).ownBlock) (.slice Ao151 t1161.length co151) t1161) := ⟨(by (with_reducible repeat (first | apply rA18 | apply rN18 | apply rD18)); exact Kd.R_mono HO1163.out (fun _ hk => by first | exact hk.2 | trivial | simp_all))⟩; have n4_ : Aside0 (Kd.R (Kd.int .i64) 3 w155 w.heap.size (fun k_ => some k_ ≠ (.slice Ao144 t1154.length co144 : Value).ownBlock ∧ some k_ ≠ (.slice Ao157 t1157.length co157 : Value).ownBlock ∧ some k_ ≠ (.slice Ao156 t1168.length co156 : Value).ownBlock) (.slice Ao154 t1165.length co154) t1165) := ⟨(by (with_reducible repeat (first | apply rA18 | apply rN18 | apply rD18)); exact Kd.R_mono HO1167.out (fun _ hk => by first | exact ⟨hk.1.1.2, ⟨hk.1.2, hk.2⟩⟩ | trivial | simp_all))⟩; have n5_ : Aside0 (Kd.R (Kd.int .i64) 3 w155 w.heap.size (fun k_ => some k_ ≠ (.slice Ao144 t1154.length co144 : Value).ownBlock ∧ some k_ ≠ (.slice Ao157 t1157.length co157 : Value).ownBlock ∧ some k_ ≠ (.slice Ao154 t1165.length co154 : Value).ownBlock) (.slice Ao156 t1168.length co156) t1168) := ⟨(by (with_reducible repeat (first | apply rA18 | apply rN18 | apply rD18)); exact Kd.R_mono HO1170.out (fun _ hk => by first | exact ⟨hk.1.1.2, ⟨hk.1.2, hk.2⟩⟩ | trivial | simp_all))⟩; have n6_ : Aside0 (w155.heap[gb1148]? = some (.cells #[.int .i64 a0_0, .slice A0_1 l0_1.length c0_1] 24 (0, 0))) := ⟨(nb_ BK1148.out)⟩; have n7_ : Aside0 (w155.heap[gb1164]? = some (.cells #[.int .i64 t1160, .slice Ao151 t1161.length co151] 29 (0, 0))) := ⟨(nb_ BK1164.out)⟩; have n8_ : Aside0 (Below w.heap.size w w155) := ⟨(ne_ HB.out)⟩; clear HO1153 HO1156 HO1159 HO1163 HO1167 HO1170 BK1148 BK1164 HB; have HO1153 := n0_; have HO1156 := n1_; have HO1159 := n2_; have HO1163 := n3_; have HO1167 := n4_; have HO1170 := n5_; have BK1148 := n6_; have BK1164 := n7_; have HB := n8_; clear n0_ n1_ n2_ n3_ n4_ n5_ n6_ n7_ n8_))
   replace HO1153 := Aside0.mk (rD18 HO1153.out)
   replace HO1156 := Aside0.mk (rD18 HO1156.out)
   replace HO1159 := Aside0.mk (rD18 HO1159.out)
   replace HO1163 := Aside0.mk (rD18 HO1163.out)
   replace HO1167 := Aside0.mk (rD18 HO1167.out)
   replace HO1170 := Aside0.mk (rD18 HO1170.out)
   replace BK1148 := Aside0.mk (blk_drew BK1148.out)
   replace BK1164 := Aside0.mk (blk_drew BK1164.out)
   replace HB := Aside0.mk (below_drew1 HB.out)
   refine start_ (n := 5) (S := fun w' => w'.cell? ⟨gb1164, 0, none⟩ = some (.int .i64 t1160) ∧ w'.cell? ⟨gb1164, 1, none⟩ = some (.slice Ao151 t1161.length co151) ∧ w'.cell? ⟨gb1148, 0, none⟩ = some (.int .i64 a0_0) ∧ w'.cell? ⟨gb1148, 1, none⟩ = some (.slice A0_1 l0_1.length c0_1)) (ds := []) #[false, false, false, false, false] (by kernel_rfl) rfl rfl ⟨ct_ BK1164.out 0, ct_ BK1164.out 1, ct_ BK1148.out 0, ct_ BK1148.out 1⟩ (fun hHeld => ?_)
   generalize w155.drew = w158 at HO1153 HO1156 HO1159 HO1163 HO1167 HO1170 BK1148 BK1164 HB hHeld ⊢
   refine take_ (i := 0) (N := some 38) (v := ?_) (a' := ?_) #[true, false, false, false, false] rfl rfl (by kernel_rfl) (fun _ _ _ h => h) (Or.inl ⟨by rfl, ?_⟩) hHeld ?_ ?_
   rotate_left
   ·rintro w' ⟨s0, s1, s2, s3⟩
    go_simp
    with_reducible rfl
   rotate_left
   ·simp only [Act.put, List.setIfInBounds_toArray, List.set_cons_zero, List.set_cons_succ, i64_w, i32_w]
    rfl
   refine take_ (i := 1) (N := some 39) (v := ?_) (a' := ?_) #[true, true, false, false, false] rfl rfl (by kernel_rfl) (fun _ _ _ h => h) (Or.inl ⟨by rfl, ?_⟩) hHeld ?_ ?_
   rotate_left
   ·rintro w' ⟨s0, s1, s2, s3⟩
    go_simp
    with_reducible rfl
   rotate_left
   ·simp only [Act.put, List.setIfInBounds_toArray, List.set_cons_zero, List.set_cons_succ, i64_w, i32_w]
    rfl
   refine one_ (i := 2) (N := some 40) #[true, true, true, false, false] rfl rfl (by kernel_rfl) (by decide) (fun K hK => ?_)
   refine go_ Try.func21 #[.agg #[.int .i64 a0_0, .slice A0_1 l0_1.length c0_1]] ?_
   with_reducible refine (laws_toNet.calls k a0_0 _ _ l0_1 t1172 t1173 _ ?side1 ?side2 A18.out).mono ?_
   (case side1 => exact nc_ (Kd.C_below HR0_1.out HB.out))
   (case side2 => exact HC0_1.out)
   rintro e w159 ⟨v1174, rfl, ho0, hb⟩
   refine ⟨_, rfl, ?_⟩
   replace HO1156 := kR_ HO1156 hb
   replace HO1159 := kR_ HO1159 hb
   replace HO1167 := kR_ HO1167 hb
   replace HO1170 := kR_ HO1170 hb
   have HO1175 := Aside0.mk (Kd.R_lower (Kd.R_new' (Kd.R_new' ho0 (Kd.R_lt (nr_ HO1153.out))) (Kd.R_lt (nr_ HO1163.out))) (eZ18 (ne_ HB.out)))
   replace HO1153 := Aside0.mk (Kd.R_elder' (nr_ HO1153.out) (Kd.R_base ho0) hb)
   replace HO1163 := Aside0.mk (Kd.R_elder' (nr_ HO1163.out) (Kd.R_base ho0) hb)
   replace BK1148 := kb_ BK1148 hb
   replace BK1164 := kb_ BK1164 hb
   replace HB := kB_ HB hb
   (try clear hb)
   (try clear hb2)
   (try clear hk)
   (try clear hi)
   (try clear ho0)
   obtain ⟨Ao160, co160, eo160⟩ := Kd.R_slice HO1175.out
   (first | subst eo160 | (injection eo160 with f1_ f2_ f3_; have f4_ := f1_.symm; have f5_ := f3_.symm; clear f1_ f2_ f3_; subst f4_; subst f5_))
   refine hK.out _ _ ⟨ct_ BK1164.out 0, ct_ BK1164.out 1, ct_ BK1148.out 0, ct_ BK1148.out 1⟩ (fun hHeld => ?_)
   clear hK K
   refine nm1_ (some 40) ?_
   refine one_ (i := 3) (N := some 41) #[true, true, true, true, false] rfl rfl (by kernel_rfl) (by decide) (fun K hK => ?_)
   refine go_ Try.func23 #[.agg #[.int .i64 t1160, .slice Ao151 t1161.length co151], .agg #[.int .i64 t1172, .slice Ao160 t1173.length co160]] ?_
   with_reducible refine (laws_eqNet.calls k t1160 _ _ t1161 t1172 _ _ t1173 false _ ?side1 ?side2 ?side3 ?side4 A19.out).mono ?_
   (case side1 => exact nc_ (rR18 HO1163.out).2.2)
   (case side2 => exact (rR18 HO1163.out).2.1)
   (case side3 => exact nc_ (rR18 HO1175.out).2.2)
   (case side4 => exact (rR18 HO1175.out).2.1)
   rintro e w161 ⟨rfl, hb⟩
   refine ⟨_, rfl, ?_⟩
   replace HO1153 := kR_ HO1153 hb
   replace HO1156 := kR_ HO1156 hb
   replace HO1159 := kR_ HO1159 hb
   replace HO1163 := kR_ HO1163 hb
   replace HO1167 := kR_ HO1167 hb
   replace HO1170 := kR_ HO1170 hb
   replace HO1175 := kR_ HO1175 hb
   replace BK1148 := kb_ BK1148 hb
   replace BK1164 := kb_ BK1164 hb
   replace HB := kB_ HB hb
   (try clear hb)
   (try clear hb2)
   (try clear hk)
   (try clear hi)
   refine hK.out _ _ ⟨ct_ BK1164.out 0, ct_ BK1164.out 1, ct_ BK1148.out 0, ct_ BK1148.out 1⟩ (fun hHeld => ?_)
   clear hK K
   refine nm1_ (some 41) ?_
   refine pure_ (i := 4) (N := some 42) (v := ?_) (a' := ?_) #[true, true, true, true, true] rfl rfl (by kernel_rfl) (fun _ _ _ h => h) (Or.inl ⟨by rfl, ?_⟩) ?_ ?_
   rotate_left
   ·intro w'
    go_simp
    with_reducible rfl
   rotate_left
   ·simp only [Act.put, List.setIfInBounds_toArray, List.set_cons_zero, List.set_cons_succ, i64_w, i32_w]
    rfl
   refine done_ (by kernel_rfl) ?_
   try go_wp2
   go_ret
   exact ⟨nw_, ne_ HB.out⟩
  subst c20
  rw [if_pos rfl] at H
  replace H := Option.bind_eq_some_iff.mp H
  obtain ⟨t1177, A210, H⟩ := H
  try dsimp only at H
  have A21 := Aside0.mk A210
  clear A210
  replace H := Option.bind_eq_some_iff.mp H
  obtain ⟨t1180, A220, H⟩ := H
  try dsimp only at H
  have A22 := Aside0.mk A220
  clear A220
  by_cases c23 : t1180 = true
  rotate_left
  ·replace c23 := Bool.eq_false_iff.mpr c23
   subst c23
   have H1 : (some false) = some r := by rw [if_neg (show ¬ (false = true) by decide)] at H; exact H
   clear H
   have H := H1
   clear H1
   obtain rfl := Option.some.inj H
   go_enter Try.func18, Try.ntmps18
   try go_wp2_with (first | ((with_reducible refine gate_dst (N := 2) rfl ?_); refine bx_ 2 #[.int .i64 a0_0, .slice A0_1 l0_1.length c0_1] 24 ?_; intro gb1148 hg w110 hbox hb; have BK1148 := Aside0.mk (hbox); have GW1148 := Aside0.mk (zs_ hg (ne_ HB.out)); have GE1148 := Aside0.mk (zs_ hg (ne_ HB.out)); replace HB := kB_ HB hb; clear hb hbox hg; obtain ⟨hcz111_0, hcz111_1, hfz111_0, hfz111_1⟩ := cz2_ BK1148.out) | ((with_reducible refine gate_callee (f := 19) rfl ?_); refine gl_ (some 19) Try.func19 #[.agg #[.int .i64 a0_0, .slice A0_1 l0_1.length c0_1], .int .i64 1048576] ?_; (with_reducible refine (laws_szNet.calls a0_0 _ _ l0_1 1048576 t1149 _ ?side1 ?side2 A5.out).mono ?_); (case side1 => exact nc_ (Kd.C_below HR0_1.out HB.out)); (case side2 => exact HC0_1.out); rintro e w112 ⟨rfl, hb⟩; refine ⟨_, rfl, ?_⟩; replace BK1148 := kb_ BK1148 hb; replace HB := kB_ HB hb; (try clear hb); (try clear hb2); (try clear hk); (try clear hi); obtain ⟨hcz113_0, hcz113_1, hfz113_0, hfz113_1⟩ := cz2_ BK1148.out) | ((with_reducible refine gate_callee (f := 21) rfl ?_); refine gl_ (some 23) Try.func21 #[.agg #[.int .i64 a0_0, .slice A0_1 l0_1.length c0_1]] ?_; (with_reducible refine (laws_toNet.calls k a0_0 _ _ l0_1 t1150 t1151 _ ?side1 ?side2 A10.out).mono ?_); (case side1 => exact nc_ (Kd.C_below HR0_1.out HB.out)); (case side2 => exact HC0_1.out); rintro e w114 ⟨v1152, rfl, ho0, hb⟩; refine ⟨_, rfl, ?_⟩; have HO1153 := Aside0.mk (Kd.R_lower ho0 (eZ18 (ne_ HB.out))); replace BK1148 := kb_ BK1148 hb; replace HB := kB_ HB hb; (try clear hb); (try clear hb2); (try clear hk); (try clear hi); (try clear ho0)) | ((with_reducible refine gate_callee (f := 45) rfl ?_); refine gl_ (some 25) Try.func45 #[.slice A1 l1.length c1] ?_; (with_reducible refine (laws_toIntS.calls k _ _ l1 t1154 _ ?side1 ?side2 A11.out).mono ?_); (case side1 => exact nc_ (Kd.C_below HR1.out HB.out)); (case side2 => exact HC1.out); rintro e w115 ⟨v1155, rfl, ho0, hb⟩; refine ⟨_, rfl, ?_⟩; have HO1156 := Aside0.mk (Kd.R_lower ho0 (eZ18 (ne_ HB.out))); replace HO1153 := kR_ HO1153 hb; replace BK1148 := kb_ BK1148 hb; replace HB := kB_ HB hb; (try clear hb); (try clear hb2); (try clear hk); (try clear hi); (try clear ho0); obtain ⟨Ao116, co116, eo116⟩ := Kd.R_slice HO1153.out; subst eo116; obtain ⟨Ao117, co117, eo117⟩ := Kd.R_slice HO1156.out; subst eo117) | ((with_reducible refine gate_callee (f := 57) rfl ?_); refine gl_ (some 26) Try.func57 #[.agg #[.int .i64 t1150, .slice Ao116 t1151.length co116], .slice Ao117 t1154.length co117] ?_; (with_reducible refine (spec_WalkPlain.calls k t1150 _ _ t1151 _ _ t1154 t1157 _ ?side1 ?side2 ?side3 ?side4 A12.out).mono ?_); (case side1 => exact nc_ (rR18 HO1153.out).2.2); (case side2 => exact (rR18 HO1153.out).2.1); (case side3 => exact nc_ (rR18 HO1156.out).2.2); (case side4 => exact (rR18 HO1156.out).2.1); rintro e w118 ⟨v1158, rfl, ho0, hb⟩; refine ⟨_, rfl, ?_⟩; have HO1159 := Aside0.mk (Kd.R_lower (Kd.R_new' ho0 (Kd.R_lt (nr_ HO1156.out))) (eZ18 (ne_ HB.out))); replace HO1153 := kR_ HO1153 hb; replace HO1156 := Aside0.mk (Kd.R_elder' (nr_ HO1156.out) (Kd.R_base ho0) hb); replace BK1148 := kb_ BK1148 hb; replace HB := kB_ HB hb; (try clear hb); (try clear hb2); (try clear hk); (try clear hi); (try clear ho0); obtain ⟨hcz119_0, hcz119_1, hfz119_0, hfz119_1⟩ := cz2_ BK1148.out) | ((with_reducible refine gate_callee (f := 21) rfl ?_); refine gl_ (some 28) Try.func21 #[.agg #[.int .i64 a0_0, .slice A0_1 l0_1.length c0_1]] ?_; (with_reducible refine (laws_toNet.calls k a0_0 _ _ l0_1 t1160 t1161 _ ?side1 ?side2 A13.out).mono ?_); (case side1 => exact nc_ (Kd.C_below HR0_1.out HB.out)); (case side2 => exact HC0_1.out); rintro e w120 ⟨v1162, rfl, ho0, hb⟩; refine ⟨_, rfl, ?_⟩; have HO1163 := Aside0.mk (Kd.R_lower (Kd.R_new' ho0 (Kd.R_lt (nr_ HO1153.out))) (eZ18 (ne_ HB.out))); replace HO1153 := Aside0.mk (Kd.R_elder' (nr_ HO1153.out) (Kd.R_base ho0) hb); replace HO1156 := kR_ HO1156 hb; replace HO1159 := kR_ HO1159 hb; replace BK1148 := kb_ BK1148 hb; replace HB := kB_ HB hb; (try clear hb); (try clear hb2); (try clear hk); (try clear hi); (try clear ho0)) | ((with_reducible refine gate_dst (N := 7) rfl ?_); refine bx_ 7 #[.int .i64 0, .slice none 0 0] 29 ?_; intro gb1164 hg w121 hbox hb; have BK1164 := Aside0.mk (hbox); have GW1164 := Aside0.mk (zs_ hg (ne_ HB.out)); have GE1164 := Aside0.mk (zs_ hg (ne_ HB.out)); have NB1148_1164 := Aside0.mk (nl_ BK1148.out hg); have NB1164_1148 := Aside0.mk (nm_ BK1148.out hg); replace HO1153 := kR_ HO1153 hb; replace HO1156 := kR_ HO1156 hb; replace HO1159 := kR_ HO1159 hb; replace HO1163 := kR_ HO1163 hb; replace BK1148 := kb_ BK1148 hb; replace HB := kB_ HB hb; clear hb hbox hg; have hnb122 := NB1164_1148.out; have hnc122 := NB1148_1164.out; obtain ⟨hcz123_0, hcz123_1, hfz123_0, hfz123_1⟩ := cz2_ BK1164.out; obtain ⟨Ao124, co124, eo124⟩ := Kd.R_slice HO1163.out; subst eo124) | ((with_reducible refine gate_callee (f := 45) rfl ?_); refine gl_ (some 30) Try.func45 #[.slice A1 l1.length c1] ?_; (with_reducible refine (laws_toIntS.calls k _ _ l1 t1165 _ ?side1 ?side2 A14.out).mono ?_); (case side1 => exact Kd.C_below HR1.out (ne_ HB.out)); (case side2 => exact HC1.out); rintro e w125 ⟨v1166, rfl, ho0, hb⟩; refine ⟨_, rfl, ?_⟩; have HO1167 := Aside0.mk (Kd.R_lower (Kd.R_new' (Kd.R_new' ho0 (Kd.R_lt (by (with_reducible repeat (first | apply rA18 | apply rN18 | apply rD18)); exact (Kd.R_mono (rf2_ (Kd.R_types HO1156.out BK1164.out (by decide))) (fun _ h_ => h_.1))))) (Kd.R_lt (by (with_reducible repeat (first | apply rA18 | apply rN18 | apply rD18)); exact (Kd.R_mono (rf2_ (Kd.R_types HO1159.out BK1164.out (by decide))) (fun _ h_ => h_.1))))) (eZ18 (ne_ HB.out))); replace HO1153 := Aside0.mk (Kd.R_below (by (with_reducible repeat (first | apply rA18 | apply rN18 | apply rD18)); exact (Kd.R_mono (rf2_ (Kd.R_types HO1153.out BK1164.out (by decide))) (fun _ h_ => h_.1))) hb); replace HO1156 := Aside0.mk (Kd.R_elder' (by (with_reducible repeat (first | apply rA18 | apply rN18 | apply rD18)); exact (Kd.R_mono (rf2_ (Kd.R_types HO1156.out BK1164.out (by decide))) (fun _ h_ => h_.1))) (Kd.R_base ho0) hb); replace HO1159 := Aside0.mk (Kd.R_elder' (by (with_reducible repeat (first | apply rA18 | apply rN18 | apply rD18)); exact (Kd.R_mono (rf2_ (Kd.R_types HO1159.out BK1164.out (by decide))) (fun _ h_ => h_.1))) (Kd.R_base ho0) hb); replace HO1163 := Aside0.mk (Kd.R_below (by (with_reducible repeat (first | apply rA18 | apply rN18 | apply rD18)); exact (Kd.R_mono (rf2_ (Kd.R_types HO1163.out BK1164.out (by decide))) (fun _ h_ => h_.1))) hb); replace BK1148 := kf_ BK1148 hb; replace BK1164 := Aside0.mk (blk_below (g := gb1164) (o := .cells #[.int .i64 t1160, .slice Ao124 t1161.length co124] 29 (0, 0)) (np_ BK1164.out) hb); replace HB := kB_ HB hb; (try clear hb); (try clear hb2); (try clear hk); (try clear hi); (try clear ho0); obtain ⟨hcz126_0, hcz126_1, hfz126_0, hfz126_1⟩ := cz2_ BK1164.out; obtain ⟨Ao127, co127, eo127⟩ := Kd.R_slice HO1167.out; subst eo127) | ((with_reducible refine gate_callee (f := 56) rfl ?_); refine gl_ (some 33) Try.func56 #[.agg #[.int .i64 t1160, .slice Ao124 t1161.length co124], .slice Ao127 t1165.length co127] ?_; (with_reducible refine (impl_WalkPlain.calls k t1160 _ _ t1161 _ _ t1165 t1168 _ ?side1 ?side2 ?side3 ?side4 A15.out).mono ?_); (case side1 => exact nc_ (rR18 HO1163.out).2.2); (case side2 => exact (rR18 HO1163.out).2.1); (case side3 => exact nc_ (rR18 HO1167.out).2.2); (case side4 => exact (rR18 HO1167.out).2.1); rintro e w128 ⟨v1169, rfl, ho0, hb⟩; refine ⟨_, rfl, ?_⟩; have HO1170 := Aside0.mk (Kd.R_lower (Kd.R_new' (Kd.R_new' (Kd.R_new' ho0 (Kd.R_lt (nr_ HO1156.out))) (Kd.R_lt (nr_ HO1159.out))) (Kd.R_lt (nr_ HO1167.out))) (eZ18 (ne_ HB.out))); replace HO1153 := kR_ HO1153 hb; replace HO1156 := Aside0.mk (Kd.R_elder' (nr_ HO1156.out) (Kd.R_base ho0) hb); replace HO1159 := Aside0.mk (Kd.R_elder' (nr_ HO1159.out) (Kd.R_base ho0) hb); replace HO1163 := kR_ HO1163 hb; replace HO1167 := Aside0.mk (Kd.R_elder' (nr_ HO1167.out) (Kd.R_base ho0) hb); replace BK1148 := kb_ BK1148 hb; replace BK1164 := kb_ BK1164 hb; replace HB := kB_ HB hb; (try clear hb); (try clear hb2); (try clear hk); (try clear hi); (try clear ho0); obtain ⟨Ao129, co129, eo129⟩ := Kd.R_slice HO1170.out; subst eo129; obtain ⟨Ao130, co130, eo130⟩ := Kd.R_slice HO1159.out; subst eo130) | ((with_reducible refine gate_callee (f := 32) rfl ?_); refine gl_ (some 36) Try.func32 #[.slice Ao129 t1168.length co129, .slice Ao130 t1157.length co130] ?_; (with_reducible refine (laws_eqIntS.calls k _ _ t1168 _ _ t1157 true _ ?side1 ?side2 ?side3 ?side4 A16.out).mono ?_); (case side1 => exact nc_ (rR18 HO1170.out).2.2); (case side2 => exact (rR18 HO1170.out).2.1); (case side3 => exact nc_ (rR18 HO1159.out).2.2); (case side4 => exact (rR18 HO1159.out).2.1); rintro e w' ⟨rfl, ⟨nd, rfl⟩⟩; refine ⟨_, rfl, ?_⟩))
   (first | (rw [drewN_self w128]; generalize hq_ : World.drewN w128 _ = w128; replace HO1153 : Aside0 (Kd.R k37 37 w128 w.heap.size (fun k_ => some k_ ≠ (.slice Ao124 t1161.length co124 : Value).ownBlock) (.slice Ao116 t1151.length co116) t1151) := ⟨by rw [← hq_]; exact (by (with_reducible repeat (first | apply rA18 | apply rN18 | apply rD18)); exact Kd.R_mono HO1153.out (fun _ hk => by first | exact hk.2 | trivial | simp_all))⟩; replace HO1156 : Aside0 (Kd.R (Kd.int .i64) 3 w128 w.heap.size (fun k_ => some k_ ≠ (.slice Ao130 t1157.length co130 : Value).ownBlock ∧ some k_ ≠ (.slice Ao127 t1165.length co127 : Value).ownBlock ∧ some k_ ≠ (.slice Ao129 t1168.length co129 : Value).ownBlock) (.slice Ao117 t1154.length co117) t1154) := ⟨by rw [← hq_]; exact (by (with_reducible repeat (first | apply rA18 | apply rN18 | apply rD18)); exact Kd.R_mono HO1156.out (fun _ hk => by first | exact ⟨hk.1.1.2, ⟨hk.1.2, hk.2⟩⟩ | trivial | simp_all))⟩; replace HO1159 : Aside0 (Kd.R (Kd.int .i64) 3 w128 w.heap.size (fun k_ => some k_ ≠ (.slice Ao117 t1154.length co117 : Value).ownBlock ∧ some k_ ≠ (.slice Ao127 t1165.length co127 : Value).ownBlock ∧ some k_ ≠ (.slice Ao129 t1168.length co129 : Value).ownBlock) (.slice Ao130 t1157.length co130) t1157) := ⟨by rw [← hq_]; exact (by (with_reducible repeat (first | apply rA18 | apply rN18 | apply rD18)); exact Kd.R_mono HO1159.out (fun _ hk => by first | exact ⟨hk.1.1.2, ⟨hk.1.2, hk.2⟩⟩ | trivial | simp_all))⟩; replace HO1163 : Aside0 (Kd.R k37 37 w128 w.heap.size (fun k_ => some k_ ≠ (.slice Ao116 t1151.length co116 : Value).ownBlock) (.slice Ao124 t1161.length co124) t1161) := ⟨by rw [← hq_]; exact (by (with_reducible repeat (first | apply rA18 | apply rN18 | apply rD18)); exact Kd.R_mono HO1163.out (fun _ hk => by first | exact hk.2 | trivial | simp_all))⟩; replace HO1167 : Aside0 (Kd.R (Kd.int .i64) 3 w128 w.heap.size (fun k_ => some k_ ≠ (.slice Ao117 t1154.length co117 : Value).ownBlock ∧ some k_ ≠ (.slice Ao130 t1157.length co130 : Value).ownBlock ∧ some k_ ≠ (.slice Ao129 t1168.length co129 : Value).ownBlock) (.slice Ao127 t1165.length co127) t1165) := ⟨by rw [← hq_]; exact (by (with_reducible repeat (first | apply rA18 | apply rN18 | apply rD18)); exact Kd.R_mono HO1167.out (fun _ hk => by first | exact ⟨hk.1.1.2, ⟨hk.1.2, hk.2⟩⟩ | trivial | simp_all))⟩; replace HO1170 : Aside0 (Kd.R (Kd.int .i64) 3 w128 w.heap.size (fun k_ => some k_ ≠ (.slice Ao117 t1154.length co117 : Value).ownBlock ∧ some k_ ≠ (.slice Ao130 t1157.length co130 : Value).ownBlock ∧ some k_ ≠ (.slice Ao127 t1165.length co127 : Value).ownBlock) (.slice Ao129 t1168.length co129) t1168) := ⟨by rw [← hq_]; exact (by (with_reducible repeat (first | apply rA18 | apply rN18 | apply rD18)); exact Kd.R_mono HO1170.out (fun _ hk => by first | exact ⟨hk.1.1.2, ⟨hk.1.2, hk.2⟩⟩ | trivial | simp_all))⟩; replace BK1148 : Aside0 (w128.heap[gb1148]? = some (.cells #[.int .i64 a0_0, .slice A0_1 l0_1.length c0_1] 24 (0, 0))) := ⟨by rw [← hq_]; exact (nb_ BK1148.out)⟩; replace BK1164 : Aside0 (w128.heap[gb1164]? = some (.cells #[.int .i64 t1160, .slice Ao124 t1161.length co124] 29 (0, 0))) := ⟨by rw [← hq_]; exact (nb_ BK1164.out)⟩; replace HB : Aside0 (Below w.heap.size w w128) := ⟨by rw [← hq_]; exact (ne_ HB.out)⟩; clear hq_) | (have n0_ : Aside0 (Kd.R k37 37 w128 w.heap.size (fun k_ => some k_ ≠ (.slice Ao124 t1161.length co124 : Value).ownBlock) (.slice Ao116 t1151.length co116) t1151) := ⟨(by (with_reducible repeat (first | apply rA18 | apply rN18 | apply rD18)); exact Kd.R_mono HO1153.out (fun _ hk => by first | exact hk.2 | trivial | simp_all))⟩; have n1_ : Aside0 (Kd.R (Kd.int .i64) 3 w128 w.heap.size (fun k_ => some k_ ≠ (.slice Ao130 t1157.length co130 : Value).ownBlock ∧ some k_ ≠ (.slice Ao127 t1165.length co127 : Value).ownBlock ∧ some k_ ≠ (.slice Ao129 t1168.length co129 : Value).ownBlock) (.slice Ao117 t1154.length co117) t1154) := ⟨(by (with_reducible repeat (first | apply rA18 | apply rN18 | apply rD18)); exact Kd.R_mono HO1156.out (fun _ hk => by first | exact ⟨hk.1.1.2, ⟨hk.1.2, hk.2⟩⟩ | trivial | simp_all))⟩; have n2_ : Aside0 (Kd.R (Kd.int .i64) 3 w128 w.heap.size (fun k_ => some k_ ≠ (.slice Ao117 t1154.length co117 : Value).ownBlock ∧ some k_ ≠ (.slice Ao127 t1165.length co127 : Value).ownBlock ∧ some k_ ≠ (.slice Ao129 t1168.length co129 : Value).ownBlock) (.slice Ao130 t1157.length co130) t1157) := ⟨(by (with_reducible repeat (first | apply rA18 | apply rN18 | apply rD18)); exact Kd.R_mono HO1159.out (fun _ hk => by first | exact ⟨hk.1.1.2, ⟨hk.1.2, hk.2⟩⟩ | trivial | simp_all))⟩; have n3_ : Aside0 (Kd.R k37 37 w128 w.heap.size (fun k_ => some k_ ≠ (.slice Ao116 t1151.length co116 : Value).ownBlock) (.slice Ao124 t1161.length co124) t1161) := ⟨(by (with_reducible repeat (first | apply rA18 | apply rN18 | apply rD18)); exact Kd.R_mono HO1163.out (fun _ hk => by first | exact hk.2 | trivial | simp_all))⟩; have n4_ : Aside0 (Kd.R (Kd.int .i64) 3 w128 w.heap.size (fun k_ => some k_ ≠ (.slice Ao117 t1154.length co117 : Value).ownBlock ∧ some k_ ≠ (.slice Ao130 t1157.length co130 : Value).ownBlock ∧ some k_ ≠ (.slice Ao129 t1168.length co129 : Value).ownBlock) (.slice Ao127 t1165.length co127) t1165) := ⟨(by (with_reducible repeat (first | apply rA18 | apply rN18 | apply rD18)); exact Kd.R_mono HO1167.out (fun _ hk => by first | exact ⟨hk.1.1.2, ⟨hk.1.2, hk.2⟩⟩ | trivial | simp_all))⟩; have n5_ : Aside0 (Kd.R (Kd.int .i64) 3 w128 w.heap.size (fun k_ => some k_ ≠ (.slice Ao117 t1154.length co117 : Value).ownBlock ∧ some k_ ≠ (.slice Ao130 t1157.length co130 : Value).ownBlock ∧ some k_ ≠ (.slice Ao127 t1165.length co127 : Value).ownBlock) (.slice Ao129 t1168.length co129) t1168) := ⟨(by (with_reducible repeat (first | apply rA18 | apply rN18 | apply rD18)); exact Kd.R_mono HO1170.out (fun _ hk => by first | exact ⟨hk.1.1.2, ⟨hk.1.2, hk.2⟩⟩ | trivial | simp_all))⟩; have n6_ : Aside0 (w128.heap[gb1148]? = some (.cells #[.int .i64 a0_0, .slice A0_1 l0_1.length c0_1] 24 (0, 0))) := ⟨(nb_ BK1148.out)⟩; have n7_ : Aside0 (w128.heap[gb1164]? = some (.cells #[.int .i64 t1160, .slice Ao124 t1161.length co124] 29 (0, 0))) := ⟨(nb_ BK1164.out)⟩; have n8_ : Aside0 (Below w.heap.size w w128) := ⟨(ne_ HB.out)⟩; clear HO1153 HO1156 HO1159 HO1163 HO1167 HO1170 BK1148 BK1164 HB; have HO1153 := n0_; have HO1156 := n1_; have HO1159 := n2_; have HO1163 := n3_; have HO1167 := n4_; have HO1170 := n5_; have BK1148 := n6_; have BK1164 := n7_; have HB := n8_; clear n0_ n1_ n2_ n3_ n4_ n5_ n6_ n7_ n8_))
   replace HO1153 := Aside0.mk (rD18 HO1153.out)
   replace HO1156 := Aside0.mk (rD18 HO1156.out)
   replace HO1159 := Aside0.mk (rD18 HO1159.out)
   replace HO1163 := Aside0.mk (rD18 HO1163.out)
   replace HO1167 := Aside0.mk (rD18 HO1167.out)
   replace HO1170 := Aside0.mk (rD18 HO1170.out)
   replace BK1148 := Aside0.mk (blk_drew BK1148.out)
   replace BK1164 := Aside0.mk (blk_drew BK1164.out)
   replace HB := Aside0.mk (below_drew1 HB.out)
   refine start_ (n := 5) (S := fun w' => w'.cell? ⟨gb1164, 0, none⟩ = some (.int .i64 t1160) ∧ w'.cell? ⟨gb1164, 1, none⟩ = some (.slice Ao124 t1161.length co124) ∧ w'.cell? ⟨gb1148, 0, none⟩ = some (.int .i64 a0_0) ∧ w'.cell? ⟨gb1148, 1, none⟩ = some (.slice A0_1 l0_1.length c0_1)) (ds := []) #[false, false, false, false, false] (by kernel_rfl) rfl rfl ⟨ct_ BK1164.out 0, ct_ BK1164.out 1, ct_ BK1148.out 0, ct_ BK1148.out 1⟩ (fun hHeld => ?_)
   generalize w128.drew = w131 at HO1153 HO1156 HO1159 HO1163 HO1167 HO1170 BK1148 BK1164 HB hHeld ⊢
   refine take_ (i := 0) (N := some 38) (v := ?_) (a' := ?_) #[true, false, false, false, false] rfl rfl (by kernel_rfl) (fun _ _ _ h => h) (Or.inl ⟨by rfl, ?_⟩) hHeld ?_ ?_
   rotate_left
   ·rintro w' ⟨s0, s1, s2, s3⟩
    go_simp
    with_reducible rfl
   rotate_left
   ·simp only [Act.put, List.setIfInBounds_toArray, List.set_cons_zero, List.set_cons_succ, i64_w, i32_w]
    rfl
   refine take_ (i := 1) (N := some 39) (v := ?_) (a' := ?_) #[true, true, false, false, false] rfl rfl (by kernel_rfl) (fun _ _ _ h => h) (Or.inl ⟨by rfl, ?_⟩) hHeld ?_ ?_
   rotate_left
   ·rintro w' ⟨s0, s1, s2, s3⟩
    go_simp
    with_reducible rfl
   rotate_left
   ·simp only [Act.put, List.setIfInBounds_toArray, List.set_cons_zero, List.set_cons_succ, i64_w, i32_w]
    rfl
   refine one_ (i := 2) (N := some 40) #[true, true, true, false, false] rfl rfl (by kernel_rfl) (by decide) (fun K hK => ?_)
   refine go_ Try.func21 #[.agg #[.int .i64 a0_0, .slice A0_1 l0_1.length c0_1]] ?_
   with_reducible refine (laws_toNet.calls k a0_0 _ _ l0_1 t1172 t1173 _ ?side1 ?side2 A18.out).mono ?_
   (case side1 => exact nc_ (Kd.C_below HR0_1.out HB.out))
   (case side2 => exact HC0_1.out)
   rintro e w132 ⟨v1174, rfl, ho0, hb⟩
   refine ⟨_, rfl, ?_⟩
   replace HO1156 := kR_ HO1156 hb
   replace HO1159 := kR_ HO1159 hb
   replace HO1167 := kR_ HO1167 hb
   replace HO1170 := kR_ HO1170 hb
   have HO1175 := Aside0.mk (Kd.R_lower (Kd.R_new' (Kd.R_new' ho0 (Kd.R_lt (nr_ HO1153.out))) (Kd.R_lt (nr_ HO1163.out))) (eZ18 (ne_ HB.out)))
   replace HO1153 := Aside0.mk (Kd.R_elder' (nr_ HO1153.out) (Kd.R_base ho0) hb)
   replace HO1163 := Aside0.mk (Kd.R_elder' (nr_ HO1163.out) (Kd.R_base ho0) hb)
   replace BK1148 := kb_ BK1148 hb
   replace BK1164 := kb_ BK1164 hb
   replace HB := kB_ HB hb
   (try clear hb)
   (try clear hb2)
   (try clear hk)
   (try clear hi)
   (try clear ho0)
   obtain ⟨Ao133, co133, eo133⟩ := Kd.R_slice HO1175.out
   (first | subst eo133 | (injection eo133 with f1_ f2_ f3_; have f4_ := f1_.symm; have f5_ := f3_.symm; clear f1_ f2_ f3_; subst f4_; subst f5_))
   refine hK.out _ _ ⟨ct_ BK1164.out 0, ct_ BK1164.out 1, ct_ BK1148.out 0, ct_ BK1148.out 1⟩ (fun hHeld => ?_)
   clear hK K
   refine nm1_ (some 40) ?_
   refine one_ (i := 3) (N := some 41) #[true, true, true, true, false] rfl rfl (by kernel_rfl) (by decide) (fun K hK => ?_)
   refine go_ Try.func23 #[.agg #[.int .i64 t1160, .slice Ao124 t1161.length co124], .agg #[.int .i64 t1172, .slice Ao133 t1173.length co133]] ?_
   with_reducible refine (laws_eqNet.calls k t1160 _ _ t1161 t1172 _ _ t1173 true _ ?side1 ?side2 ?side3 ?side4 A19.out).mono ?_
   (case side1 => exact nc_ (rR18 HO1163.out).2.2)
   (case side2 => exact (rR18 HO1163.out).2.1)
   (case side3 => exact nc_ (rR18 HO1175.out).2.2)
   (case side4 => exact (rR18 HO1175.out).2.1)
   rintro e w134 ⟨rfl, hb⟩
   refine ⟨_, rfl, ?_⟩
   replace HO1153 := kR_ HO1153 hb
   replace HO1156 := kR_ HO1156 hb
   replace HO1159 := kR_ HO1159 hb
   replace HO1163 := kR_ HO1163 hb
   replace HO1167 := kR_ HO1167 hb
   replace HO1170 := kR_ HO1170 hb
   replace HO1175 := kR_ HO1175 hb
   replace BK1148 := kb_ BK1148 hb
   replace BK1164 := kb_ BK1164 hb
   replace HB := kB_ HB hb
   (try clear hb)
   (try clear hb2)
   (try clear hk)
   (try clear hi)
   refine hK.out _ _ ⟨ct_ BK1164.out 0, ct_ BK1164.out 1, ct_ BK1148.out 0, ct_ BK1148.out 1⟩ (fun hHeld => ?_)
   clear hK K
   refine nm1_ (some 41) ?_
   refine pure_ (i := 4) (N := some 42) (v := ?_) (a' := ?_) #[true, true, true, true, true] rfl rfl (by kernel_rfl) (fun _ _ _ h => h) (Or.inl ⟨by rfl, ?_⟩) ?_ ?_
   rotate_left
   ·intro w'
    go_simp
    with_reducible rfl
   rotate_left
   ·simp only [Act.put, List.setIfInBounds_toArray, List.set_cons_zero, List.set_cons_succ, i64_w, i32_w]
    rfl
   refine done_ (by kernel_rfl) ?_
   try go_wp2_with (first | ((with_reducible refine gate_callee (f := 45) rfl ?_); refine gl_ (some 45) Try.func45 #[.slice A1 l1.length c1] ?_; (with_reducible refine (laws_toIntS.calls k _ _ l1 t1177 _ ?side1 ?side2 A21.out).mono ?_); (case side1 => exact nc_ (Kd.C_below HR1.out HB.out)); (case side2 => exact HC1.out); rintro e w135 ⟨v1178, rfl, ho0, hb⟩; refine ⟨_, rfl, ?_⟩; have HO1179 := Aside0.mk (Kd.R_lower (Kd.R_new' (Kd.R_new' (Kd.R_new' (Kd.R_new' ho0 (Kd.R_lt (nr_ HO1156.out))) (Kd.R_lt (nr_ HO1159.out))) (Kd.R_lt (nr_ HO1167.out))) (Kd.R_lt (nr_ HO1170.out))) (eZ18 (ne_ HB.out))); replace HO1153 := kR_ HO1153 hb; replace HO1156 := Aside0.mk (Kd.R_elder' (nr_ HO1156.out) (Kd.R_base ho0) hb); replace HO1159 := Aside0.mk (Kd.R_elder' (nr_ HO1159.out) (Kd.R_base ho0) hb); replace HO1163 := kR_ HO1163 hb; replace HO1167 := Aside0.mk (Kd.R_elder' (nr_ HO1167.out) (Kd.R_base ho0) hb); replace HO1170 := Aside0.mk (Kd.R_elder' (nr_ HO1170.out) (Kd.R_base ho0) hb); replace HO1175 := kR_ HO1175 hb; replace BK1148 := kb_ BK1148 hb; replace BK1164 := kb_ BK1164 hb; replace HB := kB_ HB hb; (try clear hb); (try clear hb2); (try clear hk); (try clear hi); (try clear ho0); obtain ⟨Ao136, co136, eo136⟩ := Kd.R_slice HO1179.out; subst eo136) | ((with_reducible refine gate_callee (f := 32) rfl ?_); refine gl_ (some 46) Try.func32 #[.slice Ao127 t1165.length co127, .slice Ao136 t1177.length co136] ?_; (with_reducible refine (laws_eqIntS.calls k _ _ t1165 _ _ t1177 false _ ?side1 ?side2 ?side3 ?side4 A22.out).mono ?_); (case side1 => exact nc_ (rR18 HO1167.out).2.2); (case side2 => exact (rR18 HO1167.out).2.1); (case side3 => exact nc_ (rR18 HO1179.out).2.2); (case side4 => exact (rR18 HO1179.out).2.1); rintro e w' ⟨rfl, ⟨nd, rfl⟩⟩; refine ⟨_, rfl, ?_⟩))
   go_ret
   exact ⟨nw_, ne_ HB.out⟩
  subst c23
  rw [if_pos rfl] at H
  replace H := Option.bind_eq_some_iff.mp H
  obtain ⟨⟨t1181, t1182⟩, A240, H⟩ := H
  try dsimp only at H
  have A24 := Aside0.mk A240
  clear A240
  replace H := Option.bind_eq_some_iff.mp H
  obtain ⟨⟨t1183, t1184⟩, A250, H⟩ := H
  try dsimp only at H
  have A25 := Aside0.mk A250
  clear A250
  have HC26 := Aside0.mk H
  clear H
  go_enter Try.func18, Try.ntmps18
  try go_wp2_with (first | ((with_reducible refine gate_dst (N := 2) rfl ?_); refine bx_ 2 #[.int .i64 a0_0, .slice A0_1 l0_1.length c0_1] 24 ?_; intro gb1148 hg w27 hbox hb; have BK1148 := Aside0.mk (hbox); have GW1148 := Aside0.mk (zs_ hg (ne_ HB.out)); have GE1148 := Aside0.mk (zs_ hg (ne_ HB.out)); replace HB := kB_ HB hb; clear hb hbox hg; obtain ⟨hcz28_0, hcz28_1, hfz28_0, hfz28_1⟩ := cz2_ BK1148.out) | ((with_reducible refine gate_callee (f := 19) rfl ?_); refine gl_ (some 19) Try.func19 #[.agg #[.int .i64 a0_0, .slice A0_1 l0_1.length c0_1], .int .i64 1048576] ?_; (with_reducible refine (laws_szNet.calls a0_0 _ _ l0_1 1048576 t1149 _ ?side1 ?side2 A5.out).mono ?_); (case side1 => exact nc_ (Kd.C_below HR0_1.out HB.out)); (case side2 => exact HC0_1.out); rintro e w29 ⟨rfl, hb⟩; refine ⟨_, rfl, ?_⟩; replace BK1148 := kb_ BK1148 hb; replace HB := kB_ HB hb; (try clear hb); (try clear hb2); (try clear hk); (try clear hi); obtain ⟨hcz30_0, hcz30_1, hfz30_0, hfz30_1⟩ := cz2_ BK1148.out) | ((with_reducible refine gate_callee (f := 21) rfl ?_); refine gl_ (some 23) Try.func21 #[.agg #[.int .i64 a0_0, .slice A0_1 l0_1.length c0_1]] ?_; (with_reducible refine (laws_toNet.calls k a0_0 _ _ l0_1 t1150 t1151 _ ?side1 ?side2 A10.out).mono ?_); (case side1 => exact nc_ (Kd.C_below HR0_1.out HB.out)); (case side2 => exact HC0_1.out); rintro e w31 ⟨v1152, rfl, ho0, hb⟩; refine ⟨_, rfl, ?_⟩; have HO1153 := Aside0.mk (Kd.R_lower ho0 (eZ18 (ne_ HB.out))); replace BK1148 := kb_ BK1148 hb; replace HB := kB_ HB hb; (try clear hb); (try clear hb2); (try clear hk); (try clear hi); (try clear ho0)) | ((with_reducible refine gate_callee (f := 45) rfl ?_); refine gl_ (some 25) Try.func45 #[.slice A1 l1.length c1] ?_; (with_reducible refine (laws_toIntS.calls k _ _ l1 t1154 _ ?side1 ?side2 A11.out).mono ?_); (case side1 => exact nc_ (Kd.C_below HR1.out HB.out)); (case side2 => exact HC1.out); rintro e w32 ⟨v1155, rfl, ho0, hb⟩; refine ⟨_, rfl, ?_⟩; have HO1156 := Aside0.mk (Kd.R_lower ho0 (eZ18 (ne_ HB.out))); replace HO1153 := kR_ HO1153 hb; replace BK1148 := kb_ BK1148 hb; replace HB := kB_ HB hb; (try clear hb); (try clear hb2); (try clear hk); (try clear hi); (try clear ho0); obtain ⟨Ao33, co33, eo33⟩ := Kd.R_slice HO1153.out; subst eo33; obtain ⟨Ao34, co34, eo34⟩ := Kd.R_slice HO1156.out; subst eo34) | ((with_reducible refine gate_callee (f := 57) rfl ?_); refine gl_ (some 26) Try.func57 #[.agg #[.int .i64 t1150, .slice Ao33 t1151.length co33], .slice Ao34 t1154.length co34] ?_; (with_reducible refine (spec_WalkPlain.calls k t1150 _ _ t1151 _ _ t1154 t1157 _ ?side1 ?side2 ?side3 ?side4 A12.out).mono ?_); (case side1 => exact nc_ (rR18 HO1153.out).2.2); (case side2 => exact (rR18 HO1153.out).2.1); (case side3 => exact nc_ (rR18 HO1156.out).2.2); (case side4 => exact (rR18 HO1156.out).2.1); rintro e w35 ⟨v1158, rfl, ho0, hb⟩; refine ⟨_, rfl, ?_⟩; have HO1159 := Aside0.mk (Kd.R_lower (Kd.R_new' ho0 (Kd.R_lt (nr_ HO1156.out))) (eZ18 (ne_ HB.out))); replace HO1153 := kR_ HO1153 hb; replace HO1156 := Aside0.mk (Kd.R_elder' (nr_ HO1156.out) (Kd.R_base ho0) hb); replace BK1148 := kb_ BK1148 hb; replace HB := kB_ HB hb; (try clear hb); (try clear hb2); (try clear hk); (try clear hi); (try clear ho0); obtain ⟨hcz36_0, hcz36_1, hfz36_0, hfz36_1⟩ := cz2_ BK1148.out) | ((with_reducible refine gate_callee (f := 21) rfl ?_); refine gl_ (some 28) Try.func21 #[.agg #[.int .i64 a0_0, .slice A0_1 l0_1.length c0_1]] ?_; (with_reducible refine (laws_toNet.calls k a0_0 _ _ l0_1 t1160 t1161 _ ?side1 ?side2 A13.out).mono ?_); (case side1 => exact nc_ (Kd.C_below HR0_1.out HB.out)); (case side2 => exact HC0_1.out); rintro e w37 ⟨v1162, rfl, ho0, hb⟩; refine ⟨_, rfl, ?_⟩; have HO1163 := Aside0.mk (Kd.R_lower (Kd.R_new' ho0 (Kd.R_lt (nr_ HO1153.out))) (eZ18 (ne_ HB.out))); replace HO1153 := Aside0.mk (Kd.R_elder' (nr_ HO1153.out) (Kd.R_base ho0) hb); replace HO1156 := kR_ HO1156 hb; replace HO1159 := kR_ HO1159 hb; replace BK1148 := kb_ BK1148 hb; replace HB := kB_ HB hb; (try clear hb); (try clear hb2); (try clear hk); (try clear hi); (try clear ho0)) | ((with_reducible refine gate_dst (N := 7) rfl ?_); refine bx_ 7 #[.int .i64 0, .slice none 0 0] 29 ?_; intro gb1164 hg w38 hbox hb; have BK1164 := Aside0.mk (hbox); have GW1164 := Aside0.mk (zs_ hg (ne_ HB.out)); have GE1164 := Aside0.mk (zs_ hg (ne_ HB.out)); have NB1148_1164 := Aside0.mk (nl_ BK1148.out hg); have NB1164_1148 := Aside0.mk (nm_ BK1148.out hg); replace HO1153 := kR_ HO1153 hb; replace HO1156 := kR_ HO1156 hb; replace HO1159 := kR_ HO1159 hb; replace HO1163 := kR_ HO1163 hb; replace BK1148 := kb_ BK1148 hb; replace HB := kB_ HB hb; clear hb hbox hg; have hnb39 := NB1164_1148.out; have hnc39 := NB1148_1164.out; obtain ⟨hcz40_0, hcz40_1, hfz40_0, hfz40_1⟩ := cz2_ BK1164.out; obtain ⟨Ao41, co41, eo41⟩ := Kd.R_slice HO1163.out; subst eo41) | ((with_reducible refine gate_callee (f := 45) rfl ?_); refine gl_ (some 30) Try.func45 #[.slice A1 l1.length c1] ?_; (with_reducible refine (laws_toIntS.calls k _ _ l1 t1165 _ ?side1 ?side2 A14.out).mono ?_); (case side1 => exact Kd.C_below HR1.out (ne_ HB.out)); (case side2 => exact HC1.out); rintro e w42 ⟨v1166, rfl, ho0, hb⟩; refine ⟨_, rfl, ?_⟩; have HO1167 := Aside0.mk (Kd.R_lower (Kd.R_new' (Kd.R_new' ho0 (Kd.R_lt (by (with_reducible repeat (first | apply rA18 | apply rN18 | apply rD18)); exact (Kd.R_mono (rf2_ (Kd.R_types HO1156.out BK1164.out (by decide))) (fun _ h_ => h_.1))))) (Kd.R_lt (by (with_reducible repeat (first | apply rA18 | apply rN18 | apply rD18)); exact (Kd.R_mono (rf2_ (Kd.R_types HO1159.out BK1164.out (by decide))) (fun _ h_ => h_.1))))) (eZ18 (ne_ HB.out))); replace HO1153 := Aside0.mk (Kd.R_below (by (with_reducible repeat (first | apply rA18 | apply rN18 | apply rD18)); exact (Kd.R_mono (rf2_ (Kd.R_types HO1153.out BK1164.out (by decide))) (fun _ h_ => h_.1))) hb); replace HO1156 := Aside0.mk (Kd.R_elder' (by (with_reducible repeat (first | apply rA18 | apply rN18 | apply rD18)); exact (Kd.R_mono (rf2_ (Kd.R_types HO1156.out BK1164.out (by decide))) (fun _ h_ => h_.1))) (Kd.R_base ho0) hb); replace HO1159 := Aside0.mk (Kd.R_elder' (by (with_reducible repeat (first | apply rA18 | apply rN18 | apply rD18)); exact (Kd.R_mono (rf2_ (Kd.R_types HO1159.out BK1164.out (by decide))) (fun _ h_ => h_.1))) (Kd.R_base ho0) hb); replace HO1163 := Aside0.mk (Kd.R_below (by (with_reducible repeat (first | apply rA18 | apply rN18 | apply rD18)); exact (Kd.R_mono (rf2_ (Kd.R_types HO1163.out BK1164.out (by decide))) (fun _ h_ => h_.1))) hb); replace BK1148 := kf_ BK1148 hb; replace BK1164 := Aside0.mk (blk_below (g := gb1164) (o := .cells #[.int .i64 t1160, .slice Ao41 t1161.length co41] 29 (0, 0)) (np_ BK1164.out) hb); replace HB := kB_ HB hb; (try clear hb); (try clear hb2); (try clear hk); (try clear hi); (try clear ho0); obtain ⟨hcz43_0, hcz43_1, hfz43_0, hfz43_1⟩ := cz2_ BK1164.out; obtain ⟨Ao44, co44, eo44⟩ := Kd.R_slice HO1167.out; subst eo44) | ((with_reducible refine gate_callee (f := 56) rfl ?_); refine gl_ (some 33) Try.func56 #[.agg #[.int .i64 t1160, .slice Ao41 t1161.length co41], .slice Ao44 t1165.length co44] ?_; (with_reducible refine (impl_WalkPlain.calls k t1160 _ _ t1161 _ _ t1165 t1168 _ ?side1 ?side2 ?side3 ?side4 A15.out).mono ?_); (case side1 => exact nc_ (rR18 HO1163.out).2.2); (case side2 => exact (rR18 HO1163.out).2.1); (case side3 => exact nc_ (rR18 HO1167.out).2.2); (case side4 => exact (rR18 HO1167.out).2.1); rintro e w45 ⟨v1169, rfl, ho0, hb⟩; refine ⟨_, rfl, ?_⟩; have HO1170 := Aside0.mk (Kd.R_lower (Kd.R_new' (Kd.R_new' (Kd.R_new' ho0 (Kd.R_lt (nr_ HO1156.out))) (Kd.R_lt (nr_ HO1159.out))) (Kd.R_lt (nr_ HO1167.out))) (eZ18 (ne_ HB.out))); replace HO1153 := kR_ HO1153 hb; replace HO1156 := Aside0.mk (Kd.R_elder' (nr_ HO1156.out) (Kd.R_base ho0) hb); replace HO1159 := Aside0.mk (Kd.R_elder' (nr_ HO1159.out) (Kd.R_base ho0) hb); replace HO1163 := kR_ HO1163 hb; replace HO1167 := Aside0.mk (Kd.R_elder' (nr_ HO1167.out) (Kd.R_base ho0) hb); replace BK1148 := kb_ BK1148 hb; replace BK1164 := kb_ BK1164 hb; replace HB := kB_ HB hb; (try clear hb); (try clear hb2); (try clear hk); (try clear hi); (try clear ho0); obtain ⟨Ao46, co46, eo46⟩ := Kd.R_slice HO1170.out; subst eo46; obtain ⟨Ao47, co47, eo47⟩ := Kd.R_slice HO1159.out; subst eo47) | ((with_reducible refine gate_callee (f := 32) rfl ?_); refine gl_ (some 36) Try.func32 #[.slice Ao46 t1168.length co46, .slice Ao47 t1157.length co47] ?_; (with_reducible refine (laws_eqIntS.calls k _ _ t1168 _ _ t1157 true _ ?side1 ?side2 ?side3 ?side4 A16.out).mono ?_); (case side1 => exact nc_ (rR18 HO1170.out).2.2); (case side2 => exact (rR18 HO1170.out).2.1); (case side3 => exact nc_ (rR18 HO1159.out).2.2); (case side4 => exact (rR18 HO1159.out).2.1); rintro e w' ⟨rfl, ⟨nd, rfl⟩⟩; refine ⟨_, rfl, ?_⟩))
  (first | (rw [drewN_self w45]; generalize hq_ : World.drewN w45 _ = w45; replace HO1153 : Aside0 (Kd.R k37 37 w45 w.heap.size (fun k_ => some k_ ≠ (.slice Ao41 t1161.length co41 : Value).ownBlock) (.slice Ao33 t1151.length co33) t1151) := ⟨by rw [← hq_]; exact (by (with_reducible repeat (first | apply rA18 | apply rN18 | apply rD18)); exact Kd.R_mono HO1153.out (fun _ hk => by first | exact hk.2 | trivial | simp_all))⟩; replace HO1156 : Aside0 (Kd.R (Kd.int .i64) 3 w45 w.heap.size (fun k_ => some k_ ≠ (.slice Ao47 t1157.length co47 : Value).ownBlock ∧ some k_ ≠ (.slice Ao44 t1165.length co44 : Value).ownBlock ∧ some k_ ≠ (.slice Ao46 t1168.length co46 : Value).ownBlock) (.slice Ao34 t1154.length co34) t1154) := ⟨by rw [← hq_]; exact (by (with_reducible repeat (first | apply rA18 | apply rN18 | apply rD18)); exact Kd.R_mono HO1156.out (fun _ hk => by first | exact ⟨hk.1.1.2, ⟨hk.1.2, hk.2⟩⟩ | trivial | simp_all))⟩; replace HO1159 : Aside0 (Kd.R (Kd.int .i64) 3 w45 w.heap.size (fun k_ => some k_ ≠ (.slice Ao34 t1154.length co34 : Value).ownBlock ∧ some k_ ≠ (.slice Ao44 t1165.length co44 : Value).ownBlock ∧ some k_ ≠ (.slice Ao46 t1168.length co46 : Value).ownBlock) (.slice Ao47 t1157.length co47) t1157) := ⟨by rw [← hq_]; exact (by (with_reducible repeat (first | apply rA18 | apply rN18 | apply rD18)); exact Kd.R_mono HO1159.out (fun _ hk => by first | exact ⟨hk.1.1.2, ⟨hk.1.2, hk.2⟩⟩ | trivial | simp_all))⟩; replace HO1163 : Aside0 (Kd.R k37 37 w45 w.heap.size (fun k_ => some k_ ≠ (.slice Ao33 t1151.length co33 : Value).ownBlock) (.slice Ao41 t1161.length co41) t1161) := ⟨by rw [← hq_]; exact (by (with_reducible repeat (first | apply rA18 | apply rN18 | apply rD18)); exact Kd.R_mono HO1163.out (fun _ hk => by first | exact hk.2 | trivial | simp_all))⟩; replace HO1167 : Aside0 (Kd.R (Kd.int .i64) 3 w45 w.heap.size (fun k_ => some k_ ≠ (.slice Ao34 t1154.length co34 : Value).ownBlock ∧ some k_ ≠ (.slice Ao47 t1157.length co47 : Value).ownBlock ∧ some k_ ≠ (.slice Ao46 t1168.length co46 : Value).ownBlock) (.slice Ao44 t1165.length co44) t1165) := ⟨by rw [← hq_]; exact (by (with_reducible repeat (first | apply rA18 | apply rN18 | apply rD18)); exact Kd.R_mono HO1167.out (fun _ hk => by first | exact ⟨hk.1.1.2, ⟨hk.1.2, hk.2⟩⟩ | trivial | simp_all))⟩; replace HO1170 : Aside0 (Kd.R (Kd.int .i64) 3 w45 w.heap.size (fun k_ => some k_ ≠ (.slice Ao34 t1154.length co34 : Value).ownBlock ∧ some k_ ≠ (.slice Ao47 t1157.length co47 : Value).ownBlock ∧ some k_ ≠ (.slice Ao44 t1165.length co44 : Value).ownBlock) (.slice Ao46 t1168.length co46) t1168) := ⟨by rw [← hq_]; exact (by (with_reducible repeat (first | apply rA18 | apply rN18 | apply rD18)); exact Kd.R_mono HO1170.out (fun _ hk => by first | exact ⟨hk.1.1.2, ⟨hk.1.2, hk.2⟩⟩ | trivial | simp_all))⟩; replace BK1148 : Aside0 (w45.heap[gb1148]? = some (.cells #[.int .i64 a0_0, .slice A0_1 l0_1.length c0_1] 24 (0, 0))) := ⟨by rw [← hq_]; exact (nb_ BK1148.out)⟩; replace BK1164 : Aside0 (w45.heap[gb1164]? = some (.cells #[.int .i64 t1160, .slice Ao41 t1161.length co41] 29 (0, 0))) := ⟨by rw [← hq_]; exact (nb_ BK1164.out)⟩; replace HB : Aside0 (Below w.heap.size w w45) := ⟨by rw [← hq_]; exact (ne_ HB.out)⟩; clear hq_) | (have n0_ : Aside0 (Kd.R k37 37 w45 w.heap.size (fun k_ => some k_ ≠ (.slice Ao41 t1161.length co41 : Value).ownBlock) (.slice Ao33 t1151.length co33) t1151) := ⟨(by (with_reducible repeat (first | apply rA18 | apply rN18 | apply rD18)); exact Kd.R_mono HO1153.out (fun _ hk => by first | exact hk.2 | trivial | simp_all))⟩; have n1_ : Aside0 (Kd.R (Kd.int .i64) 3 w45 w.heap.size (fun k_ => some k_ ≠ (.slice Ao47 t1157.length co47 : Value).ownBlock ∧ some k_ ≠ (.slice Ao44 t1165.length co44 : Value).ownBlock ∧ some k_ ≠ (.slice Ao46 t1168.length co46 : Value).ownBlock) (.slice Ao34 t1154.length co34) t1154) := ⟨(by (with_reducible repeat (first | apply rA18 | apply rN18 | apply rD18)); exact Kd.R_mono HO1156.out (fun _ hk => by first | exact ⟨hk.1.1.2, ⟨hk.1.2, hk.2⟩⟩ | trivial | simp_all))⟩; have n2_ : Aside0 (Kd.R (Kd.int .i64) 3 w45 w.heap.size (fun k_ => some k_ ≠ (.slice Ao34 t1154.length co34 : Value).ownBlock ∧ some k_ ≠ (.slice Ao44 t1165.length co44 : Value).ownBlock ∧ some k_ ≠ (.slice Ao46 t1168.length co46 : Value).ownBlock) (.slice Ao47 t1157.length co47) t1157) := ⟨(by (with_reducible repeat (first | apply rA18 | apply rN18 | apply rD18)); exact Kd.R_mono HO1159.out (fun _ hk => by first | exact ⟨hk.1.1.2, ⟨hk.1.2, hk.2⟩⟩ | trivial | simp_all))⟩; have n3_ : Aside0 (Kd.R k37 37 w45 w.heap.size (fun k_ => some k_ ≠ (.slice Ao33 t1151.length co33 : Value).ownBlock) (.slice Ao41 t1161.length co41) t1161) := ⟨(by (with_reducible repeat (first | apply rA18 | apply rN18 | apply rD18)); exact Kd.R_mono HO1163.out (fun _ hk => by first | exact hk.2 | trivial | simp_all))⟩; have n4_ : Aside0 (Kd.R (Kd.int .i64) 3 w45 w.heap.size (fun k_ => some k_ ≠ (.slice Ao34 t1154.length co34 : Value).ownBlock ∧ some k_ ≠ (.slice Ao47 t1157.length co47 : Value).ownBlock ∧ some k_ ≠ (.slice Ao46 t1168.length co46 : Value).ownBlock) (.slice Ao44 t1165.length co44) t1165) := ⟨(by (with_reducible repeat (first | apply rA18 | apply rN18 | apply rD18)); exact Kd.R_mono HO1167.out (fun _ hk => by first | exact ⟨hk.1.1.2, ⟨hk.1.2, hk.2⟩⟩ | trivial | simp_all))⟩; have n5_ : Aside0 (Kd.R (Kd.int .i64) 3 w45 w.heap.size (fun k_ => some k_ ≠ (.slice Ao34 t1154.length co34 : Value).ownBlock ∧ some k_ ≠ (.slice Ao47 t1157.length co47 : Value).ownBlock ∧ some k_ ≠ (.slice Ao44 t1165.length co44 : Value).ownBlock) (.slice Ao46 t1168.length co46) t1168) := ⟨(by (with_reducible repeat (first | apply rA18 | apply rN18 | apply rD18)); exact Kd.R_mono HO1170.out (fun _ hk => by first | exact ⟨hk.1.1.2, ⟨hk.1.2, hk.2⟩⟩ | trivial | simp_all))⟩; have n6_ : Aside0 (w45.heap[gb1148]? = some (.cells #[.int .i64 a0_0, .slice A0_1 l0_1.length c0_1] 24 (0, 0))) := ⟨(nb_ BK1148.out)⟩; have n7_ : Aside0 (w45.heap[gb1164]? = some (.cells #[.int .i64 t1160, .slice Ao41 t1161.length co41] 29 (0, 0))) := ⟨(nb_ BK1164.out)⟩; have n8_ : Aside0 (Below w.heap.size w w45) := ⟨(ne_ HB.out)⟩; clear HO1153 HO1156 HO1159 HO1163 HO1167 HO1170 BK1148 BK1164 HB; have HO1153 := n0_; have HO1156 := n1_; have HO1159 := n2_; have HO1163 := n3_; have HO1167 := n4_; have HO1170 := n5_; have BK1148 := n6_; have BK1164 := n7_; have HB := n8_; clear n0_ n1_ n2_ n3_ n4_ n5_ n6_ n7_ n8_))
  replace HO1153 := Aside0.mk (rD18 HO1153.out)
  replace HO1156 := Aside0.mk (rD18 HO1156.out)
  replace HO1159 := Aside0.mk (rD18 HO1159.out)
  replace HO1163 := Aside0.mk (rD18 HO1163.out)
  replace HO1167 := Aside0.mk (rD18 HO1167.out)
  replace HO1170 := Aside0.mk (rD18 HO1170.out)
  replace BK1148 := Aside0.mk (blk_drew BK1148.out)
  replace BK1164 := Aside0.mk (blk_drew BK1164.out)
  replace HB := Aside0.mk (below_drew1 HB.out)
  refine start_ (n := 5) (S := fun w' => w'.cell? ⟨gb1164, 0, none⟩ = some (.int .i64 t1160) ∧ w'.cell? ⟨gb1164, 1, none⟩ = some (.slice Ao41 t1161.length co41) ∧ w'.cell? ⟨gb1148, 0, none⟩ = some (.int .i64 a0_0) ∧ w'.cell? ⟨gb1148, 1, none⟩ = some (.slice A0_1 l0_1.length c0_1)) (ds := []) #[false, false, false, false, false] (by kernel_rfl) rfl rfl ⟨ct_ BK1164.out 0, ct_ BK1164.out 1, ct_ BK1148.out 0, ct_ BK1148.out 1⟩ (fun hHeld => ?_)
  generalize w45.drew = w48 at HO1153 HO1156 HO1159 HO1163 HO1167 HO1170 BK1148 BK1164 HB hHeld ⊢
  refine take_ (i := 0) (N := some 38) (v := ?_) (a' := ?_) #[true, false, false, false, false] rfl rfl (by kernel_rfl) (fun _ _ _ h => h) (Or.inl ⟨by rfl, ?_⟩) hHeld ?_ ?_
  rotate_left
  ·rintro w' ⟨s0, s1, s2, s3⟩
   go_simp
   with_reducible rfl
  rotate_left
  ·simp only [Act.put, List.setIfInBounds_toArray, List.set_cons_zero, List.set_cons_succ, i64_w, i32_w]
   rfl
  refine take_ (i := 1) (N := some 39) (v := ?_) (a' := ?_) #[true, true, false, false, false] rfl rfl (by kernel_rfl) (fun _ _ _ h => h) (Or.inl ⟨by rfl, ?_⟩) hHeld ?_ ?_
  rotate_left
  ·rintro w' ⟨s0, s1, s2, s3⟩
   go_simp
   with_reducible rfl
  rotate_left
  ·simp only [Act.put, List.setIfInBounds_toArray, List.set_cons_zero, List.set_cons_succ, i64_w, i32_w]
   rfl
  refine one_ (i := 2) (N := some 40) #[true, true, true, false, false] rfl rfl (by kernel_rfl) (by decide) (fun K hK => ?_)
  refine go_ Try.func21 #[.agg #[.int .i64 a0_0, .slice A0_1 l0_1.length c0_1]] ?_
  with_reducible refine (laws_toNet.calls k a0_0 _ _ l0_1 t1172 t1173 _ ?side1 ?side2 A18.out).mono ?_
  (case side1 => exact nc_ (Kd.C_below HR0_1.out HB.out))
  (case side2 => exact HC0_1.out)
  rintro e w49 ⟨v1174, rfl, ho0, hb⟩
  refine ⟨_, rfl, ?_⟩
  replace HO1156 := kR_ HO1156 hb
  replace HO1159 := kR_ HO1159 hb
  replace HO1167 := kR_ HO1167 hb
  replace HO1170 := kR_ HO1170 hb
  have HO1175 := Aside0.mk (Kd.R_lower (Kd.R_new' (Kd.R_new' ho0 (Kd.R_lt (nr_ HO1153.out))) (Kd.R_lt (nr_ HO1163.out))) (eZ18 (ne_ HB.out)))
  replace HO1153 := Aside0.mk (Kd.R_elder' (nr_ HO1153.out) (Kd.R_base ho0) hb)
  replace HO1163 := Aside0.mk (Kd.R_elder' (nr_ HO1163.out) (Kd.R_base ho0) hb)
  replace BK1148 := kb_ BK1148 hb
  replace BK1164 := kb_ BK1164 hb
  replace HB := kB_ HB hb
  (try clear hb)
  (try clear hb2)
  (try clear hk)
  (try clear hi)
  (try clear ho0)
  obtain ⟨Ao50, co50, eo50⟩ := Kd.R_slice HO1175.out
  (first | subst eo50 | (injection eo50 with f1_ f2_ f3_; have f4_ := f1_.symm; have f5_ := f3_.symm; clear f1_ f2_ f3_; subst f4_; subst f5_))
  refine hK.out _ _ ⟨ct_ BK1164.out 0, ct_ BK1164.out 1, ct_ BK1148.out 0, ct_ BK1148.out 1⟩ (fun hHeld => ?_)
  clear hK K
  refine nm1_ (some 40) ?_
  refine one_ (i := 3) (N := some 41) #[true, true, true, true, false] rfl rfl (by kernel_rfl) (by decide) (fun K hK => ?_)
  refine go_ Try.func23 #[.agg #[.int .i64 t1160, .slice Ao41 t1161.length co41], .agg #[.int .i64 t1172, .slice Ao50 t1173.length co50]] ?_
  with_reducible refine (laws_eqNet.calls k t1160 _ _ t1161 t1172 _ _ t1173 true _ ?side1 ?side2 ?side3 ?side4 A19.out).mono ?_
  (case side1 => exact nc_ (rR18 HO1163.out).2.2)
  (case side2 => exact (rR18 HO1163.out).2.1)
  (case side3 => exact nc_ (rR18 HO1175.out).2.2)
  (case side4 => exact (rR18 HO1175.out).2.1)
  rintro e w51 ⟨rfl, hb⟩
  refine ⟨_, rfl, ?_⟩
  replace HO1153 := kR_ HO1153 hb
  replace HO1156 := kR_ HO1156 hb
  replace HO1159 := kR_ HO1159 hb
  replace HO1163 := kR_ HO1163 hb
  replace HO1167 := kR_ HO1167 hb
  replace HO1170 := kR_ HO1170 hb
  replace HO1175 := kR_ HO1175 hb
  replace BK1148 := kb_ BK1148 hb
  replace BK1164 := kb_ BK1164 hb
  replace HB := kB_ HB hb
  (try clear hb)
  (try clear hb2)
  (try clear hk)
  (try clear hi)
  refine hK.out _ _ ⟨ct_ BK1164.out 0, ct_ BK1164.out 1, ct_ BK1148.out 0, ct_ BK1148.out 1⟩ (fun hHeld => ?_)
  clear hK K
  refine nm1_ (some 41) ?_
  refine pure_ (i := 4) (N := some 42) (v := ?_) (a' := ?_) #[true, true, true, true, true] rfl rfl (by kernel_rfl) (fun _ _ _ h => h) (Or.inl ⟨by rfl, ?_⟩) ?_ ?_
  rotate_left
  ·intro w'
   go_simp
   with_reducible rfl
  rotate_left
  ·simp only [Act.put, List.setIfInBounds_toArray, List.set_cons_zero, List.set_cons_succ, i64_w, i32_w]
   rfl
  refine done_ (by kernel_rfl) ?_
  go_upto_region 20 with (first | ((with_reducible refine gate_callee (f := 45) rfl ?_); refine gl_ (some 45) Try.func45 #[.slice A1 l1.length c1] ?_; (with_reducible refine (laws_toIntS.calls k _ _ l1 t1177 _ ?side1 ?side2 A21.out).mono ?_); (case side1 => exact nc_ (Kd.C_below HR1.out HB.out)); (case side2 => exact HC1.out); rintro e w52 ⟨v1178, rfl, ho0, hb⟩; refine ⟨_, rfl, ?_⟩; have HO1179 := Aside0.mk (Kd.R_lower (Kd.R_new' (Kd.R_new' (Kd.R_new' (Kd.R_new' ho0 (Kd.R_lt (nr_ HO1156.out))) (Kd.R_lt (nr_ HO1159.out))) (Kd.R_lt (nr_ HO1167.out))) (Kd.R_lt (nr_ HO1170.out))) (eZ18 (ne_ HB.out))); replace HO1153 := kR_ HO1153 hb; replace HO1156 := Aside0.mk (Kd.R_elder' (nr_ HO1156.out) (Kd.R_base ho0) hb); replace HO1159 := Aside0.mk (Kd.R_elder' (nr_ HO1159.out) (Kd.R_base ho0) hb); replace HO1163 := kR_ HO1163 hb; replace HO1167 := Aside0.mk (Kd.R_elder' (nr_ HO1167.out) (Kd.R_base ho0) hb); replace HO1170 := Aside0.mk (Kd.R_elder' (nr_ HO1170.out) (Kd.R_base ho0) hb); replace HO1175 := kR_ HO1175 hb; replace BK1148 := kb_ BK1148 hb; replace BK1164 := kb_ BK1164 hb; replace HB := kB_ HB hb; (try clear hb); (try clear hb2); (try clear hk); (try clear hi); (try clear ho0); obtain ⟨Ao53, co53, eo53⟩ := Kd.R_slice HO1179.out; subst eo53) | ((with_reducible refine gate_callee (f := 32) rfl ?_); refine gl_ (some 46) Try.func32 #[.slice Ao44 t1165.length co44, .slice Ao53 t1177.length co53] ?_; (with_reducible refine (laws_eqIntS.calls k _ _ t1165 _ _ t1177 true _ ?side1 ?side2 ?side3 ?side4 A22.out).mono ?_); (case side1 => exact nc_ (rR18 HO1167.out).2.2); (case side2 => exact (rR18 HO1167.out).2.1); (case side3 => exact nc_ (rR18 HO1179.out).2.2); (case side4 => exact (rR18 HO1179.out).2.1); rintro e w' ⟨rfl, ⟨nd, rfl⟩⟩; refine ⟨_, rfl, ?_⟩; obtain ⟨hcz54_0, hcz54_1, hfz54_0, hfz54_1⟩ := cz2_ BK1164.out) | ((with_reducible refine gate_callee (f := 33) rfl ?_); refine gl_ (some 50) Try.func33 #[.agg #[.int .i64 t1160, .slice Ao41 t1161.length co41], .int .i64 1] ?_; (with_reducible refine (laws_markNet.calls k t1160 (fun k_ => some k_ = (.slice Ao41 t1161.length co41 : Value).ownBlock) (.slice Ao41 t1161.length co41) t1161 1 t1181 t1182 w _ ?side1 ?side2 A24.out).mono ?_); (case side1 => exact (ne_ HB.out)); (case side2 => exact Kd.R_tight rfl HO1163.out); rintro e w55 ⟨rfl, hy0, hb, hkp⟩; refine ⟨_, rfl, ?_⟩; replace BK1148 := Aside0.mk (blk_kept (g := gb1148) (o := .cells #[.int .i64 a0_0, .slice A0_1 l0_1.length c0_1] 24 (0, 0)) (nb_ BK1148.out) hkp (fun hs_ => (fun e_ => (Kd.R_ne HO1163.out BK1148.out (by decide)) e_) hs_)); replace HO1153 := Aside0.mk (Kd.R_mono (ok' := fun k_ => some k_ ≠ (.slice Ao41 t1161.length co41 : Value).ownBlock ∧ some k_ ≠ (.slice Ao50 t1173.length co50 : Value).ownBlock) (Kd.R_keptB (HO1153.out) hkp (fun k_ hk_ hs_ => (hk_.1) hs_)) (fun k_ hk_ => ⟨hk_.1.1, hk_.1.2⟩)); replace HO1156 := Aside0.mk (Kd.R_mono (ok' := fun k_ => some k_ ≠ (.slice Ao47 t1157.length co47 : Value).ownBlock ∧ some k_ ≠ (.slice Ao44 t1165.length co44 : Value).ownBlock ∧ some k_ ≠ (.slice Ao46 t1168.length co46 : Value).ownBlock ∧ some k_ ≠ (.slice Ao53 t1177.length co53 : Value).ownBlock) (Kd.R_keptB ((Kd.R_apart' HO1156.out (Kd.R_typed HO1163.out) (by decide))) hkp (fun k_ hk_ hs_ => (hk_.2) hs_)) (fun k_ hk_ => ⟨hk_.1.1.1.1, hk_.1.1.1.2.1, hk_.1.1.1.2.2, hk_.1.1.2⟩)); replace HO1159 := Aside0.mk (Kd.R_mono (ok' := fun k_ => some k_ ≠ (.slice Ao34 t1154.length co34 : Value).ownBlock ∧ some k_ ≠ (.slice Ao44 t1165.length co44 : Value).ownBlock ∧ some k_ ≠ (.slice Ao46 t1168.length co46 : Value).ownBlock ∧ some k_ ≠ (.slice Ao53 t1177.length co53 : Value).ownBlock) (Kd.R_keptB ((Kd.R_apart' HO1159.out (Kd.R_typed HO1163.out) (by decide))) hkp (fun k_ hk_ hs_ => (hk_.2) hs_)) (fun k_ hk_ => ⟨hk_.1.1.1.1, hk_.1.1.1.2.1, hk_.1.1.1.2.2, hk_.1.1.2⟩)); replace BK1164 := Aside0.mk (blk_kept (g := gb1164) (o := .cells #[.int .i64 t1160, .slice Ao41 t1161.length co41] 29 (0, 0)) (nb_ BK1164.out) hkp (fun hs_ => (fun e_ => (Kd.R_ne HO1163.out BK1164.out (by decide)) e_) hs_)); replace HO1167 := Aside0.mk (Kd.R_mono (ok' := fun k_ => some k_ ≠ (.slice Ao34 t1154.length co34 : Value).ownBlock ∧ some k_ ≠ (.slice Ao47 t1157.length co47 : Value).ownBlock ∧ some k_ ≠ (.slice Ao46 t1168.length co46 : Value).ownBlock ∧ some k_ ≠ (.slice Ao53 t1177.length co53 : Value).ownBlock) (Kd.R_keptB ((Kd.R_apart' HO1167.out (Kd.R_typed HO1163.out) (by decide))) hkp (fun k_ hk_ hs_ => (hk_.2) hs_)) (fun k_ hk_ => ⟨hk_.1.1.1.1, hk_.1.1.1.2.1, hk_.1.1.1.2.2, hk_.1.1.2⟩)); replace HO1170 := Aside0.mk (Kd.R_mono (ok' := fun k_ => some k_ ≠ (.slice Ao34 t1154.length co34 : Value).ownBlock ∧ some k_ ≠ (.slice Ao47 t1157.length co47 : Value).ownBlock ∧ some k_ ≠ (.slice Ao44 t1165.length co44 : Value).ownBlock ∧ some k_ ≠ (.slice Ao53 t1177.length co53 : Value).ownBlock) (Kd.R_keptB ((Kd.R_apart' HO1170.out (Kd.R_typed HO1163.out) (by decide))) hkp (fun k_ hk_ hs_ => (hk_.2) hs_)) (fun k_ hk_ => ⟨hk_.1.1.1.1, hk_.1.1.1.2.1, hk_.1.1.1.2.2, hk_.1.1.2⟩)); replace HO1175 := Aside0.mk (Kd.R_mono (ok' := fun k_ => some k_ ≠ (.slice Ao33 t1151.length co33 : Value).ownBlock ∧ some k_ ≠ (.slice Ao41 t1161.length co41 : Value).ownBlock) (Kd.R_keptB (HO1175.out) hkp (fun k_ hk_ hs_ => (hk_.2) hs_)) (fun k_ hk_ => ⟨hk_.1.1.2, hk_.1.2⟩)); replace HO1179 := Aside0.mk (Kd.R_mono (ok' := fun k_ => some k_ ≠ (.slice Ao34 t1154.length co34 : Value).ownBlock ∧ some k_ ≠ (.slice Ao47 t1157.length co47 : Value).ownBlock ∧ some k_ ≠ (.slice Ao44 t1165.length co44 : Value).ownBlock ∧ some k_ ≠ (.slice Ao46 t1168.length co46 : Value).ownBlock) (Kd.R_keptB ((Kd.R_apart' HO1179.out (Kd.R_typed HO1163.out) (by decide))) hkp (fun k_ hk_ hs_ => (hk_.2) hs_)) (fun k_ hk_ => ⟨hk_.1.1.1.1.1.2, hk_.1.1.1.1.2, hk_.1.1.1.2, hk_.1.1.2⟩)); replace HO1163 := Aside0.mk (Kd.R_reok rfl hy0 (fun k_ e_ => HO1163.out.1 k_ e_)); replace HB := Aside0.mk (hb); (try clear hb); (try clear hkp); (try clear hy0)) | ((with_reducible refine gate_callee (f := 34) rfl ?_); refine gl_ (some 53) Try.func34 #[.slice Ao44 t1165.length co44, .int .i64 t1181] ?_; (with_reducible refine (laws_markIntS.calls k (fun k_ => some k_ = (.slice Ao44 t1165.length co44 : Value).ownBlock) (.slice Ao44 t1165.length co44) t1165 t1181 t1183 t1184 w _ ?side1 ?side2 A25.out).mono ?_); (case side1 => exact (ne_ HB.out)); (case side2 => exact Kd.R_tight rfl HO1167.out); rintro e w56 ⟨rfl, hy0, hb, hkp⟩; refine ⟨_, rfl, ?_⟩; replace BK1148 := Aside0.mk (blk_kept (g := gb1148) (o := .cells #[.int .i64 a0_0, .slice A0_1 l0_1.length c0_1] 24 (0, 0)) (nb_ BK1148.out) hkp (fun hs_ => (fun e_ => (Kd.R_ne HO1167.out BK1148.out (by decide)) e_) hs_)); replace HO1153 := Aside0.mk (Kd.R_mono (ok' := fun k_ => some k_ ≠ (.slice Ao41 t1161.length co41 : Value).ownBlock ∧ some k_ ≠ (.slice Ao50 t1173.length co50 : Value).ownBlock) (Kd.R_keptB ((Kd.R_apart' HO1153.out (Kd.R_typed HO1167.out) (by decide))) hkp (fun k_ hk_ hs_ => (hk_.2) hs_)) (fun k_ hk_ => ⟨hk_.1.1.1, hk_.1.1.2⟩)); replace HO1156 := Aside0.mk (Kd.R_mono (ok' := fun k_ => some k_ ≠ (.slice Ao47 t1157.length co47 : Value).ownBlock ∧ some k_ ≠ (.slice Ao44 t1165.length co44 : Value).ownBlock ∧ some k_ ≠ (.slice Ao46 t1168.length co46 : Value).ownBlock ∧ some k_ ≠ (.slice Ao53 t1177.length co53 : Value).ownBlock) (Kd.R_keptB (HO1156.out) hkp (fun k_ hk_ hs_ => (hk_.2.1) hs_)) (fun k_ hk_ => ⟨hk_.1.1, hk_.1.2.1, hk_.1.2.2.1, hk_.1.2.2.2⟩)); replace HO1159 := Aside0.mk (Kd.R_mono (ok' := fun k_ => some k_ ≠ (.slice Ao34 t1154.length co34 : Value).ownBlock ∧ some k_ ≠ (.slice Ao44 t1165.length co44 : Value).ownBlock ∧ some k_ ≠ (.slice Ao46 t1168.length co46 : Value).ownBlock ∧ some k_ ≠ (.slice Ao53 t1177.length co53 : Value).ownBlock) (Kd.R_keptB (HO1159.out) hkp (fun k_ hk_ hs_ => (hk_.2.1) hs_)) (fun k_ hk_ => ⟨hk_.1.1, hk_.1.2.1, hk_.1.2.2.1, hk_.1.2.2.2⟩)); replace HO1163 := Aside0.mk (Kd.R_mono (ok' := fun k_ => some k_ ≠ (.slice Ao33 t1151.length co33 : Value).ownBlock ∧ some k_ ≠ (.slice Ao50 t1173.length co50 : Value).ownBlock) (Kd.R_keptB ((Kd.R_apart' HO1163.out (Kd.R_typed HO1167.out) (by decide))) hkp (fun k_ hk_ hs_ => (hk_.2) hs_)) (fun k_ hk_ => ⟨hk_.1.1.1, hk_.1.1.2⟩)); replace BK1164 := Aside0.mk (blk_kept (g := gb1164) (o := .cells #[.int .i64 t1160, .slice Ao41 t1161.length co41] 29 (0, 0)) (nb_ BK1164.out) hkp (fun hs_ => (fun e_ => (Kd.R_ne HO1167.out BK1164.out (by decide)) e_) hs_)); replace HO1170 := Aside0.mk (Kd.R_mono (ok' := fun k_ => some k_ ≠ (.slice Ao34 t1154.length co34 : Value).ownBlock ∧ some k_ ≠ (.slice Ao47 t1157.length co47 : Value).ownBlock ∧ some k_ ≠ (.slice Ao44 t1165.length co44 : Value).ownBlock ∧ some k_ ≠ (.slice Ao53 t1177.length co53 : Value).ownBlock) (Kd.R_keptB (HO1170.out) hkp (fun k_ hk_ hs_ => (hk_.2.2.1) hs_)) (fun k_ hk_ => ⟨hk_.1.1, hk_.1.2.1, hk_.1.2.2.1, hk_.1.2.2.2⟩)); replace HO1175 := Aside0.mk (Kd.R_mono (ok' := fun k_ => some k_ ≠ (.slice Ao33 t1151.length co33 : Value).ownBlock ∧ some k_ ≠ (.slice Ao41 t1161.length co41 : Value).ownBlock) (Kd.R_keptB ((Kd.R_apart' HO1175.out (Kd.R_typed HO1167.out) (by decide))) hkp (fun k_ hk_ hs_ => (hk_.2) hs_)) (fun k_ hk_ => ⟨hk_.1.1.1, hk_.1.1.2⟩)); replace HO1167 := Aside0.mk (Kd.R_reok rfl hy0 (fun k_ e_ => HO1167.out.1 k_ e_)); replace HO1179 := Aside0.mk (Kd.R_mono (ok' := fun k_ => some k_ ≠ (.slice Ao34 t1154.length co34 : Value).ownBlock ∧ some k_ ≠ (.slice Ao47 t1157.length co47 : Value).ownBlock ∧ some k_ ≠ (.slice Ao44 t1165.length co44 : Value).ownBlock ∧ some k_ ≠ (.slice Ao46 t1168.length co46 : Value).ownBlock) (Kd.R_keptB (HO1179.out) hkp (fun k_ hk_ hs_ => (hk_.2.2.1) hs_)) (fun k_ hk_ => ⟨hk_.1.1, hk_.1.2.1, hk_.1.2.2.1, hk_.1.2.2.2⟩)); replace HB := Aside0.mk (hb); (try clear hb); (try clear hkp); (try clear hy0)))
  (try simp only [Act.put, List.setIfInBounds_toArray, List.set_cons_zero, List.set_cons_succ])
  go_cut [61] (fun v61 wc => ∃ (kq : Nat) (x61_25 : Bool), v61 = .bool x61_25 ∧ Aside0 (laws_FnExactWalkPlain.j0 kq l1 t1157 t1168 x61_25 a0_0 l0_1 = some r) ∧ Aside0 (kq ≤ k) ∧ Aside0 (Kd.R (Kd.int .i64) 3 wc w.heap.size (fun k_ => some k_ ≠ ((.slice Ao46 t1168.length co46) : Value).ownBlock) (.slice Ao47 t1157.length co47) t1157) ∧ Aside0 (Kd.R (Kd.int .i64) 3 wc w.heap.size (fun k_ => some k_ ≠ ((.slice Ao47 t1157.length co47) : Value).ownBlock) (.slice Ao46 t1168.length co46) t1168) ∧ Aside0 (Kd.R k37 37 wc w.heap.size (fun _ => True) (.slice Ao41 t1161.length co41) t1182) ∧ Aside0 (wc.heap[gb1148]? = some (.cells #[.int .i64 a0_0, (.slice A0_1 l0_1.length c0_1)] 24 (0, 0))) ∧ Aside0 (wc.heap[gb1164]? = some (.cells #[.int .i64 t1160, (.slice Ao41 t1161.length co41)] 29 (0, 0))) ∧ Aside0 (Below w.heap.size w wc))
  case first =>
   have H := HC26.out
   clear HC26
   by_cases c57 : t1183 < 0
   ·rw [if_pos c57] at H
    have c57b0 : decide (t1183 < 0) = true := decide_eq_true c57
    clear c57
    (first | rw [c57b0] | (simp only [i64_w, i32_w]; rw [c57b0]) | skip)
    have H' := Aside0.mk H
    clear H
    go_wp2
    go_meet
    case rel => exact ⟨_, (true), ns_, H', ⟨by first | omega | exact Nat.le_refl _⟩, ⟨by (with_reducible repeat (first | apply rA18 | apply rN18 | apply rD18)); exact Kd.R_mono HO1159.out (fun _ hk => by first | exact hk.2.2.1 | trivial | simp_all)⟩, ⟨by (with_reducible repeat (first | apply rA18 | apply rN18 | apply rD18)); exact Kd.R_mono HO1170.out (fun _ hk => by first | exact hk.2.1 | trivial | simp_all)⟩, ⟨by (with_reducible repeat (first | apply rA18 | apply rN18 | apply rD18)); exact Kd.R_mono HO1163.out (fun _ hk => trivial)⟩, ⟨nb_ BK1148.out⟩, ⟨nb_ BK1164.out⟩, ⟨ne_ HB.out⟩⟩
   rw [if_neg c57] at H
   have c57b0 : decide (t1183 < 0) = false := decide_eq_false c57
   clear c57
   (first | rw [c57b0] | (simp only [i64_w, i32_w]; rw [c57b0]) | skip)
   replace H := Option.bind_eq_some_iff.mp H
   obtain ⟨t1185, A580, H⟩ := H
   replace H : (laws_FnExactWalkPlain.j0 k l1 t1157 t1168 (!t1185) a0_0 l0_1) = some r := H
   have A58 := Aside0.mk A580
   clear A580
   have H' := Aside0.mk H
   clear H
   go_wp2_with (first | (go_at_call 32; (with_reducible refine (laws_eqIntS.calls k _ _ t1168 _ _ t1157 t1185 _ ?side1 ?side2 ?side3 ?side4 A58.out).mono ?_); (case side1 => exact nc_ (rR18 HO1170.out).2.2); (case side2 => exact (rR18 HO1170.out).2.1); (case side3 => exact nc_ (rR18 HO1159.out).2.2); (case side4 => exact (rR18 HO1159.out).2.1); rintro e w' ⟨rfl, ⟨nd, rfl⟩⟩))
   go_meet
   case rel => exact ⟨_, (!t1185), ns_, H', ⟨by first | omega | exact Nat.le_refl _⟩, ⟨by (with_reducible repeat (first | apply rA18 | apply rN18 | apply rD18)); exact Kd.R_mono HO1159.out (fun _ hk => by first | exact hk.2.2.1 | trivial | simp_all)⟩, ⟨by (with_reducible repeat (first | apply rA18 | apply rN18 | apply rD18)); exact Kd.R_mono HO1170.out (fun _ hk => by first | exact hk.2.1 | trivial | simp_all)⟩, ⟨by (with_reducible repeat (first | apply rA18 | apply rN18 | apply rD18)); exact Kd.R_mono HO1163.out (fun _ hk => trivial)⟩, ⟨nb_ BK1148.out⟩, ⟨nb_ BK1164.out⟩, ⟨ne_ HB.out⟩⟩
  case rest =>
   clear HC26
   try clear c1
   try clear c3
   try clear c3b0
   try clear c3b1
   try clear c6
   try clear c6b0
   try clear c17
   try clear c20
   try clear c23
   try clear hcz28_0
   try clear hcz28_1
   try clear hcz30_0
   try clear hcz30_1
   try clear hcz36_0
   try clear hcz36_1
   try clear hcz40_0
   try clear hcz40_1
   try clear hcz43_0
   try clear hcz43_1
   try clear hcz54_0
   try clear hcz54_1
   try clear hfz28_0
   try clear hfz28_1
   try clear hfz30_0
   try clear hfz30_1
   try clear hfz36_0
   try clear hfz36_1
   try clear hfz40_0
   try clear hfz40_1
   try clear hfz43_0
   try clear hfz43_1
   try clear hfz54_0
   try clear hfz54_1
   obtain ⟨kq, x61_25, rfl, HA, HJ25, HO_6, HO_9, HO_1165001, BK1148, BK1164, HB⟩ := hcut
   have hl1165001_25 := (rR18 HO_1165001.out).1
   rw [hl1165001_25] at HO_1165001
   (try simp only [hl1165001_25])
   (try simp only [hl1165001_25] at BK1148)
   (try simp only [hl1165001_25] at BK1164)
   (try simp only [hl1165001_25] at HO_6)
   (try simp only [hl1165001_25] at HO_9)
   cases kq with
   | zero => exact absurd HA.out (by simp [laws_FnExactWalkPlain.j0])
   | succ kj25 =>
    have H := HA.out
    clear HA
    simp only [laws_FnExactWalkPlain.j0] at H
    by_cases c59 : x61_25 = true
    ·subst c59
     have H1 : (some false) = some r := by rw [if_pos rfl] at H; exact H
     clear H
     have H := H1
     clear H1
     obtain rfl := Option.some.inj H
     go_wp2
     go_ret
     exact ⟨nw_, ne_ HB.out⟩
    replace c59 := Bool.eq_false_iff.mpr c59
    subst c59
    have H1 : ((laws_markIntS.f kj25 t1168 1).bind fun bt1186 => ((laws_heldIntS.f kj25 bt1186.2 1).bind fun t1188 => (if t1188 < 0 then (some false) else (if t1188 = bt1186.1 then ((laws_toNet.f kj25 a0_0 l0_1).bind fun bt1189 => ((laws_toIntS.f kj25 l1).bind fun t1193 => ((impl_WalkPlain.f kj25 bt1189.1 bt1189.2 t1193).bind fun t1196 => ((laws_eqIntS.f kj25 t1196 t1157).bind fun t1199 => (if t1199 = true then ((laws_heldIntS.f kj25 bt1186.2 1).bind fun t1200 => (if t1200 < 0 then (some false) else (if t1200 = bt1186.1 then (some true) else (some false)))) else (some false)))))) else (some false))))) = some r := by rw [if_neg (show ¬ (false = true) by decide)] at H; exact H
    clear H
    have H := H1
    clear H1
    replace H := Option.bind_eq_some_iff.mp H
    obtain ⟨⟨t1186, t1187⟩, A600, H⟩ := H
    try dsimp only at H
    have A60 := Aside0.mk A600
    clear A600
    replace H := Option.bind_eq_some_iff.mp H
    obtain ⟨t1188, A610, H⟩ := H
    try dsimp only at H
    have A61 := Aside0.mk A610
    clear A610
    by_cases c62 : t1188 < 0
    ·rw [if_pos c62] at H
     have c62b0 : decide (t1188 < 0) = true := decide_eq_true c62
     clear c62
     obtain rfl := Option.some.inj H
     go_wp2_with (first | ((with_reducible refine gate_callee (f := 34) rfl ?_); refine gl_ (some 64) Try.func34 #[.slice Ao46 t1168.length co46, .int .i64 1] ?_; (with_reducible refine (laws_markIntS.calls kj25 (fun k_ => some k_ = (.slice Ao46 t1168.length co46 : Value).ownBlock) (.slice Ao46 t1168.length co46) t1168 1 t1186 t1187 w _ ?side1 ?side2 A60.out).mono ?_); (case side1 => exact (ne_ HB.out)); (case side2 => exact Kd.R_tight rfl HO_9.out); rintro e w63 ⟨rfl, hy0, hb, hkp⟩; refine ⟨_, rfl, ?_⟩; replace HO_6 := Aside0.mk (Kd.R_mono (ok' := fun k_ => some k_ ≠ (.slice Ao46 t1168.length co46 : Value).ownBlock) (Kd.R_keptB (HO_6.out) hkp (fun k_ hk_ hs_ => (hk_) hs_)) (fun k_ hk_ => hk_.1)); replace HO_1165001 := Aside0.mk (Kd.R_mono (ok' := fun k_ => True) (Kd.R_keptB ((Kd.R_apart' HO_1165001.out (Kd.R_typed HO_9.out) (by decide))) hkp (fun k_ hk_ hs_ => (hk_.2) hs_)) (fun k_ hk_ => trivial)); replace BK1148 := Aside0.mk (blk_kept (g := gb1148) (o := .cells #[.int .i64 a0_0, .slice A0_1 l0_1.length c0_1] 24 (0, 0)) (nb_ BK1148.out) hkp (fun hs_ => (fun e_ => (Kd.R_ne HO_9.out BK1148.out (by decide)) e_) hs_)); replace BK1164 := Aside0.mk (blk_kept (g := gb1164) (o := .cells #[.int .i64 t1160, .slice Ao41 t1182.length co41] 29 (0, 0)) (nb_ BK1164.out) hkp (fun hs_ => (fun e_ => (Kd.R_ne HO_9.out BK1164.out (by decide)) e_) hs_)); replace HO_9 := Aside0.mk (Kd.R_reok rfl hy0 (fun k_ e_ => HO_9.out.1 k_ e_)); replace HB := Aside0.mk (hb); (try clear hb); (try clear hkp); (try clear hy0)) | ((with_reducible refine gate_callee (f := 35) rfl ?_); refine goesL_ (some 67) rfl rfl Try.func35 (by kernel_rfl) rfl #[.slice Ao46 t1187.length co46, .int .i64 1] rfl (by (try simp only [List.map_toArray, List.map_cons, List.map_nil]); first | done | (rw [show t1187.length = t1168.length from (rR18 HO_9.out).1.symm] <;> rfl) | rfl | (simp only [List.length_drop, List.length_take]; rfl)) ?_; (with_reducible refine (laws_heldIntS.calls kj25 _ _ t1187 1 t1188 _ ?side1 ?side2 A61.out).mono ?_); (case side1 => exact nc_ (rR18 HO_9.out).2.2); (case side2 => rw [show t1187.length = t1168.length from (rR18 HO_9.out).1.symm]; exact (rR18 HO_9.out).2.1); rintro e w' ⟨rfl, ⟨nd, rfl⟩⟩; refine ⟨_, rfl, ?_⟩))
     go_ret
     exact ⟨nw_, ne_ HB.out⟩
    rw [if_neg c62] at H
    have c62b0 : decide (t1188 < 0) = false := decide_eq_false c62
    clear c62
    by_cases c64 : t1188 = t1186
    rotate_left
    ·rw [if_neg c64] at H
     have c64b0 : (t1188 == t1186) = false := beq_eq_false_iff_ne.mpr c64
     have c64b1 : (t1188 != t1186) = true := bne_iff_ne.mpr c64
     obtain rfl := Option.some.inj H
     go_wp2_with (first | ((with_reducible refine gate_callee (f := 34) rfl ?_); refine gl_ (some 64) Try.func34 #[.slice Ao46 t1168.length co46, .int .i64 1] ?_; (with_reducible refine (laws_markIntS.calls kj25 (fun k_ => some k_ = (.slice Ao46 t1168.length co46 : Value).ownBlock) (.slice Ao46 t1168.length co46) t1168 1 t1186 t1187 w _ ?side1 ?side2 A60.out).mono ?_); (case side1 => exact (ne_ HB.out)); (case side2 => exact Kd.R_tight rfl HO_9.out); rintro e w109 ⟨rfl, hy0, hb, hkp⟩; refine ⟨_, rfl, ?_⟩; replace HO_6 := Aside0.mk (Kd.R_mono (ok' := fun k_ => some k_ ≠ (.slice Ao46 t1168.length co46 : Value).ownBlock) (Kd.R_keptB (HO_6.out) hkp (fun k_ hk_ hs_ => (hk_) hs_)) (fun k_ hk_ => hk_.1)); replace HO_1165001 := Aside0.mk (Kd.R_mono (ok' := fun k_ => True) (Kd.R_keptB ((Kd.R_apart' HO_1165001.out (Kd.R_typed HO_9.out) (by decide))) hkp (fun k_ hk_ hs_ => (hk_.2) hs_)) (fun k_ hk_ => trivial)); replace BK1148 := Aside0.mk (blk_kept (g := gb1148) (o := .cells #[.int .i64 a0_0, .slice A0_1 l0_1.length c0_1] 24 (0, 0)) (nb_ BK1148.out) hkp (fun hs_ => (fun e_ => (Kd.R_ne HO_9.out BK1148.out (by decide)) e_) hs_)); replace BK1164 := Aside0.mk (blk_kept (g := gb1164) (o := .cells #[.int .i64 t1160, .slice Ao41 t1182.length co41] 29 (0, 0)) (nb_ BK1164.out) hkp (fun hs_ => (fun e_ => (Kd.R_ne HO_9.out BK1164.out (by decide)) e_) hs_)); replace HO_9 := Aside0.mk (Kd.R_reok rfl hy0 (fun k_ e_ => HO_9.out.1 k_ e_)); replace HB := Aside0.mk (hb); (try clear hb); (try clear hkp); (try clear hy0)) | ((with_reducible refine gate_callee (f := 35) rfl ?_); refine goesL_ (some 67) rfl rfl Try.func35 (by kernel_rfl) rfl #[.slice Ao46 t1187.length co46, .int .i64 1] rfl (by (try simp only [List.map_toArray, List.map_cons, List.map_nil]); first | done | (rw [show t1187.length = t1168.length from (rR18 HO_9.out).1.symm] <;> rfl) | rfl | (simp only [List.length_drop, List.length_take]; rfl)) ?_; (with_reducible refine (laws_heldIntS.calls kj25 _ _ t1187 1 t1188 _ ?side1 ?side2 A61.out).mono ?_); (case side1 => exact nc_ (rR18 HO_9.out).2.2); (case side2 => rw [show t1187.length = t1168.length from (rR18 HO_9.out).1.symm]; exact (rR18 HO_9.out).2.1); rintro e w' ⟨rfl, ⟨nd, rfl⟩⟩; refine ⟨_, rfl, ?_⟩))
     go_ret
     exact ⟨nw_, ne_ HB.out⟩
    rw [if_pos c64] at H
    have c64b0 : (t1188 == t1186) = true := beq_iff_eq.mpr c64
    have c64b1 : (t1188 != t1186) = false := bne_eq_false_iff_eq.mpr c64
    clear c64
    replace H := Option.bind_eq_some_iff.mp H
    obtain ⟨⟨t1189, t1190⟩, A650, H⟩ := H
    try dsimp only at H
    have A65 := Aside0.mk A650
    clear A650
    replace H := Option.bind_eq_some_iff.mp H
    obtain ⟨t1193, A660, H⟩ := H
    try dsimp only at H
    have A66 := Aside0.mk A660
    clear A660
    replace H := Option.bind_eq_some_iff.mp H
    obtain ⟨t1196, A670, H⟩ := H
    try dsimp only at H
    have A67 := Aside0.mk A670
    clear A670
    replace H := Option.bind_eq_some_iff.mp H
    obtain ⟨t1199, A680, H⟩ := H
    try dsimp only at H
    have A68 := Aside0.mk A680
    clear A680
    by_cases c69 : t1199 = true
    rotate_left
    ·replace c69 := Bool.eq_false_iff.mpr c69
     subst c69
     have H1 : (some false) = some r := by rw [if_neg (show ¬ (false = true) by decide)] at H; exact H
     clear H
     have H := H1
     clear H1
     obtain rfl := Option.some.inj H
     go_wp2_with (first | ((with_reducible refine gate_callee (f := 34) rfl ?_); refine gl_ (some 64) Try.func34 #[.slice Ao46 t1168.length co46, .int .i64 1] ?_; (with_reducible refine (laws_markIntS.calls kj25 (fun k_ => some k_ = (.slice Ao46 t1168.length co46 : Value).ownBlock) (.slice Ao46 t1168.length co46) t1168 1 t1186 t1187 w _ ?side1 ?side2 A60.out).mono ?_); (case side1 => exact (ne_ HB.out)); (case side2 => exact Kd.R_tight rfl HO_9.out); rintro e w100 ⟨rfl, hy0, hb, hkp⟩; refine ⟨_, rfl, ?_⟩; replace HO_6 := Aside0.mk (Kd.R_mono (ok' := fun k_ => some k_ ≠ (.slice Ao46 t1168.length co46 : Value).ownBlock) (Kd.R_keptB (HO_6.out) hkp (fun k_ hk_ hs_ => (hk_) hs_)) (fun k_ hk_ => hk_.1)); replace HO_1165001 := Aside0.mk (Kd.R_mono (ok' := fun k_ => True) (Kd.R_keptB ((Kd.R_apart' HO_1165001.out (Kd.R_typed HO_9.out) (by decide))) hkp (fun k_ hk_ hs_ => (hk_.2) hs_)) (fun k_ hk_ => trivial)); replace BK1148 := Aside0.mk (blk_kept (g := gb1148) (o := .cells #[.int .i64 a0_0, .slice A0_1 l0_1.length c0_1] 24 (0, 0)) (nb_ BK1148.out) hkp (fun hs_ => (fun e_ => (Kd.R_ne HO_9.out BK1148.out (by decide)) e_) hs_)); replace BK1164 := Aside0.mk (blk_kept (g := gb1164) (o := .cells #[.int .i64 t1160, .slice Ao41 t1182.length co41] 29 (0, 0)) (nb_ BK1164.out) hkp (fun hs_ => (fun e_ => (Kd.R_ne HO_9.out BK1164.out (by decide)) e_) hs_)); replace HO_9 := Aside0.mk (Kd.R_reok rfl hy0 (fun k_ e_ => HO_9.out.1 k_ e_)); replace HB := Aside0.mk (hb); (try clear hb); (try clear hkp); (try clear hy0)) | ((with_reducible refine gate_callee (f := 35) rfl ?_); refine goesL_ (some 67) rfl rfl Try.func35 (by kernel_rfl) rfl #[.slice Ao46 t1187.length co46, .int .i64 1] rfl (by (try simp only [List.map_toArray, List.map_cons, List.map_nil]); first | done | (rw [show t1187.length = t1168.length from (rR18 HO_9.out).1.symm] <;> rfl) | rfl | (simp only [List.length_drop, List.length_take]; rfl)) ?_; (with_reducible refine (laws_heldIntS.calls kj25 _ _ t1187 1 t1188 _ ?side1 ?side2 A61.out).mono ?_); (case side1 => exact nc_ (rR18 HO_9.out).2.2); (case side2 => rw [show t1187.length = t1168.length from (rR18 HO_9.out).1.symm]; exact (rR18 HO_9.out).2.1); rintro e w' ⟨rfl, ⟨nd, rfl⟩⟩; refine ⟨_, rfl, ?_⟩; have hnb101 := NB1148_1164.out; have hnc101 := NB1164_1148.out; obtain ⟨hcz102_0, hcz102_1, hfz102_0, hfz102_1⟩ := cz2_ BK1148.out) | ((with_reducible refine gate_callee (f := 21) rfl ?_); refine gl_ (some 74) Try.func21 #[.agg #[.int .i64 a0_0, .slice A0_1 l0_1.length c0_1]] ?_; (with_reducible refine (laws_toNet.calls kj25 a0_0 _ _ l0_1 t1189 t1190 _ ?side1 ?side2 A65.out).mono ?_); (case side1 => exact nc_ (Kd.C_below HR0_1.out (ne_ HB.out))); (case side2 => exact HC0_1.out); rintro e w103 ⟨v1191, rfl, ho0, hb⟩; refine ⟨_, rfl, ?_⟩; have HO1192 := Aside0.mk (Kd.R_lower (Kd.R_new' ho0 (Kd.R_lt (nr_ HO_1165001.out))) (eZ18 (ne_ HB.out))); replace HO_6 := kR_ HO_6 hb; replace HO_9 := kR_ HO_9 hb; replace HO_1165001 := Aside0.mk (Kd.R_elder' (nr_ HO_1165001.out) (Kd.R_base ho0) hb); replace BK1148 := kb_ BK1148 hb; replace BK1164 := kb_ BK1164 hb; replace HB := kB_ HB hb; (try clear hb); (try clear hb2); (try clear hk); (try clear hi); (try clear ho0)) | ((with_reducible refine gate_callee (f := 45) rfl ?_); refine gl_ (some 76) Try.func45 #[.slice A1 l1.length c1] ?_; (with_reducible refine (laws_toIntS.calls kj25 _ _ l1 t1193 _ ?side1 ?side2 A66.out).mono ?_); (case side1 => exact nc_ (Kd.C_below HR1.out HB.out)); (case side2 => exact HC1.out); rintro e w104 ⟨v1194, rfl, ho0, hb⟩; refine ⟨_, rfl, ?_⟩; have HO1195 := Aside0.mk (Kd.R_lower (Kd.R_new' (Kd.R_new' ho0 (Kd.R_lt (nr_ HO_6.out))) (Kd.R_lt (nr_ HO_9.out))) (eZ18 (ne_ HB.out))); replace HO_6 := Aside0.mk (Kd.R_elder' (nr_ HO_6.out) (Kd.R_base ho0) hb); replace HO_9 := Aside0.mk (Kd.R_elder' (nr_ HO_9.out) (Kd.R_base ho0) hb); replace HO_1165001 := kR_ HO_1165001 hb; replace HO1192 := kR_ HO1192 hb; replace BK1148 := kb_ BK1148 hb; replace BK1164 := kb_ BK1164 hb; replace HB := kB_ HB hb; (try clear hb); (try clear hb2); (try clear hk); (try clear hi); (try clear ho0); obtain ⟨Ao105, co105, eo105⟩ := Kd.R_slice HO1192.out; subst eo105; obtain ⟨Ao106, co106, eo106⟩ := Kd.R_slice HO1195.out; subst eo106) | ((with_reducible refine gate_callee (f := 56) rfl ?_); refine gl_ (some 77) Try.func56 #[.agg #[.int .i64 t1189, .slice Ao105 t1190.length co105], .slice Ao106 t1193.length co106] ?_; (with_reducible refine (impl_WalkPlain.calls kj25 t1189 _ _ t1190 _ _ t1193 t1196 _ ?side1 ?side2 ?side3 ?side4 A67.out).mono ?_); (case side1 => exact nc_ (rR18 HO1192.out).2.2); (case side2 => exact (rR18 HO1192.out).2.1); (case side3 => exact nc_ (rR18 HO1195.out).2.2); (case side4 => exact (rR18 HO1195.out).2.1); rintro e w107 ⟨v1197, rfl, ho0, hb⟩; refine ⟨_, rfl, ?_⟩; have HO1198 := Aside0.mk (Kd.R_lower (Kd.R_new' (Kd.R_new' (Kd.R_new' ho0 (Kd.R_lt (nr_ HO_6.out))) (Kd.R_lt (nr_ HO_9.out))) (Kd.R_lt (nr_ HO1195.out))) (eZ18 (ne_ HB.out))); replace HO_6 := Aside0.mk (Kd.R_elder' (nr_ HO_6.out) (Kd.R_base ho0) hb); replace HO_9 := Aside0.mk (Kd.R_elder' (nr_ HO_9.out) (Kd.R_base ho0) hb); replace HO_1165001 := kR_ HO_1165001 hb; replace HO1192 := kR_ HO1192 hb; replace HO1195 := Aside0.mk (Kd.R_elder' (nr_ HO1195.out) (Kd.R_base ho0) hb); replace BK1148 := kb_ BK1148 hb; replace BK1164 := kb_ BK1164 hb; replace HB := kB_ HB hb; (try clear hb); (try clear hb2); (try clear hk); (try clear hi); (try clear ho0); obtain ⟨Ao108, co108, eo108⟩ := Kd.R_slice HO1198.out; subst eo108) | ((with_reducible refine gate_callee (f := 32) rfl ?_); refine gl_ (some 80) Try.func32 #[.slice Ao108 t1196.length co108, .slice Ao47 t1157.length co47] ?_; (with_reducible refine (laws_eqIntS.calls kj25 _ _ t1196 _ _ t1157 false _ ?side1 ?side2 ?side3 ?side4 A68.out).mono ?_); (case side1 => exact nc_ (rR18 HO1198.out).2.2); (case side2 => exact (rR18 HO1198.out).2.1); (case side3 => exact nc_ (rR18 HO_6.out).2.2); (case side4 => exact (rR18 HO_6.out).2.1); rintro e w' ⟨rfl, ⟨nd, rfl⟩⟩; refine ⟨_, rfl, ?_⟩))
     go_ret
     exact ⟨nw_, ne_ HB.out⟩
    subst c69
    rw [if_pos rfl] at H
    replace H := Option.bind_eq_some_iff.mp H
    obtain ⟨t1200, A700, H⟩ := H
    replace H : (if t1200 < 0 then (some false) else (if t1200 = t1186 then (some true) else (some false))) = some r := H
    have A70 := Aside0.mk A700
    clear A700
    by_cases c71 : t1200 < 0
    ·rw [if_pos c71] at H
     have c71b0 : decide (t1200 < 0) = true := decide_eq_true c71
     clear c71
     obtain rfl := Option.some.inj H
     go_wp2_with (first | ((with_reducible refine gate_callee (f := 34) rfl ?_); refine gl_ (some 64) Try.func34 #[.slice Ao46 t1168.length co46, .int .i64 1] ?_; (with_reducible refine (laws_markIntS.calls kj25 (fun k_ => some k_ = (.slice Ao46 t1168.length co46 : Value).ownBlock) (.slice Ao46 t1168.length co46) t1168 1 t1186 t1187 w _ ?side1 ?side2 A60.out).mono ?_); (case side1 => exact (ne_ HB.out)); (case side2 => exact Kd.R_tight rfl HO_9.out); rintro e w72 ⟨rfl, hy0, hb, hkp⟩; refine ⟨_, rfl, ?_⟩; replace HO_6 := Aside0.mk (Kd.R_mono (ok' := fun k_ => some k_ ≠ (.slice Ao46 t1168.length co46 : Value).ownBlock) (Kd.R_keptB (HO_6.out) hkp (fun k_ hk_ hs_ => (hk_) hs_)) (fun k_ hk_ => hk_.1)); replace HO_1165001 := Aside0.mk (Kd.R_mono (ok' := fun k_ => True) (Kd.R_keptB ((Kd.R_apart' HO_1165001.out (Kd.R_typed HO_9.out) (by decide))) hkp (fun k_ hk_ hs_ => (hk_.2) hs_)) (fun k_ hk_ => trivial)); replace BK1148 := Aside0.mk (blk_kept (g := gb1148) (o := .cells #[.int .i64 a0_0, .slice A0_1 l0_1.length c0_1] 24 (0, 0)) (nb_ BK1148.out) hkp (fun hs_ => (fun e_ => (Kd.R_ne HO_9.out BK1148.out (by decide)) e_) hs_)); replace BK1164 := Aside0.mk (blk_kept (g := gb1164) (o := .cells #[.int .i64 t1160, .slice Ao41 t1182.length co41] 29 (0, 0)) (nb_ BK1164.out) hkp (fun hs_ => (fun e_ => (Kd.R_ne HO_9.out BK1164.out (by decide)) e_) hs_)); replace HO_9 := Aside0.mk (Kd.R_reok rfl hy0 (fun k_ e_ => HO_9.out.1 k_ e_)); replace HB := Aside0.mk (hb); (try clear hb); (try clear hkp); (try clear hy0)) | ((with_reducible refine gate_callee (f := 35) rfl ?_); refine goesL_ (some 67) rfl rfl Try.func35 (by kernel_rfl) rfl #[.slice Ao46 t1187.length co46, .int .i64 1] rfl (by (try simp only [List.map_toArray, List.map_cons, List.map_nil]); first | done | (rw [show t1187.length = t1168.length from (rR18 HO_9.out).1.symm] <;> rfl) | rfl | (simp only [List.length_drop, List.length_take]; rfl)) ?_; (with_reducible refine (laws_heldIntS.calls kj25 _ _ t1187 1 t1188 _ ?side1 ?side2 A61.out).mono ?_); (case side1 => exact nc_ (rR18 HO_9.out).2.2); (case side2 => rw [show t1187.length = t1168.length from (rR18 HO_9.out).1.symm]; exact (rR18 HO_9.out).2.1); rintro e w' ⟨rfl, ⟨nd, rfl⟩⟩; refine ⟨_, rfl, ?_⟩; have hnb73 := NB1148_1164.out; have hnc73 := NB1164_1148.out; obtain ⟨hcz74_0, hcz74_1, hfz74_0, hfz74_1⟩ := cz2_ BK1148.out) | ((with_reducible refine gate_callee (f := 21) rfl ?_); refine gl_ (some 74) Try.func21 #[.agg #[.int .i64 a0_0, .slice A0_1 l0_1.length c0_1]] ?_; (with_reducible refine (laws_toNet.calls kj25 a0_0 _ _ l0_1 t1189 t1190 _ ?side1 ?side2 A65.out).mono ?_); (case side1 => exact nc_ (Kd.C_below HR0_1.out (ne_ HB.out))); (case side2 => exact HC0_1.out); rintro e w75 ⟨v1191, rfl, ho0, hb⟩; refine ⟨_, rfl, ?_⟩; have HO1192 := Aside0.mk (Kd.R_lower (Kd.R_new' ho0 (Kd.R_lt (nr_ HO_1165001.out))) (eZ18 (ne_ HB.out))); replace HO_6 := kR_ HO_6 hb; replace HO_9 := kR_ HO_9 hb; replace HO_1165001 := Aside0.mk (Kd.R_elder' (nr_ HO_1165001.out) (Kd.R_base ho0) hb); replace BK1148 := kb_ BK1148 hb; replace BK1164 := kb_ BK1164 hb; replace HB := kB_ HB hb; (try clear hb); (try clear hb2); (try clear hk); (try clear hi); (try clear ho0)) | ((with_reducible refine gate_callee (f := 45) rfl ?_); refine gl_ (some 76) Try.func45 #[.slice A1 l1.length c1] ?_; (with_reducible refine (laws_toIntS.calls kj25 _ _ l1 t1193 _ ?side1 ?side2 A66.out).mono ?_); (case side1 => exact nc_ (Kd.C_below HR1.out HB.out)); (case side2 => exact HC1.out); rintro e w76 ⟨v1194, rfl, ho0, hb⟩; refine ⟨_, rfl, ?_⟩; have HO1195 := Aside0.mk (Kd.R_lower (Kd.R_new' (Kd.R_new' ho0 (Kd.R_lt (nr_ HO_6.out))) (Kd.R_lt (nr_ HO_9.out))) (eZ18 (ne_ HB.out))); replace HO_6 := Aside0.mk (Kd.R_elder' (nr_ HO_6.out) (Kd.R_base ho0) hb); replace HO_9 := Aside0.mk (Kd.R_elder' (nr_ HO_9.out) (Kd.R_base ho0) hb); replace HO_1165001 := kR_ HO_1165001 hb; replace HO1192 := kR_ HO1192 hb; replace BK1148 := kb_ BK1148 hb; replace BK1164 := kb_ BK1164 hb; replace HB := kB_ HB hb; (try clear hb); (try clear hb2); (try clear hk); (try clear hi); (try clear ho0); obtain ⟨Ao77, co77, eo77⟩ := Kd.R_slice HO1192.out; subst eo77; obtain ⟨Ao78, co78, eo78⟩ := Kd.R_slice HO1195.out; subst eo78) | ((with_reducible refine gate_callee (f := 56) rfl ?_); refine gl_ (some 77) Try.func56 #[.agg #[.int .i64 t1189, .slice Ao77 t1190.length co77], .slice Ao78 t1193.length co78] ?_; (with_reducible refine (impl_WalkPlain.calls kj25 t1189 _ _ t1190 _ _ t1193 t1196 _ ?side1 ?side2 ?side3 ?side4 A67.out).mono ?_); (case side1 => exact nc_ (rR18 HO1192.out).2.2); (case side2 => exact (rR18 HO1192.out).2.1); (case side3 => exact nc_ (rR18 HO1195.out).2.2); (case side4 => exact (rR18 HO1195.out).2.1); rintro e w79 ⟨v1197, rfl, ho0, hb⟩; refine ⟨_, rfl, ?_⟩; have HO1198 := Aside0.mk (Kd.R_lower (Kd.R_new' (Kd.R_new' (Kd.R_new' ho0 (Kd.R_lt (nr_ HO_6.out))) (Kd.R_lt (nr_ HO_9.out))) (Kd.R_lt (nr_ HO1195.out))) (eZ18 (ne_ HB.out))); replace HO_6 := Aside0.mk (Kd.R_elder' (nr_ HO_6.out) (Kd.R_base ho0) hb); replace HO_9 := Aside0.mk (Kd.R_elder' (nr_ HO_9.out) (Kd.R_base ho0) hb); replace HO_1165001 := kR_ HO_1165001 hb; replace HO1192 := kR_ HO1192 hb; replace HO1195 := Aside0.mk (Kd.R_elder' (nr_ HO1195.out) (Kd.R_base ho0) hb); replace BK1148 := kb_ BK1148 hb; replace BK1164 := kb_ BK1164 hb; replace HB := kB_ HB hb; (try clear hb); (try clear hb2); (try clear hk); (try clear hi); (try clear ho0); obtain ⟨Ao80, co80, eo80⟩ := Kd.R_slice HO1198.out; subst eo80) | ((with_reducible refine gate_callee (f := 32) rfl ?_); refine gl_ (some 80) Try.func32 #[.slice Ao80 t1196.length co80, .slice Ao47 t1157.length co47] ?_; (with_reducible refine (laws_eqIntS.calls kj25 _ _ t1196 _ _ t1157 true _ ?side1 ?side2 ?side3 ?side4 A68.out).mono ?_); (case side1 => exact nc_ (rR18 HO1198.out).2.2); (case side2 => exact (rR18 HO1198.out).2.1); (case side3 => exact nc_ (rR18 HO_6.out).2.2); (case side4 => exact (rR18 HO_6.out).2.1); rintro e w' ⟨rfl, ⟨nd, rfl⟩⟩; refine ⟨_, rfl, ?_⟩) | ((with_reducible refine gate_callee (f := 35) rfl ?_); refine goesL_ (some 84) rfl rfl Try.func35 (by kernel_rfl) rfl #[.slice Ao46 t1187.length co46, .int .i64 1] rfl (by (try simp only [List.map_toArray, List.map_cons, List.map_nil]); first | done | (rw [show t1187.length = t1168.length from (rR18 HO_9.out).1.symm] <;> rfl) | rfl | (simp only [List.length_drop, List.length_take]; rfl)) ?_; (with_reducible refine (laws_heldIntS.calls kj25 _ _ t1187 1 t1200 _ ?side1 ?side2 A70.out).mono ?_); (case side1 => exact nc_ (rR18 HO_9.out).2.2); (case side2 => rw [show t1187.length = t1168.length from (rR18 HO_9.out).1.symm]; exact (rR18 HO_9.out).2.1); rintro e w' ⟨rfl, ⟨nd, rfl⟩⟩; refine ⟨_, rfl, ?_⟩))
     go_ret
     exact ⟨nw_, ne_ HB.out⟩
    rw [if_neg c71] at H
    have c71b0 : decide (t1200 < 0) = false := decide_eq_false c71
    clear c71
    by_cases c81 : t1200 = t1186
    rotate_left
    ·rw [if_neg c81] at H
     have c81b0 : (t1200 == t1186) = false := beq_eq_false_iff_ne.mpr c81
     have c81b1 : (t1200 != t1186) = true := bne_iff_ne.mpr c81
     obtain rfl := Option.some.inj H
     go_wp2_with (first | ((with_reducible refine gate_callee (f := 34) rfl ?_); refine gl_ (some 64) Try.func34 #[.slice Ao46 t1168.length co46, .int .i64 1] ?_; (with_reducible refine (laws_markIntS.calls kj25 (fun k_ => some k_ = (.slice Ao46 t1168.length co46 : Value).ownBlock) (.slice Ao46 t1168.length co46) t1168 1 t1186 t1187 w _ ?side1 ?side2 A60.out).mono ?_); (case side1 => exact (ne_ HB.out)); (case side2 => exact Kd.R_tight rfl HO_9.out); rintro e w91 ⟨rfl, hy0, hb, hkp⟩; refine ⟨_, rfl, ?_⟩; replace HO_6 := Aside0.mk (Kd.R_mono (ok' := fun k_ => some k_ ≠ (.slice Ao46 t1168.length co46 : Value).ownBlock) (Kd.R_keptB (HO_6.out) hkp (fun k_ hk_ hs_ => (hk_) hs_)) (fun k_ hk_ => hk_.1)); replace HO_1165001 := Aside0.mk (Kd.R_mono (ok' := fun k_ => True) (Kd.R_keptB ((Kd.R_apart' HO_1165001.out (Kd.R_typed HO_9.out) (by decide))) hkp (fun k_ hk_ hs_ => (hk_.2) hs_)) (fun k_ hk_ => trivial)); replace BK1148 := Aside0.mk (blk_kept (g := gb1148) (o := .cells #[.int .i64 a0_0, .slice A0_1 l0_1.length c0_1] 24 (0, 0)) (nb_ BK1148.out) hkp (fun hs_ => (fun e_ => (Kd.R_ne HO_9.out BK1148.out (by decide)) e_) hs_)); replace BK1164 := Aside0.mk (blk_kept (g := gb1164) (o := .cells #[.int .i64 t1160, .slice Ao41 t1182.length co41] 29 (0, 0)) (nb_ BK1164.out) hkp (fun hs_ => (fun e_ => (Kd.R_ne HO_9.out BK1164.out (by decide)) e_) hs_)); replace HO_9 := Aside0.mk (Kd.R_reok rfl hy0 (fun k_ e_ => HO_9.out.1 k_ e_)); replace HB := Aside0.mk (hb); (try clear hb); (try clear hkp); (try clear hy0)) | ((with_reducible refine gate_callee (f := 35) rfl ?_); refine goesL_ (some 67) rfl rfl Try.func35 (by kernel_rfl) rfl #[.slice Ao46 t1187.length co46, .int .i64 1] rfl (by (try simp only [List.map_toArray, List.map_cons, List.map_nil]); first | done | (rw [show t1187.length = t1168.length from (rR18 HO_9.out).1.symm] <;> rfl) | rfl | (simp only [List.length_drop, List.length_take]; rfl)) ?_; (with_reducible refine (laws_heldIntS.calls kj25 _ _ t1187 1 t1188 _ ?side1 ?side2 A61.out).mono ?_); (case side1 => exact nc_ (rR18 HO_9.out).2.2); (case side2 => rw [show t1187.length = t1168.length from (rR18 HO_9.out).1.symm]; exact (rR18 HO_9.out).2.1); rintro e w' ⟨rfl, ⟨nd, rfl⟩⟩; refine ⟨_, rfl, ?_⟩; have hnb92 := NB1148_1164.out; have hnc92 := NB1164_1148.out; obtain ⟨hcz93_0, hcz93_1, hfz93_0, hfz93_1⟩ := cz2_ BK1148.out) | ((with_reducible refine gate_callee (f := 21) rfl ?_); refine gl_ (some 74) Try.func21 #[.agg #[.int .i64 a0_0, .slice A0_1 l0_1.length c0_1]] ?_; (with_reducible refine (laws_toNet.calls kj25 a0_0 _ _ l0_1 t1189 t1190 _ ?side1 ?side2 A65.out).mono ?_); (case side1 => exact nc_ (Kd.C_below HR0_1.out (ne_ HB.out))); (case side2 => exact HC0_1.out); rintro e w94 ⟨v1191, rfl, ho0, hb⟩; refine ⟨_, rfl, ?_⟩; have HO1192 := Aside0.mk (Kd.R_lower (Kd.R_new' ho0 (Kd.R_lt (nr_ HO_1165001.out))) (eZ18 (ne_ HB.out))); replace HO_6 := kR_ HO_6 hb; replace HO_9 := kR_ HO_9 hb; replace HO_1165001 := Aside0.mk (Kd.R_elder' (nr_ HO_1165001.out) (Kd.R_base ho0) hb); replace BK1148 := kb_ BK1148 hb; replace BK1164 := kb_ BK1164 hb; replace HB := kB_ HB hb; (try clear hb); (try clear hb2); (try clear hk); (try clear hi); (try clear ho0)) | ((with_reducible refine gate_callee (f := 45) rfl ?_); refine gl_ (some 76) Try.func45 #[.slice A1 l1.length c1] ?_; (with_reducible refine (laws_toIntS.calls kj25 _ _ l1 t1193 _ ?side1 ?side2 A66.out).mono ?_); (case side1 => exact nc_ (Kd.C_below HR1.out HB.out)); (case side2 => exact HC1.out); rintro e w95 ⟨v1194, rfl, ho0, hb⟩; refine ⟨_, rfl, ?_⟩; have HO1195 := Aside0.mk (Kd.R_lower (Kd.R_new' (Kd.R_new' ho0 (Kd.R_lt (nr_ HO_6.out))) (Kd.R_lt (nr_ HO_9.out))) (eZ18 (ne_ HB.out))); replace HO_6 := Aside0.mk (Kd.R_elder' (nr_ HO_6.out) (Kd.R_base ho0) hb); replace HO_9 := Aside0.mk (Kd.R_elder' (nr_ HO_9.out) (Kd.R_base ho0) hb); replace HO_1165001 := kR_ HO_1165001 hb; replace HO1192 := kR_ HO1192 hb; replace BK1148 := kb_ BK1148 hb; replace BK1164 := kb_ BK1164 hb; replace HB := kB_ HB hb; (try clear hb); (try clear hb2); (try clear hk); (try clear hi); (try clear ho0); obtain ⟨Ao96, co96, eo96⟩ := Kd.R_slice HO1192.out; subst eo96; obtain ⟨Ao97, co97, eo97⟩ := Kd.R_slice HO1195.out; subst eo97) | ((with_reducible refine gate_callee (f := 56) rfl ?_); refine gl_ (some 77) Try.func56 #[.agg #[.int .i64 t1189, .slice Ao96 t1190.length co96], .slice Ao97 t1193.length co97] ?_; (with_reducible refine (impl_WalkPlain.calls kj25 t1189 _ _ t1190 _ _ t1193 t1196 _ ?side1 ?side2 ?side3 ?side4 A67.out).mono ?_); (case side1 => exact nc_ (rR18 HO1192.out).2.2); (case side2 => exact (rR18 HO1192.out).2.1); (case side3 => exact nc_ (rR18 HO1195.out).2.2); (case side4 => exact (rR18 HO1195.out).2.1); rintro e w98 ⟨v1197, rfl, ho0, hb⟩; refine ⟨_, rfl, ?_⟩; have HO1198 := Aside0.mk (Kd.R_lower (Kd.R_new' (Kd.R_new' (Kd.R_new' ho0 (Kd.R_lt (nr_ HO_6.out))) (Kd.R_lt (nr_ HO_9.out))) (Kd.R_lt (nr_ HO1195.out))) (eZ18 (ne_ HB.out))); replace HO_6 := Aside0.mk (Kd.R_elder' (nr_ HO_6.out) (Kd.R_base ho0) hb); replace HO_9 := Aside0.mk (Kd.R_elder' (nr_ HO_9.out) (Kd.R_base ho0) hb); replace HO_1165001 := kR_ HO_1165001 hb; replace HO1192 := kR_ HO1192 hb; replace HO1195 := Aside0.mk (Kd.R_elder' (nr_ HO1195.out) (Kd.R_base ho0) hb); replace BK1148 := kb_ BK1148 hb; replace BK1164 := kb_ BK1164 hb; replace HB := kB_ HB hb; (try clear hb); (try clear hb2); (try clear hk); (try clear hi); (try clear ho0); obtain ⟨Ao99, co99, eo99⟩ := Kd.R_slice HO1198.out; subst eo99) | ((with_reducible refine gate_callee (f := 32) rfl ?_); refine gl_ (some 80) Try.func32 #[.slice Ao99 t1196.length co99, .slice Ao47 t1157.length co47] ?_; (with_reducible refine (laws_eqIntS.calls kj25 _ _ t1196 _ _ t1157 true _ ?side1 ?side2 ?side3 ?side4 A68.out).mono ?_); (case side1 => exact nc_ (rR18 HO1198.out).2.2); (case side2 => exact (rR18 HO1198.out).2.1); (case side3 => exact nc_ (rR18 HO_6.out).2.2); (case side4 => exact (rR18 HO_6.out).2.1); rintro e w' ⟨rfl, ⟨nd, rfl⟩⟩; refine ⟨_, rfl, ?_⟩) | ((with_reducible refine gate_callee (f := 35) rfl ?_); refine goesL_ (some 84) rfl rfl Try.func35 (by kernel_rfl) rfl #[.slice Ao46 t1187.length co46, .int .i64 1] rfl (by (try simp only [List.map_toArray, List.map_cons, List.map_nil]); first | done | (rw [show t1187.length = t1168.length from (rR18 HO_9.out).1.symm] <;> rfl) | rfl | (simp only [List.length_drop, List.length_take]; rfl)) ?_; (with_reducible refine (laws_heldIntS.calls kj25 _ _ t1187 1 t1200 _ ?side1 ?side2 A70.out).mono ?_); (case side1 => exact nc_ (rR18 HO_9.out).2.2); (case side2 => rw [show t1187.length = t1168.length from (rR18 HO_9.out).1.symm]; exact (rR18 HO_9.out).2.1); rintro e w' ⟨rfl, ⟨nd, rfl⟩⟩; refine ⟨_, rfl, ?_⟩))
     go_ret
     exact ⟨nw_, ne_ HB.out⟩
    rw [if_pos c81] at H
    have c81b0 : (t1200 == t1186) = true := beq_iff_eq.mpr c81
    have c81b1 : (t1200 != t1186) = false := bne_eq_false_iff_eq.mpr c81
    clear c81
    obtain rfl := Option.some.inj H
    go_wp2_with (first | ((with_reducible refine gate_callee (f := 34) rfl ?_); refine gl_ (some 64) Try.func34 #[.slice Ao46 t1168.length co46, .int .i64 1] ?_; (with_reducible refine (laws_markIntS.calls kj25 (fun k_ => some k_ = (.slice Ao46 t1168.length co46 : Value).ownBlock) (.slice Ao46 t1168.length co46) t1168 1 t1186 t1187 w _ ?side1 ?side2 A60.out).mono ?_); (case side1 => exact (ne_ HB.out)); (case side2 => exact Kd.R_tight rfl HO_9.out); rintro e w82 ⟨rfl, hy0, hb, hkp⟩; refine ⟨_, rfl, ?_⟩; replace HO_6 := Aside0.mk (Kd.R_mono (ok' := fun k_ => some k_ ≠ (.slice Ao46 t1168.length co46 : Value).ownBlock) (Kd.R_keptB (HO_6.out) hkp (fun k_ hk_ hs_ => (hk_) hs_)) (fun k_ hk_ => hk_.1)); replace HO_1165001 := Aside0.mk (Kd.R_mono (ok' := fun k_ => True) (Kd.R_keptB ((Kd.R_apart' HO_1165001.out (Kd.R_typed HO_9.out) (by decide))) hkp (fun k_ hk_ hs_ => (hk_.2) hs_)) (fun k_ hk_ => trivial)); replace BK1148 := Aside0.mk (blk_kept (g := gb1148) (o := .cells #[.int .i64 a0_0, .slice A0_1 l0_1.length c0_1] 24 (0, 0)) (nb_ BK1148.out) hkp (fun hs_ => (fun e_ => (Kd.R_ne HO_9.out BK1148.out (by decide)) e_) hs_)); replace BK1164 := Aside0.mk (blk_kept (g := gb1164) (o := .cells #[.int .i64 t1160, .slice Ao41 t1182.length co41] 29 (0, 0)) (nb_ BK1164.out) hkp (fun hs_ => (fun e_ => (Kd.R_ne HO_9.out BK1164.out (by decide)) e_) hs_)); replace HO_9 := Aside0.mk (Kd.R_reok rfl hy0 (fun k_ e_ => HO_9.out.1 k_ e_)); replace HB := Aside0.mk (hb); (try clear hb); (try clear hkp); (try clear hy0)) | ((with_reducible refine gate_callee (f := 35) rfl ?_); refine goesL_ (some 67) rfl rfl Try.func35 (by kernel_rfl) rfl #[.slice Ao46 t1187.length co46, .int .i64 1] rfl (by (try simp only [List.map_toArray, List.map_cons, List.map_nil]); first | done | (rw [show t1187.length = t1168.length from (rR18 HO_9.out).1.symm] <;> rfl) | rfl | (simp only [List.length_drop, List.length_take]; rfl)) ?_; (with_reducible refine (laws_heldIntS.calls kj25 _ _ t1187 1 t1188 _ ?side1 ?side2 A61.out).mono ?_); (case side1 => exact nc_ (rR18 HO_9.out).2.2); (case side2 => rw [show t1187.length = t1168.length from (rR18 HO_9.out).1.symm]; exact (rR18 HO_9.out).2.1); rintro e w' ⟨rfl, ⟨nd, rfl⟩⟩; refine ⟨_, rfl, ?_⟩; have hnb83 := NB1148_1164.out; have hnc83 := NB1164_1148.out; obtain ⟨hcz84_0, hcz84_1, hfz84_0, hfz84_1⟩ := cz2_ BK1148.out) | ((with_reducible refine gate_callee (f := 21) rfl ?_); refine gl_ (some 74) Try.func21 #[.agg #[.int .i64 a0_0, .slice A0_1 l0_1.length c0_1]] ?_; (with_reducible refine (laws_toNet.calls kj25 a0_0 _ _ l0_1 t1189 t1190 _ ?side1 ?side2 A65.out).mono ?_); (case side1 => exact nc_ (Kd.C_below HR0_1.out (ne_ HB.out))); (case side2 => exact HC0_1.out); rintro e w85 ⟨v1191, rfl, ho0, hb⟩; refine ⟨_, rfl, ?_⟩; have HO1192 := Aside0.mk (Kd.R_lower (Kd.R_new' ho0 (Kd.R_lt (nr_ HO_1165001.out))) (eZ18 (ne_ HB.out))); replace HO_6 := kR_ HO_6 hb; replace HO_9 := kR_ HO_9 hb; replace HO_1165001 := Aside0.mk (Kd.R_elder' (nr_ HO_1165001.out) (Kd.R_base ho0) hb); replace BK1148 := kb_ BK1148 hb; replace BK1164 := kb_ BK1164 hb; replace HB := kB_ HB hb; (try clear hb); (try clear hb2); (try clear hk); (try clear hi); (try clear ho0)) | ((with_reducible refine gate_callee (f := 45) rfl ?_); refine gl_ (some 76) Try.func45 #[.slice A1 l1.length c1] ?_; (with_reducible refine (laws_toIntS.calls kj25 _ _ l1 t1193 _ ?side1 ?side2 A66.out).mono ?_); (case side1 => exact nc_ (Kd.C_below HR1.out HB.out)); (case side2 => exact HC1.out); rintro e w86 ⟨v1194, rfl, ho0, hb⟩; refine ⟨_, rfl, ?_⟩; have HO1195 := Aside0.mk (Kd.R_lower (Kd.R_new' (Kd.R_new' ho0 (Kd.R_lt (nr_ HO_6.out))) (Kd.R_lt (nr_ HO_9.out))) (eZ18 (ne_ HB.out))); replace HO_6 := Aside0.mk (Kd.R_elder' (nr_ HO_6.out) (Kd.R_base ho0) hb); replace HO_9 := Aside0.mk (Kd.R_elder' (nr_ HO_9.out) (Kd.R_base ho0) hb); replace HO_1165001 := kR_ HO_1165001 hb; replace HO1192 := kR_ HO1192 hb; replace BK1148 := kb_ BK1148 hb; replace BK1164 := kb_ BK1164 hb; replace HB := kB_ HB hb; (try clear hb); (try clear hb2); (try clear hk); (try clear hi); (try clear ho0); obtain ⟨Ao87, co87, eo87⟩ := Kd.R_slice HO1192.out; subst eo87; obtain ⟨Ao88, co88, eo88⟩ := Kd.R_slice HO1195.out; subst eo88) | ((with_reducible refine gate_callee (f := 56) rfl ?_); refine gl_ (some 77) Try.func56 #[.agg #[.int .i64 t1189, .slice Ao87 t1190.length co87], .slice Ao88 t1193.length co88] ?_; (with_reducible refine (impl_WalkPlain.calls kj25 t1189 _ _ t1190 _ _ t1193 t1196 _ ?side1 ?side2 ?side3 ?side4 A67.out).mono ?_); (case side1 => exact nc_ (rR18 HO1192.out).2.2); (case side2 => exact (rR18 HO1192.out).2.1); (case side3 => exact nc_ (rR18 HO1195.out).2.2); (case side4 => exact (rR18 HO1195.out).2.1); rintro e w89 ⟨v1197, rfl, ho0, hb⟩; refine ⟨_, rfl, ?_⟩; have HO1198 := Aside0.mk (Kd.R_lower (Kd.R_new' (Kd.R_new' (Kd.R_new' ho0 (Kd.R_lt (nr_ HO_6.out))) (Kd.R_lt (nr_ HO_9.out))) (Kd.R_lt (nr_ HO1195.out))) (eZ18 (ne_ HB.out))); replace HO_6 := Aside0.mk (Kd.R_elder' (nr_ HO_6.out) (Kd.R_base ho0) hb); replace HO_9 := Aside0.mk (Kd.R_elder' (nr_ HO_9.out) (Kd.R_base ho0) hb); replace HO_1165001 := kR_ HO_1165001 hb; replace HO1192 := kR_ HO1192 hb; replace HO1195 := Aside0.mk (Kd.R_elder' (nr_ HO1195.out) (Kd.R_base ho0) hb); replace BK1148 := kb_ BK1148 hb; replace BK1164 := kb_ BK1164 hb; replace HB := kB_ HB hb; (try clear hb); (try clear hb2); (try clear hk); (try clear hi); (try clear ho0); obtain ⟨Ao90, co90, eo90⟩ := Kd.R_slice HO1198.out; subst eo90) | ((with_reducible refine gate_callee (f := 32) rfl ?_); refine gl_ (some 80) Try.func32 #[.slice Ao90 t1196.length co90, .slice Ao47 t1157.length co47] ?_; (with_reducible refine (laws_eqIntS.calls kj25 _ _ t1196 _ _ t1157 true _ ?side1 ?side2 ?side3 ?side4 A68.out).mono ?_); (case side1 => exact nc_ (rR18 HO1198.out).2.2); (case side2 => exact (rR18 HO1198.out).2.1); (case side3 => exact nc_ (rR18 HO_6.out).2.2); (case side4 => exact (rR18 HO_6.out).2.1); rintro e w' ⟨rfl, ⟨nd, rfl⟩⟩; refine ⟨_, rfl, ?_⟩) | ((with_reducible refine gate_callee (f := 35) rfl ?_); refine goesL_ (some 84) rfl rfl Try.func35 (by kernel_rfl) rfl #[.slice Ao46 t1187.length co46, .int .i64 1] rfl (by (try simp only [List.map_toArray, List.map_cons, List.map_nil]); first | done | (rw [show t1187.length = t1168.length from (rR18 HO_9.out).1.symm] <;> rfl) | rfl | (simp only [List.length_drop, List.length_take]; rfl)) ?_; (with_reducible refine (laws_heldIntS.calls kj25 _ _ t1187 1 t1200 _ ?side1 ?side2 A70.out).mono ?_); (case side1 => exact nc_ (rR18 HO_9.out).2.2); (case side2 => rw [show t1187.length = t1168.length from (rR18 HO_9.out).1.symm]; exact (rR18 HO_9.out).2.1); rintro e w' ⟨rfl, ⟨nd, rfl⟩⟩; refine ⟨_, rfl, ?_⟩))
    go_ret
    exact ⟨nw_, ne_ HB.out⟩
/-- THE ONE PURE STATEMENT of laws_FnExactWalkPlain. -/
def laws_FnExactWalkPlain.Pure : Prop := ∀ (a0_0 : Int) (l0_1 : List (S101)) (l1 : List Int), (Lit.int .i64 a0_0).wf = true → l0_1.length ≤ maxLen → (∀ x ∈ l0_1, (Lit.int .i64 x.f0).wf = true ∧ (Lit.int .i64 x.f1).wf = true ∧ (Lit.int .i64 x.f2).wf = true ∧ (Lit.int .i64 x.f3).wf = true ∧ (Lit.int .i64 x.f4).wf = true) → l1.length ≤ maxLen → (∀ x ∈ l1, (Lit.int .i64 x).wf = true) → ∃ k, laws_FnExactWalkPlain.f k a0_0 l0_1 l1 = some true
theorem laws_FnExactWalkPlain.walk (P : laws_FnExactWalkPlain.Pure) (a0_0 : Int) (A0_1 : Option Addr) (c0_1 : Nat) (l0_1 : List (S101)) (A1 : Option Addr) (c1 : Nat) (l1 : List Int) (w : World) (hw0_0 : (Lit.int .i64 a0_0).wf = true) (hr0_1 : Kd.C k101 w A0_1 l0_1.length l0_1) (hm0_1 : l0_1.length ≤ maxLen) (hw0_1 : ∀ x ∈ l0_1, (Lit.int .i64 x.f0).wf = true ∧ (Lit.int .i64 x.f1).wf = true ∧ (Lit.int .i64 x.f2).wf = true ∧ (Lit.int .i64 x.f3).wf = true ∧ (Lit.int .i64 x.f4).wf = true) (hc0_1 : l0_1.length ≤ c0_1) (hr1 : Kd.C (Kd.int .i64) w A1 l1.length l1) (hm1 : l1.length ≤ maxLen) (hw1 : ∀ x ∈ l1, (Lit.int .i64 x).wf = true) (hc1 : l1.length ≤ c1) :
    Calls Try.prog 18 #[.agg #[.int .i64 a0_0, .slice A0_1 l0_1.length c0_1], .slice A1 l1.length c1] w fun e w' => e = .returned (.bool true) ∧ Below w.heap.size w w' := by
  obtain ⟨k, h⟩ := P a0_0 l0_1 l1 hw0_0 hm0_1 hw0_1 hm1 hw1
  refine (laws_FnExactWalkPlain.calls k a0_0 A0_1 c0_1 l0_1 A1 c1 l1 true w hr0_1 hc0_1 hr1 hc1 h).mono ?_
  rintro e w' ⟨rfl, hd⟩
  exact ⟨rfl, hd⟩

end Go.Proofs.Ytpjmkghmjpbldaa.Print
