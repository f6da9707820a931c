-- Made by this session's own program (wip/patch_print.py, over the kit's print). Lean checks it.
import Derived.Test.YtcfmejfmjjgoaaaPrint0
import Derived.Test.YtcfmejfmjjgoaaaPrintB
import Derived.Test.YtcfmejfmjjgoaaaPrintF14
import Derived.Test.YtcfmejfmjjgoaaaPrintF41
import Derived.Test.YtcfmejfmjjgoaaaPrintF59
import Derived.Test.YtcfmejfmjjgoaaaPrintF69
namespace Go.Proofs.Ytcfmejfmjjgoaaa.Print
open Go.RowKit Go.Proofs.YtcfmejfmjjgoaaaW.PrintWords Go.Proofs.YtcfmejfmjjgoaaaW.PrintLast Go.Proofs.YtcfmejfmjjgoaaaW.PrintMore Go.Proofs.YtcfmejfmjjgoaaaX
attribute [local go_sem] max2_int min2_int max_two min_two max_three min_three max_four min_four   -- for this text's walks alone
set_option linter.unusedVariables false
set_option linter.unusedSimpArgs false

/-! ### impl_TurnNet: function 34 -/
mutual
def impl_TurnNet.j0 : Nat → List (S31) → Bool → Int → List (S33) → Option (Int × (List (S33)) × Bool)
  | 0, _, _, _, _ => none
  | k + 1, x1, x22, x724000, x724001 => if x22 = true then (some (0, ([] : List (S33)), false)) else (impl_TurnNet.l0 k x1 x724001 (x724001.length : Int) 0 x724000 x724001 (x724001.length : Int) ([] : List (S33)))
def impl_TurnNet.l0 : Nat → List (S31) → List (S33) → Int → Int → Int → List (S33) → Int → List (S33) → Option (Int × (List (S33)) × Bool)
  | 0, _, _, _, _, _, _, _, _ => none
  | k + 1, x1, x29, x30, x31, x724000, x724001, x728000, x728001 => if x31 < x30 then (if 0 ≤ x31 then (if x31 < (x29.length : Int) then (impl_TurnNet.l1 k x1 x31 x29 x30 x31 x724001 (x724001.length : Int) 0 x724000 x724001 x728000 x728001 ((rd_T33 x29 x31).f0) ((rd_T33 x29 x31).f1) ((rd_T33 x29 x31).f2) ((rd_T33 x29 x31).f3) ((rd_T33 x29 x31).f4)) else (none)) else (none)) else ((impl_NetOk.f x728000 x728001).bind fun t736 => (if t736 = true then ((impl_Arc_69.f x728001).bind fun t737 => (some (x728000, t737, true))) else (some (0, ([] : List (S33)), false))))
def impl_TurnNet.l1 : Nat → List (S31) → Int → List (S33) → Int → Int → List (S33) → Int → Int → Int → List (S33) → Int → List (S33) → Int → Int → Int → Int → Int → Option (Int × (List (S33)) × Bool)
  | 0, _, _, _, _, _, _, _, _, _, _, _, _, _, _, _, _, _ => none
  | k + 1, x1, x7, x29, x30, x31, x37, x38, x39, x724000, x724001, x728000, x728001, x730000, x730001, x730002, x730003, x730004 => if x39 < x38 then (if 0 ≤ x39 then (if x39 < (x37.length : Int) then ((impl_turning.f k x1 x7 x39).bind fun t732 => (if ((rd_T33 x37 x39).f0) = x730001 then (if t732 ≥ 0 then (if x728001.length < 3518437208883 then (impl_TurnNet.l1 k x1 x7 x29 x30 x31 x37 x38 (wrap64 (x39 + 1)) x724000 x724001 x728000 (x728001 ++ [(⟨x7, x39, wrap64 (t732 + ((rd_T33 x37 x39).f2)), 0, 9⟩ : S33)]) x730000 x730001 x730002 x730003 x730004) else (none)) else (impl_TurnNet.l1 k x1 x7 x29 x30 x31 x37 x38 (wrap64 (x39 + 1)) x724000 x724001 x728000 x728001 x730000 x730001 x730002 x730003 x730004)) else (impl_TurnNet.l1 k x1 x7 x29 x30 x31 x37 x38 (wrap64 (x39 + 1)) x724000 x724001 x728000 x728001 x730000 x730001 x730002 x730003 x730004))) else (none)) else (none)) else (impl_TurnNet.l0 k x1 x29 x30 (wrap64 (x31 + 1)) x724000 x724001 x728000 x728001)
end
def impl_TurnNet.f (k : Nat) (a0_0 : Int) (l0_1 : List (S33)) (l1 : List (S31)) : Option (Int × (List (S33)) × Bool) := (impl_TurnsOk.f k a0_0 l0_1 l1).bind fun t725 => (if t725 = true then ((impl_within.f (l0_1.length : Int) 1 8).bind fun t726 => (impl_TurnNet.j0 k l1 (!t726) a0_0 l0_1)) else (impl_TurnNet.j0 k l1 true a0_0 l0_1))
set_option maxHeartbeats 200000000 in
set_option maxRecDepth 100000 in
theorem impl_TurnNet.calls (k : Nat) (a0_0 : Int) (A0_1 : Option Addr) (c0_1 : Nat) (l0_1 : List (S33)) (A1 : Option Addr) (c1 : Nat) (l1 : List (S31)) (r1 : Int) (r2 : List (S33)) (r3 : Bool) (w : World) (hr0_1 : Kd.C k33 w A0_1 l0_1.length l0_1) (hc0_1 : l0_1.length ≤ c0_1) (hr1 : Kd.C k31 w A1 l1.length l1) (hc1 : l1.length ≤ c1) (h : impl_TurnNet.f k a0_0 l0_1 l1 = some (r1, r2, r3)) :
    Calls Try.prog 34 #[.agg #[.int .i64 a0_0, .slice A0_1 l0_1.length c0_1], .slice A1 l1.length c1] w fun e w' => ∃ v1_ : Value, e = .returned (.tuple #[.agg #[.int .i64 r1, v1_], .bool r3]) ∧ Kd.R k33 33 w' w.heap.size (fun _ => True) v1_ r2 ∧ Below w.heap.size w w' := by
  have hu25 := Try.underlying25
  have hu33 := Try.underlying33
  have HR0_1 := Aside0.mk hr0_1
  have HC0_1 := Aside0.mk hc0_1
  clear hr0_1 hc0_1
  have HR1 := Aside0.mk hr1
  have HC1 := Aside0.mk hc1
  clear hr1 hc1
  have HB := Aside0.mk (Below.refl w.heap.size w)
  have H : ((impl_TurnsOk.f k a0_0 l0_1 l1).bind fun t725 => (if t725 = true then ((impl_within.f (l0_1.length : Int) 1 8).bind fun t726 => (impl_TurnNet.j0 k l1 (!t726) a0_0 l0_1)) else (impl_TurnNet.j0 k l1 true a0_0 l0_1))) = some (r1, r2, r3) := h
  clear h
  have HC3 := Aside0.mk H
  clear H
  go_enter Try.func34, Try.ntmps34
  go_upto_region 1 with (first | ((with_reducible refine gate_dst (N := 2) rfl ?_); (try (refine gate_guard (by rfl) ?_; dsimp only)); refine bx_ 2 #[.int .i64 a0_0, .slice A0_1 l0_1.length c0_1] 25 ?_; intro gb723 hg w4 hbox hb; have BK723 := Aside0.mk (hbox); have GW723 := Aside0.mk (zs_ hg (ne_ HB.out)); have GE723 := Aside0.mk (zs_ hg (ne_ HB.out)); replace HB := kB_ HB hb; clear hb hbox hg) | ((with_reducible refine gate_dst (N := 4) rfl ?_); (try (refine gate_guard (by rfl) ?_; dsimp only)); refine bx_ 4 #[.int .i64 0, .slice none 0 0] 25 ?_; intro gb724 hg w5 hbox hb; have BK724 := Aside0.mk (hbox); have GW724 := Aside0.mk (zs_ hg (ne_ HB.out)); have GE724 := Aside0.mk (zs_ hg (ne_ HB.out)); have NB723_724 := Aside0.mk (nl_ BK723.out hg); have NB724_723 := Aside0.mk (nm_ BK723.out hg); replace BK723 := kb_ BK723 hb; replace HB := kB_ HB hb; clear hb hbox hg))
  (try simp only [Act.put, List.setIfInBounds_toArray, List.set_cons_zero, List.set_cons_succ])
  go_cut [22] (fun v22 wc => ∃ (kq : Nat) (x22_2 : Bool), v22 = .bool x22_2 ∧ Aside0 (impl_TurnNet.j0 kq l1 x22_2 a0_0 l0_1 = some (r1, r2, r3)) ∧ Aside0 (kq ≤ k) ∧ Aside0 (wc.heap[gb723]? = some (.cells #[.int .i64 a0_0, (.slice A0_1 l0_1.length c0_1)] 25 (0, 0))) ∧ Aside0 (wc.heap[gb724]? = some (.cells #[.int .i64 0, (.slice none 0 0)] 25 (0, 0))) ∧ Aside0 (Below w.heap.size w wc))
  case first =>
   have H := HC3.out
   clear HC3
   replace H := Option.bind_eq_some_iff.mp H
   obtain ⟨t725, A60, H⟩ := H
   try dsimp only at H
   have A6 := Aside0.mk A60
   clear A60
   by_cases c7 : t725 = true
   rotate_left
   ·replace c7 := Bool.eq_false_iff.mpr c7
    subst c7
    have H1 : (impl_TurnNet.j0 k l1 true a0_0 l0_1) = some (r1, r2, r3) := by rw [if_neg (show ¬ (false = true) by decide)] at H; exact H
    clear H
    have H := H1
    clear H1
    have H' := Aside0.mk H
    clear H
    have hnb13 := NB723_724.out
    have hnc13 := NB724_723.out
    obtain ⟨hcz14_0, hcz14_1, hfz14_0, hfz14_1⟩ := cz2_ BK723.out
    go_wp2_with (first | ((with_reducible refine gate_callee (f := 14) rfl ?_); refine gl_ (some 14) Try.func14 #[.agg #[.int .i64 a0_0, .slice A0_1 l0_1.length c0_1], .slice A1 l1.length c1] ?_; (with_reducible refine (impl_TurnsOk.calls k a0_0 _ _ l0_1 _ _ l1 false _ ?side1 ?side2 ?side3 ?side4 A6.out).mono ?_); (case side1 => exact nc_ (Kd.C_below HR0_1.out HB.out)); (case side2 => exact HC0_1.out); (case side3 => exact nc_ (Kd.C_below HR1.out HB.out)); (case side4 => exact HC1.out); rintro e w15 ⟨rfl, hb⟩; refine ⟨_, rfl, ?_⟩; replace BK723 := kb_ BK723 hb; replace BK724 := kb_ BK724 hb; replace HB := kB_ HB hb; (try clear hb); (try clear hb2); (try clear hk); (try clear hi)))
    go_meet
    case rel => exact ⟨_, (true), ns_, H', ⟨by first | omega | exact Nat.le_refl _⟩, ⟨nb_ BK723.out⟩, ⟨nb_ BK724.out⟩, ⟨ne_ HB.out⟩⟩
   subst c7
   rw [if_pos rfl] at H
   replace H := Option.bind_eq_some_iff.mp H
   obtain ⟨t726, A80, H⟩ := H
   replace H : (impl_TurnNet.j0 k l1 (!t726) a0_0 l0_1) = some (r1, r2, r3) := H
   have A8 := Aside0.mk A80
   clear A80
   have H' := Aside0.mk H
   clear H
   have hnb9 := NB723_724.out
   have hnc9 := NB724_723.out
   obtain ⟨hcz10_0, hcz10_1, hfz10_0, hfz10_1⟩ := cz2_ BK723.out
   go_wp2_with (first | ((with_reducible refine gate_callee (f := 14) rfl ?_); refine gl_ (some 14) Try.func14 #[.agg #[.int .i64 a0_0, .slice A0_1 l0_1.length c0_1], .slice A1 l1.length c1] ?_; (with_reducible refine (impl_TurnsOk.calls k a0_0 _ _ l0_1 _ _ l1 true _ ?side1 ?side2 ?side3 ?side4 A6.out).mono ?_); (case side1 => exact nc_ (Kd.C_below HR0_1.out HB.out)); (case side2 => exact HC0_1.out); (case side3 => exact nc_ (Kd.C_below HR1.out HB.out)); (case side4 => exact HC1.out); rintro e w11 ⟨rfl, hb⟩; refine ⟨_, rfl, ?_⟩; replace BK723 := kb_ BK723 hb; replace BK724 := kb_ BK724 hb; replace HB := kB_ HB hb; (try clear hb); (try clear hb2); (try clear hk); (try clear hi); obtain ⟨hcz12_0, hcz12_1, hfz12_0, hfz12_1⟩ := cz2_ BK723.out) | (go_at_call 47; (with_reducible refine (impl_within.calls (l0_1.length : Int) 1 8 t726 _ A8.out).mono ?_); rintro e w' ⟨rfl, ⟨nd, rfl⟩⟩))
   go_meet
   case rel => exact ⟨_, (!t726), ns_, H', ⟨by first | omega | exact Nat.le_refl _⟩, ⟨nb_ BK723.out⟩, ⟨nb_ BK724.out⟩, ⟨ne_ HB.out⟩⟩
  case rest =>
   clear HC3
   try clear c1
   obtain ⟨kq, x22_2, rfl, HA, HJ2, BK723, BK724, HB⟩ := hcut
   cases kq with
   | zero => exact absurd HA.out (by simp [impl_TurnNet.j0])
   | succ kj2 =>
    have H := HA.out
    clear HA
    simp only [impl_TurnNet.j0] at H
    by_cases c16 : x22_2 = true
    ·subst c16
     have H1 : (some (0, ([] : List (S33)), false)) = some (r1, r2, r3) := by rw [if_pos rfl] at H; exact H
     clear H
     have H := H1
     clear H1
     simp only [Option.some.injEq, Prod.mk.injEq] at H
     obtain ⟨rfl, rfl, rfl⟩ := H
     have hnb17 := NB724_723.out
     have hnc17 := NB723_724.out
     obtain ⟨hcz18_0, hcz18_1, hfz18_0, hfz18_1⟩ := cz2_ BK724.out
     go_wp2
     refine bodyPost_ret (results_ct rfl _ _ gb724 25 #[.int .i64 0, .slice none 0 0] (0, 0) _ rfl (np_ BK724.out) Try.underlying25 rfl (by kernel_rfl)) rfl ?_
     exact ⟨_, nw_, by first | exact Kd.R_nil _ _ _ _ _ | exact Kd.N_nil _ _ _ _ _ | exact Kd.V_nil _ _ _ _ _ | exact Kd.Q_nil _ _ _ _ _ | exact Kd.S_nil _ _ _ _ _, ne_ HB.out⟩
    replace c16 := Bool.eq_false_iff.mpr c16
    subst c16
    have H1 : (impl_TurnNet.l0 kj2 l1 l0_1 (l0_1.length : Int) 0 a0_0 l0_1 (l0_1.length : Int) ([] : List (S33))) = some (r1, r2, r3) := by rw [if_neg (show ¬ (false = true) by decide)] at H; exact H
    clear H
    have H := H1
    clear H1
    have H' := Aside0.mk H
    clear H
    have hnb19 := NB723_724.out
    have hnc19 := NB724_723.out
    obtain ⟨hcz20_0, hcz20_1, hfz20_0, hfz20_1⟩ := cz2_ BK723.out
    go_wp2_with (first | ((with_reducible refine gate_dst (N := 6) rfl ?_); (try (refine gate_guard (by rfl) ?_; dsimp only)); refine bx_ 6 #[.int .i64 0, .slice none 0 0] 25 ?_; intro gb727 hg w21 hbox hb; have BK727 := Aside0.mk (hbox); have GW727 := Aside0.mk (zs_ hg (ne_ HB.out)); have GE727 := Aside0.mk (zs_ hg (ne_ HB.out)); have NB723_727 := Aside0.mk (nl_ BK723.out hg); have NB727_723 := Aside0.mk (nm_ BK723.out hg); have NB724_727 := Aside0.mk (nl_ BK724.out hg); have NB727_724 := Aside0.mk (nm_ BK724.out hg); replace BK723 := kb_ BK723 hb; replace BK724 := kb_ BK724 hb; replace HB := kB_ HB hb; clear hb hbox hg; have hnb22 := NB727_723.out; have hnc22 := NB723_727.out; have hnb23 := NB727_724.out; have hnc23 := NB724_727.out; obtain ⟨hcz24_0, hcz24_1, hfz24_0, hfz24_1⟩ := cz2_ BK727.out; obtain ⟨hcz25_0, hcz25_1, hfz25_0, hfz25_1⟩ := cz2_ BK723.out))
    go_loopg [31] kj2 (fun kq v31 w' => ∃ (x31_2 : Int) (x728001_2 : List (S33)) (u728001 : Value), v31 = .int .i64 x31_2 ∧ Aside0 (impl_TurnNet.l0 kq l1 l0_1 (l0_1.length : Int) x31_2 a0_0 l0_1 (l0_1.length : Int) x728001_2 = some (r1, r2, r3)) ∧ Aside0 (kq ≤ kj2) ∧ Aside0 (Kd.R k33 33 w' w.heap.size (fun _ => True) u728001 x728001_2) ∧ Aside0 (w'.heap[gb723]? = some (.cells #[.int .i64 a0_0, (.slice A0_1 l0_1.length c0_1)] 25 (0, 0))) ∧ Aside0 (w'.heap[gb724]? = some (.cells #[.int .i64 0, (.slice none 0 0)] 25 (0, 0))) ∧ Aside0 (w'.heap[gb727]? = some (.cells #[.int .i64 (l0_1.length : Int), u728001] 25 (0, 0))) ∧ Aside0 (Below w.heap.size w w'))
    case atStart => exact ⟨(0), (([] : List (S33))), (.slice none 0 0), ns_, H', ⟨Nat.le_refl _⟩, ⟨by first | exact Kd.R_nil _ _ _ _ _ | exact Kd.N_nil _ _ _ _ _ | exact Kd.V_nil _ _ _ _ _ | exact Kd.Q_nil _ _ _ _ _ | exact Kd.S_nil _ _ _ _ _⟩, ⟨np_ BK723.out⟩, ⟨np_ BK724.out⟩, ⟨np_ BK727.out⟩, ⟨ne_ HB.out⟩⟩
    case round =>
     clear H'
     try clear c1
     try clear c16
     try clear hcz20_0
     try clear hcz20_1
     try clear hcz24_0
     try clear hcz24_1
     try clear hcz25_0
     try clear hcz25_1
     try clear hfz20_0
     try clear hfz20_1
     try clear hfz24_0
     try clear hfz24_1
     try clear hfz25_0
     try clear hfz25_1
     obtain ⟨x31_2, x728001_2, u728001, rfl, HA, HK2, HO_728001, BK723, BK724, BK727, HB⟩ := hrel
     cases gk with
     | zero => exact absurd HA.out (by simp [impl_TurnNet.l0])
     | succ k2 =>
      have H := HA.out
      clear HA
      simp only [impl_TurnNet.l0] at H
      by_cases c26 : x31_2 < (l0_1.length : Int)
      rotate_left
      ·rw [if_neg c26] at H
       have c26b0 : decide (x31_2 < (l0_1.length : Int)) = false := decide_eq_false c26
       clear c26
       replace H := Option.bind_eq_some_iff.mp H
       obtain ⟨t736, A860, H⟩ := H
       try dsimp only at H
       have A86 := Aside0.mk A860
       clear A860
       by_cases c87 : t736 = true
       rotate_left
       ·replace c87 := Bool.eq_false_iff.mpr c87
        subst c87
        have H1 : (some (0, ([] : List (S33)), false)) = some (r1, r2, r3) := by rw [if_neg (show ¬ (false = true) by decide)] at H; exact H
        clear H
        have H := H1
        clear H1
        simp only [Option.some.injEq, Prod.mk.injEq] at H
        obtain ⟨rfl, rfl, rfl⟩ := H
        have hnb100 := NB727_723.out
        have hnc100 := NB723_727.out
        have hnb101 := NB727_724.out
        have hnc101 := NB724_727.out
        obtain ⟨hcz102_0, hcz102_1, hfz102_0, hfz102_1⟩ := cz2_ BK727.out
        obtain ⟨Ao103, co103, eo103⟩ := Kd.R_slice HO_728001.out
        subst eo103
        go_wp2_with (first | ((with_reducible refine gate_callee (f := 41) rfl ?_); refine gl_ (some 72) Try.func41 #[.agg #[.int .i64 (l0_1.length : Int), .slice Ao103 x728001_2.length co103]] ?_; (with_reducible refine (impl_NetOk.calls (l0_1.length : Int) _ _ x728001_2 false _ ?side1 ?side2 A86.out).mono ?_); (case side1 => exact nc_ (Kd.R_reads' HO_728001.out).2.2); (case side2 => exact (Kd.R_reads' HO_728001.out).2.1); rintro e w104 ⟨rfl, hb⟩; refine ⟨_, rfl, ?_⟩; replace HO_728001 := kR_ HO_728001 hb; replace BK723 := kb_ BK723 hb; replace BK724 := kb_ BK724 hb; replace BK727 := kb_ BK727 hb; replace HB := kB_ HB hb; (try clear hb); (try clear hb2); (try clear hk); (try clear hi); have hnb105 := NB724_723.out; have hnc105 := NB723_724.out; obtain ⟨hcz106_0, hcz106_1, hfz106_0, hfz106_1⟩ := cz2_ BK724.out))
        refine bodyPost_ret (results_ct rfl _ _ gb724 25 #[.int .i64 0, .slice none 0 0] (0, 0) _ rfl (np_ BK724.out) Try.underlying25 rfl (by kernel_rfl)) rfl ?_
        exact ⟨_, nw_, by first | exact Kd.R_nil _ _ _ _ _ | exact Kd.N_nil _ _ _ _ _ | exact Kd.V_nil _ _ _ _ _ | exact Kd.Q_nil _ _ _ _ _ | exact Kd.S_nil _ _ _ _ _, ne_ HB.out⟩

       subst c87
       rw [if_pos rfl] at H
       replace H := Option.bind_eq_some_iff.mp H
       obtain ⟨t737, A880, H⟩ := H
       replace H : (some ((l0_1.length : Int), t737, true)) = some (r1, r2, r3) := H
       have A88 := Aside0.mk A880
       clear A880
       simp only [Option.some.injEq, Prod.mk.injEq] at H
       obtain ⟨rfl, rfl, rfl⟩ := H
       have hnb89 := NB727_723.out
       have hnc89 := NB723_727.out
       have hnb90 := NB727_724.out
       have hnc90 := NB724_727.out
       obtain ⟨hcz91_0, hcz91_1, hfz91_0, hfz91_1⟩ := cz2_ BK727.out
       obtain ⟨Ao92, co92, eo92⟩ := Kd.R_slice HO_728001.out
       subst eo92
       go_wp2_with (first | ((with_reducible refine gate_callee (f := 41) rfl ?_); refine gl_ (some 72) Try.func41 #[.agg #[.int .i64 (l0_1.length : Int), .slice Ao92 x728001_2.length co92]] ?_; (with_reducible refine (impl_NetOk.calls (l0_1.length : Int) _ _ x728001_2 true _ ?side1 ?side2 A86.out).mono ?_); (case side1 => exact nc_ (Kd.R_reads' HO_728001.out).2.2); (case side2 => exact (Kd.R_reads' HO_728001.out).2.1); rintro e w93 ⟨rfl, hb⟩; refine ⟨_, rfl, ?_⟩; replace HO_728001 := kR_ HO_728001 hb; replace BK723 := kb_ BK723 hb; replace BK724 := kb_ BK724 hb; replace BK727 := kb_ BK727 hb; replace HB := kB_ HB hb; (try clear hb); (try clear hb2); (try clear hk); (try clear hi); obtain ⟨hcz94_0, hcz94_1, hfz94_0, hfz94_1⟩ := cz2_ BK727.out) | ((with_reducible refine gate_callee (f := 69) rfl ?_); refine gl_ (some 77) Try.func69 #[.slice Ao92 x728001_2.length co92] ?_; (with_reducible refine (impl_Arc_69.calls (fun k_ => some k_ = (.slice Ao92 x728001_2.length co92 : Value).ownBlock) (.slice Ao92 x728001_2.length co92) x728001_2 t737 w _ ?side1 ?side2 A88.out).mono ?_); (case side1 => exact (ne_ HB.out)); (case side2 => exact Kd.R_tight rfl HO_728001.out); rintro e w95 ⟨v738, rfl, ho0, hb, hkp⟩; refine ⟨_, rfl, ?_⟩; have HO739 := Aside0.mk (Kd.R_mono (ok' := fun k_ => True) ho0 (fun k_ hk_ => trivial)); replace BK723 := Aside0.mk (blk_kept (g := gb723) (o := .cells #[.int .i64 a0_0, .slice A0_1 l0_1.length c0_1] 25 (0, 0)) (nb_ BK723.out) hkp (fun hs_ => (fun e_ => (Kd.R_ne HO_728001.out BK723.out (by decide)) e_) hs_)); replace BK724 := Aside0.mk (blk_kept (g := gb724) (o := .cells #[.int .i64 0, .slice none 0 0] 25 (0, 0)) (nb_ BK724.out) hkp (fun hs_ => (fun e_ => (Kd.R_ne HO_728001.out BK724.out (by decide)) e_) hs_)); replace BK727 := Aside0.mk (blk_kept (g := gb727) (o := .cells #[.int .i64 (l0_1.length : Int), .slice Ao92 x728001_2.length co92] 25 (0, 0)) (nb_ BK727.out) hkp (fun hs_ => (fun e_ => (Kd.R_ne HO_728001.out BK727.out (by decide)) e_) hs_)); replace HB := Aside0.mk (hb); clear HO_728001; (try clear hb); (try clear hkp); (try clear ho0); obtain ⟨Ao96, co96, eo96⟩ := Kd.R_slice HO739.out; subst eo96; obtain ⟨hcz97_0, hcz97_1, hfz97_0, hfz97_1⟩ := cz2_ BK727.out; have hnb98 := NB724_723.out; have hnc98 := NB723_724.out; obtain ⟨hcz99_0, hcz99_1, hfz99_0, hfz99_1⟩ := cz2_ BK724.out))
       refine bodyPost_ret (results_ct rfl _ _ gb724 25 #[.int .i64 (l0_1.length : Int), .slice Ao96 t737.length co96] (0, 0) _ rfl (np_ BK724.out) Try.underlying25 rfl (by kernel_rfl)) rfl ?_
       exact ⟨_, nw_, by (with_reducible repeat (first | apply Kd.R_alloc | apply Kd.R_drewN | apply Kd.R_drew)); exact Kd.R_mono (rf2_ (Kd.R_far (p := ⟨gb727, 1, none⟩) (Kd.R_types (Kd.R_types HO739.out BK727.out (by decide)) BK724.out (by decide)) (fun _ hk => hk.1.2) (.slice Ao96 t737.length co96))) (fun _ hk => trivial), ne_ HB.out⟩
      rw [if_pos c26] at H
      have c26b0 : decide (x31_2 < (l0_1.length : Int)) = true := decide_eq_true c26
      clear c26
      by_cases c27 : 0 ≤ x31_2
      rotate_left
      ·rw [if_neg c27] at H
       exact absurd H (by simp)
      rw [if_pos c27] at H
      have c27b0 : decide (0 ≤ x31_2) = true := decide_eq_true c27
      clear c27
      by_cases c28 : x31_2 < (l0_1.length : Int)
      rotate_left
      ·rw [if_neg c28] at H
       exact absurd H (by simp)
      rw [if_pos c28] at H
      have c28b0 : decide (x31_2 < (l0_1.length : Int)) = true := decide_eq_true c28
      clear c28
      have H' := Aside0.mk H
      clear H
      have p728 : 0 ≤ (x31_2 : Int) := of_decide_eq_true nx_
      have q728 : x31_2 < (l0_1.length : Int) := of_decide_eq_true nx_
      obtain ⟨ad728, e728, hx728_0, hx728_1, hx728_2, hx728_3, hx728_4⟩ := at_T33 HR0_1.out x31_2 p728 q728
      cases e728
      replace hx728_0 := hb_ HB.out hx728_0
      replace hx728_1 := hb_ HB.out hx728_1
      replace hx728_2 := hb_ HB.out hx728_2
      replace hx728_3 := hb_ HB.out hx728_3
      replace hx728_4 := hb_ HB.out hx728_4
      replace p728 := eq_true p728
      replace q728 := eq_true q728
      go_wp2_with (first | ((with_reducible refine gate_dst (N := 8) rfl ?_); (try (refine gate_guard (by rfl) ?_; dsimp only)); refine bx_ 8 #[.int .i64 0, .int .i64 0, .int .i64 0, .int .i64 0, .int .i64 0] 33 ?_; intro gb729 hg w29 hbox hb; have BK729 := Aside0.mk (hbox); have GW729 := Aside0.mk (zs_ hg (ne_ HB.out)); have GE729 := Aside0.mk (zs_ hg (ne_ HB.out)); have NB723_729 := Aside0.mk (nl_ BK723.out hg); have NB729_723 := Aside0.mk (nm_ BK723.out hg); have NB724_729 := Aside0.mk (nl_ BK724.out hg); have NB729_724 := Aside0.mk (nm_ BK724.out hg); have NB727_729 := Aside0.mk (nl_ BK727.out hg); have NB729_727 := Aside0.mk (nm_ BK727.out hg); replace HO_728001 := Aside0.mk (Kd.R_below (Kd.R_elderB (nr_ HO_728001.out) gb729 (Nat.le_of_eq hg.symm)) hb); replace BK723 := kb_ BK723 hb; replace BK724 := kb_ BK724 hb; replace BK727 := kb_ BK727 hb; replace HB := kB_ HB hb; clear hb hbox hg; have hnb30 := NB729_723.out; have hnc30 := NB723_729.out; have hnb31 := NB729_724.out; have hnc31 := NB724_729.out; have hnb32 := NB729_727.out; have hnc32 := NB727_729.out; obtain ⟨hcz33_0, hcz33_1, hcz33_2, hcz33_3, hcz33_4, hfz33_0, hfz33_1, hfz33_2, hfz33_3, hfz33_4⟩ := cz5_ BK729.out; have hnb34 := NB723_724.out; have hnc34 := NB724_723.out; have hnb35 := NB723_727.out; have hnc35 := NB727_723.out; obtain ⟨hcz36_0, hcz36_1, hfz36_0, hfz36_1⟩ := cz2_ BK723.out))
      go_loopg [39] k2 (fun kq v39 w' => ∃ (x39_3 : Int) (x728001_3 : List (S33)) (u728001 : Value), v39 = .int .i64 x39_3 ∧ Aside0 (impl_TurnNet.l1 kq l1 x31_2 l0_1 (l0_1.length : Int) x31_2 l0_1 (l0_1.length : Int) x39_3 a0_0 l0_1 (l0_1.length : Int) x728001_3 ((rd_T33 l0_1 x31_2).f0) ((rd_T33 l0_1 x31_2).f1) ((rd_T33 l0_1 x31_2).f2) ((rd_T33 l0_1 x31_2).f3) ((rd_T33 l0_1 x31_2).f4) = some (r1, r2, r3)) ∧ Aside0 (kq ≤ k2) ∧ Aside0 (Kd.R k33 33 w' w.heap.size (fun k_ => k_ ≠ gb729) u728001 x728001_3) ∧ Aside0 (w'.heap[gb723]? = some (.cells #[.int .i64 a0_0, (.slice (some ad728) l0_1.length c0_1)] 25 (0, 0))) ∧ Aside0 (w'.heap[gb724]? = some (.cells #[.int .i64 0, (.slice none 0 0)] 25 (0, 0))) ∧ Aside0 (w'.heap[gb727]? = some (.cells #[.int .i64 (l0_1.length : Int), u728001] 25 (0, 0))) ∧ Aside0 (w'.heap[gb729]? = some (.cells #[.int .i64 ((rd_T33 l0_1 x31_2).f0), .int .i64 ((rd_T33 l0_1 x31_2).f1), .int .i64 ((rd_T33 l0_1 x31_2).f2), .int .i64 ((rd_T33 l0_1 x31_2).f3), .int .i64 ((rd_T33 l0_1 x31_2).f4)] 33 (0, 0))) ∧ Aside0 (Below w.heap.size w w'))
      case atStart => exact ⟨(0), (x728001_2), (u728001), ns_, H', ⟨Nat.le_refl _⟩, ⟨by (with_reducible repeat (first | apply Kd.R_alloc | apply Kd.R_drewN | apply Kd.R_drew)); exact Kd.R_mono (rf5_ (Kd.R_mono HO_728001.out (fun k_ hk => (⟨hk, hk.2⟩ : _ ∧ k_ ≠ gb729)))) (fun _ hk => by first | exact hk.1.2 | trivial | simp_all)⟩, ⟨np_ BK723.out⟩, ⟨np_ BK724.out⟩, ⟨np_ BK727.out⟩, ⟨np_ BK729.out⟩, ⟨ne_ HB.out⟩⟩
      case round =>
       clear H'
       try clear c1
       try clear c16
       try clear c26
       try clear c26b0
       try clear c27
       try clear c27b0
       try clear c28
       try clear c28b0
       try clear hcz20_0
       try clear hcz20_1
       try clear hcz24_0
       try clear hcz24_1
       try clear hcz25_0
       try clear hcz25_1
       try clear hcz33_0
       try clear hcz33_1
       try clear hcz33_2
       try clear hcz33_3
       try clear hcz33_4
       try clear hcz36_0
       try clear hcz36_1
       try clear hfz20_0
       try clear hfz20_1
       try clear hfz24_0
       try clear hfz24_1
       try clear hfz25_0
       try clear hfz25_1
       try clear hfz33_0
       try clear hfz33_1
       try clear hfz33_2
       try clear hfz33_3
       try clear hfz33_4
       try clear hfz36_0
       try clear hfz36_1
       try clear hx728_0
       try clear hx728_1
       try clear hx728_2
       try clear hx728_3
       try clear hx728_4
       try clear p728
       try clear q728
       obtain ⟨x39_3, x728001_3, u728001, rfl, HA, HK3, HO_728001, BK723, BK724, BK727, BK729, HB⟩ := hrel
       cases gk with
       | zero => exact absurd HA.out (by simp [impl_TurnNet.l1])
       | succ k3 =>
        have H := HA.out
        clear HA
        simp only [impl_TurnNet.l1] at H
        by_cases c37 : x39_3 < (l0_1.length : Int)
        rotate_left
        ·rw [if_neg c37] at H
         have c37b0 : decide (x39_3 < (l0_1.length : Int)) = false := decide_eq_false c37
         clear c37
         have H' := Aside0.mk H
         clear H
         go_wp2
         go_roundg k3
         case measure => have := HJ2.out; have := HK2.out; have := HK3.out; omega
         case rel => exact ⟨(wrap64 (x31_2 + 1)), (x728001_3), (u728001), ns_, H', ⟨by have := HJ2.out; have := HK2.out; have := HK3.out; omega⟩, ⟨by (with_reducible repeat (first | apply Kd.R_alloc | apply Kd.R_drewN | apply Kd.R_drew)); exact Kd.R_mono HO_728001.out (fun _ hk => trivial)⟩, ⟨nb_ BK723.out⟩, ⟨nb_ BK724.out⟩, ⟨nb_ BK727.out⟩, ⟨ne_ HB.out⟩⟩
        rw [if_pos c37] at H
        have c37b0 : decide (x39_3 < (l0_1.length : Int)) = true := decide_eq_true c37
        clear c37
        by_cases c38 : 0 ≤ x39_3
        rotate_left
        ·rw [if_neg c38] at H
         exact absurd H (by simp)
        rw [if_pos c38] at H
        have c38b0 : decide (0 ≤ x39_3) = true := decide_eq_true c38
        clear c38
        by_cases c39 : x39_3 < (l0_1.length : Int)
        rotate_left
        ·rw [if_neg c39] at H
         exact absurd H (by simp)
        rw [if_pos c39] at H
        have c39b0 : decide (x39_3 < (l0_1.length : Int)) = true := decide_eq_true c39
        clear c39
        replace H := Option.bind_eq_some_iff.mp H
        obtain ⟨t732, A400, H⟩ := H
        try dsimp only at H
        have A40 := Aside0.mk A400
        clear A400
        by_cases c41 : ((rd_T33 l0_1 x39_3).f0) = ((rd_T33 l0_1 x31_2).f1)
        rotate_left
        ·rw [if_neg c41] at H
         have c41b0 : (((rd_T33 l0_1 x39_3).f0) == ((rd_T33 l0_1 x31_2).f1)) = false := beq_eq_false_iff_ne.mpr c41
         have c41b1 : (((rd_T33 l0_1 x39_3).f0) != ((rd_T33 l0_1 x31_2).f1)) = true := bne_iff_ne.mpr c41
         have H' := Aside0.mk H
         clear H
         have p730 : 0 ≤ (x39_3 : Int) := of_decide_eq_true nx_
         have q730 : x39_3 < (l0_1.length : Int) := of_decide_eq_true nx_
         obtain ⟨ad730, e730, hx730_0, hx730_1, hx730_2, hx730_3, hx730_4⟩ := at_T33 HR0_1.out x39_3 p730 q730
         obtain rfl : ad728 = ad730 := (by injection e730)
         replace hx730_0 := hb_ HB.out hx730_0
         replace hx730_1 := hb_ HB.out hx730_1
         replace hx730_2 := hb_ HB.out hx730_2
         replace hx730_3 := hb_ HB.out hx730_3
         replace hx730_4 := hb_ HB.out hx730_4
         replace p730 := eq_true p730
         replace q730 := eq_true q730
         go_wp2_with (first | ((with_reducible refine gate_dst (N := 10) rfl ?_); (try (refine gate_guard (by rfl) ?_; dsimp only)); refine bx_ 10 #[.int .i64 0, .int .i64 0, .int .i64 0, .int .i64 0, .int .i64 0] 33 ?_; intro gb731 hg w74 hbox hb; have BK731 := Aside0.mk (hbox); have GW731 := Aside0.mk (zs_ hg (ne_ HB.out)); have GE731 := Aside0.mk (zs_ hg (ne_ HB.out)); have NB723_731 := Aside0.mk (nl_ BK723.out hg); have NB731_723 := Aside0.mk (nm_ BK723.out hg); have NB724_731 := Aside0.mk (nl_ BK724.out hg); have NB731_724 := Aside0.mk (nm_ BK724.out hg); have NB727_731 := Aside0.mk (nl_ BK727.out hg); have NB731_727 := Aside0.mk (nm_ BK727.out hg); have NB729_731 := Aside0.mk (nl_ BK729.out hg); have NB731_729 := Aside0.mk (nm_ BK729.out hg); replace HO_728001 := Aside0.mk (Kd.R_below (Kd.R_elderB (nr_ HO_728001.out) gb731 (Nat.le_of_eq hg.symm)) hb); replace BK723 := kb_ BK723 hb; replace BK724 := kb_ BK724 hb; replace BK727 := kb_ BK727 hb; replace BK729 := kb_ BK729 hb; replace HB := kB_ HB hb; clear hb hbox hg; have hnb75 := NB731_723.out; have hnc75 := NB723_731.out; have hnb76 := NB731_724.out; have hnc76 := NB724_731.out; have hnb77 := NB731_727.out; have hnc77 := NB727_731.out; have hnb78 := NB731_729.out; have hnc78 := NB729_731.out; obtain ⟨hcz79_0, hcz79_1, hcz79_2, hcz79_3, hcz79_4, hfz79_0, hfz79_1, hfz79_2, hfz79_3, hfz79_4⟩ := cz5_ BK731.out) | ((with_reducible refine gate_callee (f := 59) rfl ?_); refine gl_ (some 47) Try.func59 #[.slice A1 l1.length c1, .int .i64 x31_2, .int .i64 x39_3] ?_; (with_reducible refine (impl_turning.calls k3 _ _ l1 x31_2 x39_3 t732 _ ?side1 ?side2 A40.out).mono ?_); (case side1 => exact Kd.C_below HR1.out (ne_ HB.out)); (case side2 => exact HC1.out); rintro e w80 ⟨rfl, hb⟩; refine ⟨_, rfl, ?_⟩; replace HO_728001 := Aside0.mk (Kd.R_below (by (with_reducible repeat (first | apply Kd.R_alloc | apply Kd.R_drewN | apply Kd.R_drew)); exact (Kd.R_mono (rf5_ (Kd.R_mono HO_728001.out (fun k_ hk => (⟨hk, hk.2⟩ : _ ∧ k_ ≠ gb731)))) (fun _ h_ => h_.1))) hb); replace BK723 := kf_ BK723 hb; replace BK724 := kf_ BK724 hb; replace BK727 := kf_ BK727 hb; replace BK729 := kf_ BK729 hb; replace BK731 := Aside0.mk (blk_below (g := gb731) (o := .cells #[.int .i64 ((rd_T33 l0_1 x39_3).f0), .int .i64 ((rd_T33 l0_1 x39_3).f1), .int .i64 ((rd_T33 l0_1 x39_3).f2), .int .i64 ((rd_T33 l0_1 x39_3).f3), .int .i64 ((rd_T33 l0_1 x39_3).f4)] 33 (0, 0)) (np_ BK731.out) hb); replace HB := kB_ HB hb; (try clear hb); (try clear hb2); (try clear hk); (try clear hi); obtain ⟨hcz81_0, hcz81_1, hcz81_2, hcz81_3, hcz81_4, hfz81_0, hfz81_1, hfz81_2, hfz81_3, hfz81_4⟩ := cz5_ BK731.out; have hnb82 := NB729_723.out; have hnc82 := NB723_729.out; have hnb83 := NB729_724.out; have hnc83 := NB724_729.out; have hnb84 := NB729_727.out; have hnc84 := NB727_729.out; obtain ⟨hcz85_0, hcz85_1, hcz85_2, hcz85_3, hcz85_4, hfz85_0, hfz85_1, hfz85_2, hfz85_3, hfz85_4⟩ := cz5_ BK729.out))
         go_roundg k3
         case measure => have := HJ2.out; have := HK2.out; have := HK3.out; omega
         case rel => exact ⟨(wrap64 (x39_3 + 1)), (x728001_3), (u728001), ns_, H', ⟨by have := HJ2.out; have := HK2.out; have := HK3.out; omega⟩, ⟨by (with_reducible repeat (first | apply Kd.R_alloc | apply Kd.R_drewN | apply Kd.R_drew)); exact Kd.R_mono HO_728001.out (fun _ hk => hk.1)⟩, ⟨nb_ BK723.out⟩, ⟨nb_ BK724.out⟩, ⟨nb_ BK727.out⟩, ⟨nb_ BK729.out⟩, ⟨ne_ HB.out⟩⟩
        rw [if_pos c41] at H
        have c41b0 : (((rd_T33 l0_1 x39_3).f0) == ((rd_T33 l0_1 x31_2).f1)) = true := beq_iff_eq.mpr c41
        have c41b1 : (((rd_T33 l0_1 x39_3).f0) != ((rd_T33 l0_1 x31_2).f1)) = false := bne_eq_false_iff_eq.mpr c41
        clear c41
        by_cases c42 : t732 ≥ 0
        rotate_left
        ·rw [if_neg c42] at H
         have c42b0 : decide (0 ≤ t732) = false := decide_eq_false c42
         clear c42
         have H' := Aside0.mk H
         clear H
         have p730 : 0 ≤ (x39_3 : Int) := of_decide_eq_true nx_
         have q730 : x39_3 < (l0_1.length : Int) := of_decide_eq_true nx_
         obtain ⟨ad730, e730, hx730_0, hx730_1, hx730_2, hx730_3, hx730_4⟩ := at_T33 HR0_1.out x39_3 p730 q730
         obtain rfl : ad728 = ad730 := (by injection e730)
         replace hx730_0 := hb_ HB.out hx730_0
         replace hx730_1 := hb_ HB.out hx730_1
         replace hx730_2 := hb_ HB.out hx730_2
         replace hx730_3 := hb_ HB.out hx730_3
         replace hx730_4 := hb_ HB.out hx730_4
         replace p730 := eq_true p730
         replace q730 := eq_true q730
         go_wp2_with (first | ((with_reducible refine gate_dst (N := 10) rfl ?_); (try (refine gate_guard (by rfl) ?_; dsimp only)); refine bx_ 10 #[.int .i64 0, .int .i64 0, .int .i64 0, .int .i64 0, .int .i64 0] 33 ?_; intro gb731 hg w62 hbox hb; have BK731 := Aside0.mk (hbox); have GW731 := Aside0.mk (zs_ hg (ne_ HB.out)); have GE731 := Aside0.mk (zs_ hg (ne_ HB.out)); have NB723_731 := Aside0.mk (nl_ BK723.out hg); have NB731_723 := Aside0.mk (nm_ BK723.out hg); have NB724_731 := Aside0.mk (nl_ BK724.out hg); have NB731_724 := Aside0.mk (nm_ BK724.out hg); have NB727_731 := Aside0.mk (nl_ BK727.out hg); have NB731_727 := Aside0.mk (nm_ BK727.out hg); have NB729_731 := Aside0.mk (nl_ BK729.out hg); have NB731_729 := Aside0.mk (nm_ BK729.out hg); replace HO_728001 := Aside0.mk (Kd.R_below (Kd.R_elderB (nr_ HO_728001.out) gb731 (Nat.le_of_eq hg.symm)) hb); replace BK723 := kb_ BK723 hb; replace BK724 := kb_ BK724 hb; replace BK727 := kb_ BK727 hb; replace BK729 := kb_ BK729 hb; replace HB := kB_ HB hb; clear hb hbox hg; have hnb63 := NB731_723.out; have hnc63 := NB723_731.out; have hnb64 := NB731_724.out; have hnc64 := NB724_731.out; have hnb65 := NB731_727.out; have hnc65 := NB727_731.out; have hnb66 := NB731_729.out; have hnc66 := NB729_731.out; obtain ⟨hcz67_0, hcz67_1, hcz67_2, hcz67_3, hcz67_4, hfz67_0, hfz67_1, hfz67_2, hfz67_3, hfz67_4⟩ := cz5_ BK731.out) | ((with_reducible refine gate_callee (f := 59) rfl ?_); refine gl_ (some 47) Try.func59 #[.slice A1 l1.length c1, .int .i64 x31_2, .int .i64 x39_3] ?_; (with_reducible refine (impl_turning.calls k3 _ _ l1 x31_2 x39_3 t732 _ ?side1 ?side2 A40.out).mono ?_); (case side1 => exact Kd.C_below HR1.out (ne_ HB.out)); (case side2 => exact HC1.out); rintro e w68 ⟨rfl, hb⟩; refine ⟨_, rfl, ?_⟩; replace HO_728001 := Aside0.mk (Kd.R_below (by (with_reducible repeat (first | apply Kd.R_alloc | apply Kd.R_drewN | apply Kd.R_drew)); exact (Kd.R_mono (rf5_ (Kd.R_mono HO_728001.out (fun k_ hk => (⟨hk, hk.2⟩ : _ ∧ k_ ≠ gb731)))) (fun _ h_ => h_.1))) hb); replace BK723 := kf_ BK723 hb; replace BK724 := kf_ BK724 hb; replace BK727 := kf_ BK727 hb; replace BK729 := kf_ BK729 hb; replace BK731 := Aside0.mk (blk_below (g := gb731) (o := .cells #[.int .i64 ((rd_T33 l0_1 x39_3).f0), .int .i64 ((rd_T33 l0_1 x39_3).f1), .int .i64 ((rd_T33 l0_1 x39_3).f2), .int .i64 ((rd_T33 l0_1 x39_3).f3), .int .i64 ((rd_T33 l0_1 x39_3).f4)] 33 (0, 0)) (np_ BK731.out) hb); replace HB := kB_ HB hb; (try clear hb); (try clear hb2); (try clear hk); (try clear hi); obtain ⟨hcz69_0, hcz69_1, hcz69_2, hcz69_3, hcz69_4, hfz69_0, hfz69_1, hfz69_2, hfz69_3, hfz69_4⟩ := cz5_ BK731.out; have hnb70 := NB729_723.out; have hnc70 := NB723_729.out; have hnb71 := NB729_724.out; have hnc71 := NB724_729.out; have hnb72 := NB729_727.out; have hnc72 := NB727_729.out; obtain ⟨hcz73_0, hcz73_1, hcz73_2, hcz73_3, hcz73_4, hfz73_0, hfz73_1, hfz73_2, hfz73_3, hfz73_4⟩ := cz5_ BK729.out))
         go_roundg k3
         case measure => have := HJ2.out; have := HK2.out; have := HK3.out; omega
         case rel => exact ⟨(wrap64 (x39_3 + 1)), (x728001_3), (u728001), ns_, H', ⟨by have := HJ2.out; have := HK2.out; have := HK3.out; omega⟩, ⟨by (with_reducible repeat (first | apply Kd.R_alloc | apply Kd.R_drewN | apply Kd.R_drew)); exact Kd.R_mono HO_728001.out (fun _ hk => hk.1)⟩, ⟨nb_ BK723.out⟩, ⟨nb_ BK724.out⟩, ⟨nb_ BK727.out⟩, ⟨nb_ BK729.out⟩, ⟨ne_ HB.out⟩⟩
        rw [if_pos c42] at H
        have c42b0 : decide (0 ≤ t732) = true := decide_eq_true c42
        clear c42
        by_cases c43 : x728001_3.length < 3518437208883
        rotate_left
        ·rw [if_neg c43] at H
         exact absurd H (by simp)
        rw [if_pos c43] at H
        have LMc43 := Aside0.mk c43
        clear c43
        obtain ⟨y733, hy733⟩ : ∃ y_ : List (S33), y_ = (x728001_3 ++ [(⟨x31_2, x39_3, wrap64 (t732 + ((rd_T33 l0_1 x39_3).f2)), 0, 9⟩ : S33)]) := ⟨_, rfl⟩
        replace H : (impl_TurnNet.l1 k3 l1 x31_2 l0_1 (l0_1.length : Int) x31_2 l0_1 (l0_1.length : Int) (wrap64 (x39_3 + 1)) a0_0 l0_1 (l0_1.length : Int) y733 ((rd_T33 l0_1 x31_2).f0) ((rd_T33 l0_1 x31_2).f1) ((rd_T33 l0_1 x31_2).f2) ((rd_T33 l0_1 x31_2).f3) ((rd_T33 l0_1 x31_2).f4)) = some (r1, r2, r3) := by first | (rw [hy733]; with_reducible exact H) | (have H2_ := (Option.bind_some _ _).symm.trans H; rw [hy733]; with_reducible exact H2_) | (have H2_ := (Option.bind_some _ _).symm.trans H; with_reducible exact H2_) | with_reducible exact H | (rw [hy733]; exact H) | exact H
        have Ny733 := Aside0.mk hy733
        clear hy733
        have H' := Aside0.mk H
        clear H
        have p730 : 0 ≤ (x39_3 : Int) := of_decide_eq_true nx_
        have q730 : x39_3 < (l0_1.length : Int) := of_decide_eq_true nx_
        obtain ⟨ad730, e730, hx730_0, hx730_1, hx730_2, hx730_3, hx730_4⟩ := at_T33 HR0_1.out x39_3 p730 q730
        obtain rfl : ad728 = ad730 := (by injection e730)
        replace hx730_0 := hb_ HB.out hx730_0
        replace hx730_1 := hb_ HB.out hx730_1
        replace hx730_2 := hb_ HB.out hx730_2
        replace hx730_3 := hb_ HB.out hx730_3
        replace hx730_4 := hb_ HB.out hx730_4
        replace p730 := eq_true p730
        replace q730 := eq_true q730
        go_wp2_with (first | ((with_reducible refine gate_dst (N := 10) rfl ?_); (try (refine gate_guard (by rfl) ?_; dsimp only)); refine bx_ 10 #[.int .i64 0, .int .i64 0, .int .i64 0, .int .i64 0, .int .i64 0] 33 ?_; intro gb731 hg w44 hbox hb; have BK731 := Aside0.mk (hbox); have GW731 := Aside0.mk (zs_ hg (ne_ HB.out)); have GE731 := Aside0.mk (zs_ hg (ne_ HB.out)); have NB723_731 := Aside0.mk (nl_ BK723.out hg); have NB731_723 := Aside0.mk (nm_ BK723.out hg); have NB724_731 := Aside0.mk (nl_ BK724.out hg); have NB731_724 := Aside0.mk (nm_ BK724.out hg); have NB727_731 := Aside0.mk (nl_ BK727.out hg); have NB731_727 := Aside0.mk (nm_ BK727.out hg); have NB729_731 := Aside0.mk (nl_ BK729.out hg); have NB731_729 := Aside0.mk (nm_ BK729.out hg); replace HO_728001 := Aside0.mk (Kd.R_below (Kd.R_elderB (nr_ HO_728001.out) gb731 (Nat.le_of_eq hg.symm)) hb); replace BK723 := kb_ BK723 hb; replace BK724 := kb_ BK724 hb; replace BK727 := kb_ BK727 hb; replace BK729 := kb_ BK729 hb; replace HB := kB_ HB hb; clear hb hbox hg; have hnb45 := NB731_723.out; have hnc45 := NB723_731.out; have hnb46 := NB731_724.out; have hnc46 := NB724_731.out; have hnb47 := NB731_727.out; have hnc47 := NB727_731.out; have hnb48 := NB731_729.out; have hnc48 := NB729_731.out; obtain ⟨hcz49_0, hcz49_1, hcz49_2, hcz49_3, hcz49_4, hfz49_0, hfz49_1, hfz49_2, hfz49_3, hfz49_4⟩ := cz5_ BK731.out) | ((with_reducible refine gate_callee (f := 59) rfl ?_); refine gl_ (some 47) Try.func59 #[.slice A1 l1.length c1, .int .i64 x31_2, .int .i64 x39_3] ?_; (with_reducible refine (impl_turning.calls k3 _ _ l1 x31_2 x39_3 t732 _ ?side1 ?side2 A40.out).mono ?_); (case side1 => exact Kd.C_below HR1.out (ne_ HB.out)); (case side2 => exact HC1.out); rintro e w50 ⟨rfl, hb⟩; refine ⟨_, rfl, ?_⟩; replace HO_728001 := Aside0.mk (Kd.R_below (by (with_reducible repeat (first | apply Kd.R_alloc | apply Kd.R_drewN | apply Kd.R_drew)); exact (Kd.R_mono (rf5_ (Kd.R_mono HO_728001.out (fun k_ hk => (⟨hk, hk.2⟩ : _ ∧ k_ ≠ gb731)))) (fun _ h_ => h_.1))) hb); replace BK723 := kf_ BK723 hb; replace BK724 := kf_ BK724 hb; replace BK727 := kf_ BK727 hb; replace BK729 := kf_ BK729 hb; replace BK731 := Aside0.mk (blk_below (g := gb731) (o := .cells #[.int .i64 ((rd_T33 l0_1 x39_3).f0), .int .i64 ((rd_T33 l0_1 x39_3).f1), .int .i64 ((rd_T33 l0_1 x39_3).f2), .int .i64 ((rd_T33 l0_1 x39_3).f3), .int .i64 ((rd_T33 l0_1 x39_3).f4)] 33 (0, 0)) (np_ BK731.out) hb); replace HB := kB_ HB hb; (try clear hb); (try clear hb2); (try clear hk); (try clear hi); obtain ⟨hcz51_0, hcz51_1, hcz51_2, hcz51_3, hcz51_4, hfz51_0, hfz51_1, hfz51_2, hfz51_3, hfz51_4⟩ := cz5_ BK731.out; have hnb52 := NB729_723.out; have hnc52 := NB723_729.out; have hnb53 := NB729_724.out; have hnc53 := NB724_729.out; have hnb54 := NB729_727.out; have hnc54 := NB727_729.out; obtain ⟨hcz55_0, hcz55_1, hcz55_2, hcz55_3, hcz55_4, hfz55_0, hfz55_1, hfz55_2, hfz55_3, hfz55_4⟩ := cz5_ BK729.out; have hnb56 := NB727_723.out; have hnc56 := NB723_727.out; have hnb57 := NB727_724.out; have hnc57 := NB724_727.out; obtain ⟨hcz58_0, hcz58_1, hfz58_0, hfz58_1⟩ := cz2_ BK727.out) | ((with_reducible refine gate_builtin (b := .append) (xs := #[.tmp 58, .tmp 66]) rfl ?_); (try (refine gate_guard (by rfl) ?_; dsimp only)); at_builtin; refine Kd.R_append k33 (w0 := w) w.heap.size rfl (.tmp 58) (.tmp 66) 23 33 (.agg #[(.int .i64 0), (.int .i64 0), (.int .i64 0), (.int .i64 0), (.int .i64 0)]) 40 rfl Try.underlying23 info33 rfl (by decide) (by omega) u728001 x728001_3 (⟨x31_2, x39_3, wrap64 (t732 + ((rd_T33 l0_1 x39_3).f2)), 0, 9⟩ : S33) [.int .i64 x31_2, .int .i64 x39_3, .int .i64 (wrap64 (t732 + ((rd_T33 l0_1 x39_3).f2))), .int .i64 0, .int .i64 9] (fun k_ => k_ ≠ gb729 ∧ k_ ≠ gb731) (fun _ => False) rfl rfl ?aP (fun _ hk => hk.elim) ?aF ?aO ?aB ?aS ?aL ?_; (case aP => exact k33_mkM _ _ _ (⟨x31_2, x39_3, wrap64 (t732 + ((rd_T33 l0_1 x39_3).f2)), 0, 9⟩ : S33)); (case aB => exact (ne_ HB.out)); (case aF => exact (fun k_ hk => ⟨Kd.freshB (g := gb729) (o := .cells #[.int .i64 ((rd_T33 l0_1 x31_2).f0), .int .i64 ((rd_T33 l0_1 x31_2).f1), .int .i64 ((rd_T33 l0_1 x31_2).f2), .int .i64 ((rd_T33 l0_1 x31_2).f3), .int .i64 ((rd_T33 l0_1 x31_2).f4)] 33 (0, 0)) (nb_ BK729.out) k_ hk, Kd.freshB (g := gb731) (o := .cells #[.int .i64 ((rd_T33 l0_1 x39_3).f0), .int .i64 ((rd_T33 l0_1 x39_3).f1), .int .i64 ((rd_T33 l0_1 x39_3).f2), .int .i64 ((rd_T33 l0_1 x39_3).f3), .int .i64 ((rd_T33 l0_1 x39_3).f4)] 33 (0, 0)) (nb_ BK731.out) k_ hk⟩)); (case aO => exact (nr_ HO_728001.out)); (case aS => exact (below_size (ne_ HB.out))); (case aL => have := LMc43.out; omega); intro v734 w59 ho hb hg hat; rw [← Ny733.out] at ho; have HO735 := Aside0.mk (ho); replace BK723 := Aside0.mk (blk_grown (g := gb723) (o := .cells #[.int .i64 a0_0, .slice (some ad728) l0_1.length c0_1] 25 (0, 0)) (nb_ BK723.out) hg (Kd.R_ne HO_728001.out BK723.out (by decide))); replace BK724 := Aside0.mk (blk_grown (g := gb724) (o := .cells #[.int .i64 0, .slice none 0 0] 25 (0, 0)) (nb_ BK724.out) hg (Kd.R_ne HO_728001.out BK724.out (by decide))); replace BK727 := Aside0.mk (blk_grown (g := gb727) (o := .cells #[.int .i64 (l0_1.length : Int), u728001] 25 (0, 0)) (nb_ BK727.out) hg (Kd.R_ne HO_728001.out BK727.out (by decide))); replace BK729 := Aside0.mk (blk_grown (g := gb729) (o := .cells #[.int .i64 ((rd_T33 l0_1 x31_2).f0), .int .i64 ((rd_T33 l0_1 x31_2).f1), .int .i64 ((rd_T33 l0_1 x31_2).f2), .int .i64 ((rd_T33 l0_1 x31_2).f3), .int .i64 ((rd_T33 l0_1 x31_2).f4)] 33 (0, 0)) (nb_ BK729.out) hg (Kd.R_away HO_728001.out (fun _ hk => hk.1))); replace BK731 := Aside0.mk (blk_grown (g := gb731) (o := .cells #[.int .i64 ((rd_T33 l0_1 x39_3).f0), .int .i64 ((rd_T33 l0_1 x39_3).f1), .int .i64 ((rd_T33 l0_1 x39_3).f2), .int .i64 ((rd_T33 l0_1 x39_3).f3), .int .i64 ((rd_T33 l0_1 x39_3).f4)] 33 (0, 0)) (nb_ BK731.out) hg (Kd.R_away HO_728001.out (fun _ hk => hk.2))); replace HB := Aside0.mk (hb); clear HO_728001; clear ho hb hg hat; obtain ⟨Ao60, co60, eo60⟩ := Kd.R_slice HO735.out; subst eo60; obtain ⟨hcz61_0, hcz61_1, hfz61_0, hfz61_1⟩ := cz2_ BK727.out))
        go_roundg k3
        case measure => have := HJ2.out; have := HK2.out; have := HK3.out; omega
        case rel => exact ⟨(wrap64 (x39_3 + 1)), (y733), (.slice Ao60 y733.length co60), ns_, H', ⟨by have := HJ2.out; have := HK2.out; have := HK3.out; omega⟩, ⟨by (with_reducible repeat (first | apply Kd.R_alloc | apply Kd.R_drewN | apply Kd.R_drew)); exact Kd.R_mono (Kd.R_far (p := ⟨gb727, 1, none⟩) (Kd.R_types HO735.out BK727.out (by decide)) (fun _ hk => hk.2) (.slice Ao60 y733.length co60)) (fun _ hk => by first | exact hk.1.1 | trivial | simp_all)⟩, ⟨np_ BK723.out⟩, ⟨np_ BK724.out⟩, ⟨np_ BK727.out⟩, ⟨np_ BK729.out⟩, ⟨ne_ HB.out⟩⟩
end Go.Proofs.Ytcfmejfmjjgoaaa.Print
