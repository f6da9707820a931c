-- Made by this session's own program (wip/patch_print.py, over the kit's print). Lean checks it.
import Derived.Test.YtfpfaaibgaejjaaPrint0
import Derived.Test.YtfpfaaibgaejjaaPrintB
import Derived.Shelf.Abstract
namespace Go.Proofs.Ytfpfaaibgaejjaa.Print
open Go.RowKit Go.Proofs.YtfpfaaibgaejjaaW.PrintWords Go.Proofs.YtfpfaaibgaejjaaW.PrintLast Go.Proofs.YtfpfaaibgaejjaaW.PrintMore Go.Proofs.YtfpfaaibgaejjaaX
attribute [local go_sem] max2_int min2_int max_two min_two max_three min_three max_four min_four   -- for this text's walks alone
set_option linter.unusedVariables false
set_option linter.unusedSimpArgs false

/-! ### impl_Step_37: function 37 -/
/-- The first place of which p holds, from i on. -/
def sidF {α : Type} (p : α → Bool) : Int → List α → Int
  | _, [] => -1
  | i, x :: t => if p x then i else sidF p (i + 1) t
theorem sidF_cons {α : Type} (p : α → Bool) (i : Int) (x : α) (t : List α) : sidF p i (x :: t) = if p x then i else sidF p (i + 1) t := rfl
theorem sidF_ge {α : Type} (p : α → Bool) (l : List α) : ∀ i : Int, 0 ≤ i → decide (0 ≤ sidF p i l) = l.any p := by
  induction l with
  | nil => intro i _; rfl
  | cons x t ih =>
    intro i hi
    unfold sidF
    rw [List.any_cons]
    cases h : p x with
    | true => simpa using hi
    | false => simpa using ih (i + 1) (by omega)
theorem sget_drop {α : Type} (z : α) (l : List α) (i : Nat) (h : i < l.length) : l.drop i = l.getD i z :: l.drop (i + 1) := by
  rw [List.drop_eq_getElem_cons h, List.getD_eq_getElem?_getD, List.getElem?_eq_getElem h]; rfl
set_option maxHeartbeats 2000000 in
theorem n_idxStep (A : Option Addr) (c : Nat) (xs : List S36) (p : S36 → Bool) (g : Nat) (lb : Array Value) (eg : ∀ args w, (callFunc g args).run Try.prog w = .ok (.enter g args) w) (w : World) (hr : Kd.C k36 w A xs.length xs)
    (hp : ∀ (W : World) (x : S36), Below w.heap.size w W → Calls Try.prog g (#[.agg #[.int .i64 x.f0, .int .i64 x.f1]] ++ lb) W fun e w' => e = .returned (.bool (p x)) ∧ Below W.heap.size W w') :
    Calls Try.prog 49 #[.slice A xs.length c, .func (.func g) #[] lb] w fun e w' => e = .returned (.int .i64 (sidF p 0 xs)) ∧ Below w.heap.size w w' := by
  have hmax : xs.length ≤ 9223372036854775807 := hr.2.1
  have HR := Aside0.mk hr
  clear hr
  have HP := Aside0.mk hp
  clear hp
  have hu36 := Try.underlying36
  go_enter Try.func49, Try.ntmps49
  go_wp2
  go_loopg [5, 8] xs.length (fun gg _ s8 wr => ∃ kk : Nat, kk ≤ xs.length ∧ xs.length - kk ≤ gg ∧ s8 = .int .i64 kk ∧ Aside0 (Below w.heap.size w wr) ∧ Aside0 (sidF p (kk : Int) (xs.drop kk) = sidF p 0 xs))
  case atStart => exact ⟨0, Nat.zero_le _, by omega, rfl, ⟨Below.refl _ w⟩, ⟨rfl⟩⟩
  case round =>
    obtain ⟨kk, hkk, hg, rfl, BW, HI⟩ := hrel
    by_cases hlt : kk < xs.length
    · have hltz : (kk : Int) < (xs.length : Int) := by omega
      obtain ⟨ad, rfl, hx0, hx1⟩ := at_T36 HR.out (kk : Int) (by omega) hltz
      replace hx0 := (BW.out.cell (World.block_lt_of_cell? w _ hx0)).trans hx0
      replace hx1 := (BW.out.cell (World.block_lt_of_cell? w _ hx1)).trans hx1
      simp only [Int.toNat_natCast] at hx0 hx1
      have hcall := HP.out wr (rd_T36 xs (kk : Int)) BW.out
      have hd : sidF p (kk : Int) (xs.drop kk) = if p (rd_T36 xs (kk : Int)) then (kk : Int) else sidF p ((kk : Int) + 1) (xs.drop (kk + 1)) := by
        rw [sget_drop z36 xs kk hlt, sidF_cons]; unfold rd_T36; rw [Int.toNat_natCast]
      generalize hy : rd_T36 xs (kk : Int) = y at hx0 hx1 hcall hd
      clear hy
      have HD := Aside0.mk hd
      clear hd
      cases hq : p y with
      | true =>
        rw [hq] at hcall
        have HD2 : Aside0 (sidF p 0 xs = (kk : Int)) := ⟨by rw [← HI.out, HD.out, hq]; rfl⟩
        clear HI HD hq HR HP
        go_wp2_with (go_at_fn g; refine hcall.mono ?_; rintro e w' ⟨rfl, hb'⟩)
        go_ret
        exact ⟨by rw [HD2.out]; rfl, BW.out.trans (hb'.mono BW.out.size)⟩
      | false =>
        rw [hq] at hcall
        have HD2 : Aside0 (sidF p ((kk + 1 : Nat) : Int) (xs.drop (kk + 1)) = sidF p 0 xs) := ⟨by rw [← HI.out, HD.out, hq]; rfl⟩
        clear HI HD hq
        go_wp2_with (go_at_fn g; refine hcall.mono ?_; rintro e w' ⟨rfl, hb'⟩)
        go_roundg (xs.length - (kk + 1))
        case measure => omega
        case rel => exact ⟨kk + 1, by omega, by omega, by go_num, ⟨BW.out.trans (hb'.mono BW.out.size)⟩, HD2⟩
    · have hltz : ¬ (kk : Int) < (xs.length : Int) := by omega
      have HD2 : Aside0 (sidF p 0 xs = -1) := ⟨by rw [← HI.out, List.drop_eq_nil_of_le (by omega)]; rfl⟩
      clear HI HR HP
      go_wp2
      go_ret
      exact ⟨by rw [HD2.out]; rfl, BW.out⟩
/-- Is a step no good? -/
def st_bad (x : S36) : Bool := !(impl_Step_valid.f x.f0 x.f1).getD true
theorem st_some (a b : Int) : ∃ r, impl_Step_valid.f a b = some r := by
  unfold impl_Step_valid.f impl_timeOk.f impl_within.f
  repeat (first | exact ⟨_, rfl⟩ | split | simp only [Option.bind_some])
set_option maxHeartbeats 2000000 in
set_option maxRecDepth 100000 in
theorem st_one (y : S36) (W : World) : Calls Try.prog 38 #[.agg #[.int .i64 y.f0, .int .i64 y.f1]] W fun e w' => e = .returned (.bool (st_bad y)) ∧ Below W.heap.size W w' := by
  obtain ⟨r, hr⟩ := st_some y.f0 y.f1
  have hb : st_bad y = !r := by unfold st_bad; rw [hr]; rfl
  rw [hb]
  have H := Aside0.mk (fun W' => impl_Step_valid.calls y.f0 y.f1 r W' hr)
  clear hb hr
  obtain ⟨y0, y1⟩ := y
  have hu36 := Try.underlying36
  simp only at H ⊢
  go_enter Try.func38, Try.ntmps38
  go_wp2_with (first | (go_at_call 39; refine (H.out _).mono ?_; rintro e w' ⟨rfl, hb⟩))
  all_goals
    go_ret
    refine ⟨by first | rfl | (simp [*]; done) | (simp_all; done), ?_⟩
    first | exact below_step (below_alloc (Below.refl _ _) _) hb | exact hb | exact below_step (below_alloc (below_drew1 (Below.refl _ _)) _) hb | exact below_step (below_drew1 (below_alloc (Below.refl _ _) _)) hb
theorem eg_st1 : ∀ args w, (callFunc 38 args).run Try.prog w = .ok (.enter 38 args) w := enters_of Try.func38 (by kernel_rfl) rfl
def impl_Step_37.f (l0 : List S36) (a1 : Int) : Option Bool := some (l0.any st_bad)
set_option maxHeartbeats 2000000 in
theorem impl_Step_37.calls (A0 : Option Addr) (c0 : Nat) (l0 : List S36) (a1 : Int) (r : Bool) (w : World) (hr0 : Kd.C k36 w A0 l0.length l0) (hc0 : l0.length ≤ c0) (h : impl_Step_37.f l0 a1 = some r) :
    Calls Try.prog 37 #[.slice A0 l0.length c0, .func (.func 38) #[] #[]] w fun e w' => e = .returned (.bool r) ∧ Below w.heap.size w w' := by
  obtain rfl := Option.some.inj h
  have H := Aside0.mk (n_idxStep A0 c0 l0 st_bad 38 #[] eg_st1 w hr0 (fun W x hb' => st_one x W))
  rw [← sidF_ge st_bad l0 0 (Int.le_refl _)]
  clear hr0 h
  generalize sidF st_bad 0 l0 = r at H
  go_enter Try.func37, Try.ntmps37
  go_wp2_with (first | (go_at_call 49; refine H.out.mono ?_; rintro e w' ⟨rfl, hb⟩))
  go_ret
  exact ⟨rfl, hb⟩

end Go.Proofs.Ytfpfaaibgaejjaa.Print
