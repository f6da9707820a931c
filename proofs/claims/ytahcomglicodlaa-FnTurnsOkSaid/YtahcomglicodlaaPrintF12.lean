-- Made by this session's own program (wip/patch_print.py, over the kit's print). Lean checks it.
import Derived.Test.YtahcomglicodlaaPrint0
import Derived.Test.YtahcomglicodlaaPrintF10
import Derived.Shelf.Abstract
namespace Go.Proofs.Ytahcomglicodlaa.Print
open Go.RowKit Go.Proofs.YtahcomglicodlaaW.PrintWords Go.Proofs.YtahcomglicodlaaW.PrintLast Go.Proofs.YtahcomglicodlaaW.PrintMore Go.Proofs.YtahcomglicodlaaX
attribute [local go_sem] max2_int min2_int max_two min_two max_three min_three max_four min_four   -- for this text's walks alone
set_option linter.unusedVariables false
set_option linter.unusedSimpArgs false

/-! ### impl_Turn_12: function 12 -/
set_option maxHeartbeats 2000000 in
theorem n_idxTurn (A : Option Addr) (c : Nat) (xs : List S31) (p : S31 → Bool) (g : Nat) (lb : Array Value) (eg : ∀ args w, (callFunc g args).run Try.prog w = .ok (.enter g args) w) (w : World) (hr : Kd.C k31 w A xs.length xs)
    (hp : ∀ (W : World) (x : S31), Below w.heap.size w W → Calls Try.prog g (#[.agg #[.int .i64 x.f0, .int .i64 x.f1, .int .i64 x.f2]] ++ lb) W fun e w' => e = .returned (.bool (p x)) ∧ Below W.heap.size W w') :
    Calls Try.prog 23 #[.slice A xs.length c, .func (.func g) #[] lb] w fun e w' => e = .returned (.int .i64 (idxF p 0 xs)) ∧ Below w.heap.size w w' := by
  have hmax : xs.length ≤ 9223372036854775807 := hr.2.1
  have HR := Aside0.mk hr
  clear hr
  have HP := Aside0.mk hp
  clear hp
  have hu31 := Try.underlying31
  go_enter Try.func23, Try.ntmps23
  go_wp2
  go_loopg [5, 8] xs.length (fun gg _ s8 wr => ∃ kk : Nat, kk ≤ xs.length ∧ xs.length - kk ≤ gg ∧ s8 = .int .i64 kk ∧ Aside0 (Below w.heap.size w wr) ∧ Aside0 (idxF p (kk : Int) (xs.drop kk) = idxF p 0 xs))
  case atStart => exact ⟨0, Nat.zero_le _, by omega, rfl, ⟨Below.refl _ w⟩, ⟨rfl⟩⟩
  case round =>
    obtain ⟨kk, hkk, hg, rfl, BW, HI⟩ := hrel
    by_cases hlt : kk < xs.length
    · have hltz : (kk : Int) < (xs.length : Int) := by omega
      obtain ⟨ad, rfl, hx0, hx1, hx2⟩ := at_T31 HR.out (kk : Int) (by omega) hltz
      replace hx0 := (BW.out.cell (World.block_lt_of_cell? w _ hx0)).trans hx0
      replace hx1 := (BW.out.cell (World.block_lt_of_cell? w _ hx1)).trans hx1
      replace hx2 := (BW.out.cell (World.block_lt_of_cell? w _ hx2)).trans hx2
      simp only [Int.toNat_natCast] at hx0 hx1 hx2
      have hcall := HP.out wr (rd_T31 xs (kk : Int)) BW.out
      have hd : idxF p (kk : Int) (xs.drop kk) = if p (rd_T31 xs (kk : Int)) then (kk : Int) else idxF p ((kk : Int) + 1) (xs.drop (kk + 1)) := by
        rw [getD_drop z31 xs kk hlt, idxF_cons]; unfold rd_T31; rw [Int.toNat_natCast]
      generalize hy : rd_T31 xs (kk : Int) = y at hx0 hx1 hx2 hcall hd
      clear hy
      have HD := Aside0.mk hd
      clear hd
      cases hq : p y with
      | true =>
        rw [hq] at hcall
        have HD2 : Aside0 (idxF p 0 xs = (kk : Int)) := ⟨by rw [← HI.out, HD.out, hq]; rfl⟩
        clear HI HD hq HR HP
        go_wp2_with (go_at_fn g; refine hcall.mono ?_; rintro e w' ⟨rfl, hb'⟩)
        go_ret
        exact ⟨by rw [HD2.out]; rfl, BW.out.trans (hb'.mono BW.out.size)⟩
      | false =>
        rw [hq] at hcall
        have HD2 : Aside0 (idxF p ((kk + 1 : Nat) : Int) (xs.drop (kk + 1)) = idxF p 0 xs) := ⟨by rw [← HI.out, HD.out, hq]; rfl⟩
        clear HI HD hq
        go_wp2_with (go_at_fn g; refine hcall.mono ?_; rintro e w' ⟨rfl, hb'⟩)
        go_roundg (xs.length - (kk + 1))
        case measure => omega
        case rel => exact ⟨kk + 1, by omega, by omega, by go_num, ⟨BW.out.trans (hb'.mono BW.out.size)⟩, HD2⟩
    · have hltz : ¬ (kk : Int) < (xs.length : Int) := by omega
      have HD2 : Aside0 (idxF p 0 xs = -1) := ⟨by rw [← HI.out, List.drop_eq_nil_of_le (by omega)]; rfl⟩
      clear HI HR HP
      go_wp2
      go_ret
      exact ⟨by rw [HD2.out]; rfl, BW.out⟩
/-- Are two turns of the same arcs? -/
def to_eq (a b : Int) (y : S31) : Bool := (y.f0 == a) && (y.f1 == b)
set_option maxHeartbeats 2000000 in
set_option maxRecDepth 100000 in
theorem to_one (y : S31) (a b c : Int) (g : Nat) (W : World) (h0 : W.cell? ⟨g, 0, none⟩ = some (.int .i64 a)) (h1 : W.cell? ⟨g, 1, none⟩ = some (.int .i64 b)) :
    Calls Try.prog 13 #[.agg #[.int .i64 y.f0, .int .i64 y.f1, .int .i64 y.f2], .pointer (some ⟨g, 0, none⟩)] W fun e w' => e = .returned (.bool ((y.f0 == a) && (y.f1 == b))) ∧ Below W.heap.size W w' := by
  obtain ⟨y0, y1, y2⟩ := y
  have hu31 := Try.underlying31
  have b0 := World.block_lt_of_cell? W _ h0
  simp only
  go_enter Try.func13, Try.ntmps13
  go_wp2
  all_goals
    go_ret
    refine ⟨by first | rfl | (simp [*]; done) | (simp_all; done), ?_⟩
    repeat (first | exact Below.refl _ _ | apply below_alloc | refine below_set ?_ (by simp))
theorem eg_to1 : ∀ args w, (callFunc 13 args).run Try.prog w = .ok (.enter 13 args) w := enters_of Try.func13 (by kernel_rfl) rfl
def impl_Turn_12.f (l0 : List S31) (a1_0 : Int) (a1_1 : Int) (a1_2 : Int) : Option Bool := some (l0.any (to_eq a1_0 a1_1))
set_option maxHeartbeats 2000000 in
theorem impl_Turn_12.callsB (g : Nat) (A0 : Option Addr) (c0 : Nat) (l0 : List S31) (a1_0 : Int) (a1_1 : Int) (a1_2 : Int) (r : Bool) (w : World) (hr0 : Kd.C k31 w A0 l0.length l0) (hc0 : l0.length ≤ c0) (hb : w.heap[g]? = some (.cells #[.int .i64 a1_0, .int .i64 a1_1, .int .i64 a1_2] 31 (0, 0))) (h : impl_Turn_12.f l0 a1_0 a1_1 a1_2 = some r) :
    Calls Try.prog 12 #[.slice A0 l0.length c0, .func (.func 13) #[] #[.pointer (some ⟨g, 0, none⟩)]] w fun e w' => e = .returned (.bool r) ∧ Below w.heap.size w w' := by
  obtain rfl := Option.some.inj h
  have k0 : w.cell? ⟨g, 0, none⟩ = some (.int .i64 a1_0) := (blk_cell hb 0).trans rfl
  have k1 : w.cell? ⟨g, 1, none⟩ = some (.int .i64 a1_1) := (blk_cell hb 1).trans rfl
  have H := Aside0.mk (n_idxTurn A0 c0 l0 (to_eq a1_0 a1_1) 13 #[.pointer (some ⟨g, 0, none⟩)] eg_to1 w hr0 (fun W x hb' => to_one x a1_0 a1_1 a1_2 g W ((hb'.cell (World.block_lt_of_cell? w _ k0)).trans k0) ((hb'.cell (World.block_lt_of_cell? w _ k1)).trans k1)))
  rw [← idxF_ge (to_eq a1_0 a1_1) l0 0 (Int.le_refl _)]
  clear hr0 hb k0 k1 h
  generalize idxF (to_eq a1_0 a1_1) 0 l0 = r at H
  go_enter Try.func12, Try.ntmps12
  go_wp2_with (first | (go_at_call 23; refine H.out.mono ?_; rintro e w' ⟨rfl, hb⟩))
  go_ret
  exact ⟨rfl, hb⟩

end Go.Proofs.Ytahcomglicodlaa.Print
