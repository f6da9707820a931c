-- Made by this session's own program (wip/patch_print.py, over the kit's print). Lean checks it.
import Derived.Test.YtgnnimhhkbbfiaaPrint0
import Derived.Test.YtgnnimhhkbbfiaaPrintF27
import Derived.Shelf.Abstract
namespace Go.Proofs.Ytgnnimhhkbbfiaa.Print
open Go.RowKit Go.Proofs.YtgnnimhhkbbfiaaW.PrintWords Go.Proofs.YtgnnimhhkbbfiaaW.PrintLast Go.Proofs.YtgnnimhhkbbfiaaW.PrintMore Go.Proofs.YtgnnimhhkbbfiaaX
attribute [local go_sem] max2_int min2_int max_two min_two max_three min_three max_four min_four   -- for this text's walks alone
set_option linter.unusedVariables false
set_option linter.unusedSimpArgs false

/-! ### impl_Net_firstArc: function 30 -/
set_option maxHeartbeats 2000000 in
theorem n_idxArcM (A : Option Addr) (c : Nat) (xs : List S47) (p : S47 → Bool) (g : Nat) (lb : Array Value) (eg : ∀ args w, (callFunc g args).run Try.prog w = .ok (.enter g args) w) (w : World) (hr : Kd.C k47 w A xs.length xs)
    (hp : ∀ (W : World) (x : S47), x ∈ xs → Below w.heap.size w W → Calls Try.prog g (#[.agg #[.int .i64 x.f0, .int .i64 x.f1, .int .i64 x.f2, .int .i64 x.f3, .int .i64 x.f4]] ++ lb) W fun e w' => e = .returned (.bool (p x)) ∧ Below W.heap.size W w') :
    Calls Try.prog 44 #[.slice A xs.length c, .func (.func g) #[] lb] w fun e w' => e = .returned (.int .i64 (idxF p 0 xs)) ∧ Below w.heap.size w w' := by
  have hmax : xs.length ≤ 9223372036854775807 := hr.2.1
  have HR := Aside0.mk hr
  clear hr
  have HP := Aside0.mk hp
  clear hp
  have hu47 := Try.underlying47
  go_enter Try.func44, Try.ntmps44
  go_wp2
  go_loopg [5, 8] xs.length (fun gg _ s8 wr => ∃ kk : Nat, kk ≤ xs.length ∧ xs.length - kk ≤ gg ∧ s8 = .int .i64 kk ∧ Aside0 (Below w.heap.size w wr) ∧ Aside0 (idxF p (kk : Int) (xs.drop kk) = idxF p 0 xs))
  case atStart => exact ⟨0, Nat.zero_le _, by omega, rfl, ⟨Below.refl _ w⟩, ⟨rfl⟩⟩
  case round =>
    obtain ⟨kk, hkk, hg, rfl, BW, HI⟩ := hrel
    by_cases hlt : kk < xs.length
    · have hltz : (kk : Int) < (xs.length : Int) := by omega
      obtain ⟨ad, rfl, hx0, hx1, hx2, hx3, hx4⟩ := at_T47 HR.out (kk : Int) (by omega) hltz
      replace hx0 := (BW.out.cell (World.block_lt_of_cell? w _ hx0)).trans hx0
      replace hx1 := (BW.out.cell (World.block_lt_of_cell? w _ hx1)).trans hx1
      replace hx2 := (BW.out.cell (World.block_lt_of_cell? w _ hx2)).trans hx2
      replace hx3 := (BW.out.cell (World.block_lt_of_cell? w _ hx3)).trans hx3
      replace hx4 := (BW.out.cell (World.block_lt_of_cell? w _ hx4)).trans hx4
      simp only [Int.toNat_natCast] at hx0 hx1 hx2 hx3 hx4
      have hcall := HP.out wr (rd_T47 xs (kk : Int)) (by unfold rd_T47; rw [Int.toNat_natCast, List.getD_eq_getElem?_getD, List.getElem?_eq_getElem hlt]; exact List.getElem_mem _) BW.out
      have hd : idxF p (kk : Int) (xs.drop kk) = if p (rd_T47 xs (kk : Int)) then (kk : Int) else idxF p ((kk : Int) + 1) (xs.drop (kk + 1)) := by
        rw [getD_drop z47 xs kk hlt, idxF_cons]; unfold rd_T47; rw [Int.toNat_natCast]
      generalize hy : rd_T47 xs (kk : Int) = y at hx0 hx1 hx2 hx3 hx4 hcall hd
      clear hy
      have HD := Aside0.mk hd
      clear hd
      cases hq : p y with
      | true =>
        rw [hq] at hcall
        have HD2 : Aside0 (idxF p 0 xs = (kk : Int)) := ⟨by rw [← HI.out, HD.out, hq]; rfl⟩
        clear HI HD hq HR HP
        go_wp2_with (go_at_fn g; refine hcall.mono ?_; rintro e w' ⟨rfl, hb'⟩)
        go_ret
        exact ⟨by rw [HD2.out]; rfl, BW.out.trans (hb'.mono BW.out.size)⟩
      | false =>
        rw [hq] at hcall
        have HD2 : Aside0 (idxF p ((kk + 1 : Nat) : Int) (xs.drop (kk + 1)) = idxF p 0 xs) := ⟨by rw [← HI.out, HD.out, hq]; rfl⟩
        clear HI HD hq
        go_wp2_with (go_at_fn g; refine hcall.mono ?_; rintro e w' ⟨rfl, hb'⟩)
        go_roundg (xs.length - (kk + 1))
        case measure => omega
        case rel => exact ⟨kk + 1, by omega, by omega, by go_num, ⟨BW.out.trans (hb'.mono BW.out.size)⟩, HD2⟩
    · have hltz : ¬ (kk : Int) < (xs.length : Int) := by omega
      have HD2 : Aside0 (idxF p 0 xs = -1) := ⟨by rw [← HI.out, List.drop_eq_nil_of_le (by omega)]; rfl⟩
      clear HI HR HP
      go_wp2
      go_ret
      exact ⟨by rw [HD2.out]; rfl, BW.out⟩
/-- Does an arc go on along the best way? -/
def fa_ok (M : List S58) (v : Int) (x : S47) : Bool := (x.f0 == v) && (((rd_T58 M x.f1).f0 != 99999) && ((wrap64 ((rd_T58 M x.f1).f0 + x.f2) == (rd_T58 M v).f0) && (wrap64 ((rd_T58 M x.f1).f1 + 1) == (rd_T58 M v).f1)))
set_option maxHeartbeats 2000000 in
set_option maxRecDepth 100000 in
theorem fa_one (x : S47) (M : List S58) (A : Option Addr) (c : Nat) (v : Int) (m0 m1 : Int) (bl bn bw : Nat) (W : World) (hr : Kd.C k58 W A M.length M)
    (hl : W.cell? ⟨bl, 0, none⟩ = some (.slice A M.length c)) (hn : W.cell? ⟨bn, 0, none⟩ = some (.int .i64 v)) (h0 : W.cell? ⟨bw, 0, none⟩ = some (.int .i64 m0)) (h1 : W.cell? ⟨bw, 1, none⟩ = some (.int .i64 m1)) (hx0 : 0 ≤ x.f1) (hx1 : x.f1 < (M.length : Int)) :
    Calls Try.prog 45 #[.agg #[.int .i64 x.f0, .int .i64 x.f1, .int .i64 x.f2, .int .i64 x.f3, .int .i64 x.f4], .pointer (some ⟨bl, 0, none⟩), .pointer (some ⟨bn, 0, none⟩), .pointer (some ⟨bw, 0, none⟩)] W fun e w' => e = .returned (.bool ((x.f0 == v) && (((rd_T58 M x.f1).f0 != 99999) && ((wrap64 ((rd_T58 M x.f1).f0 + x.f2) == m0) && (wrap64 ((rd_T58 M x.f1).f1 + 1) == m1))))) ∧ Below W.heap.size W w' := by
  obtain ⟨x0, x1, x2, x3, x4⟩ := x
  have hu47 := Try.underlying47
  have hu58 := Try.underlying58
  obtain ⟨ad, rfl, c0, c1⟩ := at_T58 hr x1 hx0 hx1
  have p0 := eq_true hx0
  have p1 := eq_true hx1
  simp only at c0 c1 p0 p1 ⊢
  generalize (rd_T58 M x1).f0 = y0 at c0 ⊢
  generalize (rd_T58 M x1).f1 = y1 at c1 ⊢
  clear hr
  have HB := Aside0.mk (Below.refl W.heap.size W)
  have b0 := World.block_lt_of_cell? W _ hl
  have b1 := World.block_lt_of_cell? W _ hn
  have b2 := World.block_lt_of_cell? W _ h0
  have b3 := World.block_lt_of_cell? W _ c0
  go_enter Try.func45, Try.ntmps45
  go_wp2
  all_goals
    go_ret
    refine ⟨by first | rfl | (simp [*]; done) | (simp_all; done), ?_⟩
    repeat (first | exact Below.refl _ _ | apply below_alloc | refine below_set ?_ (by simp))
theorem eg_fa1 : ∀ args w, (callFunc 45 args).run Try.prog w = .ok (.enter 45 args) w := enters_of Try.func45 (by kernel_rfl) rfl
def impl_Net_firstArc.f (a0_0 : Int) (l0_1 : List S47) (l1 : List S58) (a2 : Int) : Option Int := if 0 ≤ a2 then (if a2 < (l1.length : Int) then (if l0_1.all (fun x => decide (0 ≤ x.f1) && decide (x.f1 < (l1.length : Int))) = true then some (idxF (fa_ok l1 a2) 0 l0_1) else none) else none) else none
set_option maxHeartbeats 2000000 in
set_option maxRecDepth 100000 in
theorem impl_Net_firstArc.calls (a0_0 : Int) (A0_1 : Option Addr) (c0_1 : Nat) (l0_1 : List S47) (A1 : Option Addr) (c1 : Nat) (l1 : List S58) (a2 : Int) (r : Int) (w : World) (hr0_1 : Kd.C k47 w A0_1 l0_1.length l0_1) (hc0_1 : l0_1.length ≤ c0_1) (hr1 : Kd.C k58 w A1 l1.length l1) (hc1 : l1.length ≤ c1) (h : impl_Net_firstArc.f a0_0 l0_1 l1 a2 = some r) :
    Calls Try.prog 30 #[.agg #[.int .i64 a0_0, .slice A0_1 l0_1.length c0_1], .slice A1 l1.length c1, .int .i64 a2] w fun e w' => e = .returned (.int .i64 r) ∧ Below w.heap.size w w' := by
  unfold impl_Net_firstArc.f at h
  split at h
  · rename_i q0
    split at h
    · rename_i q1
      split at h
      · rename_i q2
        obtain rfl := Option.some.inj h
        have hall : ∀ x ∈ l0_1, 0 ≤ x.f1 ∧ x.f1 < (l1.length : Int) := fun x hx => by have := List.all_eq_true.1 q2 x hx; simpa using this
        clear h q2
        have hu25 := Try.underlying25
        have hu58 := Try.underlying58
        have H : ∀ (W : World) (bl bn bw : Nat), Below w.heap.size w W → W.cell? ⟨bl, 0, none⟩ = some (.slice A1 l1.length c1) → W.cell? ⟨bn, 0, none⟩ = some (.int .i64 a2) → W.cell? ⟨bw, 0, none⟩ = some (.int .i64 (rd_T58 l1 a2).f0) → W.cell? ⟨bw, 1, none⟩ = some (.int .i64 (rd_T58 l1 a2).f1) →
            Calls Try.prog 44 #[.slice A0_1 l0_1.length c0_1, .func (.func 45) #[] #[.pointer (some ⟨bl, 0, none⟩), .pointer (some ⟨bn, 0, none⟩), .pointer (some ⟨bw, 0, none⟩)]] W fun e w' => e = .returned (.int .i64 (idxF (fa_ok l1 a2) 0 l0_1)) ∧ Below W.heap.size W w' :=
          fun W bl bn bw hb c0 c1 c2 c3 => n_idxArcM A0_1 c0_1 l0_1 (fa_ok l1 a2) 45 #[.pointer (some ⟨bl, 0, none⟩), .pointer (some ⟨bn, 0, none⟩), .pointer (some ⟨bw, 0, none⟩)] eg_fa1 W (Kd.C_below hr0_1 hb) (fun W' x hx hb' =>
            have cell : ∀ {p : Addr} {u : Value}, W.cell? p = some u → W'.cell? p = some u := fun {p u} hp => (hb'.cell (World.block_lt_of_cell? W _ hp)).trans hp
            fa_one x l1 A1 _ a2 _ _ bl bn bw W' (Kd.C_below (Kd.C_below hr1 hb) hb') (cell c0) (cell c1) (cell c2) (cell c3) (hall x hx).1 (hall x hx).2)
        have H' := Aside0.mk H
        obtain ⟨ad, rfl, m0, m1⟩ := at_T58 hr1 a2 q0 q1
        have p0 := eq_true q0
        have p1 := eq_true q1
        clear H hr0_1 hr1 hall q0 q1
        generalize (rd_T58 l1 a2).f0 = y0 at H' m0
        generalize (rd_T58 l1 a2).f1 = y1 at H' m1
        generalize idxF (fa_ok l1 a2) 0 l0_1 = r at H' ⊢
        have m0' : ∀ o1 o2 o3 : Obj, (((w.alloc o1).alloc o2).alloc o3).cell? (ad.add (a2.toNat * 2)) = some (.int .i64 y0) := fun o1 o2 o3 => ((below_alloc (below_alloc (below_alloc (Below.refl w.heap.size w) o1) o2) o3).cell (World.block_lt_of_cell? w _ m0)).trans m0
        have m1' : ∀ o1 o2 o3 : Obj, (((w.alloc o1).alloc o2).alloc o3).cell? ⟨(ad.add (a2.toNat * 2)).block, (ad.add (a2.toNat * 2)).off + 1, none⟩ = some (.int .i64 y1) := fun o1 o2 o3 => ((below_alloc (below_alloc (below_alloc (Below.refl w.heap.size w) o1) o2) o3).cell (World.block_lt_of_cell? w _ m1)).trans m1
        clear m0 m1
        go_enter Try.func30, Try.ntmps30
        go_wp2_with (first | (go_at_call 44; refine (H'.out _ _ _ _ (by repeat (first | exact Below.refl _ _ | apply below_alloc | refine below_set ?_ (by simp))) (by go_simp) (by go_simp) (by go_simp) (by go_simp)).mono ?_; rintro e w1 ⟨rfl, hb1⟩))
        all_goals
          go_ret
          refine ⟨rfl, ?_⟩
          exact below_step (by repeat (first | exact Below.refl _ _ | apply below_alloc | refine below_set ?_ (by simp))) hb1
      · cases h
    · cases h
  · cases h

end Go.Proofs.Ytgnnimhhkbbfiaa.Print
