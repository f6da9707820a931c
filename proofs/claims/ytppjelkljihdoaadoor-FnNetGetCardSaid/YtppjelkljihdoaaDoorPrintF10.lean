-- Made by this session's own program (wip/patch_print.py, over the kit's print). Lean checks it.
import Derived.Test.YtppjelkljihdoaaDoorPrint0
import Derived.Test.YtppjelkljihdoaaDoorPrintB
import Derived.Shelf.Abstract
namespace Go.Proofs.YtppjelkljihdoaaDoor.Print
open Go.RowKit Go.Proofs.YtppjelkljihdoaaDoorW.PrintWords Go.Proofs.YtppjelkljihdoaaDoorW.PrintLast Go.Proofs.YtppjelkljihdoaaDoorW.PrintMore Go.Proofs.YtppjelkljihdoaaDoorX
attribute [local go_sem] max2_int min2_int max_two min_two max_three min_three max_four min_four   -- for this text's walks alone
set_option linter.unusedVariables false
set_option linter.unusedSimpArgs false

/-! ### impl_NetOk: function 10 -/
theorem n_within (a b c : Int) : impl_within.f a b c = some (decide (b ≤ a ∧ a ≤ c)) := by
  unfold impl_within.f
  by_cases h : b ≤ a
  · rw [if_pos h]; simp [h]
  · rw [if_neg h]; simp [h]
def n_no (n v : Int) : Bool := !(decide (0 ≤ v ∧ v ≤ wrap64 (n - 1)))
/-- 'func(v int) bool { return !within(v, 0, n.Nodes-1) }', n in block B. -/
theorem n_has1 (v n : Int) (B : Nat) (W : World) (hc : W.cell? ⟨B, 0, none⟩ = some (.int .i64 n)) :
    Calls Tryd.prog 56 #[.int .i64 v, .pointer (some ⟨B, 0, none⟩)] W fun e w' => e = .returned (.bool (n_no n v)) ∧ Below W.heap.size W w' := by
  unfold n_no
  have hw := n_within v 0 (wrap64 (n - 1))
  generalize decide (0 ≤ v ∧ v ≤ wrap64 (n - 1)) = b at hw ⊢
  have hc' := Aside0.mk hw
  clear hw
  go_enter Tryd.func56, Tryd.ntmps56
  go_wp2_with (first | (go_at_call 29; refine (impl_within.calls v 0 (wrap64 (n - 1)) b _ hc'.out).mono ?_; rintro e w' ⟨rfl, hd⟩))
  go_ret
  exact ⟨rfl, hd.below⟩
/-- The first place of which p holds, from i on. -/
def idxF {α : Type} (p : α → Bool) : Int → List α → Int
  | _, [] => -1
  | i, x :: t => if p x then i else idxF p (i + 1) t
theorem idxF_cons {α : Type} (p : α → Bool) (i : Int) (x : α) (t : List α) : idxF p i (x :: t) = if p x then i else idxF p (i + 1) t := rfl
theorem idxF_ge {α : Type} (p : α → Bool) (l : List α) : ∀ i : Int, 0 ≤ i → decide (0 ≤ idxF p i l) = l.any p := by
  induction l with
  | nil => intro i _; rfl
  | cons x t ih =>
    intro i hi
    unfold idxF
    rw [List.any_cons]
    cases h : p x with
    | true => simpa using hi
    | false => simpa using ih (i + 1) (by omega)
theorem getD_drop {α : Type} (z : α) (l : List α) (i : Nat) (h : i < l.length) : l.drop i = l.getD i z :: l.drop (i + 1) := by
  rw [List.drop_eq_getElem_cons h, List.getD_eq_getElem?_getD, List.getElem?_eq_getElem h]; rfl
theorem eg_has1 : ∀ args w, (callFunc 56 args).run Tryd.prog w = .ok (.enter 56 args) w := enters_of Tryd.func56 (by kernel_rfl) rfl
set_option maxHeartbeats 2000000 in
theorem n_idxInt (A : Option Addr) (c : Nat) (xs : List Int) (p : Int → Bool) (g : Nat) (lb : Array Value) (eg : ∀ args w, (callFunc g args).run Tryd.prog w = .ok (.enter g args) w) (w : World) (hr : Kd.C (Kd.int .i64) w A xs.length xs)
    (hp : ∀ (W : World) (x : Int), Below w.heap.size w W → Calls Tryd.prog g (#[.int .i64 x] ++ lb) W fun e w' => e = .returned (.bool (p x)) ∧ Below W.heap.size W w') :
    Calls Tryd.prog 66 #[.slice A xs.length c, .func (.func g) #[] lb] w fun e w' => e = .returned (.int .i64 (idxF p 0 xs)) ∧ Below w.heap.size w w' := by
  have hmax : xs.length ≤ 9223372036854775807 := hr.2.1
  have HR := Aside0.mk hr
  clear hr
  have HP := Aside0.mk hp
  clear hp
  go_enter Tryd.func66, Tryd.ntmps66
  go_wp2
  go_loopg [5, 8] xs.length (fun gg _ s8 wr => ∃ kk : Nat, kk ≤ xs.length ∧ xs.length - kk ≤ gg ∧ s8 = .int .i64 kk ∧ Aside0 (Below w.heap.size w wr) ∧ Aside0 (idxF p (kk : Int) (xs.drop kk) = idxF p 0 xs))
  case atStart => exact ⟨0, Nat.zero_le _, by omega, rfl, ⟨Below.refl _ w⟩, ⟨rfl⟩⟩
  case round =>
    obtain ⟨kk, hkk, hg, rfl, BW, HI⟩ := hrel
    by_cases hlt : kk < xs.length
    · have hltz : (kk : Int) < (xs.length : Int) := by omega
      obtain ⟨ad, rfl, hx⟩ := Kd.at_int HR.out (kk : Int) (by omega) hltz
      have hx' : wr.cell? (ad.add kk) = some (.int .i64 (rd xs (kk : Int))) := by
        have h1 := (BW.out.cell (World.block_lt_of_cell? w _ hx)).trans hx
        simpa only [Int.toNat_natCast] using h1
      clear hx
      have hcall := HP.out wr (rd xs (kk : Int)) BW.out
      have hd : idxF p (kk : Int) (xs.drop kk) = if p (rd xs (kk : Int)) then (kk : Int) else idxF p ((kk : Int) + 1) (xs.drop (kk + 1)) := by
        rw [getD_drop 0 xs kk hlt, idxF_cons]; unfold rd; rw [Int.toNat_natCast]
      generalize hy : rd xs (kk : Int) = y at hx' hcall hd
      clear hy
      have HD := Aside0.mk hd
      clear hd
      cases hq : p y with
      | true =>
        rw [hq] at hcall
        have HD2 : Aside0 (idxF p 0 xs = (kk : Int)) := ⟨by rw [← HI.out, HD.out, hq]; rfl⟩
        clear HI HD hq HR HP
        go_wp2_with (go_at_fn g; refine hcall.mono ?_; rintro e w' ⟨rfl, hb'⟩)
        go_ret
        exact ⟨by rw [HD2.out]; rfl, BW.out.trans (hb'.mono BW.out.size)⟩
      | false =>
        rw [hq] at hcall
        have HD2 : Aside0 (idxF p ((kk + 1 : Nat) : Int) (xs.drop (kk + 1)) = idxF p 0 xs) := ⟨by rw [← HI.out, HD.out, hq]; rfl⟩
        clear HI HD hq
        go_wp2_with (go_at_fn g; refine hcall.mono ?_; rintro e w' ⟨rfl, hb'⟩)
        go_roundg (xs.length - (kk + 1))
        case measure => omega
        case rel => exact ⟨kk + 1, by omega, by omega, by go_num, ⟨BW.out.trans (hb'.mono BW.out.size)⟩, HD2⟩
    · have hltz : ¬ (kk : Int) < (xs.length : Int) := by omega
      have HD2 : Aside0 (idxF p 0 xs = -1) := ⟨by rw [← HI.out, List.drop_eq_nil_of_le (by omega)]; rfl⟩
      clear HI HR HP
      go_wp2
      go_ret
      exact ⟨by rw [HD2.out]; rfl, BW.out⟩
theorem n_conInt (A : Option Addr) (c : Nat) (xs : List Int) (p : Int → Bool) (g : Nat) (lb : Array Value) (eg : ∀ args w, (callFunc g args).run Tryd.prog w = .ok (.enter g args) w) (w : World) (hr : Kd.C (Kd.int .i64) w A xs.length xs)
    (hp : ∀ (W : World) (x : Int), Below w.heap.size w W → Calls Tryd.prog g (#[.int .i64 x] ++ lb) W fun e w' => e = .returned (.bool (p x)) ∧ Below W.heap.size W w') :
    Calls Tryd.prog 55 #[.slice A xs.length c, .func (.func g) #[] lb] w fun e w' => e = .returned (.bool (xs.any p)) ∧ Below w.heap.size w w' := by
  rw [← idxF_ge p xs 0 (Int.le_refl _)]
  have H := Aside0.mk (n_idxInt A c xs p g lb eg w hr hp)
  clear hr hp
  generalize idxF p 0 xs = r at H
  go_enter Tryd.func55, Tryd.ntmps55
  go_wp2_with (first | (go_at_call 66; refine H.out.mono ?_; rintro e w' ⟨rfl, hb⟩))
  go_ret
  exact ⟨rfl, hb⟩
def impl_Net_has.f (a0_0 : Int) (l0_1 : List S54) (l1 : List Int) : Option Bool := some (!(l1.any (n_no a0_0)))
theorem impl_Net_has.calls (a0_0 : Int) (A0_1 : Option Addr) (c0_1 : Nat) (l0_1 : List S54) (A1 : Option Addr) (c1 : Nat) (l1 : List Int) (r : Bool) (w : World) (hr0_1 : Kd.C k54 w A0_1 l0_1.length l0_1) (hc0_1 : l0_1.length ≤ c0_1)
    (hr1 : Kd.C (Kd.int .i64) w A1 l1.length l1) (hc1 : l1.length ≤ c1) (h : impl_Net_has.f a0_0 l0_1 l1 = some r) :
    Calls Tryd.prog 32 #[.agg #[.int .i64 a0_0, .slice A0_1 l0_1.length c0_1], .slice A1 l1.length c1] w fun e w' => e = .returned (.bool r) ∧ Below w.heap.size w w' := by
  obtain rfl := Option.some.inj h
  clear h hr0_1 hc0_1
  have hu25 := Tryd.underlying25
  have H : ∀ W : World, Below w.heap.size w W → w.heap.size < W.heap.size → W.cell? ⟨w.heap.size, 0, none⟩ = some (.int .i64 a0_0) → Calls Tryd.prog 55 #[.slice A1 l1.length c1, .func (.func 56) #[] #[.pointer (some ⟨w.heap.size, 0, none⟩)]] W fun e w' => e = .returned (.bool (l1.any (n_no a0_0))) ∧ Below W.heap.size W w' :=
    fun W hb hlt hcell => n_conInt A1 c1 l1 (n_no a0_0) 56 #[.pointer (some ⟨w.heap.size, 0, none⟩)] eg_has1 W (Kd.C_below hr1 hb) (fun W' x hb' => n_has1 x a0_0 w.heap.size W' ((hb'.cell (p := ⟨w.heap.size, 0, none⟩) hlt).trans hcell))
  have H' := Aside0.mk H
  clear H hr1 hc1
  generalize l1.any (n_no a0_0) = b at H' ⊢
  go_enter Tryd.func32, Tryd.ntmps32
  go_wp2_with (first | (go_at_call 55; refine (H'.out _ (by repeat (first | exact Below.refl _ _ | apply below_alloc)) (by simp) (by simp)).mono ?_; rintro e w' ⟨rfl, hb⟩))
  go_ret
  exact ⟨rfl, below_step (by repeat (first | exact Below.refl _ _ | apply below_alloc)) hb⟩
theorem n_cost (v : Int) (W : World) : Calls Tryd.prog 33 #[.int .i64 v] W fun e w' => e = .returned (.bool (decide (0 ≤ v ∧ v ≤ 99))) ∧ ∃ q, w' = W.drewN q := by
  have hw := n_within v 0 99
  generalize decide (0 ≤ v ∧ v ≤ 99) = b at hw ⊢
  have hc' := Aside0.mk hw
  clear hw
  go_enter Tryd.func33, Tryd.ntmps33
  go_wp2_with (first | (go_at_call 29; refine (impl_within.calls v 0 99 b _ hc'.out).mono ?_; rintro e w' ⟨rfl, hd⟩))
  go_ret
  exact ⟨rfl, hd.out⟩
theorem n_load (v : Int) (W : World) : Calls Tryd.prog 29 #[.int .i64 v, .int .i64 0, .int .i64 9] W fun e w' => e = .returned (.bool (decide (0 ≤ v ∧ v ≤ 9))) ∧ ∃ q, w' = W.drewN q :=
  (impl_within.calls v 0 9 _ W (n_within v 0 9)).mono fun e w' ⟨h, hd⟩ => ⟨h, hd.out⟩
theorem n_bcell {W w1 : World} (hb : Below W.heap.size W w1) : (∀ b o, b < W.heap.size → w1.cell? ⟨b, o, none⟩ = W.cell? ⟨b, o, none⟩) ∧ (∀ b o, b < W.heap.size → w1.frozen? ⟨b, o, none⟩ = W.frozen? ⟨b, o, none⟩) :=
  ⟨fun b o h => hb.cell (p := ⟨b, o, none⟩) h, fun b o h => hb.frozen (p := ⟨b, o, none⟩) h⟩
theorem C_two {w : World} {b : Nat} {x y : Int} (h0 : w.cell? ⟨b, 0, none⟩ = some (.int .i64 x)) (h1 : w.cell? ⟨b, 1, none⟩ = some (.int .i64 y)) : Kd.C (Kd.int .i64) w (some ⟨b, 0, none⟩) [x, y].length [x, y] :=
  ⟨rfl, by simp, fun _ => ⟨_, rfl, fun j p hj => by
    match j, hj with
    | 0, hj => cases hj; exact ⟨[.int .i64 x], rfl, rfl, fun i u hu => by match i, hu with | 0, hu => cases hu; simpa [add_plain, Kd.int, Kd.scalar] using h0 | i + 1, hu => simp at hu⟩
    | 1, hj => cases hj; exact ⟨[.int .i64 y], rfl, rfl, fun i u hu => by match i, hu with | 0, hu => cases hu; simpa [add_plain, Kd.int, Kd.scalar] using h1 | i + 1, hu => simp at hu⟩
    | j + 2, hj => simp at hj⟩⟩
def n_bad (n : Int) (x : S54) : Bool := [x.f0, x.f1].any (n_no n) || (x.f0 == x.f1 || (!(decide (0 ≤ x.f2 ∧ x.f2 ≤ 99)) || (!(decide (0 ≤ x.f3 ∧ x.f3 ≤ 99)) || !(decide (0 ≤ x.f4 ∧ x.f4 ≤ 9)))))
set_option maxHeartbeats 2000000 in
set_option maxRecDepth 100000 in
/-- 'func(a Arc) bool {..}', n in block B. -/
theorem n_ok1 (x : S54) (n : Int) (A : Option Addr) (l : List S54) (c : Nat) (B : Nat) (W : World) (hB : B < W.heap.size) (h0 : W.cell? ⟨B, 0, none⟩ = some (.int .i64 n)) (h1 : W.cell? ⟨B, 1, none⟩ = some (.slice A l.length c)) (hr : Kd.C k54 W A l.length l) (hc : l.length ≤ c) :
    Calls Tryd.prog 31 #[.agg #[.int .i64 x.f0, .int .i64 x.f1, .int .i64 x.f2, .int .i64 x.f3, .int .i64 x.f4], .pointer (some ⟨B, 0, none⟩)] W fun e w' => e = .returned (.bool (n_bad n x)) ∧ Below W.heap.size W w' := by
  obtain ⟨x0, x1, x2, x3, x4⟩ := x
  have hu54 := Tryd.underlying54
  have hu25 := Tryd.underlying25
  have H : ∀ w' : World, Below W.heap.size W w' → ∀ (b : Nat), w'.cell? ⟨b, 0, none⟩ = some (.int .i64 x0) → w'.cell? ⟨b, 1, none⟩ = some (.int .i64 x1) → Calls Tryd.prog 32 #[.agg #[.int .i64 n, .slice A l.length c], .slice (some ⟨b, 0, none⟩) 2 2] w' fun e w'' => e = .returned (.bool (!([x0, x1].any (n_no n)))) ∧ Below w'.heap.size w' w'' :=
    fun w' hb b c0 c1 => impl_Net_has.calls n A c l (some ⟨b, 0, none⟩) 2 [x0, x1] _ w' (Kd.C_below hr hb) hc (C_two c0 c1) (Nat.le_refl _) rfl
  have H' := Aside0.mk H
  clear H hr hc
  unfold n_bad
  show Calls _ _ #[.agg #[.int .i64 x0, .int .i64 x1, .int .i64 x2, .int .i64 x3, .int .i64 x4], _] _ fun e w' => e = .returned (.bool ([x0, x1].any (n_no n) || (x0 == x1 || (!(decide (0 ≤ x2 ∧ x2 ≤ 99)) || (!(decide (0 ≤ x3 ∧ x3 ≤ 99)) || !(decide (0 ≤ x4 ∧ x4 ≤ 9))))))) ∧ _
  have C2 := Aside0.mk (n_cost x2)
  have C3 := Aside0.mk (n_cost x3)
  have C4 := Aside0.mk (n_load x4)
  generalize [x0, x1].any (n_no n) = b1 at H' ⊢
  generalize decide (0 ≤ x2 ∧ x2 ≤ 99) = b2 at C2 ⊢
  generalize decide (0 ≤ x3 ∧ x3 ≤ 99) = b3 at C3 ⊢
  generalize decide (0 ≤ x4 ∧ x4 ≤ 9) = b4 at C4 ⊢
  have HB := Aside0.mk (Below.refl W.heap.size W)
  go_enter Tryd.func31, Tryd.ntmps31
  go_wp2_with (first
    | (go_at_call 32; refine (H'.out _ (by repeat (first | exact Below.refl _ _ | apply below_alloc)) _ (by simp) (by simp)).mono ?_; rintro e w1 ⟨rfl, hb1⟩; obtain ⟨hc1, hf1⟩ := n_bcell hb1)
    | (go_at_call 33; with_reducible refine (C2.out _).mono ?_; rintro e w2 ⟨rfl, q2, rfl⟩)
    | (go_at_call 33; with_reducible refine (C3.out _).mono ?_; rintro e w3 ⟨rfl, q3, rfl⟩)
    | (go_at_call 29; refine (C4.out _).mono ?_; rintro e w4 ⟨rfl, q4, rfl⟩))
  all_goals
    go_ret
    refine ⟨by simp [*], ?_⟩
    repeat (first | exact below_step (by repeat (first | exact Below.refl _ _ | apply below_alloc)) hb1 | apply pw_below_drewN)
set_option maxHeartbeats 2000000 in
theorem n_idxArc (A : Option Addr) (c : Nat) (xs : List S54) (p : S54 → Bool) (g : Nat) (lb : Array Value) (eg : ∀ args w, (callFunc g args).run Tryd.prog w = .ok (.enter g args) w) (w : World) (hr : Kd.C k54 w A xs.length xs)
    (hp : ∀ (W : World) (x : S54), Below w.heap.size w W → Calls Tryd.prog g (#[.agg #[.int .i64 x.f0, .int .i64 x.f1, .int .i64 x.f2, .int .i64 x.f3, .int .i64 x.f4]] ++ lb) W fun e w' => e = .returned (.bool (p x)) ∧ Below W.heap.size W w') :
    Calls Tryd.prog 54 #[.slice A xs.length c, .func (.func g) #[] lb] w fun e w' => e = .returned (.int .i64 (idxF p 0 xs)) ∧ Below w.heap.size w w' := by
  have hmax : xs.length ≤ 9223372036854775807 := hr.2.1
  have HR := Aside0.mk hr
  clear hr
  have HP := Aside0.mk hp
  clear hp
  have hu54 := Tryd.underlying54
  go_enter Tryd.func54, Tryd.ntmps54
  go_wp2
  go_loopg [5, 8] xs.length (fun gg _ s8 wr => ∃ kk : Nat, kk ≤ xs.length ∧ xs.length - kk ≤ gg ∧ s8 = .int .i64 kk ∧ Aside0 (Below w.heap.size w wr) ∧ Aside0 (idxF p (kk : Int) (xs.drop kk) = idxF p 0 xs))
  case atStart => exact ⟨0, Nat.zero_le _, by omega, rfl, ⟨Below.refl _ w⟩, ⟨rfl⟩⟩
  case round =>
    obtain ⟨kk, hkk, hg, rfl, BW, HI⟩ := hrel
    by_cases hlt : kk < xs.length
    · have hltz : (kk : Int) < (xs.length : Int) := by omega
      obtain ⟨ad, rfl, hx0, hx1, hx2, hx3, hx4⟩ := at_T54 HR.out (kk : Int) (by omega) hltz
      replace hx0 := (BW.out.cell (World.block_lt_of_cell? w _ hx0)).trans hx0
      replace hx1 := (BW.out.cell (World.block_lt_of_cell? w _ hx1)).trans hx1
      replace hx2 := (BW.out.cell (World.block_lt_of_cell? w _ hx2)).trans hx2
      replace hx3 := (BW.out.cell (World.block_lt_of_cell? w _ hx3)).trans hx3
      replace hx4 := (BW.out.cell (World.block_lt_of_cell? w _ hx4)).trans hx4
      simp only [Int.toNat_natCast] at hx0 hx1 hx2 hx3 hx4
      have hcall := HP.out wr (rd_T54 xs (kk : Int)) BW.out
      have hd : idxF p (kk : Int) (xs.drop kk) = if p (rd_T54 xs (kk : Int)) then (kk : Int) else idxF p ((kk : Int) + 1) (xs.drop (kk + 1)) := by
        rw [getD_drop z54 xs kk hlt, idxF_cons]; unfold rd_T54; rw [Int.toNat_natCast]
      generalize hy : rd_T54 xs (kk : Int) = y at hx0 hx1 hx2 hx3 hx4 hcall hd
      clear hy
      have HD := Aside0.mk hd
      clear hd
      cases hq : p y with
      | true =>
        rw [hq] at hcall
        have HD2 : Aside0 (idxF p 0 xs = (kk : Int)) := ⟨by rw [← HI.out, HD.out, hq]; rfl⟩
        clear HI HD hq HR HP
        go_wp2_with (go_at_fn g; refine hcall.mono ?_; rintro e w' ⟨rfl, hb'⟩)
        go_ret
        exact ⟨by rw [HD2.out]; rfl, BW.out.trans (hb'.mono BW.out.size)⟩
      | false =>
        rw [hq] at hcall
        have HD2 : Aside0 (idxF p ((kk + 1 : Nat) : Int) (xs.drop (kk + 1)) = idxF p 0 xs) := ⟨by rw [← HI.out, HD.out, hq]; rfl⟩
        clear HI HD hq
        go_wp2_with (go_at_fn g; refine hcall.mono ?_; rintro e w' ⟨rfl, hb'⟩)
        go_roundg (xs.length - (kk + 1))
        case measure => omega
        case rel => exact ⟨kk + 1, by omega, by omega, by go_num, ⟨BW.out.trans (hb'.mono BW.out.size)⟩, HD2⟩
    · have hltz : ¬ (kk : Int) < (xs.length : Int) := by omega
      have HD2 : Aside0 (idxF p 0 xs = -1) := ⟨by rw [← HI.out, List.drop_eq_nil_of_le (by omega)]; rfl⟩
      clear HI HR HP
      go_wp2
      go_ret
      exact ⟨by rw [HD2.out]; rfl, BW.out⟩
theorem n_conArc (A : Option Addr) (c : Nat) (xs : List S54) (p : S54 → Bool) (g : Nat) (lb : Array Value) (eg : ∀ args w, (callFunc g args).run Tryd.prog w = .ok (.enter g args) w) (w : World) (hr : Kd.C k54 w A xs.length xs)
    (hp : ∀ (W : World) (x : S54), Below w.heap.size w W → Calls Tryd.prog g (#[.agg #[.int .i64 x.f0, .int .i64 x.f1, .int .i64 x.f2, .int .i64 x.f3, .int .i64 x.f4]] ++ lb) W fun e w' => e = .returned (.bool (p x)) ∧ Below W.heap.size W w') :
    Calls Tryd.prog 30 #[.slice A xs.length c, .func (.func g) #[] lb] w fun e w' => e = .returned (.bool (xs.any p)) ∧ Below w.heap.size w w' := by
  rw [← idxF_ge p xs 0 (Int.le_refl _)]
  have H := Aside0.mk (n_idxArc A c xs p g lb eg w hr hp)
  clear hr hp
  generalize idxF p 0 xs = r at H
  go_enter Tryd.func30, Tryd.ntmps30
  go_wp2_with (first | (go_at_call 54; refine H.out.mono ?_; rintro e w' ⟨rfl, hb⟩))
  go_ret
  exact ⟨rfl, hb⟩
theorem eg_ok1 : ∀ args w, (callFunc 31 args).run Tryd.prog w = .ok (.enter 31 args) w := enters_of Tryd.func31 (by kernel_rfl) rfl
def netOkB (n : Int) (l : List S54) : Bool := decide (1 ≤ n ∧ n ≤ 8) && (decide ((l.length : Int) ≤ 16) && !(l.any (n_bad n)))
def impl_NetOk.f (a0_0 : Int) (l0_1 : List S54) : Option Bool := some (netOkB a0_0 l0_1)
set_option maxHeartbeats 2000000 in
set_option maxRecDepth 100000 in
theorem impl_NetOk.calls (a0_0 : Int) (A0_1 : Option Addr) (c0_1 : Nat) (l0_1 : List S54) (r : Bool) (w : World) (hr0_1 : Kd.C k54 w A0_1 l0_1.length l0_1) (hc0_1 : l0_1.length ≤ c0_1) (h : impl_NetOk.f a0_0 l0_1 = some r) :
    Calls Tryd.prog 10 #[.agg #[.int .i64 a0_0, .slice A0_1 l0_1.length c0_1]] w fun e w' => e = .returned (.bool r) ∧ Below w.heap.size w w' := by
  obtain rfl := Option.some.inj h
  clear h
  have hu25 := Tryd.underlying25
  have H : ∀ W : World, Below w.heap.size w W → w.heap.size < W.heap.size → W.cell? ⟨w.heap.size, 0, none⟩ = some (.int .i64 a0_0) → W.cell? ⟨w.heap.size, 1, none⟩ = some (.slice A0_1 l0_1.length c0_1) → Calls Tryd.prog 30 #[.slice A0_1 l0_1.length c0_1, .func (.func 31) #[] #[.pointer (some ⟨w.heap.size, 0, none⟩)]] W fun e w' => e = .returned (.bool (l0_1.any (n_bad a0_0))) ∧ Below W.heap.size W w' :=
    fun W hb hlt h0 h1 => n_conArc A0_1 c0_1 l0_1 (n_bad a0_0) 31 #[.pointer (some ⟨w.heap.size, 0, none⟩)] eg_ok1 W (Kd.C_below hr0_1 hb) (fun W' x hb' => n_ok1 x a0_0 A0_1 l0_1 c0_1 w.heap.size W' (Nat.lt_of_lt_of_le hlt hb'.size) ((hb'.cell (p := ⟨w.heap.size, 0, none⟩) hlt).trans h0) ((hb'.cell (p := ⟨w.heap.size, 1, none⟩) hlt).trans h1) (Kd.C_below (Kd.C_below hr0_1 hb) hb') hc0_1)
  have H' := Aside0.mk H
  have W1 := Aside0.mk (fun W => (impl_within.calls a0_0 1 8 _ W (n_within a0_0 1 8)).mono fun e w' ⟨h, hd⟩ => (⟨h, hd.out⟩ : _ ∧ ∃ q, w' = W.drewN q))
  clear H hr0_1 hc0_1
  unfold netOkB
  generalize l0_1.any (n_bad a0_0) = b at H' ⊢
  generalize decide (1 ≤ a0_0 ∧ a0_0 ≤ 8) = b0 at W1 ⊢
  go_enter Tryd.func10, Tryd.ntmps10
  go_wp2_with (first
    | (go_at_call 29; refine (W1.out _).mono ?_; rintro e w1 ⟨rfl, q1, rfl⟩)
    | (go_at_call 30; refine (H'.out _ (by repeat (first | exact Below.refl _ _ | apply below_alloc | apply pw_below_drewN)) (by simp) (by simp) (by simp)).mono ?_; rintro e w2 ⟨rfl, hb2⟩))
  all_goals
    go_ret
    refine ⟨by first | (simp [*]; done) | (simp [*]; omega), ?_⟩
    repeat (first | exact Below.refl _ _ | exact below_step (by repeat (first | exact Below.refl _ _ | apply below_alloc | apply pw_below_drewN)) hb2 | apply pw_below_drewN | apply below_alloc)

end Go.Proofs.YtppjelkljihdoaaDoor.Print
