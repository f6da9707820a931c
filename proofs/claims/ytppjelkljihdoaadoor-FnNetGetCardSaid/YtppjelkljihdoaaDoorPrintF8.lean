-- Made by this session's own program (wip/patch_print.py, over the kit's print). Lean checks it.
import Derived.Test.YtppjelkljihdoaaDoorPrint0
import Derived.Test.YtppjelkljihdoaaDoorPrintF10
import Derived.Test.YtppjelkljihdoaaDoorPrintF24
import Derived.Test.YtppjelkljihdoaaDoorPrintF25
import Derived.Test.YtppjelkljihdoaaDoorPrintF51
import Derived.Test.YtppjelkljihdoaaDoorV
import Derived.Test.YtppjelkljihdoaaDoorSh
import Derived.Shelf.Strings.OnBuilder
namespace Go.Proofs.YtppjelkljihdoaaDoor.Print
open Go.RowKit Go.Proofs.YtppjelkljihdoaaDoorW.PrintWords Go.Proofs.YtppjelkljihdoaaDoorW.PrintLast Go.Proofs.YtppjelkljihdoaaDoorW.PrintMore Go.Proofs.YtppjelkljihdoaaDoorX
attribute [local go_sem] max2_int min2_int max_two min_two max_three min_three max_four min_four   -- for this text's walks alone
set_option linter.unusedVariables false
set_option linter.unusedSimpArgs false

/-! ### impl_NetPut: function 8 -/
def npWords (a : S54) : List (List UInt8) := [Lib.decDigits a.f0.toNat, Lib.decDigits a.f1.toNat, Lib.decDigits a.f2.toNat, Lib.decDigits a.f3.toNat, Lib.decDigits a.f4.toNat]
def npLine (a : S54) : List UInt8 := Lib.join (npWords a) [32] ++ [10]
def npHead (n : Int) : List UInt8 := [110, 101, 116, 32] ++ Lib.decDigits n.toNat ++ [10]
def npText (n : Int) (l : List S54) : List UInt8 := npHead n ++ (l.map npLine).flatten
/-- The text of a net. -/
def impl_NetPut.f (a0 : Int) (l1 : List S54) : Option ByteArray := (impl_NetOk.f a0 l1).bind fun t => if t = true then some ⟨(npText a0 l1).toArray⟩ else some ⟨#[]⟩
theorem np_dec {u : Nat} (h : u < 100) : (Lib.decDigits u).length ≤ 2 := by
  rw [Lib.decDigits]
  split
  · simp
  · rw [Lib.decDigits, dif_pos (by omega)]; simp
def NpOk (x : S54) : Prop := (0 ≤ x.f0 ∧ x.f0 < 100) ∧ (0 ≤ x.f1 ∧ x.f1 < 100) ∧ (0 ≤ x.f2 ∧ x.f2 < 100) ∧ (0 ≤ x.f3 ∧ x.f3 < 100) ∧ (0 ≤ x.f4 ∧ x.f4 < 100)
theorem np_bad {n : Int} {x : S54} (h1 : 1 ≤ n) (h8 : n ≤ 8) (h : n_bad n x = false) : NpOk x := by
  have hw : wrap64 (n - 1) = n - 1 := by unfold wrap64; omega
  unfold n_bad n_no at h
  simp only [List.any_cons, List.any_nil, Bool.or_false, Bool.or_eq_false_iff, Bool.not_eq_false', decide_eq_true_eq, hw] at h
  obtain ⟨⟨h0, h1⟩, _, h2, h3, h4⟩ := h
  refine ⟨?_, ?_, ?_, ?_, ?_⟩ <;> omega
theorem np_ok {n : Int} {l : List S54} (h : impl_NetOk.f n l = some true) : 1 ≤ n ∧ n ≤ 8 ∧ l.length ≤ 16 ∧ ∀ x ∈ l, NpOk x := by
  have h := Option.some.inj h
  unfold netOkB at h
  simp only [Bool.and_eq_true, decide_eq_true_eq, Bool.not_eq_true', List.any_eq_false] at h
  obtain ⟨⟨h1, h2⟩, h3, h4⟩ := h
  exact ⟨h1, h2, by omega, fun x hx => np_bad h1 h2 (by simpa using h4 x hx)⟩
theorem np_len {x : S54} (h : NpOk x) : (Lib.join (npWords x) [32]).length ≤ 14 := by
  obtain ⟨h0, h1, h2, h3, h4⟩ := h
  have g0 := np_dec (u := x.f0.toNat) (by omega)
  have g1 := np_dec (u := x.f1.toNat) (by omega)
  have g2 := np_dec (u := x.f2.toNat) (by omega)
  have g3 := np_dec (u := x.f3.toNat) (by omega)
  have g4 := np_dec (u := x.f4.toNat) (by omega)
  unfold npWords
  rw [Lib.join_length]
  simp only [Lib.lens, List.map_cons, List.map_nil, List.sum_cons, List.sum_nil, List.length_cons, List.length_nil]
  omega
theorem np_flat (l : List S54) (h : ∀ x ∈ l, NpOk x) : (l.map npLine).flatten.length ≤ 15 * l.length := by
  induction l with
  | nil => simp
  | cons x t ih =>
    have h1 := np_len (h x (by simp))
    have h2 := ih (fun y hy => h y (by simp [hy]))
    simp only [List.map_cons, List.flatten_cons, List.length_append, List.length_cons, npLine, List.length_nil] at h2 ⊢
    omega
theorem np_head {n : Int} (h1 : 1 ≤ n) (h8 : n ≤ 8) : (npHead n).length ≤ 7 := by
  have := np_dec (u := n.toNat) (by omega)
  simp only [npHead, List.length_append, List.length_cons, List.length_nil]
  omega
theorem np_num (x : S54) (h : NpOk x) : impl_numbers.f 7 [x.f0, x.f1, x.f2, x.f3, x.f4] = some ⟨(Lib.join (npWords x) [32]).toArray⟩ := by
  have hl := np_len h
  obtain ⟨⟨h0, g0⟩, ⟨h1, g1⟩, ⟨h2, g2⟩, ⟨h3, g3⟩, h4, g4⟩ := h
  have e1 : wrap64 1 = 1 := by unfold wrap64; omega
  have e2 : wrap64 2 = 2 := by unfold wrap64; omega
  have e3 : wrap64 3 = 3 := by unfold wrap64; omega
  have e4 : wrap64 4 = 4 := by unfold wrap64; omega
  have e5 : wrap64 5 = 5 := by unfold wrap64; omega
  have hj : (Lib.join (npWords x) [32]).length ≤ 140737488355328 := by omega
  unfold npWords at hj ⊢
  simp [impl_numbers.f, impl_numbers.l0, strconv_Itoa_24.f, strings_Join.f, rd, e1, e2, e3, e4, e5, h0, h1, h2, h3, h4, g0, g1, g2, g3, g4, hj]
theorem np_C {w : World} {b : Nat} (x : S54) (h0 : w.cell? ⟨b, 0, none⟩ = some (.int .i64 x.f0)) (h1 : w.cell? ⟨b, 1, none⟩ = some (.int .i64 x.f1)) (h2 : w.cell? ⟨b, 2, none⟩ = some (.int .i64 x.f2)) (h3 : w.cell? ⟨b, 3, none⟩ = some (.int .i64 x.f3)) (h4 : w.cell? ⟨b, 4, none⟩ = some (.int .i64 x.f4)) : Kd.C (Kd.int .i64) w (some ⟨b, 0, none⟩) [x.f0, x.f1, x.f2, x.f3, x.f4].length [x.f0, x.f1, x.f2, x.f3, x.f4] := by
  refine ⟨rfl, by simp, fun _ => ⟨_, rfl, fun j p hj => ⟨[.int .i64 p], rfl, rfl, fun i u hu => ?_⟩⟩⟩
  have hi : i = 0 := by
    rcases i with _ | i
    · rfl
    · simp at hu
  subst hi
  cases hu
  rcases j with _ | _ | _ | _ | _ | j
  · cases hj; simpa [add_plain, Kd.int, Kd.scalar] using h0
  · cases hj; simpa [add_plain, Kd.int, Kd.scalar] using h1
  · cases hj; simpa [add_plain, Kd.int, Kd.scalar] using h2
  · cases hj; simpa [add_plain, Kd.int, Kd.scalar] using h3
  · cases hj; simpa [add_plain, Kd.int, Kd.scalar] using h4
  · simp at hj
theorem np_keep {T e : TypeId} {B b : Nat} {bs : List Value} {w w' : World} (h : Lib.IsBuilder T e B b bs w) (hb : Below w.heap.size w w') : Lib.IsBuilder T e B b bs w' := by
  have own : ∀ {v : Value}, w.ownsRow B e 1 v bs.length bs → w'.ownsRow B e 1 v bs.length bs := by
    intro v ⟨a, c⟩
    refine ⟨a, c.imp_right ?_⟩
    rintro ⟨g, cap, cur, rfl, h1, h2, r⟩
    exact ⟨g, cap, cur, rfl, h1, blk_below h2 hb, r⟩
  rcases h with ⟨h1, v, h2, h3, h4⟩ | ⟨h1, v, h2, h3, h4⟩
  · exact .inl ⟨h1, v, blk_below h2 hb, own h3, h4⟩
  · exact .inr ⟨h1, v, blk_below h2 hb, own h3, h4⟩
theorem np_box {w w1 : World} {x y : Value} {t : TypeId} (hb : Below (w.alloc (.cells #[x, y] t)).heap.size (w.alloc (.cells #[x, y] t)) w1) : w.heap.size < w1.heap.size ∧ w1.cell? ⟨w.heap.size, 0, none⟩ = some x ∧ w1.cell? ⟨w.heap.size, 1, none⟩ = some y := by
  have h := blk_below (blk_new w (.cells #[x, y] t)) hb
  exact ⟨blk_lt h, (blk_cell h 0).trans rfl, (blk_cell h 1).trans rfl⟩
theorem np_drawn {T e : TypeId} {B b : Nat} {bs : List Value} {w : World} (n : Nat) (h : Lib.IsBuilder T e B b bs w) : Lib.IsBuilder T e B b bs (w.drewN n) := h
theorem np_str (l : List UInt8) : Lib.strCells ⟨l.toArray⟩ = Lib.byteCells l := by rw [Lib.strCells_eq]
theorem np_below (w1 : World) (o : Obj) (n : Nat) {w3 : World} (hb : Below w1.heap.size ((w1.alloc o).drewN n) w3) : Below w1.heap.size w1 w3 :=
  (show Below w1.heap.size w1 ((w1.alloc o).drewN n) by repeat (first | exact Below.refl _ _ | apply below_alloc | apply pw_below_drewN)).trans hb
theorem np_size (w1 : World) (o : Obj) (n : Nat) {w3 : World} (hb : Below w1.heap.size ((w1.alloc o).drewN n) w3) : w1.heap.size ≤ w3.heap.size := (np_below w1 o n hb).size
theorem np_first {B b : Nat} {T e : TypeId} {l : List UInt8} {ls : List S54} {w : World} (h : Lib.BuilderAt T e B b (.pointer (some ⟨b, 0, none⟩)) ([] ++ Lib.strCells ⟨l.toArray⟩) w) : Lib.IsBuilder T e B b (Lib.byteCells (l ++ ((ls.take 0).map npLine).flatten)) w := by
  rw [np_str] at h
  exact .inr (by simpa using h)
theorem np_bstep {w W W' : World} (h : Below w.heap.size w W) (hb : Below W.heap.size W W') : Below w.heap.size w W' := below_step h hb
theorem np_next {B b : Nat} {T e : TypeId} {l m n : List UInt8} {w : World} (h : Lib.BuilderAt T e B b (.pointer (some ⟨b, 0, none⟩)) (Lib.byteCells l ++ Lib.strCells ⟨m.toArray⟩) w) (hn : n = l ++ m) : Lib.IsBuilder T e B b (Lib.byteCells n) w := by
  rw [np_str, ← Lib.byteCells_append] at h
  exact .inr (hn ▸ h)
set_option maxHeartbeats 4000000 in
set_option maxRecDepth 100000 in
theorem impl_NetPut.calls (a0_0 : Int) (A0_1 : Option Addr) (c0_1 : Nat) (l0_1 : List (S54)) (r : ByteArray) (w : World) (hr0_1 : Kd.C k54 w A0_1 l0_1.length l0_1) (hc0_1 : l0_1.length ≤ c0_1) (h : impl_NetPut.f a0_0 l0_1 = some r) :
    Calls Tryd.prog 8 #[.agg #[.int .i64 a0_0, .slice A0_1 l0_1.length c0_1]] w fun e w' => e = .returned (.string r) ∧ Below w.heap.size w w' := by
  have hu25 := Tryd.underlying25
  have hu54 := Tryd.underlying54
  unfold impl_NetPut.f at h
  replace h := Option.bind_eq_some_iff.mp h
  obtain ⟨t, A0, h⟩ := h
  have HN := Aside0.mk (fun (W : World) (hb : Below w.heap.size w W) => impl_NetOk.calls a0_0 A0_1 c0_1 l0_1 t W (Kd.C_below hr0_1 hb) hc0_1 A0)
  cases t with
  | false =>
    obtain rfl : (⟨#[]⟩ : ByteArray) = r := by simpa using h
    clear h A0 hr0_1 hc0_1
    go_enter Tryd.func8, Tryd.ntmps8
    go_wp2_with (first | (go_at_call 10; refine (HN.out _ (by repeat (first | exact Below.refl _ _ | apply below_alloc))).mono ?_; rintro e w1 ⟨rfl, hb1⟩))
    go_ret
    exact ⟨rfl, below_step (by repeat (first | exact Below.refl _ _ | apply below_alloc)) hb1⟩
  | true =>
    obtain rfl : (⟨(npText a0_0 l0_1).toArray⟩ : ByteArray) = r := by simpa using h
    obtain ⟨hn1, hn8, hl16, hall⟩ := np_ok A0
    clear h A0
    have HR := Aside0.mk hr0_1
    have HALL := Aside0.mk hall
    have HH := Aside0.mk (np_head hn1 hn8)
    have HI : strconv_Itoa_24.f a0_0 = some ⟨(Lib.decDigits a0_0.toNat).toArray⟩ := by unfold strconv_Itoa_24.f; rw [if_pos (by omega), if_pos (by omega)]
    have hds : (⟨(Lib.decDigits a0_0.toNat).toArray⟩ : ByteArray).size ≤ 2 := by
      have := np_dec (u := a0_0.toNat) (by omega)
      simpa [ByteArray.size] using this
    have HT : Aside0 (((⟨#[110, 101, 116, 32]⟩ : ByteArray) ++ ⟨(Lib.decDigits a0_0.toNat).toArray⟩) ++ ⟨#[10]⟩ = ⟨(npHead a0_0).toArray⟩) := ⟨by
      apply ByteArray.ext
      simp [npHead, ByteArray.data_append]⟩
    generalize hd : (⟨(Lib.decDigits a0_0.toNat).toArray⟩ : ByteArray) = dd at HI hds HT
    clear hd hr0_1 hc0_1 hall
    have HI' := Aside0.mk HI
    clear HI
    have hz1 : (9223372036854775807 < 4 + dd.size) = False := eq_false (by omega)
    have hz2 : (9223372036854775807 < 4 + dd.size + 1) = False := eq_false (by omega)
    clear hn1 hn8 hds
    go_enter Tryd.func8, Tryd.ntmps8
    go_wp2_with (first
      | (go_at_call 10; refine (HN.out _ (by repeat (first | exact Below.refl _ _ | apply below_alloc))).mono ?_; rintro e w1 ⟨rfl, hb1⟩; obtain ⟨hlt1, hx0, hx1⟩ := np_box hb1; have HB1 := Aside0.mk (below_step (by repeat (first | exact Below.refl _ _ | apply below_alloc)) hb1 : Below w.heap.size w w1); clear hb1)
      | (go_at_call 24; with_reducible refine (strconv_Itoa_24.calls a0_0 dd _ HI'.out).mono ?_; rintro e w2 ⟨rfl, ⟨nd, rfl⟩⟩)
      | (go_at_call 23; rw [HT.out]; refine (Tryd.Builder_WriteString w1.heap.size w1.heap.size [] _ _ (np_drawn nd (Lib.fresh_isBuilder 47 5 w1)) ?c1 ?c2).mono ?_; (case c1 => have := HH.out; simpa [ByteArray.size] using Nat.le_trans this (by decide)); (case c2 => simp); rintro e w3 ⟨rfl, hBA, hb3⟩; have hx3 : w3.cell? ⟨w.heap.size, 1, none⟩ = some (.slice A0_1 l0_1.length c0_1) := (hb3.cell (p := ⟨w.heap.size, 1, none⟩) hlt1).trans ((World.cell?_alloc_lt w1 _ ⟨w.heap.size, 1, none⟩ hlt1).trans hx1); have HS := Aside0.mk (np_size w1 _ nd hb3); have HW := Aside0.mk (below_step HB1.out (np_below w1 _ nd hb3)); have HBd : Aside0 (Lib.IsBuilder 47 5 w1.heap.size w1.heap.size (Lib.byteCells (npHead a0_0 ++ ((l0_1.take 0).map npLine).flatten)) w3) := ⟨np_first hBA⟩; clear hBA hb3 hx0 hx1 HB1))
    go_loopg [18] l0_1.length (fun gg s18 wr => ∃ kk : Nat, kk ≤ l0_1.length ∧ l0_1.length - kk ≤ gg ∧ s18 = .int .i64 kk ∧ Aside0 (Below w.heap.size w wr) ∧ Aside0 (w1.heap.size ≤ wr.heap.size) ∧ Aside0 (Lib.IsBuilder 47 5 w1.heap.size w1.heap.size (Lib.byteCells (npHead a0_0 ++ ((l0_1.take kk).map npLine).flatten)) wr))
    case atStart => exact ⟨0, Nat.zero_le _, by omega, rfl, HW, HS, HBd⟩
    case round =>
      have HLT := Aside0.mk (Nat.le_of_lt hlt1)
      clear HW HS HBd hx3 hlt1 HN HT HI' hz1 hz2
      obtain ⟨kk, hkk, hg, rfl, HW, HS, HBd⟩ := hrel
      by_cases hlt : kk < l0_1.length
      · have hltz : (kk : Int) < (l0_1.length : Int) := by omega
        obtain ⟨ad, rfl, hx0, hx1, hx2, hx3, hx4⟩ := at_T54 HR.out (kk : Int) (by omega) hltz
        replace hx0 := (HW.out.cell (World.block_lt_of_cell? w _ hx0)).trans hx0
        replace hx1 := (HW.out.cell (World.block_lt_of_cell? w _ hx1)).trans hx1
        replace hx2 := (HW.out.cell (World.block_lt_of_cell? w _ hx2)).trans hx2
        replace hx3 := (HW.out.cell (World.block_lt_of_cell? w _ hx3)).trans hx3
        replace hx4 := (HW.out.cell (World.block_lt_of_cell? w _ hx4)).trans hx4
        simp only [Int.toNat_natCast] at hx0 hx1 hx2 hx3 hx4
        have hy : rd_T54 l0_1 (kk : Int) = l0_1[kk] := by
          unfold rd_T54; rw [Int.toNat_natCast, List.getD_eq_getElem?_getD, List.getElem?_eq_getElem hlt]; rfl
        have hyo : NpOk (l0_1[kk]) := HALL.out _ (List.getElem_mem _)
        have HTX : Aside0 (npHead a0_0 ++ ((l0_1.take (kk + 1)).map npLine).flatten = npHead a0_0 ++ ((l0_1.take kk).map npLine).flatten ++ npLine (l0_1[kk])) := ⟨by rw [List.take_succ_eq_append_getElem hlt, List.map_append, List.flatten_append]; simp only [List.map_cons, List.map_nil, List.flatten_cons, List.flatten_nil, List.append_nil, List.append_assoc]⟩
        have hlen : (npHead a0_0 ++ ((l0_1.take kk).map npLine).flatten).length ≤ 7 + 15 * 16 := by
          have h1 := np_flat (l0_1.take kk) (fun x hx => HALL.out x (List.mem_of_mem_take hx))
          have h2 := HH.out
          have h3 : (l0_1.take kk).length ≤ kk := List.length_take_le _ _
          rw [List.length_append]
          omega
        generalize npHead a0_0 ++ ((l0_1.take kk).map npLine).flatten = txt at HBd HTX hlen
        generalize l0_1[kk] = y at hy hyo HTX
        rw [hy] at hx0 hx1 hx2 hx3 hx4
        clear hy
        have hs14 := np_len hyo
        have H5 := Aside0.mk (fun (W : World) (b : Nat) (h0 : W.cell? ⟨b, 0, none⟩ = some (.int .i64 y.f0)) (h1 : W.cell? ⟨b, 1, none⟩ = some (.int .i64 y.f1)) (h2 : W.cell? ⟨b, 2, none⟩ = some (.int .i64 y.f2)) (h3 : W.cell? ⟨b, 3, none⟩ = some (.int .i64 y.f3)) (h4 : W.cell? ⟨b, 4, none⟩ = some (.int .i64 y.f4)) => impl_numbers.calls 7 (some ⟨b, 0, none⟩) 5 [y.f0, y.f1, y.f2, y.f3, y.f4] _ W (np_C y h0 h1 h2 h3 h4) (Nat.le_refl _) (np_num y hyo))
        have HL : Aside0 ((⟨(Lib.join (npWords y) [32]).toArray⟩ : ByteArray) ++ ⟨#[10]⟩ = ⟨(npLine y).toArray⟩) := ⟨by
          apply ByteArray.ext
          simp [npLine, ByteArray.data_append]⟩
        have HLL : Aside0 ((npLine y).length ≤ 15) := ⟨by simp only [npLine, List.length_append, List.length_cons, List.length_nil]; omega⟩
        have hss : (⟨(Lib.join (npWords y) [32]).toArray⟩ : ByteArray).size ≤ 14 := by simpa [ByteArray.size] using hs14
        clear hyo hs14
        generalize hd : (⟨(Lib.join (npWords y) [32]).toArray⟩ : ByteArray) = ss at H5 HL hss
        clear hd
        have hz1 : (9223372036854775807 < ss.size + 1) = False := eq_false (by omega)
        clear hss
        go_wp2_with (go_at_call 25; refine (H5.out _ _ (by simp) (by simp) (by simp) (by simp) (by simp)).mono ?_; rintro e w4 ⟨rfl, hb4⟩)
        have hst : Below wr.heap.size wr w4 := np_bstep (by repeat (first | exact Below.refl _ _ | apply below_alloc)) hb4
        have HS4 := Nat.le_trans HS.out hst.size
        have HBd4 := np_keep HBd.out hst
        rw [HL.out]
        refine (Tryd.Builder_WriteString w1.heap.size w1.heap.size _ _ _ HBd4 ?c1 HS4).mono ?_
        case c1 =>
          rw [Lib.byteCells_length]
          have h1 := HLL.out
          have h2 : (⟨(npLine y).toArray⟩ : ByteArray).size = (npLine y).length := by simp [ByteArray.size]
          rw [h2]
          omega
        rintro e w5 ⟨rfl, hBA, hb5⟩
        have HW5 : Aside0 (Below w.heap.size w w5) := ⟨(below_step HW.out hst).trans (hb5.mono HLT.out)⟩
        have HS5 : Aside0 (w1.heap.size ≤ w5.heap.size) := ⟨Nat.le_trans HS4 hb5.size⟩
        have HB5 := Aside0.mk (np_next hBA HTX.out)
        clear hBA hb5 hst hb4 HS4 HBd4
        go_wp2
        go_roundg (l0_1.length - (kk + 1))
        case measure => omega
        case rel => exact ⟨kk + 1, by omega, by omega, by go_num, HW5, HS5, HB5⟩
      · have hke : kk = l0_1.length := by omega
        subst hke
        have HE : Aside0 (npHead a0_0 ++ ((l0_1.take l0_1.length).map npLine).flatten = npText a0_0 l0_1) := ⟨by rw [List.take_length]; rfl⟩
        rw [HE.out] at HBd
        go_wp2_with (go_at_call 26; refine (Tryd.Builder_String_any w1.heap.size w1.heap.size _ _ HBd.out HS.out).mono ?_; rintro e w5 ⟨rfl, hb5⟩)
        go_ret
        exact ⟨rfl, HW.out.trans (hb5.mono HLT.out)⟩

end Go.Proofs.YtppjelkljihdoaaDoor.Print
