/- The reference's l1Cut and l1Num: what a cut gives, and that each gives something. -/
import Derived.Test.YtppjelkljihdoaaDoorMText
import Derived.Test.YtppjelkljihdoaaDoorPrintB
import Derived.Test.YtppjelkljihdoaaDoorPrintF41
import Derived.Test.YtppjelkljihdoaaDoorPrintF8
set_option linter.unusedVariables false
set_option linter.unusedSimpArgs false
namespace Go.Proofs.YtppjelkljihdoaaDoor.M
open Go.RowKit Go.Proofs.YtppjelkljihdoaaDoor.Print Go.Proofs.YtppjelkljihdoaaDoorW.PrintWords Go.Proofs.YtppjelkljihdoaaDoorW.PrintLast Go.Proofs.YtppjelkljihdoaaDoorY
/-- A text cut at each byte b, so many times at most; what has been read of the piece under way. -/
def cutG (b : UInt8) : Nat → List UInt8 → List UInt8 → List (List UInt8)
  | _, acc, [] => [acc]
  | 0, acc, c :: t => [acc ++ c :: t]
  | m + 1, acc, c :: t => if c = b then acc :: cutG b m [] t else cutG b (m + 1) (acc ++ [c]) t
theorem cutG_nil (b : UInt8) (m : Nat) (acc : List UInt8) : cutG b m acc [] = [acc] := by cases m <;> rfl
theorem cutG_zero (b : UInt8) (acc t : List UInt8) : cutG b 0 acc t = [acc ++ t] := by cases t <;> simp [cutG]
theorem cutG_free (b : UInt8) (m : Nat) : ∀ (w acc : List UInt8), b ∉ w → cutG b m acc w = [acc ++ w] := by
  intro w
  induction w with
  | nil => intro acc _; rw [cutG_nil]; simp
  | cons c t ih =>
    intro acc h
    cases m with
    | zero => rw [cutG_zero]
    | succ m =>
      have h1 : c ≠ b := fun e => h (by simp [e])
      rw [cutG, if_neg h1, ih _ (fun hm => h (by simp [hm]))]
      simp
theorem cutG_hit (b : UInt8) (m : Nat) (t : List UInt8) : ∀ (w acc : List UInt8), b ∉ w → cutG b (m + 1) acc (w ++ b :: t) = (acc ++ w) :: cutG b m [] t := by
  intro w
  induction w with
  | nil => intro acc _; simp [cutG]
  | cons c w ih =>
    intro acc h
    have h1 : c ≠ b := fun e => h (by simp [e])
    rw [List.cons_append, cutG, if_neg h1, ih _ (fun hm => h (by simp [hm]))]
    simp
theorem cutG_len (b : UInt8) : ∀ (t : List UInt8) (m : Nat) (acc : List UInt8), 1 ≤ (cutG b m acc t).length ∧ (cutG b m acc t).length ≤ m + 1 := by
  intro t
  induction t with
  | nil => intro m acc; rw [cutG_nil]; simp
  | cons c t ih =>
    intro m acc
    cases m with
    | zero => rw [cutG_zero]; simp
    | succ m =>
      rw [cutG]
      split
      · have := ih m []
        rw [List.length_cons]
        omega
      · exact ih (m + 1) _
theorem cutG_le (b : UInt8) : ∀ (t : List UInt8) (m : Nat) (acc : List UInt8), ∀ w ∈ cutG b m acc t, w.length ≤ acc.length + t.length := by
  intro t
  induction t with
  | nil => intro m acc w hw; rw [cutG_nil] at hw; simp at hw; subst hw; simp
  | cons c t ih =>
    intro m acc w hw
    cases m with
    | zero => rw [cutG_zero] at hw; simp at hw; subst hw; simp
    | succ m =>
      rw [cutG] at hw
      split at hw
      · rcases List.mem_cons.1 hw with rfl | hw
        · simp
        · have := ih m [] w hw; simp at this ⊢; omega
      · have := ih (m + 1) _ w hw; simp at this ⊢; omega
theorem B_ext (l : List UInt8) (i j : Nat) : (B l).extract i j = B ((l.drop i).take (j - i)) := by
  rw [← B_data ((B l).extract i j), Lib.extract_data]; rfl
theorem bt_at' (p t : List UInt8) (c : UInt8) : bt (B (p ++ c :: t)) (p.length : Int) = (c.toNat : Int) := by
  unfold bt
  have h : (p.length : Int).toNat < (B (p ++ c :: t)).size := by rw [B_size]; simp
  rw [dif_pos h]
  have e : (B (p ++ c :: t))[(p.length : Int).toNat]'h = c := by
    show ((p ++ c :: t).toArray)[(p.length : Int).toNat]'_ = c
    simp
  rw [e]
theorem cut_loop (b : UInt8) (most : Nat) (hm : most ≤ 1000) : ∀ (rest pre acc : List UInt8) (out : List ByteArray), pre.length + acc.length + rest.length ≤ 4000000000 → out.length ≤ most →
    Ev (fun k => spec_l1Cut.l0 k (B (pre ++ acc ++ rest)) (b.toNat : Int) (most : Int) out (pre.length : Int) ((pre.length + acc.length : Nat) : Int)) (out ++ (cutG b (most - out.length) acc rest).map B) := by
  have last : ∀ (pre acc rest : List UInt8) (out : List ByteArray), pre.length + acc.length + rest.length ≤ 4000000000 → out.length ≤ most →
      Ev (fun k => spec_l1Cut.j1 k (B (pre ++ acc ++ rest)) (b.toNat : Int) (most : Int) out (pre.length : Int) ((pre.length + acc.length : Nat) : Int) false) (out ++ [B (acc ++ rest)]) := by
    intro pre acc rest out hl ho
    refine Ev.step (fun k => spec_l1Cut.j1.eq_2 _ _ _ _ _ _ _ _) (Ev.neg (by simp) (Ev.pos (by omega) (Ev.pos (by rw [B_size]; simp only [List.length_append]; omega) (Ev.pos (by omega) (Ev.now' ?_)))))
    rw [Int.toNat_natCast, B_ext, B_size]
    congr 3
    rw [List.append_assoc, List.drop_left, List.take_of_length_le (by simp only [List.length_append]; omega)]
  intro rest
  induction rest with
  | nil =>
    intro pre acc out hl ho
    refine Ev.step (fun k => spec_l1Cut.l0.eq_2 _ _ _ _ _ _ _) (Ev.neg (by rw [B_size]; simp only [List.length_append, List.length_nil]; omega) ?_)
    rw [cutG_nil]
    have := last pre acc [] out hl ho
    simpa using this
  | cons c t ih =>
    intro pre acc out hl ho
    have hsz : (B (pre ++ acc ++ c :: t)).size = pre.length + acc.length + (t.length + 1) := by rw [B_size]; simp only [List.length_append, List.length_cons]
    simp only [List.length_cons] at hl
    refine Ev.step (fun k => spec_l1Cut.l0.eq_2 _ _ _ _ _ _ _) (Ev.pos (by rw [hsz]; omega) ?_)
    by_cases ho2 : out.length < most
    · rw [show decide ((out.length : Int) < (most : Int)) = true from decide_eq_true (by omega)]
      have hb : bt (B (pre ++ acc ++ c :: t)) ((pre.length + acc.length : Nat) : Int) = (c.toNat : Int) := by
        have := bt_at' (pre ++ acc) t c
        rwa [List.length_append] at this
      refine Ev.step (fun k => spec_l1Cut.j1.eq_2 _ _ _ _ _ _ _ _) (Ev.pos rfl (Ev.pos (by omega) (Ev.pos (by rw [hsz]; omega) ?_)))
      rw [hb, nxt _ (by omega)]
      obtain ⟨q, hq⟩ : ∃ q, most - out.length = q + 1 := ⟨most - out.length - 1, by omega⟩
      rw [hq, cutG]
      by_cases hc : c = b
      · subst hc
        rw [if_pos rfl]
        refine Ev.pos rfl (Ev.pos (by omega) (Ev.pos (by omega) (Ev.pos (by rw [hsz]; omega) (Ev.pos (by omega) ?_))))
        rw [Int.toNat_natCast, Int.toNat_natCast, B_ext]
        have e1 : ((pre ++ acc ++ c :: t).drop pre.length).take (pre.length + acc.length - pre.length) = acc := by
          rw [List.append_assoc, List.drop_left, show pre.length + acc.length - pre.length = acc.length by omega, List.take_left]
        rw [e1]
        have := ih (pre ++ acc ++ [c]) [] (out ++ [B acc]) (by simp only [List.length_append, List.length_cons, List.length_nil]; omega) (by simp only [List.length_append, List.length_cons, List.length_nil]; omega)
        simp only [List.length_append, List.length_cons, List.length_nil, Nat.add_zero, List.append_nil] at this
        rw [show pre ++ acc ++ [c] ++ t = pre ++ acc ++ c :: t by simp, show most - (out.length + (0 + 1)) = q by omega, show pre.length + acc.length + (0 + 1) = pre.length + acc.length + 1 by omega] at this
        refine Ev.to this ?_
        simp
      · rw [if_neg hc]
        refine Ev.neg (fun e => hc (UInt8.toNat_inj.1 (by omega))) ?_
        have := ih pre (acc ++ [c]) out (by simp only [List.length_append, List.length_cons, List.length_nil]; omega) ho
        rw [hq] at this
        simp only [List.length_append, List.length_cons, List.length_nil] at this
        rw [show pre ++ (acc ++ [c]) ++ t = pre ++ acc ++ c :: t by simp, show pre.length + (acc.length + (0 + 1)) = pre.length + acc.length + 1 by omega] at this
        exact this
    · rw [show decide ((out.length : Int) < (most : Int)) = false from decide_eq_false (by omega), show most - out.length = 0 by omega, cutG_zero]
      exact last pre acc (c :: t) out (by simp only [List.length_cons]; omega) ho
theorem cut_ev (b : UInt8) (most : Nat) (hm : most ≤ 1000) (s : List UInt8) (hs : s.length ≤ 4000000000) : Ev (fun k => spec_l1Cut.f k (B s) (b.toNat : Int) (most : Int)) ((cutG b most [] s).map B) := by
  have := cut_loop b most hm s [] [] [] (by simpa using hs) (by simp)
  simpa [spec_l1Cut.f] using this
theorem num_fin : ∀ u : Fin 100, spec_l1Num.f 4 (B (dec2 u.val)) = some (u.val : Int) := by decide +kernel
theorem num_ev {u : Int} (h0 : 0 ≤ u) (h1 : u < 100) : Ev (fun k => spec_l1Num.f k (B (Lib.decDigits u.toNat))) u := by
  obtain ⟨n, rfl⟩ := Int.eq_ofNat_of_zero_le h0
  rw [Int.toNat_natCast, dec2_eq (by omega)]
  exact Ev.of (fun k => spec_l1Num.mono _ k) (num_fin ⟨n, by omega⟩)
theorem num_any (s : ByteArray) : ∃ v, Ev (fun k => spec_l1Num.f k s) v := by
  have loop : ∀ (d i : Nat) (x : Int), i ≤ s.size → i + d = 7 → ∃ v, Ev (fun k => spec_l1Num.l0 k s x (i : Int)) v := by
    intro d
    induction d with
    | zero =>
      intro i x hi hd
      by_cases h : (i : Int) < (s.size : Int)
      · by_cases h1 : bt s (i : Int) < 48
        · exact ⟨-1, Ev.step (fun k => spec_l1Num.l0.eq_2 _ _ _ _) (Ev.pos h (Ev.pos (by omega) (Ev.pos h1 (Ev.now _))))⟩
        · by_cases h2 : bt s (i : Int) > 57
          · exact ⟨-1, Ev.step (fun k => spec_l1Num.l0.eq_2 _ _ _ _) (Ev.pos h (Ev.pos (by omega) (Ev.neg h1 (Ev.pos h2 (Ev.now _)))))⟩
          · exact ⟨-1, Ev.step (fun k => spec_l1Num.l0.eq_2 _ _ _ _) (Ev.pos h (Ev.pos (by omega) (Ev.neg h1 (Ev.neg h2 (Ev.pos (by omega) (Ev.now _))))))⟩
      · by_cases h1 : bt s 0 = 48
        · exact ⟨-1, Ev.step (fun k => spec_l1Num.l0.eq_2 _ _ _ _) (Ev.neg h (Ev.neg (by omega) (Ev.pos (by omega) (Ev.pos (by omega) (Ev.pos h1 (Ev.now _))))))⟩
        · exact ⟨x, Ev.step (fun k => spec_l1Num.l0.eq_2 _ _ _ _) (Ev.neg h (Ev.neg (by omega) (Ev.pos (by omega) (Ev.pos (by omega) (Ev.neg h1 (Ev.now _))))))⟩
    | succ d ih =>
      intro i x hi hd
      by_cases h : (i : Int) < (s.size : Int)
      · by_cases h1 : bt s (i : Int) < 48
        · exact ⟨-1, Ev.step (fun k => spec_l1Num.l0.eq_2 _ _ _ _) (Ev.pos h (Ev.pos (by omega) (Ev.pos h1 (Ev.now _))))⟩
        · by_cases h2 : bt s (i : Int) > 57
          · exact ⟨-1, Ev.step (fun k => spec_l1Num.l0.eq_2 _ _ _ _) (Ev.pos h (Ev.pos (by omega) (Ev.neg h1 (Ev.pos h2 (Ev.now _)))))⟩
          · by_cases h3 : (i : Int) ≥ 6
            · exact ⟨-1, Ev.step (fun k => spec_l1Num.l0.eq_2 _ _ _ _) (Ev.pos h (Ev.pos (by omega) (Ev.neg h1 (Ev.neg h2 (Ev.pos h3 (Ev.now _))))))⟩
            · obtain ⟨v, hv⟩ := ih (i + 1) (wrap64 ((wrap64 (x * 10)) + (((bt s (i : Int)) - 48) % 256))) (by omega) (by omega)
              rw [← nxt i (by omega)] at hv
              exact ⟨v, Ev.step (fun k => spec_l1Num.l0.eq_2 _ _ _ _) (Ev.pos h (Ev.pos (by omega) (Ev.neg h1 (Ev.neg h2 (Ev.neg h3 hv)))))⟩
      · by_cases h0 : (s.size : Int) = 0
        · exact ⟨-1, Ev.step (fun k => spec_l1Num.l0.eq_2 _ _ _ _) (Ev.neg h (Ev.pos h0 (Ev.now _)))⟩
        · by_cases hg : (s.size : Int) > 1
          · by_cases h1 : bt s 0 = 48
            · exact ⟨-1, Ev.step (fun k => spec_l1Num.l0.eq_2 _ _ _ _) (Ev.neg h (Ev.neg h0 (Ev.pos hg (Ev.pos (by omega) (Ev.pos h1 (Ev.now _))))))⟩
            · exact ⟨x, Ev.step (fun k => spec_l1Num.l0.eq_2 _ _ _ _) (Ev.neg h (Ev.neg h0 (Ev.pos hg (Ev.pos (by omega) (Ev.neg h1 (Ev.now _))))))⟩
          · exact ⟨x, Ev.step (fun k => spec_l1Num.l0.eq_2 _ _ _ _) (Ev.neg h (Ev.neg h0 (Ev.neg hg (Ev.now _))))⟩
  exact loop 7 0 0 (by omega) (by omega)
/-! No line's end and no space stands in a numeral. -/
theorem dec_fin : ∀ u : Fin 100, (dec2 u.val).all (fun c => c != 10 && c != 32) = true := by decide +kernel
theorem dec_free {u : Int} (h0 : 0 ≤ u) (h1 : u < 100) : (10 : UInt8) ∉ Lib.decDigits u.toNat ∧ (32 : UInt8) ∉ Lib.decDigits u.toNat := by
  obtain ⟨n, rfl⟩ := Int.eq_ofNat_of_zero_le h0
  rw [Int.toNat_natCast, dec2_eq (by omega)]
  have h := List.all_eq_true.1 (dec_fin ⟨n, by omega⟩)
  exact ⟨fun hm => by have := h _ hm; simp at this, fun hm => by have := h _ hm; simp at this⟩
def lineW (x : Ar) : List UInt8 := Lib.join (npWords x) [32]
theorem lineW_eq (x : Ar) : lineW x = Lib.decDigits x.f0.toNat ++ 32 :: (Lib.decDigits x.f1.toNat ++ 32 :: (Lib.decDigits x.f2.toNat ++ 32 :: (Lib.decDigits x.f3.toNat ++ 32 :: Lib.decDigits x.f4.toNat))) := by
  simp [lineW, npWords, Lib.join, List.intercalate]
theorem line_free {x : Ar} (h : NpOk x) : (10 : UInt8) ∉ lineW x := by
  obtain ⟨⟨a0, b0⟩, ⟨a1, b1⟩, ⟨a2, b2⟩, ⟨a3, b3⟩, a4, b4⟩ := h
  rw [lineW_eq]
  have e : (10 : UInt8) ≠ 32 := by decide
  simp [(dec_free a0 b0).1, (dec_free a1 b1).1, (dec_free a2 b2).1, (dec_free a3 b3).1, (dec_free a4 b4).1, e]
theorem line_cut {x : Ar} (h : NpOk x) : cutG 32 5 [] (lineW x) = npWords x := by
  obtain ⟨⟨a0, b0⟩, ⟨a1, b1⟩, ⟨a2, b2⟩, ⟨a3, b3⟩, a4, b4⟩ := h
  rw [lineW_eq, cutG_hit 32 4 _ _ _ (dec_free a0 b0).2, cutG_hit 32 3 _ _ _ (dec_free a1 b1).2, cutG_hit 32 2 _ _ _ (dec_free a2 b2).2, cutG_hit 32 1 _ _ _ (dec_free a3 b3).2, cutG_free 32 1 _ _ (dec_free a4 b4).2]
  rfl
theorem lines_cut : ∀ (l : List Ar) (m : Nat), l.length ≤ m → (∀ x ∈ l, NpOk x) → cutG 10 m [] ((l.map npLine).flatten) = l.map lineW ++ [[]] := by
  intro l
  induction l with
  | nil => intro m _ _; simp [cutG_nil]
  | cons x t ih =>
    intro m hm hok
    simp only [List.length_cons] at hm
    obtain ⟨q, rfl⟩ : ∃ q, m = q + 1 := ⟨m - 1, by omega⟩
    have e : ((x :: t).map npLine).flatten = lineW x ++ 10 :: (t.map npLine).flatten := by simp [npLine, lineW]
    rw [e, cutG_hit 10 q _ _ _ (line_free (hok x (by simp))), ih q (by omega) (fun y hy => hok y (by simp [hy]))]
    simp
theorem text_eq (n : Int) (l : List Ar) : npText n l = ([110, 101, 116, 32] ++ Lib.decDigits n.toNat) ++ 10 :: (l.map npLine).flatten := by simp [npText, npHead]
theorem text_cut {n : Int} {l : List Ar} (h : NetP n l) : cutG 10 18 [] (npText n l) = ([110, 101, 116, 32] ++ Lib.decDigits n.toNat) :: (l.map lineW ++ [[]]) := by
  have h1 := h.lo
  have h2 := h.hi
  have h3 := h.few
  have e : (10 : UInt8) ∉ ([110, 101, 116, 32] ++ Lib.decDigits n.toNat : List UInt8) := by
    have := (dec_free (u := n) (by omega) (by omega)).1
    simp [this]
  rw [text_eq, cutG_hit 10 17 _ _ _ e, lines_cut l 17 (by omega) (fun x hx => npOk_of h hx)]
  simp
theorem head_cut {n : Int} (h1 : 1 ≤ n) (h2 : n ≤ 8) : cutG 32 2 [] ([110, 101, 116, 32] ++ Lib.decDigits n.toNat) = [[110, 101, 116], Lib.decDigits n.toNat] := by
  have e := (dec_free (u := n) (by omega) (by omega)).2
  have := cutG_hit 32 1 (Lib.decDigits n.toNat) [110, 101, 116] [] (by decide)
  rw [cutG_free 32 1 _ _ e] at this
  simpa using this
end Go.Proofs.YtppjelkljihdoaaDoor.M
