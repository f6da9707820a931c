/- The program's reading of texts: strings.Split at one byte, strings.TrimPrefix, strconv.Atoi, readNumbers. -/
import Derived.Test.YtppjelkljihdoaaDoorMCut
import Derived.Test.YtppjelkljihdoaaDoorPrintF34
import Derived.Test.YtppjelkljihdoaaDoorPrintF35
import Derived.Test.YtppjelkljihdoaaDoorPrintF36
import Derived.Test.YtppjelkljihdoaaDoorPrintF58
import Derived.Test.YtppjelkljihdoaaDoorPrintF70
import Derived.Test.YtppjelkljihdoaaDoorPrintF8
set_option linter.unusedVariables false
set_option linter.unusedSimpArgs false
namespace Go.Proofs.YtppjelkljihdoaaDoor.M
open Go.RowKit Go.Proofs.YtppjelkljihdoaaDoor.Print Go.Proofs.YtppjelkljihdoaaDoorW.PrintWords Go.Proofs.YtppjelkljihdoaaDoorW.PrintLast Go.Proofs.YtppjelkljihdoaaDoorY
/-- A text split at each byte b; what has been read of the piece under way. -/
def splitS (b : UInt8) : List UInt8 → List UInt8 → List (List UInt8)
  | acc, [] => [acc]
  | acc, c :: t => if c = b then acc :: splitS b [] t else splitS b (acc ++ [c]) t
theorem splitS_free (b : UInt8) : ∀ (w acc : List UInt8), b ∉ w → splitS b acc w = [acc ++ w] := by
  intro w
  induction w with
  | nil => intro acc _; simp [splitS]
  | cons c t ih =>
    intro acc h
    have h1 : c ≠ b := fun e => h (by simp [e])
    rw [splitS, if_neg h1, ih _ (fun hm => h (by simp [hm]))]
    simp
theorem splitS_hit (b : UInt8) (t : List UInt8) : ∀ (w acc : List UInt8), b ∉ w → splitS b acc (w ++ b :: t) = (acc ++ w) :: splitS b [] t := by
  intro w
  induction w with
  | nil => intro acc _; simp [splitS]
  | cons c w ih =>
    intro acc h
    have h1 : c ≠ b := fun e => h (by simp [e])
    rw [List.cons_append, splitS, if_neg h1, ih _ (fun hm => h (by simp [hm]))]
    simp
theorem splitS_len (b : UInt8) : ∀ (t acc : List UInt8), 1 ≤ (splitS b acc t).length ∧ (splitS b acc t).length ≤ t.length + 1 := by
  intro t
  induction t with
  | nil => intro acc; simp [splitS]
  | cons c t ih =>
    intro acc
    rw [splitS]
    split
    · have := ih []
      simp only [List.length_cons]
      omega
    · have := ih (acc ++ [c])
      simp only [List.length_cons]
      omega
theorem splitS_le (b : UInt8) : ∀ (t acc : List UInt8), ∀ w ∈ splitS b acc t, w.length ≤ acc.length + t.length := by
  intro t
  induction t with
  | nil => intro acc w hw; simp [splitS] at hw; subst hw; simp
  | cons c t ih =>
    intro acc w hw
    rw [splitS] at hw
    split at hw
    · rcases List.mem_cons.1 hw with rfl | hw
      · simp
      · have := ih [] w hw; simp at this ⊢; omega
    · have := ih _ w hw; simp at this ⊢; omega
theorem idx_none (b : UInt8) : ∀ w : List UInt8, b ∉ w → Lib.indexByte w b = -1 := by
  intro w
  induction w with
  | nil => intro _; rfl
  | cons c t ih =>
    intro h
    have h1 : ¬ (c == b) = true := fun e => h (by simp [beq_iff_eq.1 e])
    rw [Lib.indexByte, if_neg h1, ih (fun hm => h (by simp [hm]))]
    rfl
theorem idx_hit (b : UInt8) (t : List UInt8) : ∀ w : List UInt8, b ∉ w → Lib.indexByte (w ++ b :: t) b = (w.length : Int) := by
  intro w
  induction w with
  | nil => intro _; simp [Lib.indexByte]
  | cons c w ih =>
    intro h
    have h1 : ¬ (c == b) = true := fun e => h (by simp [beq_iff_eq.1 e])
    have h2 : ¬ ((w.length : Int) == -1) = true := fun e => by have := beq_iff_eq.1 e; omega
    rw [List.cons_append, Lib.indexByte, if_neg h1, ih (fun hm => h (by simp [hm])), if_neg h2, List.length_cons]
    omega
theorem split_eq (b : UInt8) (k : Nat) : ∀ s : List UInt8, s.length ≤ k → Lib.splitB (B [b]) 0 (Lib.countB (B s) (B [b])) (B s) = (splitS b [] s).map B := by
  induction k with
  | zero =>
    intro s hs
    obtain rfl := List.eq_nil_of_length_eq_zero (Nat.le_zero.1 hs)
    have hi : Lib.indexB (B []) (B [b]) = -1 := (Lib.index_one _ _).trans (idx_none b [] (by simp))
    rw [Lib.splitB_miss _ _ _ _ hi]
    rfl
  | succ k ih =>
    intro s hs
    by_cases hm : b ∈ s
    · obtain ⟨w, t, rfl, hw⟩ := List.eq_append_cons_of_mem hm
      have hi : Lib.indexB (B (w ++ b :: t)) (B [b]) = (w.length : Int) := (Lib.index_one _ _).trans (idx_hit b t w hw)
      have e1 : (B (w ++ b :: t)).extract (w.length + (B [b]).size) (B (w ++ b :: t)).size = B t := by
        rw [B_ext, B_size, B_size]
        congr 1
        have : (w ++ b :: t).drop (w.length + 1) = t := by
          rw [show w ++ b :: t = (w ++ [b]) ++ t by simp, show w.length + 1 = (w ++ [b]).length by simp, List.drop_left]
        rw [List.length_singleton, this, List.take_of_length_le (by simp; omega)]
      have hc := Lib.countB_hit (B (w ++ b :: t)) (B [b]) w.length (by rw [B_size]; simp) hi
      rw [e1] at hc
      rw [hc, Nat.add_comm, Lib.splitB_hit _ _ _ _ _ hi, e1, ih t (by simp at hs; omega), splitS_hit b t w [] hw, B_ext]
      simp
    · have hi : Lib.indexB (B s) (B [b]) = -1 := (Lib.index_one _ _).trans (idx_none b s hm)
      rw [Lib.splitB_miss _ _ _ _ hi, splitS_free b s [] hm]
      rfl
theorem iSplit_eq (b : UInt8) (s : List UInt8) (h : s.length < 4294967281) : strings_Split.f (B s) (B [b]) = some ((splitS b [] s).map B) := by
  unfold strings_Split.f
  rw [if_pos (by rw [B_size]; exact h), if_pos (by rw [B_size]; simp), split_eq b s.length s (Nat.le_refl _)]
/-! strconv.Atoi -/
theorem atoi_fin : ∀ u : Fin 100, Lib.atoiAll (dec2 u.val) = .ok (u.val : Int) := by decide +kernel
theorem atoi_yes {u : Int} (h0 : 0 ≤ u) (h1 : u < 100) : strconv_Atoi_59.f (B (Lib.decDigits u.toNat)) = some (u, none) := by
  obtain ⟨n, rfl⟩ := Int.eq_ofNat_of_zero_le h0
  have hl := np_dec (u := n) (by omega)
  have e := atoi_fin ⟨n, by omega⟩
  unfold strconv_Atoi_59.f
  rw [Int.toNat_natCast, if_pos (by rw [B_size]; omega), B_list, dec2_eq (by omega), e]
theorem atoi_any (s : ByteArray) (h : s.size ≤ 281474976710656) : ∃ v e, strconv_Atoi_59.f s = some (v, e) := by
  unfold strconv_Atoi_59.f
  rw [if_pos h]
  cases Lib.atoiAll s.data.toList <;> exact ⟨_, _, rfl⟩
theorem rdOf_at (l : List ByteArray) (i : Nat) (h : i < l.length) : rdOf ByteArray.empty l (i : Int) = l[i] := by
  unfold rdOf; rw [Int.toNat_natCast, List.getD_eq_getElem?_getD, List.getElem?_eq_getElem h]; rfl
theorem rn_loop_any (ws : List ByteArray) (hl : ws.length ≤ 5) (hsz : ∀ w ∈ ws, w.size ≤ 281474976710656) (d : Nat) : ∀ (i : Nat) (out : List Int), i ≤ ws.length → ws.length - i = d → out.length = i →
    ∃ r, Ev (fun k => impl_readNumbers.l0 k out ws (ws.length : Int) (i : Int)) r ∧ (r.2 = true → r.1.length = ws.length) := by
  induction d with
  | zero =>
    intro i out hi hd ho
    exact ⟨(out, true), Ev.step (fun k => impl_readNumbers.l0.eq_2 _ _ _ _ _) (Ev.neg (by omega) (Ev.now _)), fun _ => by show out.length = _; omega⟩
  | succ d ih =>
    intro i out hi hd ho
    have hw := hsz ws[i] (List.getElem_mem _)
    obtain ⟨v, e, hve⟩ := atoi_any ws[i] hw
    cases e with
    | none =>
      obtain ⟨r, hr, hq⟩ := ih (i + 1) (out ++ [v]) (by omega) (by omega) (by simp [ho])
      refine ⟨r, Ev.step (fun k => impl_readNumbers.l0.eq_2 _ _ _ _ _) (Ev.pos (by omega) (Ev.pos (by omega) (Ev.pos (by omega) ?_))), hq⟩
      rw [rdOf_at ws i (by omega), nxt i (by omega)]
      exact Ev.bnd0 hve (Ev.pos rfl (Ev.pos (by omega) hr))
    | some q =>
      refine ⟨([], false), Ev.step (fun k => impl_readNumbers.l0.eq_2 _ _ _ _ _) (Ev.pos (by omega) (Ev.pos (by omega) (Ev.pos (by omega) ?_))), fun h => by cases h⟩
      rw [rdOf_at ws i (by omega)]
      exact Ev.bnd0 hve (Ev.neg (by simp) (Ev.now _))
theorem rn_any (s : ByteArray) (hs : s.size < 4294967281) (m : Int) (h0 : 0 ≤ m) (h5 : m ≤ 5) : ∃ r, Ev (fun k => impl_readNumbers.f k s m) r ∧ (r.2 = true → (r.1.length : Int) = m) := by
  unfold impl_readNumbers.f
  rw [← B_data s] at hs ⊢
  rw [B_size] at hs
  have e := iSplit_eq 32 s.data.toList hs
  have hle := splitS_le 32 s.data.toList []
  have hsz : ∀ w ∈ (splitS 32 [] s.data.toList).map B, w.size ≤ 281474976710656 := by
    intro w hw
    obtain ⟨x, hx, rfl⟩ := List.mem_map.1 hw
    have := hle x hx
    rw [B_size]
    simp at this
    simp at hs
    omega
  generalize (splitS 32 [] s.data.toList).map B = ws at e hsz
  by_cases hm : (ws.length : Int) = m
  · obtain ⟨r, hr, hq⟩ := rn_loop_any ws (by omega) hsz ws.length 0 [] (by omega) (by omega) rfl
    refine ⟨r, Ev.bnd0 e (Ev.pos hm (Ev.pos h0 (Ev.pos (by omega) hr))), fun h => by rw [hq h]; exact hm⟩
  · exact ⟨([], false), Ev.bnd0 e (Ev.neg hm (Ev.now _)), fun h => by cases h⟩
theorem rn_loop_yes (ws : List (List UInt8)) (vs : List Int) (hl : ws.length ≤ 5) (hv : vs.length = ws.length) (h : ∀ (j : Nat) (hj : j < ws.length), strconv_Atoi_59.f (B ws[j]) = some (vs[j], none)) (d : Nat) : ∀ j : Nat, j ≤ ws.length → ws.length - j = d →
    Ev (fun k => impl_readNumbers.l0 k (vs.take j) (ws.map B) ((ws.map B).length : Int) (j : Int)) (vs, true) := by
  have hlen : (ws.map B).length = ws.length := List.length_map ..
  induction d with
  | zero =>
    intro j hj hd
    refine Ev.step (fun k => impl_readNumbers.l0.eq_2 _ _ _ _ _) (Ev.neg (by omega) (Ev.now' ?_))
    rw [List.take_of_length_le (by omega)]
  | succ d ih =>
    intro j hj hd
    have hi := ih (j + 1) (by omega) (by omega)
    rw [List.take_succ_eq_append_getElem (by omega)] at hi
    have ew : (ws.map B)[j]'(by omega) = B (ws[j]'(by omega)) := by simp
    refine Ev.step (fun k => impl_readNumbers.l0.eq_2 _ _ _ _ _) (Ev.pos (by omega) (Ev.pos (by omega) (Ev.pos (by omega) ?_)))
    rw [rdOf_at _ j (by omega), ew, nxt j (by omega)]
    exact Ev.bnd0 (h j (by omega)) (Ev.pos rfl (Ev.pos (by rw [List.length_take]; omega) hi))
theorem rn_yes (s : List UInt8) (hs : s.length < 4294967281) (vs : List Int) (ws : List (List UInt8)) (hws : splitS 32 [] s = ws) (hl : ws.length ≤ 5) (hv : vs.length = ws.length) (h : ∀ (j : Nat) (hj : j < ws.length), strconv_Atoi_59.f (B ws[j]) = some (vs[j], none)) (m : Int) (hm : (ws.length : Int) = m) :
    Ev (fun k => impl_readNumbers.f k (B s) m) (vs, true) := by
  unfold impl_readNumbers.f
  have e := iSplit_eq 32 s hs
  rw [hws] at e
  have hlen : (ws.map B).length = ws.length := List.length_map ..
  refine Ev.bnd0 e (Ev.pos (by omega) (Ev.pos (by omega) (Ev.pos (by omega) ?_)))
  exact rn_loop_yes ws vs hl hv h ws.length 0 (by omega) (by omega)
/-! strings.TrimPrefix -/
theorem trim_any (s : ByteArray) : ∃ t, strings_TrimPrefix.f s (⟨#[110, 101, 116, 32]⟩ : ByteArray) = some t ∧ t.size ≤ s.size := by
  have h4 : ((⟨#[110, 101, 116, 32]⟩ : ByteArray).size : Int) = 4 := rfl
  unfold strings_TrimPrefix.f stringslite_TrimPrefix.f stringslite_HasPrefix.f
  rw [h4]
  by_cases h : (s.size : Int) ≥ 4
  · rw [if_pos h, if_pos (by omega), if_pos (by omega)]
    simp only [Option.bind_some]
    split
    · rw [if_pos (by omega)]
      exact ⟨_, rfl, by rw [ByteArray.size_extract]; omega⟩
    · exact ⟨_, rfl, Nat.le_refl _⟩
  · rw [if_neg h]
    exact ⟨_, rfl, Nat.le_refl _⟩
theorem trim_net (w : List UInt8) : strings_TrimPrefix.f (B ([110, 101, 116, 32] ++ w)) (⟨#[110, 101, 116, 32]⟩ : ByteArray) = some (B w) := by
  have h4 : ((⟨#[110, 101, 116, 32]⟩ : ByteArray).size : Int) = 4 := rfl
  have hs : (B ([110, 101, 116, 32] ++ w)).size = w.length + 4 := by rw [B_size]; simp
  have e1 : (B ([110, 101, 116, 32] ++ w)).extract 0 ((4 : Int) : Int).toNat = B [110, 101, 116, 32] := by rw [B_ext]; simp
  have e2 : (B ([110, 101, 116, 32] ++ w)).extract ((4 : Int) : Int).toNat (B ([110, 101, 116, 32] ++ w)).size = B w := by
    rw [hs, B_ext]
    congr 1
    simp
  unfold strings_TrimPrefix.f stringslite_TrimPrefix.f stringslite_HasPrefix.f
  rw [h4, if_pos (by omega), if_pos (by omega), if_pos (by omega), e1, e2, B_net]
  simp only [Option.bind_some, beq_self_eq_true]
  rw [if_pos trivial, if_pos (by omega), if_pos (by omega)]
  rfl
theorem words_split {x : Ar} (h : NpOk x) : splitS 32 [] (lineW x) = npWords x := by
  obtain ⟨⟨a0, b0⟩, ⟨a1, b1⟩, ⟨a2, b2⟩, ⟨a3, b3⟩, a4, b4⟩ := h
  rw [lineW_eq, splitS_hit 32 _ _ _ (dec_free a0 b0).2, splitS_hit 32 _ _ _ (dec_free a1 b1).2, splitS_hit 32 _ _ _ (dec_free a2 b2).2, splitS_hit 32 _ _ _ (dec_free a3 b3).2, splitS_free 32 _ _ (dec_free a4 b4).2]
  rfl
theorem lines_split : ∀ (l : List Ar), (∀ x ∈ l, NpOk x) → splitS 10 [] ((l.map npLine).flatten) = l.map lineW ++ [[]] := by
  intro l
  induction l with
  | nil => intro _; simp [splitS]
  | cons x t ih =>
    intro hok
    have e : ((x :: t).map npLine).flatten = lineW x ++ 10 :: (t.map npLine).flatten := by simp [npLine, lineW]
    rw [e, splitS_hit 10 _ _ _ (line_free (hok x (by simp))), ih (fun y hy => hok y (by simp [hy]))]
    simp
end Go.Proofs.YtppjelkljihdoaaDoor.M
