/- The reference's NetGet: of a net's text it gives the net, of any other text none. -/
import Derived.Test.YtppjelkljihdoaaDoorMCut
import Derived.Test.YtppjelkljihdoaaDoorPrintF10
import Derived.Test.YtppjelkljihdoaaDoorPrintF15
import Derived.Test.YtppjelkljihdoaaDoorPrintF27
import Derived.Test.YtppjelkljihdoaaDoorPrintF28
import Derived.Test.YtppjelkljihdoaaDoorPrintF8
set_option linter.unusedVariables false
set_option linter.unusedSimpArgs false
namespace Go.Proofs.YtppjelkljihdoaaDoor.M
open Go.RowKit Go.Proofs.YtppjelkljihdoaaDoor.Print Go.Proofs.YtppjelkljihdoaaDoorW.PrintWords Go.Proofs.YtppjelkljihdoaaDoorW.PrintLast Go.Proofs.YtppjelkljihdoaaDoorY
theorem rdOf_mem (l : List ByteArray) (i : Nat) (h : i < l.length) : rdOf ByteArray.empty l (i : Int) = l[i] := by
  unfold rdOf; rw [Int.toNat_natCast, List.getD_eq_getElem?_getD, List.getElem?_eq_getElem h]; rfl
def NoNet (s : ByteArray) : Prop := ∀ (n : Int) (l : List Ar), NetP n l → s ≠ B (npText n l)
theorem sGet_end_no (s : ByteArray) (hno : NoNet s) (n : Int) (a : List Ar) (ha : a.length ≤ 1000000) :
    Ev (fun k => (spec_l1Ok.f k n a).bind fun t351 => (if t351 = true then ((spec_l1Put.f k n a).bind fun t352 => (if t352.toList = s.toList then (some (n, a, true)) else (some (0, ([] : List Ar), false)))) else (some (0, ([] : List Ar), false)))) (0, [], false) := by
  refine Ev.bnd (sok1_ev n a (by omega)) ?_
  by_cases h : netOkB n a = true
  · refine Ev.pos h (Ev.bnd (sPut_ev (netP_of h)) (Ev.neg ?_ (Ev.now _)))
    rw [toList_iff]
    exact fun e => hno n a (netP_of h) e.symm
  · exact Ev.neg h (Ev.now _)
theorem sGet_loop_no (s : ByteArray) (hno : NoNet s) (n : Int) (lines : List ByteArray) (hl : lines.length ≤ 100) (hsz : ∀ w ∈ lines, w.size ≤ 4000000000) (d : Nat) : ∀ (i : Nat) (a : List Ar), i ≤ lines.length → lines.length - i = d → a.length ≤ i →
    Ev (fun k => spec_NetGet.l0 k s lines (i : Int) n a) (0, [], false) := by
  induction d with
  | zero =>
    intro i a hi hd ha
    refine Ev.step (fun k => spec_NetGet.l0.eq_2 _ _ _ _ _ _) ?_
    rw [nxt i (by omega)]
    exact Ev.neg (by omega) (sGet_end_no s hno n a (by omega))
  | succ d ih =>
    intro i a hi hd ha
    refine Ev.step (fun k => spec_NetGet.l0.eq_2 _ _ _ _ _ _) ?_
    rw [nxt i (by omega)]
    by_cases hc : ((i + 1 : Nat) : Int) < (lines.length : Int)
    · refine Ev.pos hc (Ev.pos (by omega) (Ev.pos (by omega) ?_))
      rw [rdOf_mem lines i (by omega)]
      have hw := hsz lines[i] (List.getElem_mem _)
      generalize lines[i] = w at hw
      rw [← B_data w] at hw ⊢
      rw [B_size] at hw
      have hcut := cut_ev 32 5 (by omega) w.data.toList hw
      generalize (cutG 32 5 [] w.data.toList).map B = t at hcut
      refine Ev.bnd hcut ?_
      by_cases h5 : (t.length : Int) = 5
      · obtain ⟨v0, e0⟩ := num_any (rdOf ByteArray.empty t 0)
        obtain ⟨v1, e1⟩ := num_any (rdOf ByteArray.empty t 1)
        obtain ⟨v2, e2⟩ := num_any (rdOf ByteArray.empty t 2)
        obtain ⟨v3, e3⟩ := num_any (rdOf ByteArray.empty t 3)
        obtain ⟨v4, e4⟩ := num_any (rdOf ByteArray.empty t 4)
        refine Ev.pos h5 (Ev.pos (by omega) (Ev.bnd e0 (Ev.pos (by omega) (Ev.bnd e1 (Ev.pos (by omega) (Ev.bnd e2 (Ev.pos (by omega) (Ev.bnd e3 (Ev.pos (by omega) (Ev.bnd e4 (Ev.pos (by omega) ?_)))))))))))
        exact ih (i + 1) _ (by omega) (by omega) (by simp; omega)
      · exact Ev.neg h5 (Ev.now _)
    · exact Ev.neg hc (sGet_end_no s hno n a (by omega))
theorem sGet_no (s : ByteArray) (hs : s.size ≤ 4000000000) (hno : NoNet s) : Ev (fun k => spec_NetGet.f k s) (0, [], false) := by
  unfold spec_NetGet.f
  have hs' : s.data.toList.length ≤ 4000000000 := by rw [← Lib.size_eq]; exact hs
  have hcut := cut_ev 10 18 (by omega) s.data.toList hs'
  rw [B_data] at hcut
  have hlen := cutG_len 10 s.data.toList 18 []
  have hle := cutG_le 10 s.data.toList 18 []
  have hsz : ∀ w ∈ (cutG 10 18 [] s.data.toList).map B, w.size ≤ 4000000000 := by
    intro w hw
    obtain ⟨x, hx, rfl⟩ := List.mem_map.1 hw
    have := hle x hx
    rw [B_size]
    simp at this
    omega
  have hl1 : 1 ≤ ((cutG 10 18 [] s.data.toList).map B).length ∧ ((cutG 10 18 [] s.data.toList).map B).length ≤ 19 := by rw [List.length_map]; exact hlen
  generalize (cutG 10 18 [] s.data.toList).map B = lines at hcut hsz hl1
  refine Ev.bnd hcut (Ev.pos (by omega) ?_)
  have h0 := rdOf_mem lines 0 (by omega)
  rw [show ((0 : Nat) : Int) = 0 from rfl] at h0
  rw [h0]
  have hw := hsz lines[0] (List.getElem_mem _)
  generalize lines[0] = w at hw
  rw [← B_data w] at hw ⊢
  rw [B_size] at hw
  have hcut2 := cut_ev 32 2 (by omega) w.data.toList hw
  generalize (cutG 32 2 [] w.data.toList).map B = t at hcut2
  refine Ev.bnd hcut2 ?_
  by_cases h2 : (t.length : Int) = 2
  · obtain ⟨v, e⟩ := num_any (rdOf ByteArray.empty t 1)
    refine Ev.pos h2 (Ev.pos (by omega) (Ev.bnd e ?_))
    exact sGet_loop_no s hno v lines (by omega) hsz (lines.length - 1) 1 [] (by omega) (by omega) (by simp)
  · exact Ev.neg h2 (Ev.now _)
theorem sGet_loop_yes {n : Int} {l : List Ar} (h : NetP n l) (s : ByteArray) (hs : s = B (npText n l)) (hd : List UInt8) (d : Nat) : ∀ j : Nat, j ≤ l.length → l.length - j = d →
    Ev (fun k => spec_NetGet.l0 k s ((hd :: (l.map lineW ++ [[]])).map B) ((j + 1 : Nat) : Int) n (l.take j)) (n, l, true) := by
  have h3 := h.few
  have hlen : ((hd :: (l.map lineW ++ [[]])).map B).length = l.length + 2 := by simp
  induction d with
  | zero =>
    intro j hj hd'
    have hje : j = l.length := by omega
    subst hje
    refine Ev.step (fun k => spec_NetGet.l0.eq_2 _ _ _ _ _ _) ?_
    rw [nxt _ (by omega), hlen]
    refine Ev.neg (by omega) ?_
    rw [List.take_length]
    exact Ev.bnd (sok1_ev n l (by omega)) (Ev.pos (ok_of h) (Ev.bnd (sPut_ev h) (Ev.pos (by rw [toList_iff, hs]) (Ev.now _))))
  | succ d ih =>
    intro j hj hd'
    refine Ev.step (fun k => spec_NetGet.l0.eq_2 _ _ _ _ _ _) ?_
    rw [nxt _ (by omega), rdOf_mem _ (j + 1) (by rw [hlen]; omega)]
    have hjl : j < l.length := by omega
    have hx : NpOk (l[j]) := npOk_of h (List.getElem_mem _)
    have ew : ((hd :: (l.map lineW ++ [[]])).map B)[j + 1]'(by rw [hlen]; omega) = B (lineW (l[j])) := by
      simp [List.getElem_append_left, hjl]
    have et : l.take (j + 1) = l.take j ++ [l[j]] := List.take_succ_eq_append_getElem hjl
    have hi := ih (j + 1) (by omega) (by omega)
    rw [et] at hi
    rw [ew]
    clear ew et
    generalize l[j] = x at hx hi ⊢
    have hcut := cut_ev 32 5 (by omega) (lineW x) (by have := np_len hx; unfold lineW; omega)
    rw [line_cut hx] at hcut
    obtain ⟨⟨a0, b0⟩, ⟨a1, b1⟩, ⟨a2, b2⟩, ⟨a3, b3⟩, a4, b4⟩ := hx
    have e0 := num_ev a0 b0
    have e1 := num_ev a1 b1
    have e2 := num_ev a2 b2
    have e3 := num_ev a3 b3
    have e4 := num_ev a4 b4
    have hlt : (l.take j).length ≤ 16 := by rw [List.length_take]; omega
    have h5 : ((npWords x).map B).length = 5 := rfl
    refine Ev.pos (by rw [hlen]; omega) (Ev.pos (by omega) (Ev.pos (by rw [hlen]; omega) (Ev.bnd hcut (Ev.pos rfl (Ev.pos (by omega) (Ev.bnd e0 (Ev.pos (by omega) (Ev.bnd e1 (Ev.pos (by omega) (Ev.bnd e2 (Ev.pos (by omega) (Ev.bnd e3 (Ev.pos (by omega) (Ev.bnd e4 (Ev.pos (by omega) hi)))))))))))))))
theorem sGet_yes {n : Int} {l : List Ar} (h : NetP n l) : Ev (fun k => spec_NetGet.f k (B (npText n l))) (n, l, true) := by
  unfold spec_NetGet.f
  have h1 := h.lo
  have h2 := h.hi
  have hcut := cut_ev 10 18 (by omega) (npText n l) (by have := text_len h; omega)
  rw [text_cut h] at hcut
  have hhd : ([110, 101, 116, 32] ++ Lib.decDigits n.toNat : List UInt8).length ≤ 6 := by
    have := np_dec (u := n.toNat) (by omega)
    simp only [List.length_append, List.length_cons, List.length_nil]
    omega
  have hcut2 := cut_ev 32 2 (by omega) ([110, 101, 116, 32] ++ Lib.decDigits n.toNat) (by omega)
  rw [head_cut h1 h2] at hcut2
  refine Ev.bnd hcut (Ev.pos (by simp; omega) (Ev.bnd hcut2 (Ev.pos rfl (Ev.pos (by simp) (Ev.bnd (num_ev (u := n) (by omega) (by omega)) ?_)))))
  have := sGet_loop_yes h (B (npText n l)) rfl ([110, 101, 116, 32] ++ Lib.decDigits n.toNat) l.length 0 (by omega) (by omega)
  rw [List.take_zero, show ((0 + 1 : Nat) : Int) = 1 from rfl] at this
  exact this
end Go.Proofs.YtppjelkljihdoaaDoor.M
