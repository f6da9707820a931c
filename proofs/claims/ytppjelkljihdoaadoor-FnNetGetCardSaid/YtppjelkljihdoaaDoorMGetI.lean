/- The program's NetGet: of a net's text it gives the net, of any other text none. Both of them say the same of every text. -/
import Derived.Test.YtppjelkljihdoaaDoorMSplit
import Derived.Test.YtppjelkljihdoaaDoorMGetS
import Derived.Test.YtppjelkljihdoaaDoorPrintF10
import Derived.Test.YtppjelkljihdoaaDoorPrintF12
import Derived.Test.YtppjelkljihdoaaDoorPrintF15
import Derived.Test.YtppjelkljihdoaaDoorPrintF36
import Derived.Test.YtppjelkljihdoaaDoorPrintF37
import Derived.Test.YtppjelkljihdoaaDoorPrintF8
set_option linter.unusedVariables false
set_option linter.unusedSimpArgs false
namespace Go.Proofs.YtppjelkljihdoaaDoor.M
open Go.RowKit Go.Proofs.YtppjelkljihdoaaDoor.Print Go.Proofs.YtppjelkljihdoaaDoorW.PrintWords Go.Proofs.YtppjelkljihdoaaDoorW.PrintLast Go.Proofs.YtppjelkljihdoaaDoorY
theorem putV_ok {n : Int} {l : List Ar} (h : NetP n l) : putV n l = B (npText n l) := by unfold putV; rw [if_pos (ok_of h)]
theorem iGet_end_no (s : ByteArray) (hno : NoNet s) (n : Int) (a : List Ar) :
    Ev (fun _ => (impl_NetOk.f n a).bind fun t289 => (if t289 = true then ((impl_NetPut.f n a).bind fun t290 => (if t290.toList = s.toList then ((impl_Arc_37.f a).bind fun t291 => (some (n, t291, true))) else (some (0, ([] : List Ar), false)))) else (some (0, ([] : List Ar), false)))) (0, [], false) := by
  refine Ev.bnd0 (a := netOkB n a) rfl ?_
  by_cases h : netOkB n a = true
  · refine Ev.pos h (Ev.bnd0 (iNetPut_eq n a) (Ev.neg ?_ (Ev.now _)))
    rw [toList_iff, putV_ok (netP_of h)]
    exact fun e => hno n a (netP_of h) e.symm
  · exact Ev.neg h (Ev.now _)
theorem iGet_loop_no (s : ByteArray) (hno : NoNet s) (n : Int) (ys : List ByteArray) (hl : ys.length ≤ 100) (hsz : ∀ w ∈ ys, w.size < 4294967281) (d : Nat) : ∀ (i : Nat) (a : List Ar), i ≤ ys.length → ys.length - i = d → a.length ≤ i →
    Ev (fun k => impl_NetGet.l0 k s ys (ys.length : Int) (i : Int) n a) (0, [], false) := by
  induction d with
  | zero =>
    intro i a hi hd ha
    exact Ev.step (fun k => impl_NetGet.l0.eq_2 _ _ _ _ _ _ _) (Ev.neg (by omega) (iGet_end_no s hno n a))
  | succ d ih =>
    intro i a hi hd ha
    refine Ev.step (fun k => impl_NetGet.l0.eq_2 _ _ _ _ _ _ _) (Ev.pos (by omega) (Ev.pos (by omega) (Ev.pos (by omega) ?_)))
    rw [rdOf_at ys i (by omega), nxt i (by omega)]
    obtain ⟨⟨vs, ok⟩, hr, hq⟩ := rn_any ys[i] (hsz _ (List.getElem_mem _)) 5 (by omega) (by omega)
    refine Ev.bnd hr ?_
    cases ok with
    | false => exact Ev.neg (by simp) (Ev.now _)
    | true =>
      have h5 : (vs.length : Int) = 5 := hq rfl
      exact Ev.pos rfl (Ev.pos (by show (0 : Int) < (vs.length : Int); omega) (Ev.pos (by show (1 : Int) < (vs.length : Int); omega) (Ev.pos (by show (2 : Int) < (vs.length : Int); omega) (Ev.pos (by show (3 : Int) < (vs.length : Int); omega) (Ev.pos (by show (4 : Int) < (vs.length : Int); omega) (Ev.pos (by omega) (ih (i + 1) _ (by omega) (by omega) (by simp; omega))))))))
theorem iGet_no (s : ByteArray) (hs : s.size < 4294967281) (hno : NoNet s) : Ev (fun k => impl_NetGet.f k s) (0, [], false) := by
  unfold impl_NetGet.f
  obtain ⟨t, ht, hts⟩ := trim_any s
  refine Ev.bnd0 ht ?_
  have e := iSplit_eq 10 t.data.toList (by rw [← Lib.size_eq]; omega)
  rw [B_data] at e
  have hle := splitS_le 10 t.data.toList []
  have hl1 := (splitS_len 10 t.data.toList []).1
  have hsz : ∀ w ∈ (splitS 10 [] t.data.toList).map B, w.size < 4294967281 := by
    intro w hw
    obtain ⟨x, hx, rfl⟩ := List.mem_map.1 hw
    have := hle x hx
    rw [← Lib.size_eq] at this
    rw [B_size]
    simp only [List.length_nil] at this
    omega
  have hl2 : 1 ≤ ((splitS 10 [] t.data.toList).map B).length := by rw [List.length_map]; exact hl1
  have hl3 : ((splitS 10 [] t.data.toList).map B).length ≤ 4294967281 := by
    have := (splitS_len 10 t.data.toList []).2
    rw [← Lib.size_eq] at this
    rw [List.length_map]
    omega
  generalize (splitS 10 [] t.data.toList).map B = lines at e hsz hl2 hl3
  refine Ev.bnd0 e (Ev.pos (by omega) ?_)
  have h0 := rdOf_at lines 0 (by omega)
  rw [show ((0 : Nat) : Int) = 0 from rfl] at h0
  rw [h0]
  obtain ⟨⟨vs, ok⟩, hr, hq⟩ := rn_any lines[0] (hsz _ (List.getElem_mem _)) 1 (by omega) (by omega)
  refine Ev.bnd hr ?_
  cases ok with
  | false => exact Ev.neg (by simp) (Ev.step (fun k => impl_NetGet.j0.eq_2 _ _ _ _ _) (Ev.pos rfl (Ev.now _)))
  | true =>
    have h1 : (vs.length : Int) = 1 := hq rfl
    refine Ev.pos rfl (Ev.step (fun k => impl_NetGet.j0.eq_2 _ _ _ _ _) ?_)
    by_cases hc : (lines.length : Int) > 18
    · exact Ev.pos (decide_eq_true hc) (Ev.now _)
    · have w1 : wrap64 ((lines.length : Int) - 1) = (lines.length : Int) - 1 := w64 (by omega) (by omega)
      have m1 : mx (wrap64 ((lines.length : Int) - 1)) 1 ≤ 18 ∧ 1 ≤ mx (wrap64 ((lines.length : Int) - 1)) 1 ∧ mx (wrap64 ((lines.length : Int) - 1)) 1 ≤ (lines.length : Int) := by
        rw [w1]
        unfold mx
        split <;> omega
      generalize mx (wrap64 ((lines.length : Int) - 1)) 1 = m at m1
      refine Ev.neg (by simpa using hc) (Ev.pos (by show (0 : Int) < (vs.length : Int); omega) (Ev.pos m1.2.1 (Ev.pos m1.2.2 (Ev.bnd0 rfl ?_))))
      exact iGet_loop_no s hno _ _ (by rw [List.length_drop, List.length_take]; omega) (fun w hw => hsz w (List.mem_of_mem_take (List.mem_of_mem_drop hw))) _ 0 [] (by omega) rfl (by simp)
theorem iGet_loop_yes {n : Int} {l : List Ar} (h : NetP n l) (s : ByteArray) (hs : s = B (npText n l)) (d : Nat) : ∀ j : Nat, j ≤ l.length → l.length - j = d →
    Ev (fun k => impl_NetGet.l0 k s ((l.map lineW).map B) (((l.map lineW).map B).length : Int) (j : Int) n (l.take j)) (n, l, true) := by
  have h3 := h.few
  have hlen : ((l.map lineW).map B).length = l.length := by simp
  induction d with
  | zero =>
    intro j hj hd
    have hje : j = l.length := by omega
    subst hje
    refine Ev.step (fun k => impl_NetGet.l0.eq_2 _ _ _ _ _ _ _) (Ev.neg (by omega) ?_)
    rw [List.take_length]
    exact Ev.bnd0 (a := netOkB n l) rfl (Ev.pos (ok_of h) (Ev.bnd0 (iNetPut_eq n l) (Ev.pos (by rw [toList_iff, putV_ok h, hs]) (Ev.now _))))
  | succ d ih =>
    intro j hj hd
    have hjl : j < l.length := by omega
    have hx : NpOk (l[j]) := npOk_of h (List.getElem_mem _)
    have ew : ((l.map lineW).map B)[j]'(by rw [hlen]; omega) = B (lineW (l[j])) := by simp
    have et : l.take (j + 1) = l.take j ++ [l[j]] := List.take_succ_eq_append_getElem hjl
    have hi := ih (j + 1) (by omega) (by omega)
    rw [et] at hi
    refine Ev.step (fun k => impl_NetGet.l0.eq_2 _ _ _ _ _ _ _) (Ev.pos (by omega) (Ev.pos (by omega) (Ev.pos (by omega) ?_)))
    rw [rdOf_at _ j (by rw [hlen]; omega), nxt j (by omega), ew]
    clear ew et
    generalize l[j] = x at hx hi ⊢
    have hsp := words_split hx
    have hll := np_len hx
    have hat : ∀ (i : Nat) (hi : i < (npWords x).length), strconv_Atoi_59.f (B (npWords x)[i]) = some ([x.f0, x.f1, x.f2, x.f3, x.f4][i]'hi, none) := by
      obtain ⟨⟨a0, b0⟩, ⟨a1, b1⟩, ⟨a2, b2⟩, ⟨a3, b3⟩, a4, b4⟩ := hx
      intro i hi
      have hi5 : i < 5 := hi
      match i, hi5 with
      | 0, _ => exact atoi_yes a0 b0
      | 1, _ => exact atoi_yes a1 b1
      | 2, _ => exact atoi_yes a2 b2
      | 3, _ => exact atoi_yes a3 b3
      | 4, _ => exact atoi_yes a4 b4
    have hr := rn_yes (lineW x) (by unfold lineW; omega) [x.f0, x.f1, x.f2, x.f3, x.f4] (npWords x) hsp (by simp [npWords]) rfl hat 5 rfl
    have hlt : (l.take j).length ≤ 16 := by rw [List.length_take]; omega
    exact Ev.bnd hr (Ev.pos rfl (Ev.pos (by simp) (Ev.pos (by simp) (Ev.pos (by simp) (Ev.pos (by simp) (Ev.pos (by simp) (Ev.pos (by omega) hi)))))))
theorem iGet_yes {n : Int} {l : List Ar} (h : NetP n l) : Ev (fun k => impl_NetGet.f k (B (npText n l))) (n, l, true) := by
  have h1 := h.lo
  have h2 := h.hi
  have h3 := h.few
  have hd := dec_free (u := n) (by omega) (by omega)
  have hdl := np_dec (u := n.toNat) (by omega)
  have htl := text_len h
  have et : npText n l = [110, 101, 116, 32] ++ (Lib.decDigits n.toNat ++ 10 :: (l.map npLine).flatten) := by rw [text_eq]; simp
  have hw : (Lib.decDigits n.toNat ++ 10 :: (l.map npLine).flatten).length ≤ 247 := by
    rw [et, List.length_append] at htl
    omega
  have hsp : splitS 10 [] (Lib.decDigits n.toNat ++ 10 :: (l.map npLine).flatten) = Lib.decDigits n.toNat :: (l.map lineW ++ [[]]) := by
    rw [splitS_hit 10 _ _ _ hd.1, lines_split l (fun x hx => npOk_of h hx)]
    simp
  have e := iSplit_eq 10 (Lib.decDigits n.toNat ++ 10 :: (l.map npLine).flatten) (by omega)
  rw [hsp] at e
  have hlen : ((Lib.decDigits n.toNat :: (l.map lineW ++ [[]])).map B).length = l.length + 2 := by simp
  have hr := rn_yes (Lib.decDigits n.toNat) (by omega) [n] [Lib.decDigits n.toNat] (splitS_free 32 _ [] hd.2) (by simp) rfl (fun j hj => by
    have : j = 0 := by simp at hj; omega
    subst this
    exact atoi_yes (u := n) (by omega) (by omega)) 1 rfl
  unfold impl_NetGet.f
  have htrim := trim_net (Lib.decDigits n.toNat ++ 10 :: (l.map npLine).flatten)
  rw [← et] at htrim
  refine Ev.bnd0 htrim (Ev.bnd0 e (Ev.pos (by omega) (Ev.bnd hr (Ev.pos rfl (Ev.step (fun k => impl_NetGet.j0.eq_2 _ _ _ _ _) ?_)))))
  have w1 : wrap64 ((((Lib.decDigits n.toNat :: (l.map lineW ++ [[]])).map B).length : Int) - 1) = (l.length : Int) + 1 := by rw [hlen, w64 (by omega) (by omega)]; omega
  have m1 : mx (wrap64 ((((Lib.decDigits n.toNat :: (l.map lineW ++ [[]])).map B).length : Int) - 1)) 1 = (l.length : Int) + 1 := by
    rw [w1]
    unfold mx
    split <;> omega
  rw [m1]
  refine Ev.neg (by rw [hlen]; simp; omega) (Ev.pos (by simp) (Ev.pos (by omega) (Ev.pos (by omega) (Ev.bnd0 rfl ?_))))
  have ey : (((Lib.decDigits n.toNat :: (l.map lineW ++ [[]])).map B).take ((l.length : Int) + 1).toNat).drop 1 = (l.map lineW).map B := by
    rw [show ((l.length : Int) + 1).toNat = l.length + 1 by omega, List.map_cons, List.take_succ_cons, List.drop_succ_cons, List.drop_zero, List.map_append]
    rw [List.take_left' (by simp)]
  rw [ey]
  have := iGet_loop_yes h (B (npText n l)) rfl l.length 0 (by omega) (by omega)
  rw [List.take_zero] at this
  exact this
/-- The program and the reference say the same of every text. -/
theorem get_both (s : ByteArray) (hs : s.size ≤ 4000000000) : (∃ n l, NetP n l ∧ s = B (npText n l) ∧ Ev (fun k => spec_NetGet.f k s) (n, l, true) ∧ Ev (fun k => impl_NetGet.f k s) (n, l, true)) ∨ (Ev (fun k => spec_NetGet.f k s) (0, [], false) ∧ Ev (fun k => impl_NetGet.f k s) (0, [], false)) := by
  by_cases h : ∃ n l, NetP n l ∧ s = B (npText n l)
  · obtain ⟨n, l, hn, rfl⟩ := h
    exact .inl ⟨n, l, hn, rfl, sGet_yes hn, iGet_yes hn⟩
  · have hno : NoNet s := fun n l hn e => h ⟨n, l, hn, e⟩
    exact .inr ⟨sGet_no s hs hno, iGet_no s (by omega) hno⟩
end Go.Proofs.YtppjelkljihdoaaDoor.M
