/- What a net is written as: the reference's l1Dec, l1Put, NetPut. -/
import Derived.Test.YtppjelkljihdoaaDoorY
import Derived.Test.YtppjelkljihdoaaDoorMNet
import Derived.Test.YtppjelkljihdoaaDoorPrintF10
import Derived.Test.YtppjelkljihdoaaDoorPrintF28
import Derived.Test.YtppjelkljihdoaaDoorPrintF53
import Derived.Test.YtppjelkljihdoaaDoorPrintF8
import Derived.Test.YtppjelkljihdoaaDoorPrintF9
set_option linter.unusedVariables false
set_option linter.unusedSimpArgs false
namespace Go.Proofs.YtppjelkljihdoaaDoor.M
open Go.RowKit Go.Proofs.YtppjelkljihdoaaDoor.Print Go.Proofs.YtppjelkljihdoaaDoorW.PrintWords Go.Proofs.YtppjelkljihdoaaDoorW.PrintLast Go.Proofs.YtppjelkljihdoaaDoorY
/-- A text of these bytes. -/
def B (l : List UInt8) : ByteArray := ⟨l.toArray⟩
theorem B_size (l : List UInt8) : (B l).size = l.length := by simp [B, ByteArray.size]
theorem B_app (a b : List UInt8) : B a ++ B b = B (a ++ b) := by apply ByteArray.ext; simp [B, ByteArray.data_append]
theorem B_data (s : ByteArray) : B s.data.toList = s := by cases s; rfl
theorem B_list (l : List UInt8) : (B l).data.toList = l := rfl
theorem tl_loop (s : ByteArray) (d : Nat) : ∀ (i : Nat) (r : List UInt8), i ≤ s.size → s.size - i = d → ByteArray.toList.loop s i r = r.reverse ++ s.data.toList.drop i := by
  induction d with
  | zero =>
    intro i r hi hd
    rw [ByteArray.toList.loop, if_neg (by omega)]
    have h : s.data.toList.length ≤ i := by
      have : s.data.toList.length = s.size := by cases s; simp [ByteArray.size]
      omega
    rw [List.drop_eq_nil_of_le h]; simp
  | succ d ih =>
    intro i r hi hd
    have h : i < s.data.toList.length := by
      have : s.data.toList.length = s.size := by cases s; simp [ByteArray.size]
      omega
    rw [ByteArray.toList.loop, if_pos (by omega), ih (i + 1) _ (by omega) (by omega), List.drop_eq_getElem_cons h]
    have e : s.get! i = s.data.toList[i] := by
      cases s with
      | mk a => simp [ByteArray.get!] at h ⊢; exact getElem!_pos a i h
    rw [e]
    simp
theorem tl_eq (s : ByteArray) : s.toList = s.data.toList := by
  unfold ByteArray.toList
  rw [tl_loop s s.size 0 [] (by omega) (by omega)]
  simp
theorem B_toList (l : List UInt8) : (B l).toList = l := by rw [tl_eq]; rfl
theorem toList_iff {a b : ByteArray} : a.toList = b.toList ↔ a = b := by
  rw [tl_eq, tl_eq]
  exact ⟨fun h => by rw [← B_data a, ← B_data b, h], fun h => by rw [h]⟩
theorem B_inj {a b : List UInt8} (h : B a = B b) : a = b := by have := congrArg (·.data.toList) h; simpa [B] using this
theorem B_sp : (⟨#[32]⟩ : ByteArray) = B [32] := rfl
theorem B_nl : (⟨#[10]⟩ : ByteArray) = B [10] := rfl
theorem B_net : (⟨#[110, 101, 116, 32]⟩ : ByteArray) = B [110, 101, 116, 32] := rfl
/-- The numeral of 0 to 99. -/
def dec2 (u : Nat) : List UInt8 := if u < 10 then [UInt8.ofNat (48 + u)] else [UInt8.ofNat (48 + u / 10), UInt8.ofNat (48 + u % 10)]
theorem dec2_eq {u : Nat} (h : u < 100) : Lib.decDigits u = dec2 u := by
  rw [Lib.decDigits]
  unfold dec2
  split
  · rfl
  · rw [Lib.decDigits, dif_pos (by omega)]; rfl
theorem sDec_fin : ∀ u : Fin 100, spec_l1Dec.f 3 (u.val : Int) = some (B (dec2 u.val)) := by decide +kernel
theorem sDec_ev {u : Int} (h0 : 0 ≤ u) (h1 : u < 100) : Ev (fun k => spec_l1Dec.f k u) (B (Lib.decDigits u.toNat)) := by
  obtain ⟨n, rfl⟩ := Int.eq_ofNat_of_zero_le h0
  rw [Int.toNat_natCast, dec2_eq (by omega)]
  exact Ev.of (fun k => spec_l1Dec.mono _ k) (sDec_fin ⟨n, by omega⟩)
theorem npOk_of {n : Int} {l : List Ar} (h : NetP n l) {x : Ar} (hx : x ∈ l) : NpOk x := by
  have := h.arc x hx
  have := h.hi
  refine ⟨?_, ?_, ?_, ?_, ?_⟩ <;> omega
theorem npLine_eq (x : Ar) : npLine x = Lib.decDigits x.f0.toNat ++ [32] ++ Lib.decDigits x.f1.toNat ++ [32] ++ Lib.decDigits x.f2.toNat ++ [32] ++ Lib.decDigits x.f3.toNat ++ [32] ++ Lib.decDigits x.f4.toNat ++ [10] := by
  simp [npLine, npWords, Lib.join, List.intercalate]
theorem sPut_loop (n : Int) (l : List Ar) (hl : l.length ≤ 1000) (hok : ∀ x ∈ l, NpOk x) (d : Nat) : ∀ (i : Nat) (t : List UInt8), i ≤ l.length → l.length - i = d → t.length + 15 * d ≤ 1000000 →
    Ev (fun k => spec_l1Put.l0 k (B t) (i : Int) n l) (B (t ++ ((l.drop i).map npLine).flatten)) := by
  induction d with
  | zero =>
    intro i t hi hd _
    refine Ev.step (fun k => spec_l1Put.l0.eq_2 _ _ _ _ _) (Ev.neg (by omega) (Ev.now' ?_))
    rw [List.drop_eq_nil_of_le (by omega)]
    simp
  | succ d ih =>
    intro i t hi hd hsz
    refine Ev.step (fun k => spec_l1Put.l0.eq_2 _ _ _ _ _) (Ev.pos (by omega) (Ev.pos (by omega) ?_))
    have hx : NpOk (l.getD i arz) := hok _ (by rw [getDA l i (by omega)]; exact List.getElem_mem _)
    rw [rdA, nxt i (by omega), dropA l i (by omega), List.map_cons, List.flatten_cons, npLine_eq]
    generalize l.getD i arz = x at hx
    obtain ⟨⟨a0, b0⟩, ⟨a1, b1⟩, ⟨a2, b2⟩, ⟨a3, b3⟩, a4, b4⟩ := hx
    have e0 := sDec_ev a0 b0
    have e1 := sDec_ev a1 b1
    have e2 := sDec_ev a2 b2
    have e3 := sDec_ev a3 b3
    have e4 := sDec_ev a4 b4
    have g0 := np_dec (u := x.f0.toNat) (by omega)
    have g1 := np_dec (u := x.f1.toNat) (by omega)
    have g2 := np_dec (u := x.f2.toNat) (by omega)
    have g3 := np_dec (u := x.f3.toNat) (by omega)
    have g4 := np_dec (u := x.f4.toNat) (by omega)
    generalize Lib.decDigits x.f0.toNat = d0 at e0 g0 ⊢
    generalize Lib.decDigits x.f1.toNat = d1 at e1 g1 ⊢
    generalize Lib.decDigits x.f2.toNat = d2 at e2 g2 ⊢
    generalize Lib.decDigits x.f3.toNat = d3 at e3 g3 ⊢
    generalize Lib.decDigits x.f4.toNat = d4 at e4 g4 ⊢
    simp only [B_sp, B_nl]
    refine Ev.bnd e0 (Ev.pos ?_ (Ev.pos ?_ (Ev.bnd e1 (Ev.pos ?_ (Ev.pos ?_ (Ev.bnd e2 (Ev.pos ?_ (Ev.pos ?_ (Ev.bnd e3 (Ev.pos ?_ (Ev.pos ?_ (Ev.bnd e4 (Ev.pos ?_ (Ev.pos ?_ ?_))))))))))))))
    all_goals simp only [B_app, B_size, List.length_append, List.length_cons, List.length_nil]
    all_goals try omega
    have := ih (i + 1) (t ++ d0 ++ [32] ++ d1 ++ [32] ++ d2 ++ [32] ++ d3 ++ [32] ++ d4 ++ [10]) (by omega) (by omega) (by simp only [List.length_append, List.length_cons, List.length_nil]; omega)
    refine Ev.to this ?_
    congr 1
    simp only [List.append_assoc]
theorem sPut_ev {n : Int} {l : List Ar} (h : NetP n l) : Ev (fun k => spec_l1Put.f k n l) (B (npText n l)) := by
  have h1 := h.lo
  have h2 := h.hi
  have h3 := h.few
  have e := sDec_ev (u := n) (by omega) (by omega)
  have g := np_dec (u := n.toNat) (by omega)
  unfold spec_l1Put.f npText npHead
  generalize Lib.decDigits n.toNat = d0 at e g ⊢
  simp only [B_sp, B_nl, B_net]
  refine Ev.bnd e (Ev.pos ?_ (Ev.pos ?_ ?_))
  · rw [B_size]; omega
  · simp only [B_app, B_size, List.length_append, List.length_cons, List.length_nil]; omega
  · simp only [B_app]
    have := sPut_loop n l (by omega) (fun x hx => npOk_of h hx) l.length 0 ([110, 101, 116, 32] ++ d0 ++ [10]) (by omega) (by omega) (by simp only [List.length_append, List.length_cons, List.length_nil]; omega)
    rwa [List.drop_zero] at this
/-- What NetPut gives. -/
def putV (n : Int) (l : List Ar) : ByteArray := if netOkB n l = true then B (npText n l) else B []
theorem sNetPut_ev (n : Int) (l : List Ar) (hl : l.length ≤ 1000000000000) : Ev (fun k => spec_NetPut.f k n l) (putV n l) := by
  unfold spec_NetPut.f putV
  refine Ev.bnd (sok1_ev n l hl) ?_
  by_cases h : netOkB n l = true
  · rw [if_pos h]; exact Ev.pos h (Ev.bnd (sPut_ev (netP_of h)) (Ev.now _))
  · rw [if_neg h]; exact Ev.neg h (Ev.now _)
theorem iNetPut_eq (n : Int) (l : List Ar) : impl_NetPut.f n l = some (putV n l) := by
  unfold impl_NetPut.f putV impl_NetOk.f
  cases netOkB n l <;> rfl
theorem text_len {n : Int} {l : List Ar} (h : NetP n l) : (npText n l).length ≤ 247 := by
  have h1 := np_head h.lo h.hi
  have h2 := np_flat l (fun x hx => npOk_of h hx)
  have h3 := h.few
  unfold npText
  rw [List.length_append]
  omega
theorem text_ne {n : Int} {l : List Ar} : npText n l ≠ [] := by unfold npText npHead; simp
end Go.Proofs.YtppjelkljihdoaaDoor.M
