-- Made by this session's own program (wip/patch_print.py, over the kit's print). Lean checks it.
import Derived.Test.YtppjelkljihdoaaDoorPrint0
import Derived.Test.YtppjelkljihdoaaDoorV
import Derived.Test.YtppjelkljihdoaaDoorSh
import Derived.Shelf.Strings.OnBuilder
namespace Go.Proofs.YtppjelkljihdoaaDoor.Print
open Go.RowKit Go.Proofs.YtppjelkljihdoaaDoorW.PrintWords Go.Proofs.YtppjelkljihdoaaDoorW.PrintLast Go.Proofs.YtppjelkljihdoaaDoorW.PrintMore Go.Proofs.YtppjelkljihdoaaDoorX
attribute [local go_sem] max2_int min2_int max_two min_two max_three min_three max_four min_four   -- for this text's walks alone
set_option linter.unusedVariables false
set_option linter.unusedSimpArgs false

/-! ### strings_Join: function 51 -/
/-- strings.Join. -/
def strings_Join.f (l0 : List ByteArray) (a1 : ByteArray) : Option ByteArray := if (Lib.join (l0.map (·.data.toList)) a1.data.toList).length ≤ 140737488355328 then (if l0.length ≤ 140737488355328 then some ⟨(Lib.join (l0.map (·.data.toList)) a1.data.toList).toArray⟩ else none) else none
theorem strings_Join.calls (A0 : Option Addr) (c0 : Nat) (l0 : List ByteArray) (a1 : ByteArray) (r : ByteArray) (w : World) (hr0 : Kd.C Kd.string w A0 l0.length l0) (hc0 : l0.length ≤ c0) (h : strings_Join.f l0 a1 = some r) :
    Calls Tryd.prog 51 #[.slice A0 l0.length c0, .string a1] w fun e w' => e = .returned (.string r) ∧ Below w.heap.size w w' := by
  unfold strings_Join.f at h
  split at h
  · rename_i h1
    split at h
    · rename_i h2
      obtain rfl := Option.some.inj h
      rcases Nat.eq_zero_or_pos l0.length with h0 | h0
      · obtain rfl := List.eq_nil_of_length_eq_zero h0
        refine (Tryd.strings_Join_none A0 c0 a1 w).mono ?_
        rintro e w' ⟨rfl, rfl⟩
        exact ⟨rfl, Below.refl _ _⟩
      · obtain ⟨ad, rfl, hc⟩ := hr0.2.2 h0
        have hcell : ∀ (j : Nat) x, l0[j]? = some x → w.cell? (ad.add j) = some (.string x) := fun j x hj => by
          obtain ⟨c, hl, hk, hcc⟩ := hc j x hj
          have hk' : c = [.string x] := hk
          subst hk'
          have := hcc 0 (.string x) rfl
          simpa [Kd.string, Kd.scalar] using this
        obtain ⟨bk, o, sp⟩ := ad
        have hz := hcell 0 _ (List.getElem?_eq_getElem h0)
        have hsp : sp = none := by simpa [Addr.add] using World.cell?_spot hz
        subst hsp
        have hlt : bk < w.heap.size := by simpa [Addr.add] using World.block_lt_of_cell? w _ hz
        refine (Tryd.strings_Join bk o c0 l0 a1 w (fun j x hj => ?_) hlt h2 hc0 h1).mono ?_
        · have := hcell j x hj
          have e1 : (⟨bk, o, none⟩ : Addr).add j = ⟨bk, o + j, none⟩ := by unfold Addr.add; split <;> simp_all
          rwa [e1] at this
        · rintro e w' ⟨rfl, hb⟩
          exact ⟨rfl, hb⟩
    · cases h
  · cases h

end Go.Proofs.YtppjelkljihdoaaDoor.Print
