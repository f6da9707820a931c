/- What the library's variables must hold when a text is read: internal/bytealg.MaxLen an int, strconv.ErrSyntax and ErrRange an error or none. It stays so over whatever leaves what lay below as it was. -/
import Derived.Test.YtppjelkljihdoaaDoorX
import Derived.Below
import Derived.Deep.Draws
set_option linter.unusedVariables false
set_option linter.unusedSimpArgs false
namespace Go.Proofs.YtppjelkljihdoaaDoorX
open Go.RowKit Go.Proofs.YtppjelkljihdoaaDoorW.PrintWords Go.Proofs.YtppjelkljihdoaaDoorW.PrintLast Go.Proofs.YtppjelkljihdoaaDoorW.PrintMore
def IsErr (v : Value) : Prop := v = .nilIface ∨ ∃ te pe, v = .iface te pe
def VarsOk (w : World) : Prop := (∃ m, w.cell? ⟨1, 0, none⟩ = some (.int .i64 m)) ∧ (∃ v, w.cell? ⟨2, 0, none⟩ = some v ∧ IsErr v) ∧ (∃ v, w.cell? ⟨3, 0, none⟩ = some v ∧ IsErr v)
theorem VarsOk.of {w W : World} (h : VarsOk w) (hb : Below w.heap.size w W) : VarsOk W := by
  obtain ⟨⟨m, h1⟩, ⟨v, h2, h3⟩, ⟨u, h4, h5⟩⟩ := h
  exact ⟨⟨m, (hb.cell (World.block_lt_of_cell? w _ h1)).trans h1⟩, ⟨v, (hb.cell (World.block_lt_of_cell? w _ h2)).trans h2, h3⟩, ⟨u, (hb.cell (World.block_lt_of_cell? w _ h4)).trans h4, h5⟩⟩
theorem vof_ {w W : World} (h : Aside0 (VarsOk w)) (hb : Below w.heap.size w W) : Aside0 (VarsOk W) := ⟨h.out.of hb⟩
end Go.Proofs.YtppjelkljihdoaaDoorX
