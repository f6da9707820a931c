/- Plain words on numbers, lists and rounds. -/
import Derived.Test.YtppjelkljihdoaaDoorWWords
set_option linter.unusedVariables false
set_option linter.unusedSimpArgs false
namespace Go.Proofs.YtppjelkljihdoaaDoorY
open Go.RowKit Go.Proofs.YtppjelkljihdoaaDoorW.PrintWords
theorem w64 {x : Int} (h0 : -9223372036854775808 ≤ x) (h1 : x ≤ 9223372036854775807) : wrap64 x = x := by unfold wrap64; omega
section
variable {α β : Type} {c : Prop} [Decidable c] {f g : Nat → Option α} {r : α}
theorem Ev.pos (h : c) (e : Ev f r) : Ev (fun k => if c then f k else g k) r := Ev.congr (fun k => if_pos h) e
theorem Ev.neg (h : ¬ c) (e : Ev g r) : Ev (fun k => if c then f k else g k) r := Ev.congr (fun k => if_neg h) e
theorem Ev.ite (h1 : c → Ev f r) (h2 : ¬ c → Ev g r) : Ev (fun k => if c then f k else g k) r := by
  by_cases h : c
  · exact Ev.pos h (h1 h)
  · exact Ev.neg h (h2 h)
theorem Ev.bnd {g : Nat → Option α} {f : Nat → α → Option β} {a : α} {r : β} (h : Ev g a) (k : Ev (fun n => f n a) r) : Ev (fun n => (g n).bind (fun x => f n x)) r := Ev.bind h k
theorem Ev.bnd0 {a : α} {f : Nat → α → Option β} {r : β} {o : Option α} (h : o = some a) (k : Ev (fun n => f n a) r) : Ev (fun n => o.bind (fun x => f n x)) r := Ev.bind (g := fun _ => o) ⟨0, fun _ _ => h⟩ k
theorem Ev.now' {a : α} (h : a = r) : Ev (fun _ => some a) r := h ▸ Ev.now a
theorem Ev.to {a : α} (e : Ev f a) (h : a = r) : Ev f r := h ▸ e
theorem Ev.uniq {a b : α} (h : Ev f a) (k : Ev f b) : a = b := by
  obtain ⟨K, h⟩ := h
  obtain ⟨K', k⟩ := k
  exact Option.some.inj ((h (max K K') (by omega)).symm.trans (k (max K K') (by omega)))
end
end Go.Proofs.YtppjelkljihdoaaDoorY
