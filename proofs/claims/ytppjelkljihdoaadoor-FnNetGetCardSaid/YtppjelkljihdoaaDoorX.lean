/- Words of this session's own, beside the print's: a make with a capacity (R_make0), a slice clipped to its length (clip_run). -/
import Derived.Test.YtppjelkljihdoaaDoorWWords
import Derived.Tactics
set_option linter.unusedVariables false
set_option linter.unusedSimpArgs false
namespace Go.Proofs.YtppjelkljihdoaaDoorX
open Go.RowKit Go.Proofs.YtppjelkljihdoaaDoorW.PrintWords Go.Proofs.YtppjelkljihdoaaDoorW.PrintLast Go.Proofs.YtppjelkljihdoaaDoorW.PrintMore
namespace Kd
open Go.Proofs.YtppjelkljihdoaaDoorW.PrintWords.Kd
section
variable {P : Program} {ops : Array Oper} {rest : List Oper} {o : Oper} {a : Act} {Q : Exit → Act → World → Prop} {α : Type}
/-- 'make([]T, 0, n)'. -/
theorem R_make0 (d : Kd α) {w0 W : World} (base e : Nat) (hgd : o.guard = none) {N : Tmp} (_hd : o.dst = some N) (t : TypeId) (x y : Operand) (ho : o.op = .makeSlice t x y) (n : Int) (hx : a.eval x = .int .i64 0) (hy : a.eval y = .int .i64 n)
    (ht : P.underlying t = some (.slice e)) (z : Value) (bytes : Nat) (hinfo : (P.info? e).map (fun i => (i.zero, i.size, i.bytes)) = some (some z, d.sz, bytes)) (hb0 : 0 < bytes)
    {ok : Nat → Prop} (hfresh : ok W.heap.size) (h0 : 0 ≤ n) (hl : n.toNat * bytes ≤ 281474976710656) (HB : Below base w0 W) (hbase : base ≤ W.heap.size)
    (h : ∀ v1 w1, d.R e w1 base ok v1 [] → Below base w0 w1 → W.grownBy w1 none → (∃ b, v1.ownBlock = some b ∧ W.heap.size ≤ b) → wpList P ops Q rest (a.put o.dst v1) w1) : wpList P ops Q (o :: rest) a W := by
  obtain ⟨m, rfl⟩ := Int.eq_ofNat_of_zero_le h0
  simp only [Int.toNat_natCast] at hl
  obtain ⟨i0, hi, hz0, hz1, hz2⟩ := info_parts hinfo
  have hm : m ≤ 281474976710656 := Nat.le_trans (Nat.le_mul_of_pos_right _ hb0) hl
  refine wpList_make_own W hgd x y t ho base e i0 z d.sz ht hi hz0 hz1 .i64 .i64 (m : Int) m hx hy rfl (by rw [hz2, Nat.mul_comm]; exact hl) (by simp only [maxLen]; omega) hbase ?_
  intro w' hown hg
  refine h _ w' ⟨fun k hk => ?_, [], ownsR.of hown, Reps.none _ _⟩ (HB.grown hg hbase (fun k hk => by cases hk)) hg ⟨W.heap.size, by simp [Value.ownBlock], Nat.le_refl _⟩
  have : W.heap.size = k := by simpa [Value.ownBlock] using hk
  subst this
  exact hfresh
theorem R_make0_step {Kc : Act → World → Prop} (d : Kd α) {w0 W : World} (base e : Nat) (hw : Region.wanted o (yielded ops a.tmps) = true) {N : Tmp} (_hd : o.dst = some N) (t : TypeId) (x y : Operand) (ho : o.op = .makeSlice t x y) (n : Int) (hx : a.eval x = .int .i64 0) (hy : a.eval y = .int .i64 n)
    (ht : P.underlying t = some (.slice e)) (z : Value) (bytes : Nat) (hinfo : (P.info? e).map (fun i => (i.zero, i.size, i.bytes)) = some (some z, d.sz, bytes)) (hb0 : 0 < bytes)
    {ok : Nat → Prop} (hfresh : ok W.heap.size) (h0 : 0 ≤ n) (hl : n.toNat * bytes ≤ 281474976710656) (HB : Below base w0 W) (hbase : base ≤ W.heap.size)
    (h : ∀ v1 w1, d.R e w1 base ok v1 [] → Below base w0 w1 → W.grownBy w1 none → (∃ b, v1.ownBlock = some b ∧ W.heap.size ≤ b) → Kc (a.put o.dst v1) w1) : if Region.wanted o (yielded ops a.tmps) = true then Oper.wp P o a W Kc Q else Kc (a.put o.dst undef) W := by
  obtain ⟨m, rfl⟩ := Int.eq_ofNat_of_zero_le h0
  simp only [Int.toNat_natCast] at hl
  obtain ⟨i0, hi, hz0, hz1, hz2⟩ := info_parts hinfo
  have hm : m ≤ 281474976710656 := Nat.le_trans (Nat.le_mul_of_pos_right _ hb0) hl
  obtain ⟨w', hrun, hown, hg⟩ := run_make_own (P := P) W base t e i0 z d.sz ht hi hz0 hz1 .i64 .i64 m (by rw [hz2, Nat.mul_comm]; exact hl) (by simp only [maxLen]; omega) hbase
  refine event_step hw (by simp [execOp, ho, hx, hy, hrun]) (h _ w' ⟨fun k hk => ?_, [], ownsR.of hown, Reps.none _ _⟩ (HB.grown hg hbase (fun k hk => by cases hk)) hg ⟨W.heap.size, by simp [Value.ownBlock], Nat.le_refl _⟩)
  have : W.heap.size = k := by simpa [Value.ownBlock] using hk
  subst this
  exact hfresh
end
/-- A row of plain elements is not the row that another one is apart from. -/
theorem R_apart_back {α β : Type} {d : Kd α} {D : Kd β} {e1 e2 : Nat} {w : World} {b1 b2 : Nat} {ok1 ok2 : Nat → Prop} {v1 v2 : Value} {xs : List α} {ys : List β} (hd : ∀ (W : World) (b : Nat) (ok ok' : Nat → Prop) (x : α) (c : List Value), d.M W b ok x c → d.M W b ok' x c)
    (h1 : d.R e1 w b1 ok1 v1 xs) (h2 : D.R e2 w b2 ok2 v2 ys) (h : ∀ k, ok2 k → some k ≠ v1.ownBlock) : d.R e1 w b1 (fun k => some k ≠ v2.ownBlock) v1 xs :=
  ⟨fun k hk e => h k (h2.1 k e.symm) hk.symm, h1.2.imp_ (fun _ _ hp => hd _ _ _ _ _ _ hp)⟩
/-- 's[:len(s):len(s)]' is the row once more. -/
theorem R_clip {α : Type} {d : Kd α} {e n c base : Nat} {w : World} {ok : Nat → Prop} {A : Option Addr} {xs : List α} (h : d.R e w base ok (.slice A n c) xs) (hn : n = xs.length) : d.R e w base ok (.slice A n n) xs := by
  subst hn
  obtain ⟨h0, inner, ho, hr⟩ := h
  have e1 : (Value.slice A xs.length xs.length).ownBlock = (Value.slice A xs.length c).ownBlock := by cases A <;> rfl
  refine ⟨fun k hk => h0 k (by rw [← e1]; exact hk), inner, ho.clip, ?_⟩
  rw [e1]
  exact hr
/-- The type of a row's block, as it stands now. -/
theorem R_typ {α : Type} {d : Kd α} {e g n c base : Nat} {w : World} {ok : Nat → Prop} {xs : List α} (h : d.R e w base ok (.slice (some ⟨g, 0, none⟩) n c) xs) (hp : 0 < xs.length) : ∃ cells, w.heap[g]? = some (.cells cells e (0, 0)) := by
  obtain ⟨g', cap, e1, _, _, cells, hc⟩ := R_form h hp
  have e2 : g = g' := by injection e1 with e2; injection e2 with e3; injection e3
  subst e2
  exact ⟨cells, hc⟩
end Kd
section
variable {P : Program}
/-- 's[:len(s):len(s)]'. -/
theorem clip_run (t e : TypeId) {i : TypeInfo} (ht : P.underlying t = some (.slice e)) (hi : P.info? e = some i) (A : Option Addr) (n c : Nat) (hc : n ≤ c) :
    ∀ W : World, (Instr.slice t (.slice A n c) none (some (.int .i64 (n : Int))) (some (.int .i64 (n : Int)))).run P W = .ok (.slice A n n) W := by
  intro W
  have hel : P.elem t = e := by simp [Program.elem, ht]
  have hu : P.underlying t = some (.slice (P.elem t)) := by rw [hel]; exact ht
  have ha : (A.map fun x => x.add 0) = A := by cases A <;> simp [Addr.add]
  rw [run_slice_any W t A n c hu, hel]
  have h0 : (0 : Int) ≤ (n : Int) := by omega
  have h1 : (n : Int) ≤ (c : Int) := by omega
  simp [Instr.sliceBounds, run_sliceBound, sizeOf, typeInfo, hi, sliced, Result.andThen, ha, h0, h1]
end
/-- A store keeps which cells there are. -/
theorem isSome_set (w : World) (a b : Addr) (v : Value) : ((w.setCell b v).cell? a).isSome = (w.cell? a).isSome := by
  simp only [World.setCell, World.cell?, Array.getElem?_modify]
  by_cases h : b.block = a.block
  · rw [if_pos h]
    cases w.heap[a.block]? with
    | none => rfl
    | some o =>
      cases o <;> simp only [Option.map_some]
      rename_i c e f
      by_cases hs : a.spot.isSome = true
      · simp [hs]
      · by_cases hb : b.spot.isSome = true
        · simp [hb]
        · simp [hs, hb, Array.getElem?_setIfInBounds]
          split
          · split <;> simp_all
          · rfl
  · rw [if_neg h]
/-! Steps that are written often: what stands at an elder world, said at the one that stands now. -/
theorem nb_ {p q : Prop} (h : p) (e : p → q := by intro h_; (with_reducible repeat (first | refine blk_drewN ?_ _ | refine blk_drew ?_ | refine blk_alloc ?_ _)); exact h_) : q := e h
theorem nbf_ {p q : Prop} (h : p) (e : p → q := by intro h_; (repeat (first | (with_reducible first | refine blk_drewN ?_ _ | refine blk_drew ?_ | refine blk_alloc ?_ _) | refine blk_far ?_ (Aside0.out (by with_reducible assumption)) _)); exact h_) : q := e h
theorem nr_ {p q : Prop} (h : p) (e : p → q := by intro h_; (with_reducible repeat (first | apply Kd.R_alloc | apply Kd.R_drewN | apply Kd.R_drew)); exact h_) : q := e h
theorem ne_ {B : Nat} {w W W' : World} (h : Below B w W) (e : Below B w W → Below B w W' := by intro h_; repeat (first | (with_reducible first | exact h_ | apply below_alloc | apply pw_below_drewN | apply below_drew1 | refine below_set ?_ (Aside0.out (by with_reducible assumption))) | exact h_)) : Below B w W' := e h
theorem nk_ {w W W' : World} {g : Nat} {row : Option Nat} (h : KeepBut w W g row) (e : KeepBut w W g row → KeepBut w W' g row := by intro h_; repeat (first | (with_reducible first | exact h_ | apply KeepBut.set_ | apply keep_drewN | apply keep_drew | apply keep_alloc | refine keep_far ?_ (Aside0.out (by with_reducible assumption)) _) | exact h_)) : KeepBut w W' g row := e h
theorem nc_ {p q : Prop} (h : p) (e : p → q := by intro h_; repeat (first | exact h_ | (with_reducible refine Kd.C_alloc ?_ _) | (with_reducible refine Kd.C_drewN ?_ _) | (with_reducible refine Kd.C_drew ?_))) : q := e h
theorem na_ {p : Prop} (h : p := by (try simp only [List.map_toArray, List.map_cons, List.map_nil]); first | done | rfl | (simp only [List.length_drop, List.length_take]; rfl)) : p := h
theorem ns_ {p : Prop} (h : p := by first | rfl | (simp; done) | (simp [*]; done) | (simp [*]; exact Option.some.inj (Eq.trans (Eq.symm (Aside0.out (by assumption))) (Aside0.out (by assumption))))) : p := h
theorem nx_ {p : Prop} (h : p := by first | (with_reducible assumption) | assumption) : p := h
theorem nn_ {p : Prop} (h : p := by simp only [putAll, Act.put, List.setIfInBounds_toArray, List.set_cons_zero, List.set_cons_succ]; first | done | rfl) : p := h
section
variable {P : Program} {ops : Array Oper} {Q : Exit → Act → World → Prop} {md : Region.Mode} {S : World → Prop} {ds : List Nat} {T : Bool × List (List Nat × List Nat)}
/-- An operation that yields in every world. -/
theorem pu_ (i : Nat) (N : Tmp) (l' : Array Bool) {oi : Oper} {v : Value} {fuel : Nat} {l : Array Bool} {a a' : Act} {w : World} (hT : rtab md ops = T) (h : wpAnyLast P md ops Q S ds fuel l' a' w)
    (h0 : anyT T l.toList l'.toList i = true := by kernel_rfl) (hi : ops[i]? = some oi := by rfl) (hN : oi.dst = some N := by rfl) (hQ : ∀ c a w, Q (.panic c) (a.put oi.dst v) w → Q (.panic c) a w := by exact fun _ _ _ h => h)
    (hy : Yields P ops oi v a := by exact Or.inl ⟨by rfl, by intro w'; go_simp; with_reducible rfl⟩) (ha : a.put (some N) v = a' := by simp only [Act.put, List.setIfInBounds_toArray, List.set_cons_zero, List.set_cons_succ, i64_w, i32_w]; rfl) :
    wpAnyLast P md ops Q S ds (fuel + 1) l a w := pure_ l' hi hN (any_of hT h0) hQ hy ha h
/-- An operation that is not wanted. -/
theorem un_ (i : Nat) (N : Tmp) (l' : Array Bool) {oi : Oper} {fuel : Nat} {l : Array Bool} {a a' : Act} {w : World} (hT : rtab md ops = T) (h : wpAnyLast P md ops Q S ds fuel l' a' w)
    (h0 : anyT T l.toList l'.toList i = true := by kernel_rfl) (hi : ops[i]? = some oi := by rfl) (hN : oi.dst = some N := by rfl) (hQ : ∀ c a w, Q (.panic c) (a.put oi.dst undef) w → Q (.panic c) a w := by exact fun _ _ _ h => h)
    (hy : Yields P ops oi undef a := by exact Or.inr ⟨by rfl, rfl⟩) (ha : a.put (some N) undef = a' := by simp only [Act.put, List.setIfInBounds_toArray, List.set_cons_zero, List.set_cons_succ, i64_w, i32_w]; rfl) :
    wpAnyLast P md ops Q S ds (fuel + 1) l a w := pure_ l' hi hN (any_of hT h0) hQ hy ha h
/-- An operation that reads. -/
theorem tk_ (i : Nat) (N : Tmp) (l' : Array Bool) {B : List Nat} {oi : Oper} {v : Value} {fuel : Nat} {l : Array Bool} {a a' : Act} {w : World} (hT : rtab md ops = T) (hB : waitsOk T.2 B = true) (hS : S w) (h : wpAnyLast P md ops Q S ds fuel l' a' w)
    (h0 : takeW T B ds l.toList l'.toList i = true := by kernel_rfl) (hi : ops[i]? = some oi := by rfl) (hN : oi.dst = some N := by rfl) (hQ : ∀ c a w, Q (.panic c) (a.put oi.dst v) w → Q (.panic c) a w := by exact fun _ _ _ h => h)
    (hy : YieldsIf P ops S oi v a := by exact Or.inl ⟨by rfl, by intro w' hS_; repeat (have := hS_.1; replace hS_ := hS_.2); go_simp; with_reducible rfl⟩) (ha : a.put (some N) v = a' := by simp only [Act.put, List.setIfInBounds_toArray, List.set_cons_zero, List.set_cons_succ, i64_w, i32_w]; rfl) :
    wpAnyLast P md ops Q S ds (fuel + 1) l a w := take_ l' hi hN (take_ofW hT hB h0) hQ hy hS ha h
end
/-- A mask by its bits. -/
def bm_ (n x : Nat) : Array Bool := ((List.range n).map fun i => x.testBit i).toArray
theorem ct_ {w : World} {g : Nat} {t : TypeId} {cs : Array Value} (h : w.heap[g]? = some (.cells cs t (0, 0))) (i : Nat) {v : Value} (e : cs[i]? = some v := by rfl) : w.cell? ⟨g, i, none⟩ = some v := (blk_cell h i).trans e
theorem kk_ {w W W' : World} {g g' : Nat} {o : Obj} (h : Aside0 (w.heap[g]? = some o)) (hk : KeepBut W W' g' none) (hn : Aside0 (g ≠ g')) (e : w.heap[g]? = some o → W.heap[g]? = some o := by intro h_; (with_reducible repeat (first | refine blk_drewN ?_ _ | refine blk_drew ?_ | refine blk_alloc ?_ _)); exact h_) : Aside0 (W'.heap[g]? = some o) := ⟨KeepBut.blk hk (e h.out) hn.out (by simp)⟩
/-- A block's number, once more: what cells it has is reckoned at the end. -/
theorem blk_eq_ {W : World} {g t : Nat} {c c' : Array Value} (h : W.heap[g]? = some (.cells c t (0, 0))) (e : c = c') : W.heap[g]? = some (.cells c' t (0, 0)) := e ▸ h
theorem np_ {w W : World} {g t : Nat} {c c' : Array Value} (h : w.heap[g]? = some (.cells c t (0, 0))) (e : w.heap[g]? = some (.cells c t (0, 0)) → W.heap[g]? = some (.cells c' t (0, 0)) := by intro h_; apply blk_eq_; (repeat (first | (with_reducible first | exact h_ | refine blk_drewN ?_ _ | refine blk_drew ?_ | refine blk_alloc ?_ _ | apply blk_set) | (with_reducible apply blk_far; (case hp => exact Aside0.out (by with_reducible assumption))) | exact h_)); (first | rfl | (simp only [List.setIfInBounds_toArray, List.set_cons_zero, List.set_cons_succ]; done))) : W.heap[g]? = some (.cells c' t (0, 0)) := e h
theorem nw_ {p : Prop} (h : p := by first | rfl | (simp [errW_none, errW_some] <;> rfl) | (simp [*, errW_none, errW_some] <;> rfl)) : p := h
theorem lt_alloc {n : Nat} {w : World} (h : n < w.heap.size) (o : Obj) : n < (w.alloc o).heap.size := Nat.lt_of_lt_of_le h (below_alloc (Below.refl w.heap.size w) o).size
theorem lt_set {n : Nat} {w : World} (h : n < w.heap.size) (p : Addr) (u : Value) : n < (w.setCell p u).heap.size := by simpa [World.setCell] using h
theorem lt_drewN {n : Nat} {w : World} (h : n < w.heap.size) (k : Nat) : n < (w.drewN k).heap.size := h
theorem lt_drew {n : Nat} {w : World} (h : n < w.heap.size) : n < w.drew.heap.size := h
theorem nl_ {w W : World} {g g' : Nat} {o : Obj} (h : w.heap[g]? = some o) (hg : g' = W.heap.size) (e : g < w.heap.size → g < W.heap.size := by intro h_; (repeat (with_reducible first | exact h_ | refine lt_drewN ?_ _ | refine lt_drew ?_ | refine lt_alloc ?_ _ | refine lt_set ?_ _ _)); try exact h_) : g ≠ g' := by
  rw [hg]; exact Nat.ne_of_lt (e (blk_lt h))
theorem nm_ {w W : World} {g g' : Nat} {o : Obj} (h : w.heap[g]? = some o) (hg : g' = W.heap.size) (e : g < w.heap.size → g < W.heap.size := by intro h_; (repeat (with_reducible first | exact h_ | refine lt_drewN ?_ _ | refine lt_drew ?_ | refine lt_alloc ?_ _ | refine lt_set ?_ _ _)); try exact h_) : g' ≠ g := by
  rw [hg]; exact Nat.ne_of_gt (e (blk_lt h))
theorem zs_ {w0 W : World} {g : Nat} (hg : g = W.heap.size) (h : Below w0.heap.size w0 W) : w0.heap.size ≤ g := hg ▸ h.size
theorem zk_ {w0 W : World} {g n : Nat} {row : Option Nat} (hg : n = W.heap.size) (h : KeepBut w0 W g row) : w0.heap.size ≤ n := hg ▸ keep_size h
theorem hb_ {w W : World} (h : Below w.heap.size w W) {a : Addr} {v : Value} (hx : w.cell? a = some v) : W.cell? a = some v := (h.cell (World.block_lt_of_cell? w _ hx)).trans hx
theorem kb_ {w W W' : World} {g : Nat} {o : Obj} (h : Aside0 (w.heap[g]? = some o)) (hb : Below W.heap.size W W') (e : w.heap[g]? = some o → W.heap[g]? = some o := by intro h_; (with_reducible repeat (first | refine blk_drewN ?_ _ | refine blk_drew ?_ | refine blk_alloc ?_ _)); exact h_) : Aside0 (W'.heap[g]? = some o) := ⟨blk_below (e h.out) hb⟩
theorem kf_ {w W W' : World} {g : Nat} {o : Obj} (h : Aside0 (w.heap[g]? = some o)) (hb : Below W.heap.size W W') (e : w.heap[g]? = some o → W.heap[g]? = some o := by intro h_; (repeat (first | (with_reducible first | refine blk_drewN ?_ _ | refine blk_drew ?_ | refine blk_alloc ?_ _) | refine blk_far ?_ (Aside0.out (by with_reducible assumption)) _)); exact h_) : Aside0 (W'.heap[g]? = some o) := ⟨blk_below (e h.out) hb⟩
theorem kB_ {w0 w W W' : World} (h : Aside0 (Below w0.heap.size w0 w)) (hb : Below W.heap.size W W') (e : Below w0.heap.size w0 w → Below w0.heap.size w0 W := by intro h_; repeat (first | (with_reducible first | exact h_ | apply below_alloc | apply pw_below_drewN | apply below_drew1 | refine below_set ?_ (Aside0.out (by with_reducible assumption))) | exact h_)) : Aside0 (Below w0.heap.size w0 W') := ⟨below_step (e h.out) hb⟩
theorem kR_ {α : Type} {d : Go.Proofs.YtppjelkljihdoaaDoorW.PrintWords.Kd α} {t b : Nat} {w W W' : World} {ok : Nat → Prop} {v : Value} {xs : List α} (h : Aside0 (d.R t w b ok v xs)) (hb : Below W.heap.size W W') (e : d.R t w b ok v xs → d.R t W b ok v xs := by intro h_; (with_reducible repeat (first | apply Kd.R_alloc | apply Kd.R_drewN | apply Kd.R_drew)); exact h_) : Aside0 (d.R t W' b ok v xs) := ⟨Go.Proofs.YtppjelkljihdoaaDoorW.PrintWords.Kd.R_below (e h.out) hb⟩
theorem cz1_ {w : World} {g t : Nat} {a0 : Value} (h : w.heap[g]? = some (.cells #[a0] t (0, 0))) : w.cell? ⟨g, 0, none⟩ = some a0 ∧ w.frozen? ⟨g, 0, none⟩ = false := ⟨(blk_cell h 0).trans rfl, blk_frozen h 0⟩
theorem cz2_ {w : World} {g t : Nat} {a0 a1 : Value} (h : w.heap[g]? = some (.cells #[a0, a1] t (0, 0))) : w.cell? ⟨g, 0, none⟩ = some a0 ∧ w.cell? ⟨g, 1, none⟩ = some a1 ∧ w.frozen? ⟨g, 0, none⟩ = false ∧ w.frozen? ⟨g, 1, none⟩ = false := ⟨(blk_cell h 0).trans rfl, (blk_cell h 1).trans rfl, blk_frozen h 0, blk_frozen h 1⟩
theorem cz3_ {w : World} {g t : Nat} {a0 a1 a2 : Value} (h : w.heap[g]? = some (.cells #[a0, a1, a2] t (0, 0))) : w.cell? ⟨g, 0, none⟩ = some a0 ∧ w.cell? ⟨g, 1, none⟩ = some a1 ∧ w.cell? ⟨g, 2, none⟩ = some a2 ∧ w.frozen? ⟨g, 0, none⟩ = false ∧ w.frozen? ⟨g, 1, none⟩ = false ∧ w.frozen? ⟨g, 2, none⟩ = false := ⟨(blk_cell h 0).trans rfl, (blk_cell h 1).trans rfl, (blk_cell h 2).trans rfl, blk_frozen h 0, blk_frozen h 1, blk_frozen h 2⟩
theorem cz4_ {w : World} {g t : Nat} {a0 a1 a2 a3 : Value} (h : w.heap[g]? = some (.cells #[a0, a1, a2, a3] t (0, 0))) : w.cell? ⟨g, 0, none⟩ = some a0 ∧ w.cell? ⟨g, 1, none⟩ = some a1 ∧ w.cell? ⟨g, 2, none⟩ = some a2 ∧ w.cell? ⟨g, 3, none⟩ = some a3 ∧ w.frozen? ⟨g, 0, none⟩ = false ∧ w.frozen? ⟨g, 1, none⟩ = false ∧ w.frozen? ⟨g, 2, none⟩ = false ∧ w.frozen? ⟨g, 3, none⟩ = false := ⟨(blk_cell h 0).trans rfl, (blk_cell h 1).trans rfl, (blk_cell h 2).trans rfl, (blk_cell h 3).trans rfl, blk_frozen h 0, blk_frozen h 1, blk_frozen h 2, blk_frozen h 3⟩
theorem cz5_ {w : World} {g t : Nat} {a0 a1 a2 a3 a4 : Value} (h : w.heap[g]? = some (.cells #[a0, a1, a2, a3, a4] t (0, 0))) : w.cell? ⟨g, 0, none⟩ = some a0 ∧ w.cell? ⟨g, 1, none⟩ = some a1 ∧ w.cell? ⟨g, 2, none⟩ = some a2 ∧ w.cell? ⟨g, 3, none⟩ = some a3 ∧ w.cell? ⟨g, 4, none⟩ = some a4 ∧ w.frozen? ⟨g, 0, none⟩ = false ∧ w.frozen? ⟨g, 1, none⟩ = false ∧ w.frozen? ⟨g, 2, none⟩ = false ∧ w.frozen? ⟨g, 3, none⟩ = false ∧ w.frozen? ⟨g, 4, none⟩ = false := ⟨(blk_cell h 0).trans rfl, (blk_cell h 1).trans rfl, (blk_cell h 2).trans rfl, (blk_cell h 3).trans rfl, (blk_cell h 4).trans rfl, blk_frozen h 0, blk_frozen h 1, blk_frozen h 2, blk_frozen h 3, blk_frozen h 4⟩
theorem cz6_ {w : World} {g t : Nat} {a0 a1 a2 a3 a4 a5 : Value} (h : w.heap[g]? = some (.cells #[a0, a1, a2, a3, a4, a5] t (0, 0))) : w.cell? ⟨g, 0, none⟩ = some a0 ∧ w.cell? ⟨g, 1, none⟩ = some a1 ∧ w.cell? ⟨g, 2, none⟩ = some a2 ∧ w.cell? ⟨g, 3, none⟩ = some a3 ∧ w.cell? ⟨g, 4, none⟩ = some a4 ∧ w.cell? ⟨g, 5, none⟩ = some a5 ∧ w.frozen? ⟨g, 0, none⟩ = false ∧ w.frozen? ⟨g, 1, none⟩ = false ∧ w.frozen? ⟨g, 2, none⟩ = false ∧ w.frozen? ⟨g, 3, none⟩ = false ∧ w.frozen? ⟨g, 4, none⟩ = false ∧ w.frozen? ⟨g, 5, none⟩ = false := ⟨(blk_cell h 0).trans rfl, (blk_cell h 1).trans rfl, (blk_cell h 2).trans rfl, (blk_cell h 3).trans rfl, (blk_cell h 4).trans rfl, (blk_cell h 5).trans rfl, blk_frozen h 0, blk_frozen h 1, blk_frozen h 2, blk_frozen h 3, blk_frozen h 4, blk_frozen h 5⟩
theorem sd_ (w : World) (n : Nat) (a : Addr) (v : Value) : (w.drewN n).setCell a v = (w.setCell a v).drewN n := rfl
theorem dc_ (w : World) (n : Nat) (p : Addr) : (w.drewN n).cell? p = w.cell? p := rfl
theorem hy0_ {w : World} (n : Nat) {p : Addr} {v : Value} (h : (w).cell? p = some v) : ((w.drewN n)).cell? p = some v := h
theorem hy1_ {w : World} (n : Nat) {p : Addr} {v : Value} {a0 : Addr} {v0 : Value} (h : ((w.setCell a0 v0)).cell? p = some v) : (((w.drewN n).setCell a0 v0)).cell? p = some v := by simp only [sd_, dc_]; exact h
theorem hy2_ {w : World} (n : Nat) {p : Addr} {v : Value} {a0 : Addr} {v0 : Value} {a1 : Addr} {v1 : Value} (h : (((w.setCell a0 v0).setCell a1 v1)).cell? p = some v) : ((((w.drewN n).setCell a0 v0).setCell a1 v1)).cell? p = some v := by simp only [sd_, dc_]; exact h
theorem hy3_ {w : World} (n : Nat) {p : Addr} {v : Value} {a0 : Addr} {v0 : Value} {a1 : Addr} {v1 : Value} {a2 : Addr} {v2 : Value} (h : ((((w.setCell a0 v0).setCell a1 v1).setCell a2 v2)).cell? p = some v) : (((((w.drewN n).setCell a0 v0).setCell a1 v1).setCell a2 v2)).cell? p = some v := by simp only [sd_, dc_]; exact h
theorem hy4_ {w : World} (n : Nat) {p : Addr} {v : Value} {a0 : Addr} {v0 : Value} {a1 : Addr} {v1 : Value} {a2 : Addr} {v2 : Value} {a3 : Addr} {v3 : Value} (h : (((((w.setCell a0 v0).setCell a1 v1).setCell a2 v2).setCell a3 v3)).cell? p = some v) : ((((((w.drewN n).setCell a0 v0).setCell a1 v1).setCell a2 v2).setCell a3 v3)).cell? p = some v := by simp only [sd_, dc_]; exact h
theorem hy5_ {w : World} (n : Nat) {p : Addr} {v : Value} {a0 : Addr} {v0 : Value} {a1 : Addr} {v1 : Value} {a2 : Addr} {v2 : Value} {a3 : Addr} {v3 : Value} {a4 : Addr} {v4 : Value} (h : ((((((w.setCell a0 v0).setCell a1 v1).setCell a2 v2).setCell a3 v3).setCell a4 v4)).cell? p = some v) : (((((((w.drewN n).setCell a0 v0).setCell a1 v1).setCell a2 v2).setCell a3 v3).setCell a4 v4)).cell? p = some v := by simp only [sd_, dc_]; exact h
theorem hy6_ {w : World} (n : Nat) {p : Addr} {v : Value} {a0 : Addr} {v0 : Value} {a1 : Addr} {v1 : Value} {a2 : Addr} {v2 : Value} {a3 : Addr} {v3 : Value} {a4 : Addr} {v4 : Value} {a5 : Addr} {v5 : Value} (h : (((((((w.setCell a0 v0).setCell a1 v1).setCell a2 v2).setCell a3 v3).setCell a4 v4).setCell a5 v5)).cell? p = some v) : ((((((((w.drewN n).setCell a0 v0).setCell a1 v1).setCell a2 v2).setCell a3 v3).setCell a4 v4).setCell a5 v5)).cell? p = some v := by simp only [sd_, dc_]; exact h
theorem hy7_ {w : World} (n : Nat) {p : Addr} {v : Value} {a0 : Addr} {v0 : Value} {a1 : Addr} {v1 : Value} {a2 : Addr} {v2 : Value} {a3 : Addr} {v3 : Value} {a4 : Addr} {v4 : Value} {a5 : Addr} {v5 : Value} {a6 : Addr} {v6 : Value} (h : ((((((((w.setCell a0 v0).setCell a1 v1).setCell a2 v2).setCell a3 v3).setCell a4 v4).setCell a5 v5).setCell a6 v6)).cell? p = some v) : (((((((((w.drewN n).setCell a0 v0).setCell a1 v1).setCell a2 v2).setCell a3 v3).setCell a4 v4).setCell a5 v5).setCell a6 v6)).cell? p = some v := by simp only [sd_, dc_]; exact h
theorem hy8_ {w : World} (n : Nat) {p : Addr} {v : Value} {a0 : Addr} {v0 : Value} {a1 : Addr} {v1 : Value} {a2 : Addr} {v2 : Value} {a3 : Addr} {v3 : Value} {a4 : Addr} {v4 : Value} {a5 : Addr} {v5 : Value} {a6 : Addr} {v6 : Value} {a7 : Addr} {v7 : Value} (h : (((((((((w.setCell a0 v0).setCell a1 v1).setCell a2 v2).setCell a3 v3).setCell a4 v4).setCell a5 v5).setCell a6 v6).setCell a7 v7)).cell? p = some v) : ((((((((((w.drewN n).setCell a0 v0).setCell a1 v1).setCell a2 v2).setCell a3 v3).setCell a4 v4).setCell a5 v5).setCell a6 v6).setCell a7 v7)).cell? p = some v := by simp only [sd_, dc_]; exact h
theorem hy9_ {w : World} (n : Nat) {p : Addr} {v : Value} {a0 : Addr} {v0 : Value} {a1 : Addr} {v1 : Value} {a2 : Addr} {v2 : Value} {a3 : Addr} {v3 : Value} {a4 : Addr} {v4 : Value} {a5 : Addr} {v5 : Value} {a6 : Addr} {v6 : Value} {a7 : Addr} {v7 : Value} {a8 : Addr} {v8 : Value} (h : ((((((((((w.setCell a0 v0).setCell a1 v1).setCell a2 v2).setCell a3 v3).setCell a4 v4).setCell a5 v5).setCell a6 v6).setCell a7 v7).setCell a8 v8)).cell? p = some v) : (((((((((((w.drewN n).setCell a0 v0).setCell a1 v1).setCell a2 v2).setCell a3 v3).setCell a4 v4).setCell a5 v5).setCell a6 v6).setCell a7 v7).setCell a8 v8)).cell? p = some v := by simp only [sd_, dc_]; exact h
theorem hy10_ {w : World} (n : Nat) {p : Addr} {v : Value} {a0 : Addr} {v0 : Value} {a1 : Addr} {v1 : Value} {a2 : Addr} {v2 : Value} {a3 : Addr} {v3 : Value} {a4 : Addr} {v4 : Value} {a5 : Addr} {v5 : Value} {a6 : Addr} {v6 : Value} {a7 : Addr} {v7 : Value} {a8 : Addr} {v8 : Value} {a9 : Addr} {v9 : Value} (h : (((((((((((w.setCell a0 v0).setCell a1 v1).setCell a2 v2).setCell a3 v3).setCell a4 v4).setCell a5 v5).setCell a6 v6).setCell a7 v7).setCell a8 v8).setCell a9 v9)).cell? p = some v) : ((((((((((((w.drewN n).setCell a0 v0).setCell a1 v1).setCell a2 v2).setCell a3 v3).setCell a4 v4).setCell a5 v5).setCell a6 v6).setCell a7 v7).setCell a8 v8).setCell a9 v9)).cell? p = some v := by simp only [sd_, dc_]; exact h
theorem rf1_ {α : Type} {d : Go.Proofs.YtppjelkljihdoaaDoorW.PrintWords.Kd α} {e : Nat} {w : World} {base g : Nat} {ok : Nat → Prop} {v : Value} {xs : List α} {v0 : Value} (h : d.R e w base (fun k => ok k ∧ k ≠ g) v xs) : d.R e (w.setCell ⟨g, 0, none⟩ v0) base (fun k => ok k ∧ k ≠ g) v xs := Go.Proofs.YtppjelkljihdoaaDoorW.PrintWords.Kd.R_far (p := ⟨g, 0, none⟩) (h) (fun _ hk => hk.2) v0
theorem rf2_ {α : Type} {d : Go.Proofs.YtppjelkljihdoaaDoorW.PrintWords.Kd α} {e : Nat} {w : World} {base g : Nat} {ok : Nat → Prop} {v : Value} {xs : List α} {v0 : Value} {v1 : Value} (h : d.R e w base (fun k => ok k ∧ k ≠ g) v xs) : d.R e ((w.setCell ⟨g, 0, none⟩ v0).setCell ⟨g, 1, none⟩ v1) base (fun k => ok k ∧ k ≠ g) v xs := Go.Proofs.YtppjelkljihdoaaDoorW.PrintWords.Kd.R_far (p := ⟨g, 1, none⟩) (Go.Proofs.YtppjelkljihdoaaDoorW.PrintWords.Kd.R_far (p := ⟨g, 0, none⟩) (h) (fun _ hk => hk.2) v0) (fun _ hk => hk.2) v1
theorem rf3_ {α : Type} {d : Go.Proofs.YtppjelkljihdoaaDoorW.PrintWords.Kd α} {e : Nat} {w : World} {base g : Nat} {ok : Nat → Prop} {v : Value} {xs : List α} {v0 : Value} {v1 : Value} {v2 : Value} (h : d.R e w base (fun k => ok k ∧ k ≠ g) v xs) : d.R e (((w.setCell ⟨g, 0, none⟩ v0).setCell ⟨g, 1, none⟩ v1).setCell ⟨g, 2, none⟩ v2) base (fun k => ok k ∧ k ≠ g) v xs := Go.Proofs.YtppjelkljihdoaaDoorW.PrintWords.Kd.R_far (p := ⟨g, 2, none⟩) (Go.Proofs.YtppjelkljihdoaaDoorW.PrintWords.Kd.R_far (p := ⟨g, 1, none⟩) (Go.Proofs.YtppjelkljihdoaaDoorW.PrintWords.Kd.R_far (p := ⟨g, 0, none⟩) (h) (fun _ hk => hk.2) v0) (fun _ hk => hk.2) v1) (fun _ hk => hk.2) v2
theorem rf4_ {α : Type} {d : Go.Proofs.YtppjelkljihdoaaDoorW.PrintWords.Kd α} {e : Nat} {w : World} {base g : Nat} {ok : Nat → Prop} {v : Value} {xs : List α} {v0 : Value} {v1 : Value} {v2 : Value} {v3 : Value} (h : d.R e w base (fun k => ok k ∧ k ≠ g) v xs) : d.R e ((((w.setCell ⟨g, 0, none⟩ v0).setCell ⟨g, 1, none⟩ v1).setCell ⟨g, 2, none⟩ v2).setCell ⟨g, 3, none⟩ v3) base (fun k => ok k ∧ k ≠ g) v xs := Go.Proofs.YtppjelkljihdoaaDoorW.PrintWords.Kd.R_far (p := ⟨g, 3, none⟩) (Go.Proofs.YtppjelkljihdoaaDoorW.PrintWords.Kd.R_far (p := ⟨g, 2, none⟩) (Go.Proofs.YtppjelkljihdoaaDoorW.PrintWords.Kd.R_far (p := ⟨g, 1, none⟩) (Go.Proofs.YtppjelkljihdoaaDoorW.PrintWords.Kd.R_far (p := ⟨g, 0, none⟩) (h) (fun _ hk => hk.2) v0) (fun _ hk => hk.2) v1) (fun _ hk => hk.2) v2) (fun _ hk => hk.2) v3
theorem rf5_ {α : Type} {d : Go.Proofs.YtppjelkljihdoaaDoorW.PrintWords.Kd α} {e : Nat} {w : World} {base g : Nat} {ok : Nat → Prop} {v : Value} {xs : List α} {v0 : Value} {v1 : Value} {v2 : Value} {v3 : Value} {v4 : Value} (h : d.R e w base (fun k => ok k ∧ k ≠ g) v xs) : d.R e (((((w.setCell ⟨g, 0, none⟩ v0).setCell ⟨g, 1, none⟩ v1).setCell ⟨g, 2, none⟩ v2).setCell ⟨g, 3, none⟩ v3).setCell ⟨g, 4, none⟩ v4) base (fun k => ok k ∧ k ≠ g) v xs := Go.Proofs.YtppjelkljihdoaaDoorW.PrintWords.Kd.R_far (p := ⟨g, 4, none⟩) (Go.Proofs.YtppjelkljihdoaaDoorW.PrintWords.Kd.R_far (p := ⟨g, 3, none⟩) (Go.Proofs.YtppjelkljihdoaaDoorW.PrintWords.Kd.R_far (p := ⟨g, 2, none⟩) (Go.Proofs.YtppjelkljihdoaaDoorW.PrintWords.Kd.R_far (p := ⟨g, 1, none⟩) (Go.Proofs.YtppjelkljihdoaaDoorW.PrintWords.Kd.R_far (p := ⟨g, 0, none⟩) (h) (fun _ hk => hk.2) v0) (fun _ hk => hk.2) v1) (fun _ hk => hk.2) v2) (fun _ hk => hk.2) v3) (fun _ hk => hk.2) v4
theorem rf6_ {α : Type} {d : Go.Proofs.YtppjelkljihdoaaDoorW.PrintWords.Kd α} {e : Nat} {w : World} {base g : Nat} {ok : Nat → Prop} {v : Value} {xs : List α} {v0 : Value} {v1 : Value} {v2 : Value} {v3 : Value} {v4 : Value} {v5 : Value} (h : d.R e w base (fun k => ok k ∧ k ≠ g) v xs) : d.R e ((((((w.setCell ⟨g, 0, none⟩ v0).setCell ⟨g, 1, none⟩ v1).setCell ⟨g, 2, none⟩ v2).setCell ⟨g, 3, none⟩ v3).setCell ⟨g, 4, none⟩ v4).setCell ⟨g, 5, none⟩ v5) base (fun k => ok k ∧ k ≠ g) v xs := Go.Proofs.YtppjelkljihdoaaDoorW.PrintWords.Kd.R_far (p := ⟨g, 5, none⟩) (Go.Proofs.YtppjelkljihdoaaDoorW.PrintWords.Kd.R_far (p := ⟨g, 4, none⟩) (Go.Proofs.YtppjelkljihdoaaDoorW.PrintWords.Kd.R_far (p := ⟨g, 3, none⟩) (Go.Proofs.YtppjelkljihdoaaDoorW.PrintWords.Kd.R_far (p := ⟨g, 2, none⟩) (Go.Proofs.YtppjelkljihdoaaDoorW.PrintWords.Kd.R_far (p := ⟨g, 1, none⟩) (Go.Proofs.YtppjelkljihdoaaDoorW.PrintWords.Kd.R_far (p := ⟨g, 0, none⟩) (h) (fun _ hk => hk.2) v0) (fun _ hk => hk.2) v1) (fun _ hk => hk.2) v2) (fun _ hk => hk.2) v3) (fun _ hk => hk.2) v4) (fun _ hk => hk.2) v5
section
variable {P : Program} {ops : Array Oper} {Q : Exit → Act → World → Prop} {md : Region.Mode} {S : World → Prop} {ds : List Nat}
theorem nm1_ (N : Option Tmp) {v : Value} {fuel : Nat} {l : Array Bool} {a a' : Act} {w : World} (h : wpAnyLast P md ops Q S ds fuel l a' w) (ha : a.put N v = a' := by simp only [Act.put, List.setIfInBounds_toArray, List.set_cons_zero, List.set_cons_succ, i64_w, i32_w]; rfl) : wpAnyLast P md ops Q S ds fuel l (a.put N v) w := norm_ ha h
theorem nm2_ {fuel : Nat} {l : Array Bool} {a a' : Act} {w : World} (h : wpAnyLast P md ops Q S ds fuel l a' w) (ha : a = a' := by simp only [putAll, Act.put, List.setIfInBounds_toArray, List.set_cons_zero, List.set_cons_succ]; rfl) : wpAnyLast P md ops Q S ds fuel l a w := norm_ ha h
theorem go_ {oi : Oper} {N : Option Tmp} {a : Act} {w : World} {K : Act → World → Prop} {f : FuncId} {fn : Func} {as : Array Operand} {ts : Array TypeId} (hf : P.funcs[f]? = some fn) (args : Array Value)
    (h : Calls P f args w fun e w' => ∃ v, e = .returned v ∧ K (a.put N v) w') (hname : (fn.name == "runtime.NumGoroutine") = false := by kernel_rfl) (hb : fn.body.isSome = true := by rfl) (hw : Region.wanted oi (yielded ops a.tmps) = true := by rfl) (hN : oi.dst = N := by rfl) (hop : oi.op = .call { callee := .value (.func f), args := as, argTypes := ts } := by rfl)
    (hargs : as.map a.eval = args := by (try simp only [List.map_toArray, List.map_cons, List.map_nil]); first | done | rfl | (simp only [List.length_drop, List.length_take]; rfl)) : if Region.wanted oi (yielded ops a.tmps) = true then Oper.wp P oi a w K Q else K (a.put N undef) w := goes_ hf hname hb args hw hN hop hargs h
end
section
variable {P : Program} {ops : Array Oper} {rest : List Oper} {o : Oper} {a : Act} {Q : Exit → Act → World → Prop}
theorem bx_ {W : World} (N : Tmp) (cs : Array Value) (t : TypeId)
    (h : ∀ g, g = W.heap.size → ∀ w1, w1.heap[g]? = some (.cells cs t (0, 0)) → Below W.heap.size W w1 → wpList P ops Q rest (a.put o.dst (.pointer (some ⟨g, 0, none⟩))) w1) (hd : o.dst = some N := by rfl) (hg : o.guard = none := by rfl)
    (hrun : (execOp a.eval o).run P W = .ok (.value (.pointer (some ⟨W.heap.size, 0, none⟩))) (W.alloc (.cells cs t (0, 0))) := by first | (go_simp; done) | (go_simp; rfl)) : wpList P ops Q (o :: rest) a W := box_event hg hd hrun h
theorem gl_ {oi : Oper} {w : World} (N : Option Tmp) {f : FuncId} {fn : Func} {as : Array Operand} {ts : Array TypeId} (hf : P.funcs[f]? = some fn) (args : Array Value)
    (h : Calls P f args w fun e w' => ∃ v, e = .returned v ∧ wpList P ops Q rest (a.put N v) w') (hd : oi.dst = N := by rfl) (hg : oi.guard = none := by rfl) (hop : oi.op = .call { callee := .value (.func f), args := as, argTypes := ts } := by rfl) (hname : (fn.name == "runtime.NumGoroutine") = false := by kernel_rfl) (hb : fn.body.isSome = true := by rfl)
    (hargs : as.map a.eval = args := by (try simp only [List.map_toArray, List.map_cons, List.map_nil]); first | done | rfl | (simp only [List.length_drop, List.length_take]; rfl)) : wpList P ops Q (oi :: rest) a w := goesL_ N hd hg hf hname hb args hop hargs h
end
section
open Go.Proofs.YtppjelkljihdoaaDoorW.PrintWords
variable {P : Program} {ops : Array Oper} {rest : List Oper} {o : Oper} {a : Act} {Q : Exit → Act → World → Prop} {K : Act → World → Prop} {W : World}
theorem ri_ (w : World) (b : Nat) (ok : Nat → Prop) : ∀ xs : List Int, Reps ((Kd.int .i64).M w b ok) (Kd.int .i64).sz xs (xs.map (Value.int .i64))
  | [] => Reps.none _ _
  | x :: xs => Reps.one (show Kd.M (Kd.int .i64) _ _ _ x [.int .i64 x] from rfl) (ri_ w b ok xs)
/-- A literal row of whole numbers. -/
theorem li_ (N : Tmp) (e : Nat) (xs : List Int) (inner : List Value)
    (h : ∀ v1 w1, (Kd.int .i64).R e w1 W.heap.size (fun _ => True) v1 xs → Below W.heap.size W w1 → W.grownBy w1 none → (∃ b, v1.ownBlock = some b ∧ W.heap.size ≤ b) → wpList P ops Q rest (a.put o.dst v1) w1) (hd : o.dst = some N := by rfl) (hg : o.guard = none := by rfl)
    (hrun : (execOp a.eval o).run P W = .ok (.value (.slice (some ⟨W.heap.size, 0, none⟩) xs.length xs.length)) (W.alloc (.cells inner.toArray e)) := by first | (go_simp; done) | (go_simp; rfl)) (hi : xs.map (Value.int .i64) = inner := by rfl) (hm : xs.length ≤ 9223372036854775807 := by simp) : wpList P ops Q (o :: rest) a W :=
  Kd.R_lit (Kd.int .i64) W.heap.size e hg hd (okp := fun _ => True) hrun (hi ▸ ri_ _ _ _ xs) (fun _ hk => hk) trivial (Below.refl _ _) (Nat.le_refl _) hm h
theorem ls_ (N : Tmp) (e : Nat) (xs : List Int) (inner : List Value)
    (h : ∀ v1 w1, (Kd.int .i64).R e w1 W.heap.size (fun _ => True) v1 xs → Below W.heap.size W w1 → W.grownBy w1 none → (∃ b, v1.ownBlock = some b ∧ W.heap.size ≤ b) → K (a.put o.dst v1) w1) (hd : o.dst = some N := by rfl) (hg : Region.wanted o (yielded ops a.tmps) = true := by rfl)
    (hrun : (execOp a.eval o).run P W = .ok (.value (.slice (some ⟨W.heap.size, 0, none⟩) xs.length xs.length)) (W.alloc (.cells inner.toArray e)) := by first | (go_simp; done) | (go_simp; rfl)) (hi : xs.map (Value.int .i64) = inner := by rfl) (hm : xs.length ≤ 9223372036854775807 := by simp) : if Region.wanted o (yielded ops a.tmps) = true then Oper.wp P o a W K Q else K (a.put o.dst undef) W :=
  Kd.R_lit_step (Kd.int .i64) W.heap.size e hg hd (okp := fun _ => True) hrun (hi ▸ ri_ _ _ _ xs) (fun _ hk => hk) trivial (Below.refl _ _) (Nat.le_refl _) hm h
theorem bs_ (N : Tmp) (cs : Array Value) (t : TypeId)
    (h : ∀ g, g = W.heap.size → ∀ w1, w1.heap[g]? = some (.cells cs t (0, 0)) → Below W.heap.size W w1 → K (a.put o.dst (.pointer (some ⟨g, 0, none⟩))) w1) (hd : o.dst = some N := by rfl) (hg : Region.wanted o (yielded ops a.tmps) = true := by rfl)
    (hrun : (execOp a.eval o).run P W = .ok (.value (.pointer (some ⟨W.heap.size, 0, none⟩))) (W.alloc (.cells cs t (0, 0))) := by first | (go_simp; done) | (go_simp; rfl)) : if Region.wanted o (yielded ops a.tmps) = true then Oper.wp P o a W K Q else K (a.put o.dst undef) W := box_step hg hd hrun h
end
/-- A cell of a row that is none of what is appended to. -/
theorem cg_ {W w1 : World} {row : Option Nat} {a : Addr} {v : Value} {b : Nat} (hg : W.grownBy w1 row) (h : W.cell? a = some v) (hne : some b ≠ row) (ha : a.block = b := by first | exact add_block _ _ | rfl) : w1.cell? a = some v := cell_grown hg h (ha ▸ hne)
theorem cgu_ {W w1 : World} {o : Obj} {row : Option Nat} {a : Addr} {v : Value} {b : Nat} (hg : W.grownBy w1 row) (h : (W.alloc o).cell? a = some v) (hlt : b < W.heap.size) (hne : some b ≠ row) (ha : a.block = b := by first | exact add_block _ _ | rfl) : w1.cell? a = some v := cell_grown hg ((World.cell?_alloc_lt _ _ _ (ha ▸ hlt)).symm.trans h) (ha ▸ hne)
theorem rlt_ {α : Type} {d : Go.Proofs.YtppjelkljihdoaaDoorW.PrintWords.Kd α} {e base : Nat} {ok : Nat → Prop} {W : World} {u : Value} {xs : List α} (h : Go.Proofs.YtppjelkljihdoaaDoorW.PrintWords.Kd.R d e W base ok u xs) {k : Nat} (hk : u.ownBlock = some k) : k < W.heap.size := ((Go.Proofs.YtppjelkljihdoaaDoorW.PrintWords.Kd.R_bound h).1 k hk).2.2.1
/-- .. told by what the row that is appended to is none of. -/
theorem cga_ {W w1 : World} {u : Value} {a : Addr} {v : Value} {b : Nat} {ok : Nat → Prop} (hg : W.grownBy w1 u.ownBlock) (h : W.cell? a = some v) (ho : ∀ k, u.ownBlock = some k → ok k) (ha : a.block = b := by first | exact add_block _ _ | rfl) (hn : ∀ k, ok k → k ≠ b := by intro k h e; subst e; first | exact h.2 rfl | exact h.1.2 rfl | exact h.1.1 rfl | exact h.2.1 rfl | exact h.2.2 rfl | exact h.1.1.2 rfl | exact h rfl) : w1.cell? a = some v := cell_grown hg h (fun e => hn b (ho b (by rw [← e, ha])) rfl)
/-- A row of another type is none of what is appended to. -/
theorem ry_ {α β : Type} {d : Go.Proofs.YtppjelkljihdoaaDoorW.PrintWords.Kd α} {d' : Go.Proofs.YtppjelkljihdoaaDoorW.PrintWords.Kd β} {e e' base base' : Nat} {ok ok' : Nat → Prop} {W w1 : World} {u v : Value} {xs : List α} {ys : List β} (hg : W.grownBy w1 v.ownBlock) (h : Go.Proofs.YtppjelkljihdoaaDoorW.PrintWords.Kd.R d e W base ok u xs) (hz : Go.Proofs.YtppjelkljihdoaaDoorW.PrintWords.Kd.R d' e' W base' ok' v ys) (ht : ∀ q, q ∈ e :: d.E → q ≠ e') {k : Nat} (hk : u.ownBlock = some k) : some k ≠ v.ownBlock :=
  ((Go.Proofs.YtppjelkljihdoaaDoorW.PrintWords.Kd.R_apart' h (Go.Proofs.YtppjelkljihdoaaDoorW.PrintWords.Kd.R_typed hz) ht).1 k hk).2
end Go.Proofs.YtppjelkljihdoaaDoorX
