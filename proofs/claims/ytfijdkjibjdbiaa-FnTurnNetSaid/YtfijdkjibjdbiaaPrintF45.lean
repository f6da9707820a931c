-- Made by this session's own program (wip/patch_print.py, over the kit's print). Lean checks it.
import Derived.Test.YtfijdkjibjdbiaaPrint0
import Derived.Test.YtfijdkjibjdbiaaPrintF36
import Derived.Laws.CopyOwn
namespace Go.Proofs.Ytfijdkjibjdbiaa.Print
open Go.RowKit Go.Proofs.YtfijdkjibjdbiaaW.PrintWords Go.Proofs.YtfijdkjibjdbiaaW.PrintLast Go.Proofs.YtfijdkjibjdbiaaW.PrintMore Go.Proofs.YtfijdkjibjdbiaaX
attribute [local go_sem] max2_int min2_int max_two min_two max_three min_three max_four min_four   -- for this text's walks alone
set_option linter.unusedVariables false
set_option linter.unusedSimpArgs false

/-! ### impl_measure: function 45 -/
/-- The cells of n copies. -/
def rp_81_ (n : Nat) (x : List Value) : List Value := (List.replicate n x).flatten
theorem rp_len81 (n : Nat) (x : List Value) : (rp_81_ n x).length = n * x.length := by
  induction n with
  | zero => simp [rp_81_]
  | succ n ih =>
    unfold rp_81_ at ih ⊢
    rw [List.replicate_succ, List.flatten_cons, List.length_append, ih, Nat.succ_mul]; omega
theorem rp_add81 (a b : Nat) (x : List Value) : rp_81_ (a + b) x = rp_81_ a x ++ rp_81_ b x := by
  unfold rp_81_
  rw [← List.replicate_append_replicate, List.flatten_append]
theorem rp_get81 (n j : Nat) (x : List Value) (h : j < n) : ((rp_81_ n x).drop (j * x.length)).take x.length = x := by
  obtain ⟨m, rfl⟩ : ∃ m, n = j + (m + 1) := ⟨n - j - 1, by omega⟩
  rw [rp_add81, List.drop_append_of_le_length (by rw [rp_len81]; exact Nat.le_refl _), List.drop_of_length_le (by rw [rp_len81]; exact Nat.le_refl _), List.nil_append]
  unfold rp_81_
  rw [List.replicate_succ, List.flatten_cons, List.take_append_of_le_length (Nat.le_refl _), List.take_length]
theorem rp_mem81 (n : Nat) (x : List Value) (v : Value) (h : v ∈ rp_81_ n x) : v ∈ x := by
  obtain ⟨l, h1, h2⟩ := List.mem_flatten.1 h
  rw [(List.mem_replicate.1 h1).2] at h2
  exact h2
/-- 'copy(d, s)' of elements of sz cells each. -/
theorem run_copy_n81 {P : Program} (w : World) (dT sT ty elem : TypeId) {sz : Nat} (g o dLen dCap : Nat) (a : Addr) (sLen sCap : Nat) (cur : Array Value) (t : TypeId) (cs : List Value) (n : Nat)
    (hu : P.underlying dT = some (.slice elem)) (hs : (P.info? elem).map (·.size) = some sz)
    (hg : w.heap[g]? = some (.cells cur t (0, 0))) (hn : n = Nat.min sLen dLen) (hl : cs.length = n * sz)
    (hsrc : ∀ j v, cs[j]? = some v → w.cell? (a.add j) = some v) (hfit : o + cs.length ≤ cur.size) (h1 : ∀ v ∈ cs, v.oneCell' = true) :
    (Builtin.copy_ #[dT, sT] ty #[.slice (some ⟨g, o, none⟩) dLen dCap, .slice (some a) sLen sCap]).run P w =
      .ok (goInt n) (w.setRow g (cur.toList.take o ++ cs ++ cur.toList.drop (o + cs.length)).toArray) := by
  have hl' := run_loadCells_list (P := P) w a cs hsrc
  have hst := run_storeCells_at P g o t cs 0 cur w hg (by simpa using hfit) h1
  cases hq : P.info? elem with
  | none => simp [hq] at hs
  | some i =>
    have hi : i.size = sz := by simpa [hq] using hs
    rw [hl] at hl'
    simp [Builtin.copy_, run_underlying hu, Builtin.lenOf, Builtin.firstCells, sizeOf, typeInfo, hq, hi, ← hn, hl', hst]
theorem wpList_copy_n81 {P : Program} {w : World} {ops : Array Oper} {rest : List Oper} {o : Oper} {a : Act} {Q : Exit → Act → World → Prop} (hgd : o.guard = none) (d s : Operand) (dT sT : TypeId)
    (ho : o.op = .call { callee := .builtin .copy, args := #[d, s], argTypes := #[dT, sT] }) (elem : TypeId) {sz : Nat} (hu : P.underlying dT = some (.slice elem)) (hsz : (P.info? elem).map (·.size) = some sz)
    (g off dLen dCap : Nat) (ad : Addr) (sLen sCap : Nat) (hd : a.eval d = .slice (some ⟨g, off, none⟩) dLen dCap) (hs : a.eval s = .slice (some ad) sLen sCap)
    (cur : List Value) (t : TypeId) (hg : w.heap[g]? = some (.cells cur.toArray t (0, 0))) (cs : List Value) (n : Nat) (hn : n = Nat.min sLen dLen) (hl : cs.length = n * sz)
    (hsrc : ∀ j v, cs[j]? = some v → w.cell? (ad.add j) = some v) (hfit : off + cs.length ≤ cur.length) (h1 : ∀ v ∈ cs, v.oneCell' = true) (B : Nat) (w0 : World) (hb : Below B w0 w) (hBg : B ≤ g)
    (h : ∀ w', w'.heap[g]? = some (.cells (cur.take off ++ cs ++ cur.drop (off + cs.length)).toArray t (0, 0)) → Below B w0 w' → wpList P ops Q rest (a.put o.dst (goInt n)) w') : wpList P ops Q (o :: rest) a w := by
  refine wpList_plain hgd fun K hK => ?_
  have hrun := run_copy_n81 (P := P) w dT sT o.type elem g off dLen dCap ad sLen sCap cur.toArray t cs n hu hsz hg hn hl hsrc (by simpa using hfit) h1
  unfold Oper.wp
  simp [execOp, ho, resolve, invoke, builtin, hd, hs, hrun, Result.andThen]
  exact hK _ _ (h _ (by simpa using setRow_heap w g _ _ t _ hg) (below_setRow hb hBg _))
theorem step_copy_n81 {P : Program} {ops : Array Oper} {o : Oper} {a : Act} {w : World} {K : Act → World → Prop} {Q : Exit → Act → World → Prop} {E : Prop} (hgd : o.guard = none) (d s : Operand) (dT sT : TypeId)
    (ho : o.op = .call { callee := .builtin .copy, args := #[d, s], argTypes := #[dT, sT] }) (elem : TypeId) {sz : Nat} (hu : P.underlying dT = some (.slice elem)) (hsz : (P.info? elem).map (·.size) = some sz)
    (g off dLen dCap : Nat) (ad : Addr) (sLen sCap : Nat) (hd : a.eval d = .slice (some ⟨g, off, none⟩) dLen dCap) (hs : a.eval s = .slice (some ad) sLen sCap)
    (cur : List Value) (t : TypeId) (hg : w.heap[g]? = some (.cells cur.toArray t (0, 0))) (cs : List Value) (n : Nat) (hn : n = Nat.min sLen dLen) (hl : cs.length = n * sz)
    (hsrc : ∀ j v, cs[j]? = some v → w.cell? (ad.add j) = some v) (hfit : off + cs.length ≤ cur.length) (h1 : ∀ v ∈ cs, v.oneCell' = true) (B : Nat) (w0 : World) (hb : Below B w0 w) (hBg : B ≤ g)
    (h : ∀ w', w'.heap[g]? = some (.cells (cur.take off ++ cs ++ cur.drop (off + cs.length)).toArray t (0, 0)) → Below B w0 w' → K (a.put o.dst (goInt n)) w') :
    if Region.wanted o (yielded ops a.tmps) = true then Oper.wp P o a w K Q else E := by
  have hw : Region.wanted o (yielded ops a.tmps) = true := by simp [Region.wanted, hgd]
  rw [if_pos hw]
  have hrun := run_copy_n81 (P := P) w dT sT o.type elem g off dLen dCap ad sLen sCap cur.toArray t cs n hu hsz hg hn hl hsrc (by simpa using hfit) h1
  unfold Oper.wp
  simp [execOp, ho, resolve, invoke, builtin, hd, hs, hrun, Result.andThen]
  exact h _ (by simpa using setRow_heap w g _ _ t _ hg) (below_setRow hb hBg _)
theorem rep_info81 : (Try.prog.info? 81).map (fun i => (i.zero, i.size, i.bytes)) = some (some (.agg #[(.int .i64 0), (.int .i64 0)]), 2, 16) := by kernel_rfl
theorem rep_mul81 : ∀ n : Fin 65, bits_Mul.f 1 ((n.val : Nat) : Int) = some (0, ((n.val : Nat) : Int)) := by decide +kernel
def impl_measure.f (l : List S81) (n : Int) : Option (List S81) := match l with
  | [x] => if 0 ≤ n then (if n ≤ 64 then some (List.replicate n.toNat x) else none) else none
  | _ => none
theorem rep_size81 : (Try.prog.info? 81).map (·.size) = some 2 := by kernel_rfl
theorem rep_open81 {α : Type} {d : Kd α} {e base : Nat} {W : World} {ok : Nat → Prop} {v : Value} {xs : List α} (h : Kd.R d e W base ok v xs) (hp : ∃ b, v.ownBlock = some b) :
    ∃ (g cap : Nat) (cur : List Value), v = .slice (some ⟨g, 0, none⟩) xs.length cap ∧ base ≤ g ∧ W.heap[g]? = some (.cells cur.toArray e (0, 0)) ∧ xs.length ≤ cap ∧ cap ≤ maxLen ∧ cap * d.sz ≤ cur.length := by
  obtain ⟨_, inner, ⟨_, hcase⟩, _⟩ := h
  obtain ⟨g, cap, cur, rfl, hb, hg, h1, h2, h3, _⟩ := hcase.resolve_left (fun h => by obtain ⟨b, hb⟩ := hp; rw [h.1] at hb; simp [Value.ownBlock] at hb)
  exact ⟨g, cap, cur.toList, rfl, hb, by simpa using hg, h1, h2, by simpa using h3⟩
theorem rep_splice81 (cur x : List Value) (k m : Nat) (hk : (k + m) * x.length ≤ cur.length) (ht : cur.take (k * x.length) = rp_81_ k x) : (cur.take (k * x.length) ++ rp_81_ m x ++ cur.drop (k * x.length + (rp_81_ m x).length)).take ((k + m) * x.length) = rp_81_ (k + m) x := by
  rw [ht, ← rp_add81, List.take_append_of_le_length (by rw [rp_len81]; exact Nat.le_refl _), List.take_of_length_le (by rw [rp_len81]; exact Nat.le_refl _)]
theorem rep_splice_len81 (cur x : List Value) (k m : Nat) (hk : (k + m) * x.length ≤ cur.length) (ht : cur.take (k * x.length) = rp_81_ k x) : (cur.take (k * x.length) ++ rp_81_ m x ++ cur.drop (k * x.length + (rp_81_ m x).length)).length = cur.length := by
  rw [Nat.add_mul] at hk
  rw [ht, List.length_append, List.length_append, List.length_drop, rp_len81, rp_len81]
  omega
theorem rep_src81 (cur x : List Value) (k m : Nat) (hm : m ≤ k) (ht : cur.take (k * x.length) = rp_81_ k x) (j : Nat) (v : Value) (h : (rp_81_ m x)[j]? = some v) : cur[j]? = some v := by
  have hj : j < (rp_81_ m x).length := (List.getElem?_eq_some_iff.1 h).1
  obtain ⟨n, rfl⟩ : ∃ n, k = m + n := ⟨k - m, by omega⟩
  have h2 : (cur.take ((m + n) * x.length))[j]? = some v := by rw [ht, rp_add81, List.getElem?_append_left hj]; exact h
  have h3 : j < (m + n) * x.length := by rw [rp_len81] at hj; rw [Nat.add_mul]; omega
  rwa [List.getElem?_take_of_lt h3] at h2
theorem rep_close81 {α : Type} {d : Kd α} {e base g cap N : Nat} {W : World} {x : α} {cx cur : List Value} (hM : ∀ (W : World) (b : Nat) (ok : Nat → Prop), d.M W b ok x cx) (hl : cx.length = d.sz) (hgb : base ≤ g) (hg : W.heap[g]? = some (.cells cur.toArray e (0, 0)))
    (h1 : N ≤ cap) (h2 : cap ≤ maxLen) (hc : cap * d.sz ≤ cur.length) (ht : cur.take (N * cx.length) = rp_81_ N cx) : Kd.R d e W base (fun _ => True) (.slice (some ⟨g, 0, none⟩) N cap) (List.replicate N x) := by
  refine ⟨fun _ _ => trivial, rp_81_ N cx, ⟨by rw [List.length_replicate, rp_len81, hl], .inr ⟨g, cap, cur.toArray, by rw [List.length_replicate], hgb, hg, by rw [List.length_replicate]; exact h1, h2, by simpa using hc, ?_⟩⟩, by rw [List.length_replicate, rp_len81, hl], fun j p hp => ?_⟩
  · rw [List.length_replicate, ← hl]; simpa using ht
  · have hj : j < N := by have := (List.getElem?_eq_some_iff.1 hp).1; rwa [List.length_replicate] at this
    rw [List.getElem?_replicate, if_pos hj] at hp
    obtain rfl := Option.some.inj hp
    rw [← hl, rp_get81 N j cx hj]
    exact hM _ _ _
set_option maxHeartbeats 4000000 in
theorem rep_go81 (A : Option Addr) (c : Nat) (x : S81) (N : Nat) (h1 : 1 ≤ N) (h2 : N ≤ 64) (w : World) (hr : Kd.C k81 w A 1 [x]) (hc : 1 ≤ c) :
    Calls Try.prog 45 #[.slice A 1 c, .int .i64 (N : Int)] w fun e w' => ∃ v0_ : Value, e = .returned (v0_) ∧ Kd.R k81 81 w' w.heap.size (fun _ => True) v0_ (List.replicate N x) ∧ Below w.heap.size w w' := by
  obtain ⟨_, _, hcells⟩ := hr
  obtain ⟨ad, rfl, hc0⟩ := hcells (by omega)
  obtain ⟨cx, hlen, hK, hcell0⟩ := hc0 0 x rfl
  have hcell : ∀ i u, cx[i]? = some u → w.cell? (ad.add i) = some u := fun i u h => by have := hcell0 i u h; rwa [Nat.zero_mul, Nat.zero_add] at this
  clear hcells hc0 hcell0
  have hone : ∀ v ∈ cx, v.oneCell' = true := fun v hv => Kd.K_one k81 hK v hv
  have hM : ∀ (W : World) (b : Nat) (ok : Nat → Prop), Kd.M k81 W b ok x cx := by intro W b ok; obtain rfl := k81_open hK; exact k81_mkM _ _ _ _
  clear hK
  have hmul := rep_mul81 ⟨N, by omega⟩
  simp only at hmul
  have HM := Aside0.mk hM
  have HC := Aside0.mk hcell
  have HO := Aside0.mk hone
  have HU := Aside0.mk hmul
  have hlen' : cx.length = 2 := hlen
  have HL := Aside0.mk hlen'
  clear hM hcell hone hmul hlen hlen'
  have hwN : IntKind.u64.wrap (N : Int) = (N : Int) := by rw [IntKind.wrap_u64]; omega
  have hwN2 : IntKind.i64.wrap (N : Int) = (N : Int) := by rw [i64_w]; unfold wrap64; omega
  have hpos : ¬ (N : Int) < 0 := by omega
  have hmax : ¬ (N : Int) > 9223372036854775807 := by omega
  have HB0 := Aside0.mk (Below.refl w.heap.size w)
  go_enter Try.func45, Try.ntmps45
  go_wp2_with (first | (go_at_call 36; refine (bits_Mul.calls 1 (N : Int) 0 (N : Int) _ HU.out).mono ?_; rintro e w' ⟨rfl, ⟨nd, rfl⟩⟩) | ((with_reducible refine gate_dst (N := 30) rfl ?_); refine Kd.R_make k81 (w0 := w) w.heap.size 81 rfl (N := 30) rfl 68 _ _ rfl (N : Int) rfl rfl Try.underlying68 (.agg #[(.int .i64 0), (.int .i64 0)]) 16 rep_info81 rfl (by decide) (by omega) z81 (ok := fun _ => True) (okp := fun _ => True) (k81_mkM _ _ _ _) (fun _ hk => hk) trivial (by omega) (by omega) (ne_ HB0.out) (Nat.le_refl _) ?_; intro v1 w7 ho8 hb _ hgb_; have hrep := rep_open81 ho8 (by obtain ⟨b_, hb_, _⟩ := hgb_; exact ⟨b_, hb_⟩); clear ho8 hgb_; simp only [List.length_replicate, Int.toNat_natCast] at hrep; obtain ⟨g, cap, cur, rfl, hgb, hg, hcap, hcmax, hcur⟩ := hrep; have HG := Aside0.mk hg; have HB := Aside0.mk hb; have HCU := Aside0.mk hcur; have HGB := Aside0.mk hgb; clear hg hb hcur hgb) | ((with_reducible refine gate_dst (N := 33) rfl ?_); refine wpList_copy_n81 rfl (.tmp 31) (.tmp 32) 68 68 rfl 81 Try.underlying68 rep_size81 g 0 N cap ad 1 c rfl rfl cur 81 HG.out cx 1 (Nat.min_eq_left h1).symm (by rw [HL.out]) (fun j v h => (HB.out.cell (World.block_lt_of_cell? w _ (HC.out j v h))).trans (HC.out j v h)) (by rw [HL.out]; refine Nat.le_trans ?_ HCU.out; show 0 + 2 ≤ cap * 2; omega) HO.out w.heap.size w HB.out HGB.out ?_; intro w8 hg8 hb8; have HG8 := Aside0.mk hg8; have HB8 := Aside0.mk hb8; clear hg8 hb8))
  go_loopg [8] N (fun gg s8 wr => ∃ (kk : Nat) (cr : List Value), 1 ≤ kk ∧ kk ≤ N ∧ N - kk ≤ gg ∧ s8 = .int .i64 (kk : Int) ∧ Aside0 (wr.heap[g]? = some (.cells cr.toArray 81 (0, 0))) ∧ Aside0 (cap * 2 ≤ cr.length) ∧ Aside0 (cr.take (kk * cx.length) = rp_81_ kk cx) ∧ Aside0 (Below w.heap.size w wr))
  case atStart =>
    refine ⟨1, _, Nat.le_refl _, h1, by omega, rfl, HG8, ⟨?_⟩, ⟨?_⟩, HB8⟩
    · have := HL.out; have := HCU.out; simp only [List.length_append, List.length_take, List.length_drop]; change cap * 2 ≤ cur.length at this; omega
    · simp [rp_81_]
  case round =>
    clear HG8 HB8 HG HB HCU
    obtain ⟨kk, cr, hk1, hkN, hgg, rfl, HG, HC', HT', HB⟩ := hrel
    by_cases hlt : kk < N
    · have hltz : (kk : Int) < (N : Int) := by omega
      have hcutA : ∀ W : World, (Instr.slice 68 (.slice (some ⟨g, 0, none⟩) N cap) (some (.int .i64 (kk : Int))) none none).run Try.prog W = .ok (.slice (some ⟨g, kk * 2, none⟩) (N - kk) (cap - kk)) W := by
        obtain ⟨i0, hi0, _, hsz, _⟩ := info_parts rep_info81
        intro W
        rw [cut_from 68 81 .i64 Try.underlying68 hi0 2 hsz (some ⟨g, 0, none⟩) N cap (kk : Int) (by omega) (by omega) W]
        rw [if_neg (by rw [Int.toNat_natCast]; omega)]
        simp [Addr.add]; omega
      have hcutB : ∀ W : World, (Instr.slice 68 (.slice (some ⟨g, 0, none⟩) N cap) none (some (.int .i64 (kk : Int))) none).run Try.prog W = .ok (.slice (some ⟨g, 0, none⟩) kk cap) W := by
        obtain ⟨i0, hi0, _, hsz, _⟩ := info_parts rep_info81
        intro W
        rw [cut_to 68 81 .i64 Try.underlying68 hi0 (some ⟨g, 0, none⟩) N cap (kk : Int) (by omega) (by omega) (by omega) W]
        rw [Int.toNat_natCast]
      go_upto_region 9 with (fail)
      have HG9 := Aside0.mk (blk_drew HG.out)
      have HB9 := Aside0.mk (below_drew1 HB.out)
      clear HG HB
      refine start_ (n := 10) (S := fun _ => True) (ds := []) #[false, false, false, false, false, false, false, false, false, false] (by kernel_rfl) rfl rfl trivial (fun _ => ?_)
      refine with_tab (T := rtab .any (opsOf Try.f45 9)) rfl (fun HT_ => ?_)
      generalize wr.drew = w9 at HG9 HB9 ⊢
      refine pu_ 0 38 #[true, false, false, false, false, false, false, false, false, false] HT_.out ?_
      refine pu_ 1 39 #[true, true, false, false, false, false, false, false, false, false] HT_.out ?_
      refine pu_ 2 40 #[true, true, true, false, false, false, false, false, false, false] HT_.out ?_
      refine pu_ 4 42 #[true, true, true, false, true, false, false, false, false, false] HT_.out ?_
      refine pu_ 5 43 #[true, true, true, false, true, true, false, false, false, false] HT_.out ?_
      refine pu_ 3 41 #[true, true, true, true, true, true, false, false, false, false] HT_.out ?_
      refine pu_ 6 44 #[true, true, true, true, true, true, true, false, false, false] HT_.out ?_
      obtain ⟨m, hm⟩ : ∃ m, m = min kk (N - kk) := ⟨_, rfl⟩
      have hm1 : 1 ≤ m := by omega
      have hm2 : m ≤ kk := by omega
      have hm3 : kk + m ≤ N := by omega
      have Hm := Aside0.mk hm
      clear hm
      have hfit : (kk + m) * cx.length ≤ cr.length := by
        refine Nat.le_trans ?_ HC'.out
        rw [HL.out]
        exact Nat.mul_le_mul_right _ (by omega)
      refine one_ (i := 7) (N := some 45) #[true, true, true, true, true, true, true, true, false, false] rfl rfl (one_of HT_.out (by kernel_rfl)) (by decide) (fun K hK => ?_)
      refine step_copy_n81 rfl (.tmp 41) (.tmp 44) 68 68 rfl 81 Try.underlying68 rep_size81 g (kk * 2) (N - kk) (cap - kk) ⟨g, 0, none⟩ kk cap rfl rfl cr 81 HG9.out (rp_81_ m cx) m Hm.out (by rw [rp_len81, HL.out])
        (fun j v h => ?_) (by rw [rp_len81, HL.out]; rw [HL.out, Nat.add_mul] at hfit; first | exact hfit | omega) (fun v hv => HO.out v (rp_mem81 m cx v hv)) w.heap.size w HB9.out HGB.out ?_
      · have h3 := rep_src81 cr cx kk m hm2 HT'.out j v h
        have h4 : (⟨g, 0, none⟩ : Addr).add j = ⟨g, j, none⟩ := by simp [Addr.add]; omega
        rw [h4, blk_cell HG9.out]
        simpa using h3
      intro w10 hg10 hb10
      have hT2 := rep_splice81 cr cx kk m hfit HT'.out
      have hL2 := rep_splice_len81 cr cx kk m hfit HT'.out
      rw [show (kk * 2) = kk * cx.length by rw [HL.out]; try omega] at hg10
      generalize hcr2 : cr.take (kk * cx.length) ++ rp_81_ m cx ++ cr.drop (kk * cx.length + (rp_81_ m cx).length) = cr2 at hg10 hT2 hL2
      have HG10 := Aside0.mk hg10
      have HB10 := Aside0.mk hb10
      have HT2 := Aside0.mk hT2
      have HL2 := Aside0.mk (show cap * 2 ≤ cr2.length from by rw [hL2]; exact HC'.out)
      clear hg10 hb10 hT2 hL2 hcr2 HG9 HB9 hfit
      refine hK.out _ _ trivial (fun _ => ?_)
      clear hK K
      refine norm_ (a' := ?_) ?_ ?_
      rotate_left
      · show Act.put _ (some 45) _ = _
        simp only [Act.put, List.setIfInBounds_toArray, List.set_cons_zero, List.set_cons_succ, i64_w, i32_w]
        rfl
      refine pu_ 8 46 #[true, true, true, true, true, true, true, true, true, false] HT_.out ?_
      refine pu_ 9 8 #[true, true, true, true, true, true, true, true, true, true] HT_.out ?_
      refine done_ (done_of HT_.out (by kernel_rfl)) ?_
      try go_wp2
      go_roundg (N - (kk + m))
      case measure => omega
      case rel => exact ⟨kk + m, cr2, by omega, hm3, by omega, by show Value.int .i64 (wrap64 ((kk : Int) + (m : Int))) = _; rw [show wrap64 ((kk : Int) + (m : Int)) = ((kk + m : Nat) : Int) by unfold wrap64; omega], HG10, HL2, HT2, HB10⟩
    · have hltz : ¬ (kk : Int) < (N : Int) := by omega
      obtain rfl : kk = N := by omega
      go_wp2
      go_ret
      exact ⟨_, rfl, rep_close81 HM.out HL.out HGB.out HG.out hcap hcmax HC'.out HT'.out, HB.out⟩
set_option maxHeartbeats 4000000 in
theorem rep_none81 (A : Option Addr) (c : Nat) (x : S81) (N : Nat) (h1 : N = 0) (h2 : N ≤ 64) (w : World) (hr : Kd.C k81 w A 1 [x]) (hc : 1 ≤ c) :
    Calls Try.prog 45 #[.slice A 1 c, .int .i64 (N : Int)] w fun e w' => ∃ v0_ : Value, e = .returned (v0_) ∧ Kd.R k81 81 w' w.heap.size (fun _ => True) v0_ ([] : List S81) ∧ Below w.heap.size w w' := by
  obtain ⟨_, _, hcells⟩ := hr
  obtain ⟨ad, rfl, hc0⟩ := hcells (by omega)
  obtain ⟨cx, hlen, hK, hcell0⟩ := hc0 0 x rfl
  have hcell : ∀ i u, cx[i]? = some u → w.cell? (ad.add i) = some u := fun i u h => by have := hcell0 i u h; rwa [Nat.zero_mul, Nat.zero_add] at this
  clear hcells hc0 hcell0
  have hone : ∀ v ∈ cx, v.oneCell' = true := fun v hv => Kd.K_one k81 hK v hv
  have hM : ∀ (W : World) (b : Nat) (ok : Nat → Prop), Kd.M k81 W b ok x cx := by intro W b ok; obtain rfl := k81_open hK; exact k81_mkM _ _ _ _
  clear hK
  have hmul := rep_mul81 ⟨N, by omega⟩
  simp only at hmul
  have HM := Aside0.mk hM
  have HC := Aside0.mk hcell
  have HO := Aside0.mk hone
  have HU := Aside0.mk hmul
  have hlen' : cx.length = 2 := hlen
  have HL := Aside0.mk hlen'
  clear hM hcell hone hmul hlen hlen'
  have hwN : IntKind.u64.wrap (N : Int) = (N : Int) := by rw [IntKind.wrap_u64]; omega
  have hwN2 : IntKind.i64.wrap (N : Int) = (N : Int) := by rw [i64_w]; unfold wrap64; omega
  have hpos : ¬ (N : Int) < 0 := by omega
  have hmax : ¬ (N : Int) > 9223372036854775807 := by omega
  have HB0 := Aside0.mk (Below.refl w.heap.size w)
  have H1 := Aside0.mk h1
  clear h1
  go_enter Try.func45, Try.ntmps45
  go_wp2_with (first | (go_at_call 36; refine (bits_Mul.calls 1 (N : Int) 0 (N : Int) _ HU.out).mono ?_; rintro e w' ⟨rfl, ⟨nd, rfl⟩⟩) | ((with_reducible refine gate_dst (N := 30) rfl ?_); refine Kd.R_make k81 (w0 := w) w.heap.size 81 rfl (N := 30) rfl 68 _ _ rfl (N : Int) rfl rfl Try.underlying68 (.agg #[(.int .i64 0), (.int .i64 0)]) 16 rep_info81 rfl (by decide) (by omega) z81 (ok := fun _ => True) (okp := fun _ => True) (k81_mkM _ _ _ _) (fun _ hk => hk) trivial (by omega) (by omega) (ne_ HB0.out) (Nat.le_refl _) ?_; intro v1 w7 ho8 hb _ hgb_; have hrep := rep_open81 ho8 (by obtain ⟨b_, hb_, _⟩ := hgb_; exact ⟨b_, hb_⟩); clear ho8 hgb_; simp only [List.length_replicate, Int.toNat_natCast] at hrep; obtain ⟨g, cap, cur, rfl, hgb, hg, hcap, hcmax, hcur⟩ := hrep; have HG := Aside0.mk hg; have HB := Aside0.mk hb; have HCU := Aside0.mk hcur; have HGB := Aside0.mk hgb; clear hg hb hcur hgb) | ((with_reducible refine gate_dst (N := 33) rfl ?_); refine wpList_copy_n81 rfl (.tmp 31) (.tmp 32) 68 68 rfl 81 Try.underlying68 rep_size81 g 0 N cap ad 1 c rfl rfl cur 81 HG.out [] 0 (by rw [H1.out]; rfl) (by simp) (fun j v h => by simp at h) (by simp) (fun v hv => by simp at hv) w.heap.size w HB.out HGB.out ?_; intro w8 hg8 hb8; have HG8 := Aside0.mk hg8; have HB8 := Aside0.mk hb8; clear hg8 hb8))
  go_loopg [8] N (fun gg s8 wr => ∃ (cr : List Value), s8 = .int .i64 0 ∧ Aside0 (wr.heap[g]? = some (.cells cr.toArray 81 (0, 0))) ∧ Aside0 (cap * 2 ≤ cr.length) ∧ Aside0 (Below w.heap.size w wr))
  case atStart =>
    refine ⟨_, rfl, HG8, ⟨?_⟩, HB8⟩
    have := HCU.out; simp only [List.length_append, List.length_take, List.length_drop, List.length_nil]; change cap * 2 ≤ cur.length at this; omega
  case round =>
    clear HG8 HB8 HG HB HCU
    obtain ⟨cr, rfl, HG, HC', HB⟩ := hrel
    have hltz : ¬ (0 : Int) < (N : Int) := by have := H1.out; omega
    go_wp2
    go_ret
    have hfin := rep_close81 (N := N) HM.out HL.out HGB.out HG.out hcap hcmax HC'.out (by rw [H1.out, Nat.zero_mul]; rfl)
    rw [H1.out] at hfin
    rw [H1.out]
    exact ⟨_, rfl, hfin, HB.out⟩
theorem impl_measure.calls (A0 : Option Addr) (c0 : Nat) (l0 : List S81) (a1 : Int) (r : List S81) (w : World) (hr0 : Kd.C k81 w A0 l0.length l0) (hc0 : l0.length ≤ c0) (h : impl_measure.f l0 a1 = some r) :
    Calls Try.prog 45 #[.slice A0 l0.length c0, .int .i64 a1] w fun e w' => ∃ v0_ : Value, e = .returned (v0_) ∧ Kd.R k81 81 w' w.heap.size (fun _ => True) v0_ r ∧ Below w.heap.size w w' := by
  unfold impl_measure.f at h
  split at h
  · rename_i x
    split at h
    · split at h
      · rename_i h1 h2
        obtain rfl := Option.some.inj h
        obtain ⟨N, rfl⟩ := Int.eq_ofNat_of_zero_le (show 0 ≤ a1 by omega)
        rw [Int.toNat_natCast]
        by_cases h0 : N = 0
        · have h3 := rep_none81 A0 c0 x N h0 (by omega) w hr0 hc0
          subst h0
          exact h3
        · exact rep_go81 A0 c0 x N (by omega) (by omega) w hr0 hc0
      · cases h
    · cases h
  · cases h

end Go.Proofs.Ytfijdkjibjdbiaa.Print
