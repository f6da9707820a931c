/- For every net and two walks: what FnExactWalkJoin asks holds. No condition beyond those that the statement has. -/
import Derived.Test.YtpjmkghmjpbldaaPrintF16
import Derived.Test.YtpjmkghmjpbldaaY
import Derived.Test.YtpjmkghmjpbldaaMArcs
import Derived.Test.YtpjmkghmjpbldaaMInts
import Derived.Test.YtpjmkghmjpbldaaMMark
import Derived.Test.YtpjmkghmjpbldaaMJoin
set_option linter.unusedVariables false
namespace Go.Proofs.Ytpjmkghmjpbldaa.Pure
open Go.RowKit Go.Proofs.Ytpjmkghmjpbldaa.Print Go.Proofs.YtpjmkghmjpbldaaW.PrintWords Go.Proofs.YtpjmkghmjpbldaaW.PrintLast Go.Proofs.YtpjmkghmjpbldaaY Go.Proofs.Ytpjmkghmjpbldaa.M
theorem FnExactWalkJoin : laws_FnExactWalkJoin.Pure := by
  intro n l a b _ hm _ _ _ _ _
  refine Ev.rounds (g := fun k => laws_FnExactWalkJoin.f k n l a b) ?_
  unfold laws_FnExactWalkJoin.f
  refine Ev.ite (fun _ => Ev.now _) (fun ha => Ev.ite (fun _ => Ev.now _) (fun hb => ?_))
  obtain ⟨r, hr, _, hs⟩ := szN_eq n l hm
  refine Ev.bnd0 hr (Ev.ite (fun _ => Ev.now _) (fun hn => ?_))
  have hl : l.length ≤ 1048576 := by omega
  have hl2 : (l.map convA).length ≤ 1000000000000 := by rw [List.length_map]; omega
  have ht := toNet_ev n l (by omega)
  have hta := toI_ev a (by omega)
  have htb := toI_ev b (by omega)
  have hi := iJoin_ev n (l.map convA) a b hl2 (by omega) (by omega)
  have hs := sJoin_ev n (l.map convA) a b hl2 (by omega) (by omega)
  have hlen := joinV_len n (l.map convA) a b
  generalize joinV n (l.map convA) a b = V at hi hs hlen
  obtain ⟨d, q⟩ := V
  have hd : d.length ≤ 20 := hlen
  have he := eqI_ev d (by omega)
  have hne := eqNet_ev n (l.map convA) hl2
  have hmN := markN_ev n 1 (l.map convA) (by omega) (by omega) hl2
  have hlm : (l.map convA).length ≤ 1048576 := by rw [List.length_map]; omega
  have hma := mark_ev (1 + 5 * ((l.map convA).length : Int)) a (by omega) (by omega) (by omega)
  have hmb := mark_ev (1 + 5 * ((l.map convA).length : Int) + (a.length : Int)) b (by omega) (by omega) (by omega)
  have hh := held_ev 1 d.length (by omega) (by omega) (by omega)
  have qq : (q != q) = false := by simp
  refine Ev.bnd ht (Ev.bnd hta (Ev.bnd htb (Ev.bnd hs (Ev.bnd ht (Ev.bnd hta (Ev.bnd htb (Ev.bnd hi (Ev.bnd he (Ev.pos rfl ?_)))))))))
  show Ev (fun k => laws_FnExactWalkJoin.j0 k a b d q a b d q (q != q) n l n (l.map convA)) true
  rw [qq]
  refine Ev.step (fun k => laws_FnExactWalkJoin.j0.eq_2 _ _ _ _ _ _ _ _ _ _ _ _ _ _) (Ev.neg (by simp) (Ev.bnd ht (Ev.bnd hne (Ev.pos rfl (Ev.bnd hta (Ev.bnd (eqI_ev a (by omega)) (Ev.pos rfl (Ev.bnd htb (Ev.bnd (eqI_ev b (by omega)) (Ev.pos rfl (Ev.bnd hmN (Ev.bnd hma (Ev.bnd hmb (Ev.neg (by omega) (Ev.bnd he (Ev.pos rfl ?_))))))))))))))))
  show Ev (fun k => laws_FnExactWalkJoin.j1 k a b d q d (q != q) n l) true
  rw [qq]
  refine Ev.step (fun k => laws_FnExactWalkJoin.j1.eq_2 _ _ _ _ _ _ _ _ _) (Ev.neg (by simp) (Ev.bnd (mark_ev 1 d (by omega) (by omega) (by omega)) (Ev.bnd hh (Ev.neg (by omega) (Ev.pos rfl (Ev.bnd ht (Ev.bnd hta (Ev.bnd htb (Ev.bnd hi (Ev.bnd he (Ev.pos rfl ?_)))))))))))
  show Ev (fun k => laws_FnExactWalkJoin.j2 k (ups 1 d.length) (1 + (d.length : Int)) (q != q)) true
  rw [qq]
  exact Ev.step (fun k => laws_FnExactWalkJoin.j2.eq_2 _ _ _ _) (Ev.neg (by simp) (Ev.bnd hh (Ev.neg (by omega) (Ev.pos rfl (Ev.now _)))))
end Go.Proofs.Ytpjmkghmjpbldaa.Pure
