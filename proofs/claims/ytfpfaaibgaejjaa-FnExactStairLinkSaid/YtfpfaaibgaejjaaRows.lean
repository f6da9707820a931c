/-
  No cell of these rows narrows 'for every input' (looked for: loops, veiled, ifaces, maps, wideKeys, modest, calm, conditions, laid).
  DERIVED. THE GIVEN ROWS OF THIS SEAT. 8 by the template 'for every input the law returns true; each argument reads behind the call as it read before'; 0 by the template 'total and deterministic' (their statements: YtfpfaaibgaejjaaTotals.lean).
  GIVEN WITH THE SEED: the statements are not yours to turn. If you find one false, say at which input.
  Laid BY PROGRAM, IN A SANDBOX (cutbox-rows.mjs): the forced cells as the released guide's own fill.sh prints them over the translation f391e83974cf6bfd… (all of the seat's roots in one cut). By AI agents, Wed Nov 11 2026. No macro, syntax, notation, axiom, sorry.
-/
import Derived.Test.YtfpfaaibgaejjaaChecked
import GoSem.Claim
import GoSem.ClaimJoined
import GoSem.ClaimMapViews
import Derived.JoinedTies
import Derived.KernelRfl
namespace Go.Proofs.Ytfpfaaibgaejjaa
/- THE CELL 'sum', in the pinned program and in every row, IS THE sha256 OF THE DUMP (.gsa) THAT YtfpfaaibgaejjaaProg.lean LOADS. Nothing in Lean hashes anything: it is a label: what it is worth is what the hold of that sum in a sandbox is worth. -/
noncomputable def Try.pinned : Pinned := { name := "ytfpfaaibgaejjaa", sum := "f391e83974cf6bfde6ef3b3b3e0934811807a91acd4fc14a3642bf84cce67fed", checked := Try.checked }
namespace Rows
def none {H : Type} : Left H := { results := [], args := [] }

/-- 'laws.FnExactStairWalk': WHATEVER THE INPUT: true; the input reads as it did. -/
def fnExactStairWalkSpec : ChangeSpec := { name := "fnExactStairWalk", fn := fun _ => fun
  | [d1, d2, d3] => { results := [.lit (.bool true)], args := [d1, d2, d3] }
  | _ => none }
def fnExactStairWalkRow : OpenClaim := { program := "ytfpfaaibgaejjaa", sum := "f391e83974cf6bfde6ef3b3b3e0934811807a91acd4fc14a3642bf84cce67fed", func := "loop.example/waymark/laws.FnExactStairWalk", spec := "fnExactStairWalk", apart := false }
def FnExactStairWalkSaid : Prop := fnExactStairWalkRow.holds Try.pinned (OpenSpec.ofChange fnExactStairWalkSpec)

/-- ITS FALSE NEIGHBOUR: 'it returns false'. Refute it at one input. -/
def fnExactStairWalkWrong : ChangeSpec := { name := "fnExactStairWalk", fn := fun _ => fun
  | [d1, d2, d3] => { results := [.lit (.bool false)], args := [d1, d2, d3] }
  | _ => none }
def FnExactStairWalkWrongFalsely : Prop := fnExactStairWalkRow.holds Try.pinned (OpenSpec.ofChange fnExactStairWalkWrong)

/-- 'laws.FnExactStairOf': WHATEVER THE INPUT: true; the input reads as it did. -/
def fnExactStairOfSpec : ChangeSpec := { name := "fnExactStairOf", fn := fun _ => fun
  | [d] => { results := [.lit (.bool true)], args := [d] }
  | _ => none }
def fnExactStairOfRow : OpenClaim := { program := "ytfpfaaibgaejjaa", sum := "f391e83974cf6bfde6ef3b3b3e0934811807a91acd4fc14a3642bf84cce67fed", func := "loop.example/waymark/laws.FnExactStairOf", spec := "fnExactStairOf", unfollowed := true, recurses := true, apart := false }
def FnExactStairOfSaid : Prop := fnExactStairOfRow.holds Try.pinned (OpenSpec.ofChange fnExactStairOfSpec)

/-- ITS FALSE NEIGHBOUR: 'it returns false'. Refute it at one input. -/
def fnExactStairOfWrong : ChangeSpec := { name := "fnExactStairOf", fn := fun _ => fun
  | [d] => { results := [.lit (.bool false)], args := [d] }
  | _ => none }
def FnExactStairOfWrongFalsely : Prop := fnExactStairOfRow.holds Try.pinned (OpenSpec.ofChange fnExactStairOfWrong)

/-- 'laws.FnStairOf': WHATEVER THE INPUT: true; the input reads as it did. -/
def fnStairOfSpec : ChangeSpec := { name := "fnStairOf", fn := fun _ => fun
  | [d] => { results := [.lit (.bool true)], args := [d] }
  | _ => none }
def fnStairOfRow : OpenClaim := { program := "ytfpfaaibgaejjaa", sum := "f391e83974cf6bfde6ef3b3b3e0934811807a91acd4fc14a3642bf84cce67fed", func := "loop.example/waymark/laws.FnStairOf", spec := "fnStairOf", unfollowed := true, recurses := true, apart := false }
def FnStairOfSaid : Prop := fnStairOfRow.holds Try.pinned (OpenSpec.ofChange fnStairOfSpec)

/-- ITS FALSE NEIGHBOUR: 'it returns false'. Refute it at one input. -/
def fnStairOfWrong : ChangeSpec := { name := "fnStairOf", fn := fun _ => fun
  | [d] => { results := [.lit (.bool false)], args := [d] }
  | _ => none }
def FnStairOfWrongFalsely : Prop := fnStairOfRow.holds Try.pinned (OpenSpec.ofChange fnStairOfWrong)

/-- 'laws.FnStairThree': WHATEVER THE INPUT: true; the input reads as it did. -/
def fnStairThreeSpec : ChangeSpec := { name := "fnStairThree", fn := fun _ => fun
  | [d1, d2] => { results := [.lit (.bool true)], args := [d1, d2] }
  | _ => none }
def fnStairThreeRow : OpenClaim := { program := "ytfpfaaibgaejjaa", sum := "f391e83974cf6bfde6ef3b3b3e0934811807a91acd4fc14a3642bf84cce67fed", func := "loop.example/waymark/laws.FnStairThree", spec := "fnStairThree", unfollowed := true, recurses := true, apart := false }
def FnStairThreeSaid : Prop := fnStairThreeRow.holds Try.pinned (OpenSpec.ofChange fnStairThreeSpec)

/-- ITS FALSE NEIGHBOUR: 'it returns false'. Refute it at one input. -/
def fnStairThreeWrong : ChangeSpec := { name := "fnStairThree", fn := fun _ => fun
  | [d1, d2] => { results := [.lit (.bool false)], args := [d1, d2] }
  | _ => none }
def FnStairThreeWrongFalsely : Prop := fnStairThreeRow.holds Try.pinned (OpenSpec.ofChange fnStairThreeWrong)

/-- 'laws.FnExactStairLink': WHATEVER THE INPUT: true; the input reads as it did. -/
def fnExactStairLinkSpec : ChangeSpec := { name := "fnExactStairLink", fn := fun _ => fun
  | [d1, d2] => { results := [.lit (.bool true)], args := [d1, d2] }
  | _ => none }
def fnExactStairLinkRow : OpenClaim := { program := "ytfpfaaibgaejjaa", sum := "f391e83974cf6bfde6ef3b3b3e0934811807a91acd4fc14a3642bf84cce67fed", func := "loop.example/waymark/laws.FnExactStairLink", spec := "fnExactStairLink", unfollowed := true, recurses := true, apart := false }
def FnExactStairLinkSaid : Prop := fnExactStairLinkRow.holds Try.pinned (OpenSpec.ofChange fnExactStairLinkSpec)

/-- ITS FALSE NEIGHBOUR: 'it returns false'. Refute it at one input. -/
def fnExactStairLinkWrong : ChangeSpec := { name := "fnExactStairLink", fn := fun _ => fun
  | [d1, d2] => { results := [.lit (.bool false)], args := [d1, d2] }
  | _ => none }
def FnExactStairLinkWrongFalsely : Prop := fnExactStairLinkRow.holds Try.pinned (OpenSpec.ofChange fnExactStairLinkWrong)

/-- 'laws.FnStairLink': WHATEVER THE INPUT: true; the input reads as it did. -/
def fnStairLinkSpec : ChangeSpec := { name := "fnStairLink", fn := fun _ => fun
  | [d] => { results := [.lit (.bool true)], args := [d] }
  | _ => none }
def fnStairLinkRow : OpenClaim := { program := "ytfpfaaibgaejjaa", sum := "f391e83974cf6bfde6ef3b3b3e0934811807a91acd4fc14a3642bf84cce67fed", func := "loop.example/waymark/laws.FnStairLink", spec := "fnStairLink", unfollowed := true, recurses := true, apart := false }
def FnStairLinkSaid : Prop := fnStairLinkRow.holds Try.pinned (OpenSpec.ofChange fnStairLinkSpec)

/-- ITS FALSE NEIGHBOUR: 'it returns false'. Refute it at one input. -/
def fnStairLinkWrong : ChangeSpec := { name := "fnStairLink", fn := fun _ => fun
  | [d] => { results := [.lit (.bool false)], args := [d] }
  | _ => none }
def FnStairLinkWrongFalsely : Prop := fnStairLinkRow.holds Try.pinned (OpenSpec.ofChange fnStairLinkWrong)

/-- 'laws.FnExactStairBest': WHATEVER THE INPUT: true; the input reads as it did. -/
def fnExactStairBestSpec : ChangeSpec := { name := "fnExactStairBest", fn := fun _ => fun
  | [d1, d2] => { results := [.lit (.bool true)], args := [d1, d2] }
  | _ => none }
def fnExactStairBestRow : OpenClaim := { program := "ytfpfaaibgaejjaa", sum := "f391e83974cf6bfde6ef3b3b3e0934811807a91acd4fc14a3642bf84cce67fed", func := "loop.example/waymark/laws.FnExactStairBest", spec := "fnExactStairBest", unfollowed := true, recurses := true, apart := false }
def FnExactStairBestSaid : Prop := fnExactStairBestRow.holds Try.pinned (OpenSpec.ofChange fnExactStairBestSpec)

/-- ITS FALSE NEIGHBOUR: 'it returns false'. Refute it at one input. -/
def fnExactStairBestWrong : ChangeSpec := { name := "fnExactStairBest", fn := fun _ => fun
  | [d1, d2] => { results := [.lit (.bool false)], args := [d1, d2] }
  | _ => none }
def FnExactStairBestWrongFalsely : Prop := fnExactStairBestRow.holds Try.pinned (OpenSpec.ofChange fnExactStairBestWrong)

/-- 'laws.FnStairBest': WHATEVER THE INPUT: true; the input reads as it did. -/
def fnStairBestSpec : ChangeSpec := { name := "fnStairBest", fn := fun _ => fun
  | [d] => { results := [.lit (.bool true)], args := [d] }
  | _ => none }
def fnStairBestRow : OpenClaim := { program := "ytfpfaaibgaejjaa", sum := "f391e83974cf6bfde6ef3b3b3e0934811807a91acd4fc14a3642bf84cce67fed", func := "loop.example/waymark/laws.FnStairBest", spec := "fnStairBest", unfollowed := true, recurses := true, apart := false }
def FnStairBestSaid : Prop := fnStairBestRow.holds Try.pinned (OpenSpec.ofChange fnStairBestSpec)

/-- ITS FALSE NEIGHBOUR: 'it returns false'. Refute it at one input. -/
def fnStairBestWrong : ChangeSpec := { name := "fnStairBest", fn := fun _ => fun
  | [d] => { results := [.lit (.bool false)], args := [d] }
  | _ => none }
def FnStairBestWrongFalsely : Prop := fnStairBestRow.holds Try.pinned (OpenSpec.ofChange fnStairBestWrong)

/- THE SECOND FORM. 'bulk': how many values and letters a reading holds, each counted each time it is reached (what is shared counts as often as it is met; a slice's spare places count too). A statement '..UptoSaid' is the law's where the arguments, and the package variables that the reading takes, are together of bulk at most 1048576: NARROWER than '..Said'. Prove '..Said' where nothing that the law and all that it calls make is longer than what came in: it says more and counts as full. Else prove '..UptoSaid'. A law counts once. -/
mutual
def uptoBulk {H : Type} : DataW H → Nat
  | .lit (.string bytes) => bytes.length + 1
  | .lit _ => 1
  | .nil => 1
  | .ptr d => uptoBulk d + 1
  | .slice elems spare => uptoBulkAll elems + uptoBulkAll spare + 1
  | .agg parts => uptoBulkAll parts + 1
  | .iface _ d => uptoBulk d + 1
  | .map entries => uptoBulkEntries entries + 1
  | .held _ => 1
def uptoBulkAll {H : Type} : List (DataW H) → Nat
  | [] => 0
  | d :: r => uptoBulk d + uptoBulkAll r
def uptoBulkEntries {H : Type} : List (Lit × DataW H) → Nat
  | [] => 0
  | x :: r => uptoBulkEntry x + uptoBulkEntries r
def uptoBulkEntry {H : Type} : Lit × DataW H → Nat
  | (.string bytes, d) => bytes.length + uptoBulk d + 1
  | (_, d) => uptoBulk d + 1
 end
def uptoSmall : (H : Type) → List (DataW H) → Bool := fun _ ds => decide (uptoBulkAll ds ≤ 1048576)
def OpenSpec.upto (s : _root_.Go.ChangeSpec) : _root_.Go.OpenSpec := { _root_.Go.OpenSpec.ofChange s with cond := some uptoSmall }

/-- 'laws.FnExactStairWalk', WHERE WHAT IT READS IS OF BULK AT MOST 1048576: true; the input reads as it did. -/
def fnExactStairWalkUptoRow : OpenClaim := { program := "ytfpfaaibgaejjaa", sum := "f391e83974cf6bfde6ef3b3b3e0934811807a91acd4fc14a3642bf84cce67fed", func := "loop.example/waymark/laws.FnExactStairWalk", spec := "fnExactStairWalk", apart := false, narrowed := true }
def FnExactStairWalkUptoSaid : Prop := fnExactStairWalkUptoRow.holds Try.pinned (OpenSpec.upto fnExactStairWalkSpec)

/-- 'laws.FnExactStairOf', WHERE WHAT IT READS IS OF BULK AT MOST 1048576: true; the input reads as it did. -/
def fnExactStairOfUptoRow : OpenClaim := { program := "ytfpfaaibgaejjaa", sum := "f391e83974cf6bfde6ef3b3b3e0934811807a91acd4fc14a3642bf84cce67fed", func := "loop.example/waymark/laws.FnExactStairOf", spec := "fnExactStairOf", unfollowed := true, recurses := true, apart := false, narrowed := true }
def FnExactStairOfUptoSaid : Prop := fnExactStairOfUptoRow.holds Try.pinned (OpenSpec.upto fnExactStairOfSpec)

/-- 'laws.FnStairOf', WHERE WHAT IT READS IS OF BULK AT MOST 1048576: true; the input reads as it did. -/
def fnStairOfUptoRow : OpenClaim := { program := "ytfpfaaibgaejjaa", sum := "f391e83974cf6bfde6ef3b3b3e0934811807a91acd4fc14a3642bf84cce67fed", func := "loop.example/waymark/laws.FnStairOf", spec := "fnStairOf", unfollowed := true, recurses := true, apart := false, narrowed := true }
def FnStairOfUptoSaid : Prop := fnStairOfUptoRow.holds Try.pinned (OpenSpec.upto fnStairOfSpec)

/-- 'laws.FnStairThree', WHERE WHAT IT READS IS OF BULK AT MOST 1048576: true; the input reads as it did. -/
def fnStairThreeUptoRow : OpenClaim := { program := "ytfpfaaibgaejjaa", sum := "f391e83974cf6bfde6ef3b3b3e0934811807a91acd4fc14a3642bf84cce67fed", func := "loop.example/waymark/laws.FnStairThree", spec := "fnStairThree", unfollowed := true, recurses := true, apart := false, narrowed := true }
def FnStairThreeUptoSaid : Prop := fnStairThreeUptoRow.holds Try.pinned (OpenSpec.upto fnStairThreeSpec)

/-- 'laws.FnExactStairLink', WHERE WHAT IT READS IS OF BULK AT MOST 1048576: true; the input reads as it did. -/
def fnExactStairLinkUptoRow : OpenClaim := { program := "ytfpfaaibgaejjaa", sum := "f391e83974cf6bfde6ef3b3b3e0934811807a91acd4fc14a3642bf84cce67fed", func := "loop.example/waymark/laws.FnExactStairLink", spec := "fnExactStairLink", unfollowed := true, recurses := true, apart := false, narrowed := true }
def FnExactStairLinkUptoSaid : Prop := fnExactStairLinkUptoRow.holds Try.pinned (OpenSpec.upto fnExactStairLinkSpec)

/-- 'laws.FnStairLink', WHERE WHAT IT READS IS OF BULK AT MOST 1048576: true; the input reads as it did. -/
def fnStairLinkUptoRow : OpenClaim := { program := "ytfpfaaibgaejjaa", sum := "f391e83974cf6bfde6ef3b3b3e0934811807a91acd4fc14a3642bf84cce67fed", func := "loop.example/waymark/laws.FnStairLink", spec := "fnStairLink", unfollowed := true, recurses := true, apart := false, narrowed := true }
def FnStairLinkUptoSaid : Prop := fnStairLinkUptoRow.holds Try.pinned (OpenSpec.upto fnStairLinkSpec)

/-- 'laws.FnExactStairBest', WHERE WHAT IT READS IS OF BULK AT MOST 1048576: true; the input reads as it did. -/
def fnExactStairBestUptoRow : OpenClaim := { program := "ytfpfaaibgaejjaa", sum := "f391e83974cf6bfde6ef3b3b3e0934811807a91acd4fc14a3642bf84cce67fed", func := "loop.example/waymark/laws.FnExactStairBest", spec := "fnExactStairBest", unfollowed := true, recurses := true, apart := false, narrowed := true }
def FnExactStairBestUptoSaid : Prop := fnExactStairBestUptoRow.holds Try.pinned (OpenSpec.upto fnExactStairBestSpec)

/-- 'laws.FnStairBest', WHERE WHAT IT READS IS OF BULK AT MOST 1048576: true; the input reads as it did. -/
def fnStairBestUptoRow : OpenClaim := { program := "ytfpfaaibgaejjaa", sum := "f391e83974cf6bfde6ef3b3b3e0934811807a91acd4fc14a3642bf84cce67fed", func := "loop.example/waymark/laws.FnStairBest", spec := "fnStairBest", unfollowed := true, recurses := true, apart := false, narrowed := true }
def FnStairBestUptoSaid : Prop := fnStairBestUptoRow.holds Try.pinned (OpenSpec.upto fnStairBestSpec)

end Rows
end Go.Proofs.Ytfpfaaibgaejjaa
