/-
  No cell of these rows narrows 'for every input' (looked for: loops, veiled, ifaces, maps, wideKeys, modest, calm, conditions, laid).
  DERIVED. THE GIVEN ROWS OF THIS SEAT. 16 by the template 'for every input the law returns true; each argument reads behind the call as it read before'; 0 by the template 'total and deterministic' (their statements: YtpjmkghmjpbldaaTotals.lean).
  GIVEN WITH THE SEED: the statements are not yours to turn. If you find one false, say at which input.
  Laid BY PROGRAM, IN A SANDBOX (cutbox-rows.mjs): the forced cells as the released guide's own fill.sh prints them over the translation 1d9edd61892f4c21… (all of the seat's roots in one cut). By AI agents, Wed Nov 11 2026. No macro, syntax, notation, axiom, sorry.
-/
import Derived.Test.YtpjmkghmjpbldaaChecked
import GoSem.Claim
import GoSem.ClaimJoined
import GoSem.ClaimMapViews
import Derived.JoinedTies
import Derived.KernelRfl
namespace Go.Proofs.Ytpjmkghmjpbldaa
/- THE CELL 'sum', in the pinned program and in every row, IS THE sha256 OF THE DUMP (.gsa) THAT YtpjmkghmjpbldaaProg.lean LOADS. Nothing in Lean hashes anything: it is a label: what it is worth is what the hold of that sum in a sandbox is worth. -/
noncomputable def Try.pinned : Pinned := { name := "ytpjmkghmjpbldaa", sum := "1d9edd61892f4c2162e50eae4e5a3ebdce8d35bee7da5c155a6ec1fade93bcc9", checked := Try.checked }
namespace Rows
def none {H : Type} : Left H := { results := [], args := [] }

/-- 'laws.FnExactNetOk': WHATEVER THE INPUT: true; the input reads as it did. -/
def fnExactNetOkSpec : ChangeSpec := { name := "fnExactNetOk", fn := fun _ => fun
  | [d] => { results := [.lit (.bool true)], args := [d] }
  | _ => none }
def fnExactNetOkRow : OpenClaim := { program := "ytpjmkghmjpbldaa", sum := "1d9edd61892f4c2162e50eae4e5a3ebdce8d35bee7da5c155a6ec1fade93bcc9", func := "loop.example/waymark/laws.FnExactNetOk", spec := "fnExactNetOk", unfollowed := true, recurses := true, apart := false }
def FnExactNetOkSaid : Prop := fnExactNetOkRow.holds Try.pinned (OpenSpec.ofChange fnExactNetOkSpec)

/-- ITS FALSE NEIGHBOUR: 'it returns false'. Refute it at one input. -/
def fnExactNetOkWrong : ChangeSpec := { name := "fnExactNetOk", fn := fun _ => fun
  | [d] => { results := [.lit (.bool false)], args := [d] }
  | _ => none }
def FnExactNetOkWrongFalsely : Prop := fnExactNetOkRow.holds Try.pinned (OpenSpec.ofChange fnExactNetOkWrong)

/-- 'laws.FnNetBack': WHATEVER THE INPUT: true; the input reads as it did. -/
def fnNetBackSpec : ChangeSpec := { name := "fnNetBack", fn := fun _ => fun
  | [d] => { results := [.lit (.bool true)], args := [d] }
  | _ => none }
def fnNetBackRow : OpenClaim := { program := "ytpjmkghmjpbldaa", sum := "1d9edd61892f4c2162e50eae4e5a3ebdce8d35bee7da5c155a6ec1fade93bcc9", func := "loop.example/waymark/laws.FnNetBack", spec := "fnNetBack", unfollowed := true, recurses := true, apart := false }
def FnNetBackSaid : Prop := fnNetBackRow.holds Try.pinned (OpenSpec.ofChange fnNetBackSpec)

/-- ITS FALSE NEIGHBOUR: 'it returns false'. Refute it at one input. -/
def fnNetBackWrong : ChangeSpec := { name := "fnNetBack", fn := fun _ => fun
  | [d] => { results := [.lit (.bool false)], args := [d] }
  | _ => none }
def FnNetBackWrongFalsely : Prop := fnNetBackRow.holds Try.pinned (OpenSpec.ofChange fnNetBackWrong)

/-- 'laws.FnNetOut': WHATEVER THE INPUT: true; the input reads as it did. -/
def fnNetOutSpec : ChangeSpec := { name := "fnNetOut", fn := fun _ => fun
  | [d] => { results := [.lit (.bool true)], args := [d] }
  | _ => none }
def fnNetOutRow : OpenClaim := { program := "ytpjmkghmjpbldaa", sum := "1d9edd61892f4c2162e50eae4e5a3ebdce8d35bee7da5c155a6ec1fade93bcc9", func := "loop.example/waymark/laws.FnNetOut", spec := "fnNetOut", unfollowed := true, recurses := true, apart := false }
def FnNetOutSaid : Prop := fnNetOutRow.holds Try.pinned (OpenSpec.ofChange fnNetOutSpec)

/-- ITS FALSE NEIGHBOUR: 'it returns false'. Refute it at one input. -/
def fnNetOutWrong : ChangeSpec := { name := "fnNetOut", fn := fun _ => fun
  | [d] => { results := [.lit (.bool false)], args := [d] }
  | _ => none }
def FnNetOutWrongFalsely : Prop := fnNetOutRow.holds Try.pinned (OpenSpec.ofChange fnNetOutWrong)

/-- 'laws.FnExactNetOut': WHATEVER THE INPUT: true; the input reads as it did. -/
def fnExactNetOutSpec : ChangeSpec := { name := "fnExactNetOut", fn := fun _ => fun
  | [d1, d2] => { results := [.lit (.bool true)], args := [d1, d2] }
  | _ => none }
def fnExactNetOutRow : OpenClaim := { program := "ytpjmkghmjpbldaa", sum := "1d9edd61892f4c2162e50eae4e5a3ebdce8d35bee7da5c155a6ec1fade93bcc9", func := "loop.example/waymark/laws.FnExactNetOut", spec := "fnExactNetOut", unfollowed := true, recurses := true, apart := false }
def FnExactNetOutSaid : Prop := fnExactNetOutRow.holds Try.pinned (OpenSpec.ofChange fnExactNetOutSpec)

/-- ITS FALSE NEIGHBOUR: 'it returns false'. Refute it at one input. -/
def fnExactNetOutWrong : ChangeSpec := { name := "fnExactNetOut", fn := fun _ => fun
  | [d1, d2] => { results := [.lit (.bool false)], args := [d1, d2] }
  | _ => none }
def FnExactNetOutWrongFalsely : Prop := fnExactNetOutRow.holds Try.pinned (OpenSpec.ofChange fnExactNetOutWrong)

/-- 'laws.FnExactNetBack': WHATEVER THE INPUT: true; the input reads as it did. -/
def fnExactNetBackSpec : ChangeSpec := { name := "fnExactNetBack", fn := fun _ => fun
  | [d] => { results := [.lit (.bool true)], args := [d] }
  | _ => none }
def fnExactNetBackRow : OpenClaim := { program := "ytpjmkghmjpbldaa", sum := "1d9edd61892f4c2162e50eae4e5a3ebdce8d35bee7da5c155a6ec1fade93bcc9", func := "loop.example/waymark/laws.FnExactNetBack", spec := "fnExactNetBack", unfollowed := true, recurses := true, apart := false }
def FnExactNetBackSaid : Prop := fnExactNetBackRow.holds Try.pinned (OpenSpec.ofChange fnExactNetBackSpec)

/-- ITS FALSE NEIGHBOUR: 'it returns false'. Refute it at one input. -/
def fnExactNetBackWrong : ChangeSpec := { name := "fnExactNetBack", fn := fun _ => fun
  | [d] => { results := [.lit (.bool false)], args := [d] }
  | _ => none }
def FnExactNetBackWrongFalsely : Prop := fnExactNetBackRow.holds Try.pinned (OpenSpec.ofChange fnExactNetBackWrong)

/-- 'laws.FnExactPlanOk': WHATEVER THE INPUT: true; the input reads as it did. -/
def fnExactPlanOkSpec : ChangeSpec := { name := "fnExactPlanOk", fn := fun _ => fun
  | [d] => { results := [.lit (.bool true)], args := [d] }
  | _ => none }
def fnExactPlanOkRow : OpenClaim := { program := "ytpjmkghmjpbldaa", sum := "1d9edd61892f4c2162e50eae4e5a3ebdce8d35bee7da5c155a6ec1fade93bcc9", func := "loop.example/waymark/laws.FnExactPlanOk", spec := "fnExactPlanOk", apart := false }
def FnExactPlanOkSaid : Prop := fnExactPlanOkRow.holds Try.pinned (OpenSpec.ofChange fnExactPlanOkSpec)

/-- ITS FALSE NEIGHBOUR: 'it returns false'. Refute it at one input. -/
def fnExactPlanOkWrong : ChangeSpec := { name := "fnExactPlanOk", fn := fun _ => fun
  | [d] => { results := [.lit (.bool false)], args := [d] }
  | _ => none }
def FnExactPlanOkWrongFalsely : Prop := fnExactPlanOkRow.holds Try.pinned (OpenSpec.ofChange fnExactPlanOkWrong)

/-- 'laws.FnWalkOk': WHATEVER THE INPUT: true; the input reads as it did. -/
def fnWalkOkSpec : ChangeSpec := { name := "fnWalkOk", fn := fun _ => fun
  | [d1, d2] => { results := [.lit (.bool true)], args := [d1, d2] }
  | _ => none }
def fnWalkOkRow : OpenClaim := { program := "ytpjmkghmjpbldaa", sum := "1d9edd61892f4c2162e50eae4e5a3ebdce8d35bee7da5c155a6ec1fade93bcc9", func := "loop.example/waymark/laws.FnWalkOk", spec := "fnWalkOk", unfollowed := true, recurses := true, apart := false }
def FnWalkOkSaid : Prop := fnWalkOkRow.holds Try.pinned (OpenSpec.ofChange fnWalkOkSpec)

/-- ITS FALSE NEIGHBOUR: 'it returns false'. Refute it at one input. -/
def fnWalkOkWrong : ChangeSpec := { name := "fnWalkOk", fn := fun _ => fun
  | [d1, d2] => { results := [.lit (.bool false)], args := [d1, d2] }
  | _ => none }
def FnWalkOkWrongFalsely : Prop := fnWalkOkRow.holds Try.pinned (OpenSpec.ofChange fnWalkOkWrong)

/-- 'laws.FnExactWalkOk': WHATEVER THE INPUT: true; the input reads as it did. -/
def fnExactWalkOkSpec : ChangeSpec := { name := "fnExactWalkOk", fn := fun _ => fun
  | [d1, d2] => { results := [.lit (.bool true)], args := [d1, d2] }
  | _ => none }
def fnExactWalkOkRow : OpenClaim := { program := "ytpjmkghmjpbldaa", sum := "1d9edd61892f4c2162e50eae4e5a3ebdce8d35bee7da5c155a6ec1fade93bcc9", func := "loop.example/waymark/laws.FnExactWalkOk", spec := "fnExactWalkOk", unfollowed := true, recurses := true, apart := false }
def FnExactWalkOkSaid : Prop := fnExactWalkOkRow.holds Try.pinned (OpenSpec.ofChange fnExactWalkOkSpec)

/-- ITS FALSE NEIGHBOUR: 'it returns false'. Refute it at one input. -/
def fnExactWalkOkWrong : ChangeSpec := { name := "fnExactWalkOk", fn := fun _ => fun
  | [d1, d2] => { results := [.lit (.bool false)], args := [d1, d2] }
  | _ => none }
def FnExactWalkOkWrongFalsely : Prop := fnExactWalkOkRow.holds Try.pinned (OpenSpec.ofChange fnExactWalkOkWrong)

/-- 'laws.FnWalkCost': WHATEVER THE INPUT: true; the input reads as it did. -/
def fnWalkCostSpec : ChangeSpec := { name := "fnWalkCost", fn := fun _ => fun
  | [d1, d2] => { results := [.lit (.bool true)], args := [d1, d2] }
  | _ => none }
def fnWalkCostRow : OpenClaim := { program := "ytpjmkghmjpbldaa", sum := "1d9edd61892f4c2162e50eae4e5a3ebdce8d35bee7da5c155a6ec1fade93bcc9", func := "loop.example/waymark/laws.FnWalkCost", spec := "fnWalkCost", unfollowed := true, recurses := true, apart := false }
def FnWalkCostSaid : Prop := fnWalkCostRow.holds Try.pinned (OpenSpec.ofChange fnWalkCostSpec)

/-- ITS FALSE NEIGHBOUR: 'it returns false'. Refute it at one input. -/
def fnWalkCostWrong : ChangeSpec := { name := "fnWalkCost", fn := fun _ => fun
  | [d1, d2] => { results := [.lit (.bool false)], args := [d1, d2] }
  | _ => none }
def FnWalkCostWrongFalsely : Prop := fnWalkCostRow.holds Try.pinned (OpenSpec.ofChange fnWalkCostWrong)

/-- 'laws.FnExactWalkCost': WHATEVER THE INPUT: true; the input reads as it did. -/
def fnExactWalkCostSpec : ChangeSpec := { name := "fnExactWalkCost", fn := fun _ => fun
  | [d1, d2] => { results := [.lit (.bool true)], args := [d1, d2] }
  | _ => none }
def fnExactWalkCostRow : OpenClaim := { program := "ytpjmkghmjpbldaa", sum := "1d9edd61892f4c2162e50eae4e5a3ebdce8d35bee7da5c155a6ec1fade93bcc9", func := "loop.example/waymark/laws.FnExactWalkCost", spec := "fnExactWalkCost", unfollowed := true, recurses := true, apart := false }
def FnExactWalkCostSaid : Prop := fnExactWalkCostRow.holds Try.pinned (OpenSpec.ofChange fnExactWalkCostSpec)

/-- ITS FALSE NEIGHBOUR: 'it returns false'. Refute it at one input. -/
def fnExactWalkCostWrong : ChangeSpec := { name := "fnExactWalkCost", fn := fun _ => fun
  | [d1, d2] => { results := [.lit (.bool false)], args := [d1, d2] }
  | _ => none }
def FnExactWalkCostWrongFalsely : Prop := fnExactWalkCostRow.holds Try.pinned (OpenSpec.ofChange fnExactWalkCostWrong)

/-- 'laws.FnWalkNodes': WHATEVER THE INPUT: true; the input reads as it did. -/
def fnWalkNodesSpec : ChangeSpec := { name := "fnWalkNodes", fn := fun _ => fun
  | [d] => { results := [.lit (.bool true)], args := [d] }
  | _ => none }
def fnWalkNodesRow : OpenClaim := { program := "ytpjmkghmjpbldaa", sum := "1d9edd61892f4c2162e50eae4e5a3ebdce8d35bee7da5c155a6ec1fade93bcc9", func := "loop.example/waymark/laws.FnWalkNodes", spec := "fnWalkNodes", unfollowed := true, recurses := true, apart := false }
def FnWalkNodesSaid : Prop := fnWalkNodesRow.holds Try.pinned (OpenSpec.ofChange fnWalkNodesSpec)

/-- ITS FALSE NEIGHBOUR: 'it returns false'. Refute it at one input. -/
def fnWalkNodesWrong : ChangeSpec := { name := "fnWalkNodes", fn := fun _ => fun
  | [d] => { results := [.lit (.bool false)], args := [d] }
  | _ => none }
def FnWalkNodesWrongFalsely : Prop := fnWalkNodesRow.holds Try.pinned (OpenSpec.ofChange fnWalkNodesWrong)

/-- 'laws.FnExactWalkNodes': WHATEVER THE INPUT: true; the input reads as it did. -/
def fnExactWalkNodesSpec : ChangeSpec := { name := "fnExactWalkNodes", fn := fun _ => fun
  | [d1, d2] => { results := [.lit (.bool true)], args := [d1, d2] }
  | _ => none }
def fnExactWalkNodesRow : OpenClaim := { program := "ytpjmkghmjpbldaa", sum := "1d9edd61892f4c2162e50eae4e5a3ebdce8d35bee7da5c155a6ec1fade93bcc9", func := "loop.example/waymark/laws.FnExactWalkNodes", spec := "fnExactWalkNodes", unfollowed := true, recurses := true, apart := false }
def FnExactWalkNodesSaid : Prop := fnExactWalkNodesRow.holds Try.pinned (OpenSpec.ofChange fnExactWalkNodesSpec)

/-- ITS FALSE NEIGHBOUR: 'it returns false'. Refute it at one input. -/
def fnExactWalkNodesWrong : ChangeSpec := { name := "fnExactWalkNodes", fn := fun _ => fun
  | [d1, d2] => { results := [.lit (.bool false)], args := [d1, d2] }
  | _ => none }
def FnExactWalkNodesWrongFalsely : Prop := fnExactWalkNodesRow.holds Try.pinned (OpenSpec.ofChange fnExactWalkNodesWrong)

/-- 'laws.FnWalkJoin': WHATEVER THE INPUT: true; the input reads as it did. -/
def fnWalkJoinSpec : ChangeSpec := { name := "fnWalkJoin", fn := fun _ => fun
  | [d] => { results := [.lit (.bool true)], args := [d] }
  | _ => none }
def fnWalkJoinRow : OpenClaim := { program := "ytpjmkghmjpbldaa", sum := "1d9edd61892f4c2162e50eae4e5a3ebdce8d35bee7da5c155a6ec1fade93bcc9", func := "loop.example/waymark/laws.FnWalkJoin", spec := "fnWalkJoin", unfollowed := true, recurses := true, apart := false }
def FnWalkJoinSaid : Prop := fnWalkJoinRow.holds Try.pinned (OpenSpec.ofChange fnWalkJoinSpec)

/-- ITS FALSE NEIGHBOUR: 'it returns false'. Refute it at one input. -/
def fnWalkJoinWrong : ChangeSpec := { name := "fnWalkJoin", fn := fun _ => fun
  | [d] => { results := [.lit (.bool false)], args := [d] }
  | _ => none }
def FnWalkJoinWrongFalsely : Prop := fnWalkJoinRow.holds Try.pinned (OpenSpec.ofChange fnWalkJoinWrong)

/-- 'laws.FnExactWalkJoin': WHATEVER THE INPUT: true; the input reads as it did. -/
def fnExactWalkJoinSpec : ChangeSpec := { name := "fnExactWalkJoin", fn := fun _ => fun
  | [d1, d2, d3] => { results := [.lit (.bool true)], args := [d1, d2, d3] }
  | _ => none }
def fnExactWalkJoinRow : OpenClaim := { program := "ytpjmkghmjpbldaa", sum := "1d9edd61892f4c2162e50eae4e5a3ebdce8d35bee7da5c155a6ec1fade93bcc9", func := "loop.example/waymark/laws.FnExactWalkJoin", spec := "fnExactWalkJoin", unfollowed := true, recurses := true, apart := false }
def FnExactWalkJoinSaid : Prop := fnExactWalkJoinRow.holds Try.pinned (OpenSpec.ofChange fnExactWalkJoinSpec)

/-- ITS FALSE NEIGHBOUR: 'it returns false'. Refute it at one input. -/
def fnExactWalkJoinWrong : ChangeSpec := { name := "fnExactWalkJoin", fn := fun _ => fun
  | [d1, d2, d3] => { results := [.lit (.bool false)], args := [d1, d2, d3] }
  | _ => none }
def FnExactWalkJoinWrongFalsely : Prop := fnExactWalkJoinRow.holds Try.pinned (OpenSpec.ofChange fnExactWalkJoinWrong)

/-- 'laws.FnWalkPlain': WHATEVER THE INPUT: true; the input reads as it did. -/
def fnWalkPlainSpec : ChangeSpec := { name := "fnWalkPlain", fn := fun _ => fun
  | [d] => { results := [.lit (.bool true)], args := [d] }
  | _ => none }
def fnWalkPlainRow : OpenClaim := { program := "ytpjmkghmjpbldaa", sum := "1d9edd61892f4c2162e50eae4e5a3ebdce8d35bee7da5c155a6ec1fade93bcc9", func := "loop.example/waymark/laws.FnWalkPlain", spec := "fnWalkPlain", unfollowed := true, recurses := true, apart := false }
def FnWalkPlainSaid : Prop := fnWalkPlainRow.holds Try.pinned (OpenSpec.ofChange fnWalkPlainSpec)

/-- ITS FALSE NEIGHBOUR: 'it returns false'. Refute it at one input. -/
def fnWalkPlainWrong : ChangeSpec := { name := "fnWalkPlain", fn := fun _ => fun
  | [d] => { results := [.lit (.bool false)], args := [d] }
  | _ => none }
def FnWalkPlainWrongFalsely : Prop := fnWalkPlainRow.holds Try.pinned (OpenSpec.ofChange fnWalkPlainWrong)

/-- 'laws.FnExactWalkPlain': WHATEVER THE INPUT: true; the input reads as it did. -/
def fnExactWalkPlainSpec : ChangeSpec := { name := "fnExactWalkPlain", fn := fun _ => fun
  | [d1, d2] => { results := [.lit (.bool true)], args := [d1, d2] }
  | _ => none }
def fnExactWalkPlainRow : OpenClaim := { program := "ytpjmkghmjpbldaa", sum := "1d9edd61892f4c2162e50eae4e5a3ebdce8d35bee7da5c155a6ec1fade93bcc9", func := "loop.example/waymark/laws.FnExactWalkPlain", spec := "fnExactWalkPlain", unfollowed := true, recurses := true, apart := false }
def FnExactWalkPlainSaid : Prop := fnExactWalkPlainRow.holds Try.pinned (OpenSpec.ofChange fnExactWalkPlainSpec)

/-- ITS FALSE NEIGHBOUR: 'it returns false'. Refute it at one input. -/
def fnExactWalkPlainWrong : ChangeSpec := { name := "fnExactWalkPlain", fn := fun _ => fun
  | [d1, d2] => { results := [.lit (.bool false)], args := [d1, d2] }
  | _ => none }
def FnExactWalkPlainWrongFalsely : Prop := fnExactWalkPlainRow.holds Try.pinned (OpenSpec.ofChange fnExactWalkPlainWrong)

/- THE SECOND FORM. 'bulk': how many values and letters a reading holds, each counted each time it is reached (what is shared counts as often as it is met; a slice's spare places count too). A statement '..UptoSaid' is the law's where the arguments, and the package variables that the reading takes, are together of bulk at most 1048576: NARROWER than '..Said'. Prove '..Said' where nothing that the law and all that it calls make is longer than what came in: it says more and counts as full. Else prove '..UptoSaid'. A law counts once. -/
mutual
def uptoBulk {H : Type} : DataW H → Nat
  | .lit (.string bytes) => bytes.length + 1
  | .lit _ => 1
  | .nil => 1
  | .ptr d => uptoBulk d + 1
  | .slice elems spare => uptoBulkAll elems + uptoBulkAll spare + 1
  | .agg parts => uptoBulkAll parts + 1
  | .iface _ d => uptoBulk d + 1
  | .map entries => uptoBulkEntries entries + 1
  | .held _ => 1
def uptoBulkAll {H : Type} : List (DataW H) → Nat
  | [] => 0
  | d :: r => uptoBulk d + uptoBulkAll r
def uptoBulkEntries {H : Type} : List (Lit × DataW H) → Nat
  | [] => 0
  | x :: r => uptoBulkEntry x + uptoBulkEntries r
def uptoBulkEntry {H : Type} : Lit × DataW H → Nat
  | (.string bytes, d) => bytes.length + uptoBulk d + 1
  | (_, d) => uptoBulk d + 1
 end
def uptoSmall : (H : Type) → List (DataW H) → Bool := fun _ ds => decide (uptoBulkAll ds ≤ 1048576)
def OpenSpec.upto (s : _root_.Go.ChangeSpec) : _root_.Go.OpenSpec := { _root_.Go.OpenSpec.ofChange s with cond := some uptoSmall }

/-- 'laws.FnExactNetOk', WHERE WHAT IT READS IS OF BULK AT MOST 1048576: true; the input reads as it did. -/
def fnExactNetOkUptoRow : OpenClaim := { program := "ytpjmkghmjpbldaa", sum := "1d9edd61892f4c2162e50eae4e5a3ebdce8d35bee7da5c155a6ec1fade93bcc9", func := "loop.example/waymark/laws.FnExactNetOk", spec := "fnExactNetOk", unfollowed := true, recurses := true, apart := false, narrowed := true }
def FnExactNetOkUptoSaid : Prop := fnExactNetOkUptoRow.holds Try.pinned (OpenSpec.upto fnExactNetOkSpec)

/-- 'laws.FnNetBack', WHERE WHAT IT READS IS OF BULK AT MOST 1048576: true; the input reads as it did. -/
def fnNetBackUptoRow : OpenClaim := { program := "ytpjmkghmjpbldaa", sum := "1d9edd61892f4c2162e50eae4e5a3ebdce8d35bee7da5c155a6ec1fade93bcc9", func := "loop.example/waymark/laws.FnNetBack", spec := "fnNetBack", unfollowed := true, recurses := true, apart := false, narrowed := true }
def FnNetBackUptoSaid : Prop := fnNetBackUptoRow.holds Try.pinned (OpenSpec.upto fnNetBackSpec)

/-- 'laws.FnNetOut', WHERE WHAT IT READS IS OF BULK AT MOST 1048576: true; the input reads as it did. -/
def fnNetOutUptoRow : OpenClaim := { program := "ytpjmkghmjpbldaa", sum := "1d9edd61892f4c2162e50eae4e5a3ebdce8d35bee7da5c155a6ec1fade93bcc9", func := "loop.example/waymark/laws.FnNetOut", spec := "fnNetOut", unfollowed := true, recurses := true, apart := false, narrowed := true }
def FnNetOutUptoSaid : Prop := fnNetOutUptoRow.holds Try.pinned (OpenSpec.upto fnNetOutSpec)

/-- 'laws.FnExactNetOut', WHERE WHAT IT READS IS OF BULK AT MOST 1048576: true; the input reads as it did. -/
def fnExactNetOutUptoRow : OpenClaim := { program := "ytpjmkghmjpbldaa", sum := "1d9edd61892f4c2162e50eae4e5a3ebdce8d35bee7da5c155a6ec1fade93bcc9", func := "loop.example/waymark/laws.FnExactNetOut", spec := "fnExactNetOut", unfollowed := true, recurses := true, apart := false, narrowed := true }
def FnExactNetOutUptoSaid : Prop := fnExactNetOutUptoRow.holds Try.pinned (OpenSpec.upto fnExactNetOutSpec)

/-- 'laws.FnExactNetBack', WHERE WHAT IT READS IS OF BULK AT MOST 1048576: true; the input reads as it did. -/
def fnExactNetBackUptoRow : OpenClaim := { program := "ytpjmkghmjpbldaa", sum := "1d9edd61892f4c2162e50eae4e5a3ebdce8d35bee7da5c155a6ec1fade93bcc9", func := "loop.example/waymark/laws.FnExactNetBack", spec := "fnExactNetBack", unfollowed := true, recurses := true, apart := false, narrowed := true }
def FnExactNetBackUptoSaid : Prop := fnExactNetBackUptoRow.holds Try.pinned (OpenSpec.upto fnExactNetBackSpec)

/-- 'laws.FnExactPlanOk', WHERE WHAT IT READS IS OF BULK AT MOST 1048576: true; the input reads as it did. -/
def fnExactPlanOkUptoRow : OpenClaim := { program := "ytpjmkghmjpbldaa", sum := "1d9edd61892f4c2162e50eae4e5a3ebdce8d35bee7da5c155a6ec1fade93bcc9", func := "loop.example/waymark/laws.FnExactPlanOk", spec := "fnExactPlanOk", apart := false, narrowed := true }
def FnExactPlanOkUptoSaid : Prop := fnExactPlanOkUptoRow.holds Try.pinned (OpenSpec.upto fnExactPlanOkSpec)

/-- 'laws.FnWalkOk', WHERE WHAT IT READS IS OF BULK AT MOST 1048576: true; the input reads as it did. -/
def fnWalkOkUptoRow : OpenClaim := { program := "ytpjmkghmjpbldaa", sum := "1d9edd61892f4c2162e50eae4e5a3ebdce8d35bee7da5c155a6ec1fade93bcc9", func := "loop.example/waymark/laws.FnWalkOk", spec := "fnWalkOk", unfollowed := true, recurses := true, apart := false, narrowed := true }
def FnWalkOkUptoSaid : Prop := fnWalkOkUptoRow.holds Try.pinned (OpenSpec.upto fnWalkOkSpec)

/-- 'laws.FnExactWalkOk', WHERE WHAT IT READS IS OF BULK AT MOST 1048576: true; the input reads as it did. -/
def fnExactWalkOkUptoRow : OpenClaim := { program := "ytpjmkghmjpbldaa", sum := "1d9edd61892f4c2162e50eae4e5a3ebdce8d35bee7da5c155a6ec1fade93bcc9", func := "loop.example/waymark/laws.FnExactWalkOk", spec := "fnExactWalkOk", unfollowed := true, recurses := true, apart := false, narrowed := true }
def FnExactWalkOkUptoSaid : Prop := fnExactWalkOkUptoRow.holds Try.pinned (OpenSpec.upto fnExactWalkOkSpec)

/-- 'laws.FnWalkCost', WHERE WHAT IT READS IS OF BULK AT MOST 1048576: true; the input reads as it did. -/
def fnWalkCostUptoRow : OpenClaim := { program := "ytpjmkghmjpbldaa", sum := "1d9edd61892f4c2162e50eae4e5a3ebdce8d35bee7da5c155a6ec1fade93bcc9", func := "loop.example/waymark/laws.FnWalkCost", spec := "fnWalkCost", unfollowed := true, recurses := true, apart := false, narrowed := true }
def FnWalkCostUptoSaid : Prop := fnWalkCostUptoRow.holds Try.pinned (OpenSpec.upto fnWalkCostSpec)

/-- 'laws.FnExactWalkCost', WHERE WHAT IT READS IS OF BULK AT MOST 1048576: true; the input reads as it did. -/
def fnExactWalkCostUptoRow : OpenClaim := { program := "ytpjmkghmjpbldaa", sum := "1d9edd61892f4c2162e50eae4e5a3ebdce8d35bee7da5c155a6ec1fade93bcc9", func := "loop.example/waymark/laws.FnExactWalkCost", spec := "fnExactWalkCost", unfollowed := true, recurses := true, apart := false, narrowed := true }
def FnExactWalkCostUptoSaid : Prop := fnExactWalkCostUptoRow.holds Try.pinned (OpenSpec.upto fnExactWalkCostSpec)

/-- 'laws.FnWalkNodes', WHERE WHAT IT READS IS OF BULK AT MOST 1048576: true; the input reads as it did. -/
def fnWalkNodesUptoRow : OpenClaim := { program := "ytpjmkghmjpbldaa", sum := "1d9edd61892f4c2162e50eae4e5a3ebdce8d35bee7da5c155a6ec1fade93bcc9", func := "loop.example/waymark/laws.FnWalkNodes", spec := "fnWalkNodes", unfollowed := true, recurses := true, apart := false, narrowed := true }
def FnWalkNodesUptoSaid : Prop := fnWalkNodesUptoRow.holds Try.pinned (OpenSpec.upto fnWalkNodesSpec)

/-- 'laws.FnExactWalkNodes', WHERE WHAT IT READS IS OF BULK AT MOST 1048576: true; the input reads as it did. -/
def fnExactWalkNodesUptoRow : OpenClaim := { program := "ytpjmkghmjpbldaa", sum := "1d9edd61892f4c2162e50eae4e5a3ebdce8d35bee7da5c155a6ec1fade93bcc9", func := "loop.example/waymark/laws.FnExactWalkNodes", spec := "fnExactWalkNodes", unfollowed := true, recurses := true, apart := false, narrowed := true }
def FnExactWalkNodesUptoSaid : Prop := fnExactWalkNodesUptoRow.holds Try.pinned (OpenSpec.upto fnExactWalkNodesSpec)

/-- 'laws.FnWalkJoin', WHERE WHAT IT READS IS OF BULK AT MOST 1048576: true; the input reads as it did. -/
def fnWalkJoinUptoRow : OpenClaim := { program := "ytpjmkghmjpbldaa", sum := "1d9edd61892f4c2162e50eae4e5a3ebdce8d35bee7da5c155a6ec1fade93bcc9", func := "loop.example/waymark/laws.FnWalkJoin", spec := "fnWalkJoin", unfollowed := true, recurses := true, apart := false, narrowed := true }
def FnWalkJoinUptoSaid : Prop := fnWalkJoinUptoRow.holds Try.pinned (OpenSpec.upto fnWalkJoinSpec)

/-- 'laws.FnExactWalkJoin', WHERE WHAT IT READS IS OF BULK AT MOST 1048576: true; the input reads as it did. -/
def fnExactWalkJoinUptoRow : OpenClaim := { program := "ytpjmkghmjpbldaa", sum := "1d9edd61892f4c2162e50eae4e5a3ebdce8d35bee7da5c155a6ec1fade93bcc9", func := "loop.example/waymark/laws.FnExactWalkJoin", spec := "fnExactWalkJoin", unfollowed := true, recurses := true, apart := false, narrowed := true }
def FnExactWalkJoinUptoSaid : Prop := fnExactWalkJoinUptoRow.holds Try.pinned (OpenSpec.upto fnExactWalkJoinSpec)

/-- 'laws.FnWalkPlain', WHERE WHAT IT READS IS OF BULK AT MOST 1048576: true; the input reads as it did. -/
def fnWalkPlainUptoRow : OpenClaim := { program := "ytpjmkghmjpbldaa", sum := "1d9edd61892f4c2162e50eae4e5a3ebdce8d35bee7da5c155a6ec1fade93bcc9", func := "loop.example/waymark/laws.FnWalkPlain", spec := "fnWalkPlain", unfollowed := true, recurses := true, apart := false, narrowed := true }
def FnWalkPlainUptoSaid : Prop := fnWalkPlainUptoRow.holds Try.pinned (OpenSpec.upto fnWalkPlainSpec)

/-- 'laws.FnExactWalkPlain', WHERE WHAT IT READS IS OF BULK AT MOST 1048576: true; the input reads as it did. -/
def fnExactWalkPlainUptoRow : OpenClaim := { program := "ytpjmkghmjpbldaa", sum := "1d9edd61892f4c2162e50eae4e5a3ebdce8d35bee7da5c155a6ec1fade93bcc9", func := "loop.example/waymark/laws.FnExactWalkPlain", spec := "fnExactWalkPlain", unfollowed := true, recurses := true, apart := false, narrowed := true }
def FnExactWalkPlainUptoSaid : Prop := fnExactWalkPlainUptoRow.holds Try.pinned (OpenSpec.upto fnExactWalkPlainSpec)

end Rows
end Go.Proofs.Ytpjmkghmjpbldaa
