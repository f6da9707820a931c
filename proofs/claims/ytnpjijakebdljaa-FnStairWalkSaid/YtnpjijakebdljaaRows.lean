/-
  No cell of these rows narrows 'for every input' (looked for: loops, veiled, ifaces, maps, wideKeys, modest, calm, conditions, laid).
  DERIVED. THE GIVEN ROWS OF THIS SEAT. 15 by the template 'for every input the law returns true; each argument reads behind the call as it read before'; 0 by the template 'total and deterministic' (their statements: YtnpjijakebdljaaTotals.lean).
  GIVEN WITH THE SEED: the statements are not yours to turn. If you find one false, say at which input.
  Laid BY PROGRAM, IN A SANDBOX (cutbox-rows.mjs): the forced cells as the released guide's own fill.sh prints them over the translation 8fe054bb85d167e9… (all of the seat's roots in one cut). By AI agents, Wed Nov 11 2026. No macro, syntax, notation, axiom, sorry.
-/
import Derived.Test.YtnpjijakebdljaaChecked
import GoSem.Claim
import GoSem.ClaimJoined
import GoSem.ClaimMapViews
import Derived.JoinedTies
import Derived.KernelRfl
namespace Go.Proofs.Ytnpjijakebdljaa
/- THE CELL 'sum', in the pinned program and in every row, IS THE sha256 OF THE DUMP (.gsa) THAT YtnpjijakebdljaaProg.lean LOADS. Nothing in Lean hashes anything: it is a label: what it is worth is what the hold of that sum in a sandbox is worth. -/
noncomputable def Try.pinned : Pinned := { name := "ytnpjijakebdljaa", sum := "8fe054bb85d167e9967d02de64e35ec79dc29658a1b23bbd93181b111eb323b8", checked := Try.checked }
namespace Rows
def none {H : Type} : Left H := { results := [], args := [] }

/-- 'laws.FnExactConstants': WHATEVER THE INPUT: true; the input reads as it did. -/
def fnExactConstantsSpec : ChangeSpec := { name := "fnExactConstants", fn := fun _ => fun
  | [] => { results := [.lit (.bool true)], args := [] }
  | _ => none }
def fnExactConstantsRow : OpenClaim := { program := "ytnpjijakebdljaa", sum := "8fe054bb85d167e9967d02de64e35ec79dc29658a1b23bbd93181b111eb323b8", func := "loop.example/waymark/laws.FnExactConstants", spec := "fnExactConstants", apart := false }
def FnExactConstantsSaid : Prop := fnExactConstantsRow.holds Try.pinned (OpenSpec.ofChange fnExactConstantsSpec)

/-- ITS FALSE NEIGHBOUR: 'it returns false'. Refute it at one input. -/
def fnExactConstantsWrong : ChangeSpec := { name := "fnExactConstants", fn := fun _ => fun
  | [] => { results := [.lit (.bool false)], args := [] }
  | _ => none }
def FnExactConstantsWrongFalsely : Prop := fnExactConstantsRow.holds Try.pinned (OpenSpec.ofChange fnExactConstantsWrong)

/-- 'laws.FnExactStairOk': WHATEVER THE INPUT: true; the input reads as it did. -/
def fnExactStairOkSpec : ChangeSpec := { name := "fnExactStairOk", fn := fun _ => fun
  | [d] => { results := [.lit (.bool true)], args := [d] }
  | _ => none }
def fnExactStairOkRow : OpenClaim := { program := "ytnpjijakebdljaa", sum := "8fe054bb85d167e9967d02de64e35ec79dc29658a1b23bbd93181b111eb323b8", func := "loop.example/waymark/laws.FnExactStairOk", spec := "fnExactStairOk", apart := false }
def FnExactStairOkSaid : Prop := fnExactStairOkRow.holds Try.pinned (OpenSpec.ofChange fnExactStairOkSpec)

/-- ITS FALSE NEIGHBOUR: 'it returns false'. Refute it at one input. -/
def fnExactStairOkWrong : ChangeSpec := { name := "fnExactStairOk", fn := fun _ => fun
  | [d] => { results := [.lit (.bool false)], args := [d] }
  | _ => none }
def FnExactStairOkWrongFalsely : Prop := fnExactStairOkRow.holds Try.pinned (OpenSpec.ofChange fnExactStairOkWrong)

/-- 'laws.FnExactStairWalk': WHATEVER THE INPUT: true; the input reads as it did. -/
def fnExactStairWalkSpec : ChangeSpec := { name := "fnExactStairWalk", fn := fun _ => fun
  | [d1, d2, d3] => { results := [.lit (.bool true)], args := [d1, d2, d3] }
  | _ => none }
def fnExactStairWalkRow : OpenClaim := { program := "ytnpjijakebdljaa", sum := "8fe054bb85d167e9967d02de64e35ec79dc29658a1b23bbd93181b111eb323b8", func := "loop.example/waymark/laws.FnExactStairWalk", spec := "fnExactStairWalk", apart := false }
def FnExactStairWalkSaid : Prop := fnExactStairWalkRow.holds Try.pinned (OpenSpec.ofChange fnExactStairWalkSpec)

/-- ITS FALSE NEIGHBOUR: 'it returns false'. Refute it at one input. -/
def fnExactStairWalkWrong : ChangeSpec := { name := "fnExactStairWalk", fn := fun _ => fun
  | [d1, d2, d3] => { results := [.lit (.bool false)], args := [d1, d2, d3] }
  | _ => none }
def FnExactStairWalkWrongFalsely : Prop := fnExactStairWalkRow.holds Try.pinned (OpenSpec.ofChange fnExactStairWalkWrong)

/-- 'laws.FnStairWalk': WHATEVER THE INPUT: true; the input reads as it did. -/
def fnStairWalkSpec : ChangeSpec := { name := "fnStairWalk", fn := fun _ => fun
  | [d] => { results := [.lit (.bool true)], args := [d] }
  | _ => none }
def fnStairWalkRow : OpenClaim := { program := "ytnpjijakebdljaa", sum := "8fe054bb85d167e9967d02de64e35ec79dc29658a1b23bbd93181b111eb323b8", func := "loop.example/waymark/laws.FnStairWalk", spec := "fnStairWalk", apart := false }
def FnStairWalkSaid : Prop := fnStairWalkRow.holds Try.pinned (OpenSpec.ofChange fnStairWalkSpec)

/-- ITS FALSE NEIGHBOUR: 'it returns false'. Refute it at one input. -/
def fnStairWalkWrong : ChangeSpec := { name := "fnStairWalk", fn := fun _ => fun
  | [d] => { results := [.lit (.bool false)], args := [d] }
  | _ => none }
def FnStairWalkWrongFalsely : Prop := fnStairWalkRow.holds Try.pinned (OpenSpec.ofChange fnStairWalkWrong)

/-- 'laws.FnExactStairLast': WHATEVER THE INPUT: true; the input reads as it did. -/
def fnExactStairLastSpec : ChangeSpec := { name := "fnExactStairLast", fn := fun _ => fun
  | [d1, d2] => { results := [.lit (.bool true)], args := [d1, d2] }
  | _ => none }
def fnExactStairLastRow : OpenClaim := { program := "ytnpjijakebdljaa", sum := "8fe054bb85d167e9967d02de64e35ec79dc29658a1b23bbd93181b111eb323b8", func := "loop.example/waymark/laws.FnExactStairLast", spec := "fnExactStairLast", apart := false }
def FnExactStairLastSaid : Prop := fnExactStairLastRow.holds Try.pinned (OpenSpec.ofChange fnExactStairLastSpec)

/-- ITS FALSE NEIGHBOUR: 'it returns false'. Refute it at one input. -/
def fnExactStairLastWrong : ChangeSpec := { name := "fnExactStairLast", fn := fun _ => fun
  | [d1, d2] => { results := [.lit (.bool false)], args := [d1, d2] }
  | _ => none }
def FnExactStairLastWrongFalsely : Prop := fnExactStairLastRow.holds Try.pinned (OpenSpec.ofChange fnExactStairLastWrong)

/-- 'laws.FnExactStairAt': WHATEVER THE INPUT: true; the input reads as it did. -/
def fnExactStairAtSpec : ChangeSpec := { name := "fnExactStairAt", fn := fun _ => fun
  | [d1, d2] => { results := [.lit (.bool true)], args := [d1, d2] }
  | _ => none }
def fnExactStairAtRow : OpenClaim := { program := "ytnpjijakebdljaa", sum := "8fe054bb85d167e9967d02de64e35ec79dc29658a1b23bbd93181b111eb323b8", func := "loop.example/waymark/laws.FnExactStairAt", spec := "fnExactStairAt", apart := false }
def FnExactStairAtSaid : Prop := fnExactStairAtRow.holds Try.pinned (OpenSpec.ofChange fnExactStairAtSpec)

/-- ITS FALSE NEIGHBOUR: 'it returns false'. Refute it at one input. -/
def fnExactStairAtWrong : ChangeSpec := { name := "fnExactStairAt", fn := fun _ => fun
  | [d1, d2] => { results := [.lit (.bool false)], args := [d1, d2] }
  | _ => none }
def FnExactStairAtWrongFalsely : Prop := fnExactStairAtRow.holds Try.pinned (OpenSpec.ofChange fnExactStairAtWrong)

/-- 'laws.FnStairAt': WHATEVER THE INPUT: true; the input reads as it did. -/
def fnStairAtSpec : ChangeSpec := { name := "fnStairAt", fn := fun _ => fun
  | [d] => { results := [.lit (.bool true)], args := [d] }
  | _ => none }
def fnStairAtRow : OpenClaim := { program := "ytnpjijakebdljaa", sum := "8fe054bb85d167e9967d02de64e35ec79dc29658a1b23bbd93181b111eb323b8", func := "loop.example/waymark/laws.FnStairAt", spec := "fnStairAt", apart := false }
def FnStairAtSaid : Prop := fnStairAtRow.holds Try.pinned (OpenSpec.ofChange fnStairAtSpec)

/-- ITS FALSE NEIGHBOUR: 'it returns false'. Refute it at one input. -/
def fnStairAtWrong : ChangeSpec := { name := "fnStairAt", fn := fun _ => fun
  | [d] => { results := [.lit (.bool false)], args := [d] }
  | _ => none }
def FnStairAtWrongFalsely : Prop := fnStairAtRow.holds Try.pinned (OpenSpec.ofChange fnStairAtWrong)

/-- 'laws.FnStairLast': WHATEVER THE INPUT: true; the input reads as it did. -/
def fnStairLastSpec : ChangeSpec := { name := "fnStairLast", fn := fun _ => fun
  | [d] => { results := [.lit (.bool true)], args := [d] }
  | _ => none }
def fnStairLastRow : OpenClaim := { program := "ytnpjijakebdljaa", sum := "8fe054bb85d167e9967d02de64e35ec79dc29658a1b23bbd93181b111eb323b8", func := "loop.example/waymark/laws.FnStairLast", spec := "fnStairLast", apart := false }
def FnStairLastSaid : Prop := fnStairLastRow.holds Try.pinned (OpenSpec.ofChange fnStairLastSpec)

/-- ITS FALSE NEIGHBOUR: 'it returns false'. Refute it at one input. -/
def fnStairLastWrong : ChangeSpec := { name := "fnStairLast", fn := fun _ => fun
  | [d] => { results := [.lit (.bool false)], args := [d] }
  | _ => none }
def FnStairLastWrongFalsely : Prop := fnStairLastRow.holds Try.pinned (OpenSpec.ofChange fnStairLastWrong)

/-- 'laws.FnExactStairOf': WHATEVER THE INPUT: true; the input reads as it did. -/
def fnExactStairOfSpec : ChangeSpec := { name := "fnExactStairOf", fn := fun _ => fun
  | [d] => { results := [.lit (.bool true)], args := [d] }
  | _ => none }
def fnExactStairOfRow : OpenClaim := { program := "ytnpjijakebdljaa", sum := "8fe054bb85d167e9967d02de64e35ec79dc29658a1b23bbd93181b111eb323b8", func := "loop.example/waymark/laws.FnExactStairOf", spec := "fnExactStairOf", unfollowed := true, recurses := true, apart := false }
def FnExactStairOfSaid : Prop := fnExactStairOfRow.holds Try.pinned (OpenSpec.ofChange fnExactStairOfSpec)

/-- ITS FALSE NEIGHBOUR: 'it returns false'. Refute it at one input. -/
def fnExactStairOfWrong : ChangeSpec := { name := "fnExactStairOf", fn := fun _ => fun
  | [d] => { results := [.lit (.bool false)], args := [d] }
  | _ => none }
def FnExactStairOfWrongFalsely : Prop := fnExactStairOfRow.holds Try.pinned (OpenSpec.ofChange fnExactStairOfWrong)

/-- 'laws.FnStairOf': WHATEVER THE INPUT: true; the input reads as it did. -/
def fnStairOfSpec : ChangeSpec := { name := "fnStairOf", fn := fun _ => fun
  | [d] => { results := [.lit (.bool true)], args := [d] }
  | _ => none }
def fnStairOfRow : OpenClaim := { program := "ytnpjijakebdljaa", sum := "8fe054bb85d167e9967d02de64e35ec79dc29658a1b23bbd93181b111eb323b8", func := "loop.example/waymark/laws.FnStairOf", spec := "fnStairOf", unfollowed := true, recurses := true, apart := false }
def FnStairOfSaid : Prop := fnStairOfRow.holds Try.pinned (OpenSpec.ofChange fnStairOfSpec)

/-- ITS FALSE NEIGHBOUR: 'it returns false'. Refute it at one input. -/
def fnStairOfWrong : ChangeSpec := { name := "fnStairOf", fn := fun _ => fun
  | [d] => { results := [.lit (.bool false)], args := [d] }
  | _ => none }
def FnStairOfWrongFalsely : Prop := fnStairOfRow.holds Try.pinned (OpenSpec.ofChange fnStairOfWrong)

/-- 'laws.FnStairThree': WHATEVER THE INPUT: true; the input reads as it did. -/
def fnStairThreeSpec : ChangeSpec := { name := "fnStairThree", fn := fun _ => fun
  | [d1, d2] => { results := [.lit (.bool true)], args := [d1, d2] }
  | _ => none }
def fnStairThreeRow : OpenClaim := { program := "ytnpjijakebdljaa", sum := "8fe054bb85d167e9967d02de64e35ec79dc29658a1b23bbd93181b111eb323b8", func := "loop.example/waymark/laws.FnStairThree", spec := "fnStairThree", unfollowed := true, recurses := true, apart := false }
def FnStairThreeSaid : Prop := fnStairThreeRow.holds Try.pinned (OpenSpec.ofChange fnStairThreeSpec)

/-- ITS FALSE NEIGHBOUR: 'it returns false'. Refute it at one input. -/
def fnStairThreeWrong : ChangeSpec := { name := "fnStairThree", fn := fun _ => fun
  | [d1, d2] => { results := [.lit (.bool false)], args := [d1, d2] }
  | _ => none }
def FnStairThreeWrongFalsely : Prop := fnStairThreeRow.holds Try.pinned (OpenSpec.ofChange fnStairThreeWrong)

/-- 'laws.FnExactStairLink': WHATEVER THE INPUT: true; the input reads as it did. -/
def fnExactStairLinkSpec : ChangeSpec := { name := "fnExactStairLink", fn := fun _ => fun
  | [d1, d2] => { results := [.lit (.bool true)], args := [d1, d2] }
  | _ => none }
def fnExactStairLinkRow : OpenClaim := { program := "ytnpjijakebdljaa", sum := "8fe054bb85d167e9967d02de64e35ec79dc29658a1b23bbd93181b111eb323b8", func := "loop.example/waymark/laws.FnExactStairLink", spec := "fnExactStairLink", unfollowed := true, recurses := true, apart := false }
def FnExactStairLinkSaid : Prop := fnExactStairLinkRow.holds Try.pinned (OpenSpec.ofChange fnExactStairLinkSpec)

/-- ITS FALSE NEIGHBOUR: 'it returns false'. Refute it at one input. -/
def fnExactStairLinkWrong : ChangeSpec := { name := "fnExactStairLink", fn := fun _ => fun
  | [d1, d2] => { results := [.lit (.bool false)], args := [d1, d2] }
  | _ => none }
def FnExactStairLinkWrongFalsely : Prop := fnExactStairLinkRow.holds Try.pinned (OpenSpec.ofChange fnExactStairLinkWrong)

/-- 'laws.FnStairLink': WHATEVER THE INPUT: true; the input reads as it did. -/
def fnStairLinkSpec : ChangeSpec := { name := "fnStairLink", fn := fun _ => fun
  | [d] => { results := [.lit (.bool true)], args := [d] }
  | _ => none }
def fnStairLinkRow : OpenClaim := { program := "ytnpjijakebdljaa", sum := "8fe054bb85d167e9967d02de64e35ec79dc29658a1b23bbd93181b111eb323b8", func := "loop.example/waymark/laws.FnStairLink", spec := "fnStairLink", unfollowed := true, recurses := true, apart := false }
def FnStairLinkSaid : Prop := fnStairLinkRow.holds Try.pinned (OpenSpec.ofChange fnStairLinkSpec)

/-- ITS FALSE NEIGHBOUR: 'it returns false'. Refute it at one input. -/
def fnStairLinkWrong : ChangeSpec := { name := "fnStairLink", fn := fun _ => fun
  | [d] => { results := [.lit (.bool false)], args := [d] }
  | _ => none }
def FnStairLinkWrongFalsely : Prop := fnStairLinkRow.holds Try.pinned (OpenSpec.ofChange fnStairLinkWrong)

/-- 'laws.FnExactStairBest': WHATEVER THE INPUT: true; the input reads as it did. -/
def fnExactStairBestSpec : ChangeSpec := { name := "fnExactStairBest", fn := fun _ => fun
  | [d1, d2] => { results := [.lit (.bool true)], args := [d1, d2] }
  | _ => none }
def fnExactStairBestRow : OpenClaim := { program := "ytnpjijakebdljaa", sum := "8fe054bb85d167e9967d02de64e35ec79dc29658a1b23bbd93181b111eb323b8", func := "loop.example/waymark/laws.FnExactStairBest", spec := "fnExactStairBest", unfollowed := true, recurses := true, apart := false }
def FnExactStairBestSaid : Prop := fnExactStairBestRow.holds Try.pinned (OpenSpec.ofChange fnExactStairBestSpec)

/-- ITS FALSE NEIGHBOUR: 'it returns false'. Refute it at one input. -/
def fnExactStairBestWrong : ChangeSpec := { name := "fnExactStairBest", fn := fun _ => fun
  | [d1, d2] => { results := [.lit (.bool false)], args := [d1, d2] }
  | _ => none }
def FnExactStairBestWrongFalsely : Prop := fnExactStairBestRow.holds Try.pinned (OpenSpec.ofChange fnExactStairBestWrong)

/-- 'laws.FnStairBest': WHATEVER THE INPUT: true; the input reads as it did. -/
def fnStairBestSpec : ChangeSpec := { name := "fnStairBest", fn := fun _ => fun
  | [d] => { results := [.lit (.bool true)], args := [d] }
  | _ => none }
def fnStairBestRow : OpenClaim := { program := "ytnpjijakebdljaa", sum := "8fe054bb85d167e9967d02de64e35ec79dc29658a1b23bbd93181b111eb323b8", func := "loop.example/waymark/laws.FnStairBest", spec := "fnStairBest", unfollowed := true, recurses := true, apart := false }
def FnStairBestSaid : Prop := fnStairBestRow.holds Try.pinned (OpenSpec.ofChange fnStairBestSpec)

/-- ITS FALSE NEIGHBOUR: 'it returns false'. Refute it at one input. -/
def fnStairBestWrong : ChangeSpec := { name := "fnStairBest", fn := fun _ => fun
  | [d] => { results := [.lit (.bool false)], args := [d] }
  | _ => none }
def FnStairBestWrongFalsely : Prop := fnStairBestRow.holds Try.pinned (OpenSpec.ofChange fnStairBestWrong)

/- THE SECOND FORM. 'bulk': how many values and letters a reading holds, each counted each time it is reached (what is shared counts as often as it is met; a slice's spare places count too). A statement '..UptoSaid' is the law's where the arguments, and the package variables that the reading takes, are together of bulk at most 1048576: NARROWER than '..Said'. Prove '..Said' where nothing that the law and all that it calls make is longer than what came in: it says more and counts as full. Else prove '..UptoSaid'. A law counts once. -/
mutual
def uptoBulk {H : Type} : DataW H → Nat
  | .lit (.string bytes) => bytes.length + 1
  | .lit _ => 1
  | .nil => 1
  | .ptr d => uptoBulk d + 1
  | .slice elems spare => uptoBulkAll elems + uptoBulkAll spare + 1
  | .agg parts => uptoBulkAll parts + 1
  | .iface _ d => uptoBulk d + 1
  | .map entries => uptoBulkEntries entries + 1
  | .held _ => 1
def uptoBulkAll {H : Type} : List (DataW H) → Nat
  | [] => 0
  | d :: r => uptoBulk d + uptoBulkAll r
def uptoBulkEntries {H : Type} : List (Lit × DataW H) → Nat
  | [] => 0
  | x :: r => uptoBulkEntry x + uptoBulkEntries r
def uptoBulkEntry {H : Type} : Lit × DataW H → Nat
  | (.string bytes, d) => bytes.length + uptoBulk d + 1
  | (_, d) => uptoBulk d + 1
 end
def uptoSmall : (H : Type) → List (DataW H) → Bool := fun _ ds => decide (uptoBulkAll ds ≤ 1048576)
def OpenSpec.upto (s : _root_.Go.ChangeSpec) : _root_.Go.OpenSpec := { _root_.Go.OpenSpec.ofChange s with cond := some uptoSmall }

/-- 'laws.FnExactConstants', WHERE WHAT IT READS IS OF BULK AT MOST 1048576: true; the input reads as it did. -/
def fnExactConstantsUptoRow : OpenClaim := { program := "ytnpjijakebdljaa", sum := "8fe054bb85d167e9967d02de64e35ec79dc29658a1b23bbd93181b111eb323b8", func := "loop.example/waymark/laws.FnExactConstants", spec := "fnExactConstants", apart := false, narrowed := true }
def FnExactConstantsUptoSaid : Prop := fnExactConstantsUptoRow.holds Try.pinned (OpenSpec.upto fnExactConstantsSpec)

/-- 'laws.FnExactStairOk', WHERE WHAT IT READS IS OF BULK AT MOST 1048576: true; the input reads as it did. -/
def fnExactStairOkUptoRow : OpenClaim := { program := "ytnpjijakebdljaa", sum := "8fe054bb85d167e9967d02de64e35ec79dc29658a1b23bbd93181b111eb323b8", func := "loop.example/waymark/laws.FnExactStairOk", spec := "fnExactStairOk", apart := false, narrowed := true }
def FnExactStairOkUptoSaid : Prop := fnExactStairOkUptoRow.holds Try.pinned (OpenSpec.upto fnExactStairOkSpec)

/-- 'laws.FnExactStairWalk', WHERE WHAT IT READS IS OF BULK AT MOST 1048576: true; the input reads as it did. -/
def fnExactStairWalkUptoRow : OpenClaim := { program := "ytnpjijakebdljaa", sum := "8fe054bb85d167e9967d02de64e35ec79dc29658a1b23bbd93181b111eb323b8", func := "loop.example/waymark/laws.FnExactStairWalk", spec := "fnExactStairWalk", apart := false, narrowed := true }
def FnExactStairWalkUptoSaid : Prop := fnExactStairWalkUptoRow.holds Try.pinned (OpenSpec.upto fnExactStairWalkSpec)

/-- 'laws.FnStairWalk', WHERE WHAT IT READS IS OF BULK AT MOST 1048576: true; the input reads as it did. -/
def fnStairWalkUptoRow : OpenClaim := { program := "ytnpjijakebdljaa", sum := "8fe054bb85d167e9967d02de64e35ec79dc29658a1b23bbd93181b111eb323b8", func := "loop.example/waymark/laws.FnStairWalk", spec := "fnStairWalk", apart := false, narrowed := true }
def FnStairWalkUptoSaid : Prop := fnStairWalkUptoRow.holds Try.pinned (OpenSpec.upto fnStairWalkSpec)

/-- 'laws.FnExactStairLast', WHERE WHAT IT READS IS OF BULK AT MOST 1048576: true; the input reads as it did. -/
def fnExactStairLastUptoRow : OpenClaim := { program := "ytnpjijakebdljaa", sum := "8fe054bb85d167e9967d02de64e35ec79dc29658a1b23bbd93181b111eb323b8", func := "loop.example/waymark/laws.FnExactStairLast", spec := "fnExactStairLast", apart := false, narrowed := true }
def FnExactStairLastUptoSaid : Prop := fnExactStairLastUptoRow.holds Try.pinned (OpenSpec.upto fnExactStairLastSpec)

/-- 'laws.FnExactStairAt', WHERE WHAT IT READS IS OF BULK AT MOST 1048576: true; the input reads as it did. -/
def fnExactStairAtUptoRow : OpenClaim := { program := "ytnpjijakebdljaa", sum := "8fe054bb85d167e9967d02de64e35ec79dc29658a1b23bbd93181b111eb323b8", func := "loop.example/waymark/laws.FnExactStairAt", spec := "fnExactStairAt", apart := false, narrowed := true }
def FnExactStairAtUptoSaid : Prop := fnExactStairAtUptoRow.holds Try.pinned (OpenSpec.upto fnExactStairAtSpec)

/-- 'laws.FnStairAt', WHERE WHAT IT READS IS OF BULK AT MOST 1048576: true; the input reads as it did. -/
def fnStairAtUptoRow : OpenClaim := { program := "ytnpjijakebdljaa", sum := "8fe054bb85d167e9967d02de64e35ec79dc29658a1b23bbd93181b111eb323b8", func := "loop.example/waymark/laws.FnStairAt", spec := "fnStairAt", apart := false, narrowed := true }
def FnStairAtUptoSaid : Prop := fnStairAtUptoRow.holds Try.pinned (OpenSpec.upto fnStairAtSpec)

/-- 'laws.FnStairLast', WHERE WHAT IT READS IS OF BULK AT MOST 1048576: true; the input reads as it did. -/
def fnStairLastUptoRow : OpenClaim := { program := "ytnpjijakebdljaa", sum := "8fe054bb85d167e9967d02de64e35ec79dc29658a1b23bbd93181b111eb323b8", func := "loop.example/waymark/laws.FnStairLast", spec := "fnStairLast", apart := false, narrowed := true }
def FnStairLastUptoSaid : Prop := fnStairLastUptoRow.holds Try.pinned (OpenSpec.upto fnStairLastSpec)

/-- 'laws.FnExactStairOf', WHERE WHAT IT READS IS OF BULK AT MOST 1048576: true; the input reads as it did. -/
def fnExactStairOfUptoRow : OpenClaim := { program := "ytnpjijakebdljaa", sum := "8fe054bb85d167e9967d02de64e35ec79dc29658a1b23bbd93181b111eb323b8", func := "loop.example/waymark/laws.FnExactStairOf", spec := "fnExactStairOf", unfollowed := true, recurses := true, apart := false, narrowed := true }
def FnExactStairOfUptoSaid : Prop := fnExactStairOfUptoRow.holds Try.pinned (OpenSpec.upto fnExactStairOfSpec)

/-- 'laws.FnStairOf', WHERE WHAT IT READS IS OF BULK AT MOST 1048576: true; the input reads as it did. -/
def fnStairOfUptoRow : OpenClaim := { program := "ytnpjijakebdljaa", sum := "8fe054bb85d167e9967d02de64e35ec79dc29658a1b23bbd93181b111eb323b8", func := "loop.example/waymark/laws.FnStairOf", spec := "fnStairOf", unfollowed := true, recurses := true, apart := false, narrowed := true }
def FnStairOfUptoSaid : Prop := fnStairOfUptoRow.holds Try.pinned (OpenSpec.upto fnStairOfSpec)

/-- 'laws.FnStairThree', WHERE WHAT IT READS IS OF BULK AT MOST 1048576: true; the input reads as it did. -/
def fnStairThreeUptoRow : OpenClaim := { program := "ytnpjijakebdljaa", sum := "8fe054bb85d167e9967d02de64e35ec79dc29658a1b23bbd93181b111eb323b8", func := "loop.example/waymark/laws.FnStairThree", spec := "fnStairThree", unfollowed := true, recurses := true, apart := false, narrowed := true }
def FnStairThreeUptoSaid : Prop := fnStairThreeUptoRow.holds Try.pinned (OpenSpec.upto fnStairThreeSpec)

/-- 'laws.FnExactStairLink', WHERE WHAT IT READS IS OF BULK AT MOST 1048576: true; the input reads as it did. -/
def fnExactStairLinkUptoRow : OpenClaim := { program := "ytnpjijakebdljaa", sum := "8fe054bb85d167e9967d02de64e35ec79dc29658a1b23bbd93181b111eb323b8", func := "loop.example/waymark/laws.FnExactStairLink", spec := "fnExactStairLink", unfollowed := true, recurses := true, apart := false, narrowed := true }
def FnExactStairLinkUptoSaid : Prop := fnExactStairLinkUptoRow.holds Try.pinned (OpenSpec.upto fnExactStairLinkSpec)

/-- 'laws.FnStairLink', WHERE WHAT IT READS IS OF BULK AT MOST 1048576: true; the input reads as it did. -/
def fnStairLinkUptoRow : OpenClaim := { program := "ytnpjijakebdljaa", sum := "8fe054bb85d167e9967d02de64e35ec79dc29658a1b23bbd93181b111eb323b8", func := "loop.example/waymark/laws.FnStairLink", spec := "fnStairLink", unfollowed := true, recurses := true, apart := false, narrowed := true }
def FnStairLinkUptoSaid : Prop := fnStairLinkUptoRow.holds Try.pinned (OpenSpec.upto fnStairLinkSpec)

/-- 'laws.FnExactStairBest', WHERE WHAT IT READS IS OF BULK AT MOST 1048576: true; the input reads as it did. -/
def fnExactStairBestUptoRow : OpenClaim := { program := "ytnpjijakebdljaa", sum := "8fe054bb85d167e9967d02de64e35ec79dc29658a1b23bbd93181b111eb323b8", func := "loop.example/waymark/laws.FnExactStairBest", spec := "fnExactStairBest", unfollowed := true, recurses := true, apart := false, narrowed := true }
def FnExactStairBestUptoSaid : Prop := fnExactStairBestUptoRow.holds Try.pinned (OpenSpec.upto fnExactStairBestSpec)

/-- 'laws.FnStairBest', WHERE WHAT IT READS IS OF BULK AT MOST 1048576: true; the input reads as it did. -/
def fnStairBestUptoRow : OpenClaim := { program := "ytnpjijakebdljaa", sum := "8fe054bb85d167e9967d02de64e35ec79dc29658a1b23bbd93181b111eb323b8", func := "loop.example/waymark/laws.FnStairBest", spec := "fnStairBest", unfollowed := true, recurses := true, apart := false, narrowed := true }
def FnStairBestUptoSaid : Prop := fnStairBestUptoRow.holds Try.pinned (OpenSpec.upto fnStairBestSpec)

end Rows
end Go.Proofs.Ytnpjijakebdljaa
