/-
  No cell of these rows narrows 'for every input' (looked for: loops, veiled, ifaces, maps, wideKeys, modest, calm, conditions, laid).
  DERIVED. THE GIVEN ROWS OF THIS SEAT. 10 by the template 'for every input the law returns true; each argument reads behind the call as it read before'; 0 by the template 'total and deterministic' (their statements: YtbmoonciggfbpaaTotals.lean).
  GIVEN WITH THE SEED: the statements are not yours to turn. If you find one false, say at which input.
  Laid BY PROGRAM, IN A SANDBOX (cutbox-rows.mjs): the forced cells as the released guide's own fill.sh prints them over the translation 90788ba885ed00de… (all of the seat's roots in one cut). By AI agents, Wed Nov 11 2026. No macro, syntax, notation, axiom, sorry.
-/
import Derived.Test.YtbmoonciggfbpaaChecked
import GoSem.Claim
import GoSem.ClaimJoined
import GoSem.ClaimMapViews
import Derived.JoinedTies
import Derived.KernelRfl
namespace Go.Proofs.Ytbmoonciggfbpaa
/- THE CELL 'sum', in the pinned program and in every row, IS THE sha256 OF THE DUMP (.gsa) THAT YtbmoonciggfbpaaProg.lean LOADS. Nothing in Lean hashes anything: it is a label: what it is worth is what the hold of that sum in a sandbox is worth. -/
noncomputable def Try.pinned : Pinned := { name := "ytbmoonciggfbpaa", sum := "90788ba885ed00de4baf1dab7bf71e7a95d1bde4d3217472d527dc5e448ae785", checked := Try.checked }
namespace Rows
def none {H : Type} : Left H := { results := [], args := [] }

/-- 'laws.FnNearAll': WHATEVER THE INPUT: true; the input reads as it did. -/
def fnNearAllSpec : ChangeSpec := { name := "fnNearAll", fn := fun _ => fun
  | [d] => { results := [.lit (.bool true)], args := [d] }
  | _ => none }
def fnNearAllRow : OpenClaim := { program := "ytbmoonciggfbpaa", sum := "90788ba885ed00de4baf1dab7bf71e7a95d1bde4d3217472d527dc5e448ae785", func := "loop.example/waymark/laws.FnNearAll", spec := "fnNearAll", unfollowed := true, recurses := true, apart := false }
def FnNearAllSaid : Prop := fnNearAllRow.holds Try.pinned (OpenSpec.ofChange fnNearAllSpec)

/-- ITS FALSE NEIGHBOUR: 'it returns false'. Refute it at one input. -/
def fnNearAllWrong : ChangeSpec := { name := "fnNearAll", fn := fun _ => fun
  | [d] => { results := [.lit (.bool false)], args := [d] }
  | _ => none }
def FnNearAllWrongFalsely : Prop := fnNearAllRow.holds Try.pinned (OpenSpec.ofChange fnNearAllWrong)

/-- 'laws.FnNearWay': WHATEVER THE INPUT: true; the input reads as it did. -/
def fnNearWaySpec : ChangeSpec := { name := "fnNearWay", fn := fun _ => fun
  | [d1, d2] => { results := [.lit (.bool true)], args := [d1, d2] }
  | _ => none }
def fnNearWayRow : OpenClaim := { program := "ytbmoonciggfbpaa", sum := "90788ba885ed00de4baf1dab7bf71e7a95d1bde4d3217472d527dc5e448ae785", func := "loop.example/waymark/laws.FnNearWay", spec := "fnNearWay", unfollowed := true, recurses := true, apart := false }
def FnNearWaySaid : Prop := fnNearWayRow.holds Try.pinned (OpenSpec.ofChange fnNearWaySpec)

/-- ITS FALSE NEIGHBOUR: 'it returns false'. Refute it at one input. -/
def fnNearWayWrong : ChangeSpec := { name := "fnNearWay", fn := fun _ => fun
  | [d1, d2] => { results := [.lit (.bool false)], args := [d1, d2] }
  | _ => none }
def FnNearWayWrongFalsely : Prop := fnNearWayRow.holds Try.pinned (OpenSpec.ofChange fnNearWayWrong)

/-- 'laws.FnNearTo': WHATEVER THE INPUT: true; the input reads as it did. -/
def fnNearToSpec : ChangeSpec := { name := "fnNearTo", fn := fun _ => fun
  | [d] => { results := [.lit (.bool true)], args := [d] }
  | _ => none }
def fnNearToRow : OpenClaim := { program := "ytbmoonciggfbpaa", sum := "90788ba885ed00de4baf1dab7bf71e7a95d1bde4d3217472d527dc5e448ae785", func := "loop.example/waymark/laws.FnNearTo", spec := "fnNearTo", unfollowed := true, recurses := true, apart := false }
def FnNearToSaid : Prop := fnNearToRow.holds Try.pinned (OpenSpec.ofChange fnNearToSpec)

/-- ITS FALSE NEIGHBOUR: 'it returns false'. Refute it at one input. -/
def fnNearToWrong : ChangeSpec := { name := "fnNearTo", fn := fun _ => fun
  | [d] => { results := [.lit (.bool false)], args := [d] }
  | _ => none }
def FnNearToWrongFalsely : Prop := fnNearToRow.holds Try.pinned (OpenSpec.ofChange fnNearToWrong)

/-- 'laws.FnExactNearTo': WHATEVER THE INPUT: true; the input reads as it did. -/
def fnExactNearToSpec : ChangeSpec := { name := "fnExactNearTo", fn := fun _ => fun
  | [d1, d2] => { results := [.lit (.bool true)], args := [d1, d2] }
  | _ => none }
def fnExactNearToRow : OpenClaim := { program := "ytbmoonciggfbpaa", sum := "90788ba885ed00de4baf1dab7bf71e7a95d1bde4d3217472d527dc5e448ae785", func := "loop.example/waymark/laws.FnExactNearTo", spec := "fnExactNearTo", unfollowed := true, recurses := true, apart := false }
def FnExactNearToSaid : Prop := fnExactNearToRow.holds Try.pinned (OpenSpec.ofChange fnExactNearToSpec)

/-- ITS FALSE NEIGHBOUR: 'it returns false'. Refute it at one input. -/
def fnExactNearToWrong : ChangeSpec := { name := "fnExactNearTo", fn := fun _ => fun
  | [d1, d2] => { results := [.lit (.bool false)], args := [d1, d2] }
  | _ => none }
def FnExactNearToWrongFalsely : Prop := fnExactNearToRow.holds Try.pinned (OpenSpec.ofChange fnExactNearToWrong)

/-- 'laws.FnNearRest': WHATEVER THE INPUT: true; the input reads as it did. -/
def fnNearRestSpec : ChangeSpec := { name := "fnNearRest", fn := fun _ => fun
  | [d] => { results := [.lit (.bool true)], args := [d] }
  | _ => none }
def fnNearRestRow : OpenClaim := { program := "ytbmoonciggfbpaa", sum := "90788ba885ed00de4baf1dab7bf71e7a95d1bde4d3217472d527dc5e448ae785", func := "loop.example/waymark/laws.FnNearRest", spec := "fnNearRest", unfollowed := true, recurses := true, apart := false }
def FnNearRestSaid : Prop := fnNearRestRow.holds Try.pinned (OpenSpec.ofChange fnNearRestSpec)

/-- ITS FALSE NEIGHBOUR: 'it returns false'. Refute it at one input. -/
def fnNearRestWrong : ChangeSpec := { name := "fnNearRest", fn := fun _ => fun
  | [d] => { results := [.lit (.bool false)], args := [d] }
  | _ => none }
def FnNearRestWrongFalsely : Prop := fnNearRestRow.holds Try.pinned (OpenSpec.ofChange fnNearRestWrong)

/-- 'laws.FnExactNearAll': WHATEVER THE INPUT: true; the input reads as it did. -/
def fnExactNearAllSpec : ChangeSpec := { name := "fnExactNearAll", fn := fun _ => fun
  | [d1, d2] => { results := [.lit (.bool true)], args := [d1, d2] }
  | _ => none }
def fnExactNearAllRow : OpenClaim := { program := "ytbmoonciggfbpaa", sum := "90788ba885ed00de4baf1dab7bf71e7a95d1bde4d3217472d527dc5e448ae785", func := "loop.example/waymark/laws.FnExactNearAll", spec := "fnExactNearAll", unfollowed := true, recurses := true, apart := false }
def FnExactNearAllSaid : Prop := fnExactNearAllRow.holds Try.pinned (OpenSpec.ofChange fnExactNearAllSpec)

/-- ITS FALSE NEIGHBOUR: 'it returns false'. Refute it at one input. -/
def fnExactNearAllWrong : ChangeSpec := { name := "fnExactNearAll", fn := fun _ => fun
  | [d1, d2] => { results := [.lit (.bool false)], args := [d1, d2] }
  | _ => none }
def FnExactNearAllWrongFalsely : Prop := fnExactNearAllRow.holds Try.pinned (OpenSpec.ofChange fnExactNearAllWrong)

/-- 'laws.FnNearTree': WHATEVER THE INPUT: true; the input reads as it did. -/
def fnNearTreeSpec : ChangeSpec := { name := "fnNearTree", fn := fun _ => fun
  | [d] => { results := [.lit (.bool true)], args := [d] }
  | _ => none }
def fnNearTreeRow : OpenClaim := { program := "ytbmoonciggfbpaa", sum := "90788ba885ed00de4baf1dab7bf71e7a95d1bde4d3217472d527dc5e448ae785", func := "loop.example/waymark/laws.FnNearTree", spec := "fnNearTree", unfollowed := true, recurses := true, apart := false }
def FnNearTreeSaid : Prop := fnNearTreeRow.holds Try.pinned (OpenSpec.ofChange fnNearTreeSpec)

/-- ITS FALSE NEIGHBOUR: 'it returns false'. Refute it at one input. -/
def fnNearTreeWrong : ChangeSpec := { name := "fnNearTree", fn := fun _ => fun
  | [d] => { results := [.lit (.bool false)], args := [d] }
  | _ => none }
def FnNearTreeWrongFalsely : Prop := fnNearTreeRow.holds Try.pinned (OpenSpec.ofChange fnNearTreeWrong)

/-- 'laws.FnExactNearTree': WHATEVER THE INPUT: true; the input reads as it did. -/
def fnExactNearTreeSpec : ChangeSpec := { name := "fnExactNearTree", fn := fun _ => fun
  | [d1, d2] => { results := [.lit (.bool true)], args := [d1, d2] }
  | _ => none }
def fnExactNearTreeRow : OpenClaim := { program := "ytbmoonciggfbpaa", sum := "90788ba885ed00de4baf1dab7bf71e7a95d1bde4d3217472d527dc5e448ae785", func := "loop.example/waymark/laws.FnExactNearTree", spec := "fnExactNearTree", unfollowed := true, recurses := true, apart := false }
def FnExactNearTreeSaid : Prop := fnExactNearTreeRow.holds Try.pinned (OpenSpec.ofChange fnExactNearTreeSpec)

/-- ITS FALSE NEIGHBOUR: 'it returns false'. Refute it at one input. -/
def fnExactNearTreeWrong : ChangeSpec := { name := "fnExactNearTree", fn := fun _ => fun
  | [d1, d2] => { results := [.lit (.bool false)], args := [d1, d2] }
  | _ => none }
def FnExactNearTreeWrongFalsely : Prop := fnExactNearTreeRow.holds Try.pinned (OpenSpec.ofChange fnExactNearTreeWrong)

/-- 'laws.FnExactNearWalk': WHATEVER THE INPUT: true; the input reads as it did. -/
def fnExactNearWalkSpec : ChangeSpec := { name := "fnExactNearWalk", fn := fun _ => fun
  | [d1, d2, d3] => { results := [.lit (.bool true)], args := [d1, d2, d3] }
  | _ => none }
def fnExactNearWalkRow : OpenClaim := { program := "ytbmoonciggfbpaa", sum := "90788ba885ed00de4baf1dab7bf71e7a95d1bde4d3217472d527dc5e448ae785", func := "loop.example/waymark/laws.FnExactNearWalk", spec := "fnExactNearWalk", unfollowed := true, recurses := true, apart := false }
def FnExactNearWalkSaid : Prop := fnExactNearWalkRow.holds Try.pinned (OpenSpec.ofChange fnExactNearWalkSpec)

/-- ITS FALSE NEIGHBOUR: 'it returns false'. Refute it at one input. -/
def fnExactNearWalkWrong : ChangeSpec := { name := "fnExactNearWalk", fn := fun _ => fun
  | [d1, d2, d3] => { results := [.lit (.bool false)], args := [d1, d2, d3] }
  | _ => none }
def FnExactNearWalkWrongFalsely : Prop := fnExactNearWalkRow.holds Try.pinned (OpenSpec.ofChange fnExactNearWalkWrong)

/-- 'laws.FnNearWalk': WHATEVER THE INPUT: true; the input reads as it did. -/
def fnNearWalkSpec : ChangeSpec := { name := "fnNearWalk", fn := fun _ => fun
  | [d] => { results := [.lit (.bool true)], args := [d] }
  | _ => none }
def fnNearWalkRow : OpenClaim := { program := "ytbmoonciggfbpaa", sum := "90788ba885ed00de4baf1dab7bf71e7a95d1bde4d3217472d527dc5e448ae785", func := "loop.example/waymark/laws.FnNearWalk", spec := "fnNearWalk", unfollowed := true, recurses := true, apart := false }
def FnNearWalkSaid : Prop := fnNearWalkRow.holds Try.pinned (OpenSpec.ofChange fnNearWalkSpec)

/-- ITS FALSE NEIGHBOUR: 'it returns false'. Refute it at one input. -/
def fnNearWalkWrong : ChangeSpec := { name := "fnNearWalk", fn := fun _ => fun
  | [d] => { results := [.lit (.bool false)], args := [d] }
  | _ => none }
def FnNearWalkWrongFalsely : Prop := fnNearWalkRow.holds Try.pinned (OpenSpec.ofChange fnNearWalkWrong)

/- THE SECOND FORM. 'bulk': how many values and letters a reading holds, each counted each time it is reached (what is shared counts as often as it is met; a slice's spare places count too). A statement '..UptoSaid' is the law's where the arguments, and the package variables that the reading takes, are together of bulk at most 1048576: NARROWER than '..Said'. Prove '..Said' where nothing that the law and all that it calls make is longer than what came in: it says more and counts as full. Else prove '..UptoSaid'. A law counts once. -/
mutual
def uptoBulk {H : Type} : DataW H → Nat
  | .lit (.string bytes) => bytes.length + 1
  | .lit _ => 1
  | .nil => 1
  | .ptr d => uptoBulk d + 1
  | .slice elems spare => uptoBulkAll elems + uptoBulkAll spare + 1
  | .agg parts => uptoBulkAll parts + 1
  | .iface _ d => uptoBulk d + 1
  | .map entries => uptoBulkEntries entries + 1
  | .held _ => 1
def uptoBulkAll {H : Type} : List (DataW H) → Nat
  | [] => 0
  | d :: r => uptoBulk d + uptoBulkAll r
def uptoBulkEntries {H : Type} : List (Lit × DataW H) → Nat
  | [] => 0
  | x :: r => uptoBulkEntry x + uptoBulkEntries r
def uptoBulkEntry {H : Type} : Lit × DataW H → Nat
  | (.string bytes, d) => bytes.length + uptoBulk d + 1
  | (_, d) => uptoBulk d + 1
 end
def uptoSmall : (H : Type) → List (DataW H) → Bool := fun _ ds => decide (uptoBulkAll ds ≤ 1048576)
def OpenSpec.upto (s : _root_.Go.ChangeSpec) : _root_.Go.OpenSpec := { _root_.Go.OpenSpec.ofChange s with cond := some uptoSmall }

/-- 'laws.FnNearAll', WHERE WHAT IT READS IS OF BULK AT MOST 1048576: true; the input reads as it did. -/
def fnNearAllUptoRow : OpenClaim := { program := "ytbmoonciggfbpaa", sum := "90788ba885ed00de4baf1dab7bf71e7a95d1bde4d3217472d527dc5e448ae785", func := "loop.example/waymark/laws.FnNearAll", spec := "fnNearAll", unfollowed := true, recurses := true, apart := false, narrowed := true }
def FnNearAllUptoSaid : Prop := fnNearAllUptoRow.holds Try.pinned (OpenSpec.upto fnNearAllSpec)

/-- 'laws.FnNearWay', WHERE WHAT IT READS IS OF BULK AT MOST 1048576: true; the input reads as it did. -/
def fnNearWayUptoRow : OpenClaim := { program := "ytbmoonciggfbpaa", sum := "90788ba885ed00de4baf1dab7bf71e7a95d1bde4d3217472d527dc5e448ae785", func := "loop.example/waymark/laws.FnNearWay", spec := "fnNearWay", unfollowed := true, recurses := true, apart := false, narrowed := true }
def FnNearWayUptoSaid : Prop := fnNearWayUptoRow.holds Try.pinned (OpenSpec.upto fnNearWaySpec)

/-- 'laws.FnNearTo', WHERE WHAT IT READS IS OF BULK AT MOST 1048576: true; the input reads as it did. -/
def fnNearToUptoRow : OpenClaim := { program := "ytbmoonciggfbpaa", sum := "90788ba885ed00de4baf1dab7bf71e7a95d1bde4d3217472d527dc5e448ae785", func := "loop.example/waymark/laws.FnNearTo", spec := "fnNearTo", unfollowed := true, recurses := true, apart := false, narrowed := true }
def FnNearToUptoSaid : Prop := fnNearToUptoRow.holds Try.pinned (OpenSpec.upto fnNearToSpec)

/-- 'laws.FnExactNearTo', WHERE WHAT IT READS IS OF BULK AT MOST 1048576: true; the input reads as it did. -/
def fnExactNearToUptoRow : OpenClaim := { program := "ytbmoonciggfbpaa", sum := "90788ba885ed00de4baf1dab7bf71e7a95d1bde4d3217472d527dc5e448ae785", func := "loop.example/waymark/laws.FnExactNearTo", spec := "fnExactNearTo", unfollowed := true, recurses := true, apart := false, narrowed := true }
def FnExactNearToUptoSaid : Prop := fnExactNearToUptoRow.holds Try.pinned (OpenSpec.upto fnExactNearToSpec)

/-- 'laws.FnNearRest', WHERE WHAT IT READS IS OF BULK AT MOST 1048576: true; the input reads as it did. -/
def fnNearRestUptoRow : OpenClaim := { program := "ytbmoonciggfbpaa", sum := "90788ba885ed00de4baf1dab7bf71e7a95d1bde4d3217472d527dc5e448ae785", func := "loop.example/waymark/laws.FnNearRest", spec := "fnNearRest", unfollowed := true, recurses := true, apart := false, narrowed := true }
def FnNearRestUptoSaid : Prop := fnNearRestUptoRow.holds Try.pinned (OpenSpec.upto fnNearRestSpec)

/-- 'laws.FnExactNearAll', WHERE WHAT IT READS IS OF BULK AT MOST 1048576: true; the input reads as it did. -/
def fnExactNearAllUptoRow : OpenClaim := { program := "ytbmoonciggfbpaa", sum := "90788ba885ed00de4baf1dab7bf71e7a95d1bde4d3217472d527dc5e448ae785", func := "loop.example/waymark/laws.FnExactNearAll", spec := "fnExactNearAll", unfollowed := true, recurses := true, apart := false, narrowed := true }
def FnExactNearAllUptoSaid : Prop := fnExactNearAllUptoRow.holds Try.pinned (OpenSpec.upto fnExactNearAllSpec)

/-- 'laws.FnNearTree', WHERE WHAT IT READS IS OF BULK AT MOST 1048576: true; the input reads as it did. -/
def fnNearTreeUptoRow : OpenClaim := { program := "ytbmoonciggfbpaa", sum := "90788ba885ed00de4baf1dab7bf71e7a95d1bde4d3217472d527dc5e448ae785", func := "loop.example/waymark/laws.FnNearTree", spec := "fnNearTree", unfollowed := true, recurses := true, apart := false, narrowed := true }
def FnNearTreeUptoSaid : Prop := fnNearTreeUptoRow.holds Try.pinned (OpenSpec.upto fnNearTreeSpec)

/-- 'laws.FnExactNearTree', WHERE WHAT IT READS IS OF BULK AT MOST 1048576: true; the input reads as it did. -/
def fnExactNearTreeUptoRow : OpenClaim := { program := "ytbmoonciggfbpaa", sum := "90788ba885ed00de4baf1dab7bf71e7a95d1bde4d3217472d527dc5e448ae785", func := "loop.example/waymark/laws.FnExactNearTree", spec := "fnExactNearTree", unfollowed := true, recurses := true, apart := false, narrowed := true }
def FnExactNearTreeUptoSaid : Prop := fnExactNearTreeUptoRow.holds Try.pinned (OpenSpec.upto fnExactNearTreeSpec)

/-- 'laws.FnExactNearWalk', WHERE WHAT IT READS IS OF BULK AT MOST 1048576: true; the input reads as it did. -/
def fnExactNearWalkUptoRow : OpenClaim := { program := "ytbmoonciggfbpaa", sum := "90788ba885ed00de4baf1dab7bf71e7a95d1bde4d3217472d527dc5e448ae785", func := "loop.example/waymark/laws.FnExactNearWalk", spec := "fnExactNearWalk", unfollowed := true, recurses := true, apart := false, narrowed := true }
def FnExactNearWalkUptoSaid : Prop := fnExactNearWalkUptoRow.holds Try.pinned (OpenSpec.upto fnExactNearWalkSpec)

/-- 'laws.FnNearWalk', WHERE WHAT IT READS IS OF BULK AT MOST 1048576: true; the input reads as it did. -/
def fnNearWalkUptoRow : OpenClaim := { program := "ytbmoonciggfbpaa", sum := "90788ba885ed00de4baf1dab7bf71e7a95d1bde4d3217472d527dc5e448ae785", func := "loop.example/waymark/laws.FnNearWalk", spec := "fnNearWalk", unfollowed := true, recurses := true, apart := false, narrowed := true }
def FnNearWalkUptoSaid : Prop := fnNearWalkUptoRow.holds Try.pinned (OpenSpec.upto fnNearWalkSpec)

end Rows
end Go.Proofs.Ytbmoonciggfbpaa
