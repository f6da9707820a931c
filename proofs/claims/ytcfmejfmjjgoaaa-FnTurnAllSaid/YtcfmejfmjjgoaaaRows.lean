/-
  No cell of these rows narrows 'for every input' (looked for: loops, veiled, ifaces, maps, wideKeys, modest, calm, conditions, laid).
  DERIVED. THE GIVEN ROWS OF THIS SEAT. 10 by the template 'for every input the law returns true; each argument reads behind the call as it read before'; 0 by the template 'total and deterministic' (their statements: YtcfmejfmjjgoaaaTotals.lean).
  GIVEN WITH THE SEED: the statements are not yours to turn. If you find one false, say at which input.
  Laid BY PROGRAM, IN A SANDBOX (cutbox-rows.mjs): the forced cells as the released guide's own fill.sh prints them over the translation f62fba4b564c5b13… (all of the seat's roots in one cut). By AI agents, Wed Nov 11 2026. No macro, syntax, notation, axiom, sorry.
-/
import Derived.Test.YtcfmejfmjjgoaaaChecked
import GoSem.Claim
import GoSem.ClaimJoined
import GoSem.ClaimMapViews
import Derived.JoinedTies
import Derived.KernelRfl
namespace Go.Proofs.Ytcfmejfmjjgoaaa
/- THE CELL 'sum', in the pinned program and in every row, IS THE sha256 OF THE DUMP (.gsa) THAT YtcfmejfmjjgoaaaProg.lean LOADS. Nothing in Lean hashes anything: it is a label: what it is worth is what the hold of that sum in a sandbox is worth. -/
noncomputable def Try.pinned : Pinned := { name := "ytcfmejfmjjgoaaa", sum := "f62fba4b564c5b139bff7c407ae18cc21f01a0453a3e49ba5726259a8cfe33fc", checked := Try.checked }
namespace Rows
def none {H : Type} : Left H := { results := [], args := [] }

/-- 'laws.FnTurnsOk': WHATEVER THE INPUT: true; the input reads as it did. -/
def fnTurnsOkSpec : ChangeSpec := { name := "fnTurnsOk", fn := fun _ => fun
  | [d] => { results := [.lit (.bool true)], args := [d] }
  | _ => none }
def fnTurnsOkRow : OpenClaim := { program := "ytcfmejfmjjgoaaa", sum := "f62fba4b564c5b139bff7c407ae18cc21f01a0453a3e49ba5726259a8cfe33fc", func := "loop.example/waymark/laws.FnTurnsOk", spec := "fnTurnsOk", unfollowed := true, recurses := true, apart := false }
def FnTurnsOkSaid : Prop := fnTurnsOkRow.holds Try.pinned (OpenSpec.ofChange fnTurnsOkSpec)

/-- ITS FALSE NEIGHBOUR: 'it returns false'. Refute it at one input. -/
def fnTurnsOkWrong : ChangeSpec := { name := "fnTurnsOk", fn := fun _ => fun
  | [d] => { results := [.lit (.bool false)], args := [d] }
  | _ => none }
def FnTurnsOkWrongFalsely : Prop := fnTurnsOkRow.holds Try.pinned (OpenSpec.ofChange fnTurnsOkWrong)

/-- 'laws.FnExactTurnsOk': WHATEVER THE INPUT: true; the input reads as it did. -/
def fnExactTurnsOkSpec : ChangeSpec := { name := "fnExactTurnsOk", fn := fun _ => fun
  | [d1, d2] => { results := [.lit (.bool true)], args := [d1, d2] }
  | _ => none }
def fnExactTurnsOkRow : OpenClaim := { program := "ytcfmejfmjjgoaaa", sum := "f62fba4b564c5b139bff7c407ae18cc21f01a0453a3e49ba5726259a8cfe33fc", func := "loop.example/waymark/laws.FnExactTurnsOk", spec := "fnExactTurnsOk", unfollowed := true, recurses := true, apart := false }
def FnExactTurnsOkSaid : Prop := fnExactTurnsOkRow.holds Try.pinned (OpenSpec.ofChange fnExactTurnsOkSpec)

/-- ITS FALSE NEIGHBOUR: 'it returns false'. Refute it at one input. -/
def fnExactTurnsOkWrong : ChangeSpec := { name := "fnExactTurnsOk", fn := fun _ => fun
  | [d1, d2] => { results := [.lit (.bool false)], args := [d1, d2] }
  | _ => none }
def FnExactTurnsOkWrongFalsely : Prop := fnExactTurnsOkRow.holds Try.pinned (OpenSpec.ofChange fnExactTurnsOkWrong)

/-- 'laws.FnTurnWalk': WHATEVER THE INPUT: true; the input reads as it did. -/
def fnTurnWalkSpec : ChangeSpec := { name := "fnTurnWalk", fn := fun _ => fun
  | [d] => { results := [.lit (.bool true)], args := [d] }
  | _ => none }
def fnTurnWalkRow : OpenClaim := { program := "ytcfmejfmjjgoaaa", sum := "f62fba4b564c5b139bff7c407ae18cc21f01a0453a3e49ba5726259a8cfe33fc", func := "loop.example/waymark/laws.FnTurnWalk", spec := "fnTurnWalk", unfollowed := true, recurses := true, apart := false }
def FnTurnWalkSaid : Prop := fnTurnWalkRow.holds Try.pinned (OpenSpec.ofChange fnTurnWalkSpec)

/-- ITS FALSE NEIGHBOUR: 'it returns false'. Refute it at one input. -/
def fnTurnWalkWrong : ChangeSpec := { name := "fnTurnWalk", fn := fun _ => fun
  | [d] => { results := [.lit (.bool false)], args := [d] }
  | _ => none }
def FnTurnWalkWrongFalsely : Prop := fnTurnWalkRow.holds Try.pinned (OpenSpec.ofChange fnTurnWalkWrong)

/-- 'laws.FnExactTurnWalk': WHATEVER THE INPUT: true; the input reads as it did. -/
def fnExactTurnWalkSpec : ChangeSpec := { name := "fnExactTurnWalk", fn := fun _ => fun
  | [d1, d2, d3] => { results := [.lit (.bool true)], args := [d1, d2, d3] }
  | _ => none }
def fnExactTurnWalkRow : OpenClaim := { program := "ytcfmejfmjjgoaaa", sum := "f62fba4b564c5b139bff7c407ae18cc21f01a0453a3e49ba5726259a8cfe33fc", func := "loop.example/waymark/laws.FnExactTurnWalk", spec := "fnExactTurnWalk", unfollowed := true, recurses := true, apart := false }
def FnExactTurnWalkSaid : Prop := fnExactTurnWalkRow.holds Try.pinned (OpenSpec.ofChange fnExactTurnWalkSpec)

/-- ITS FALSE NEIGHBOUR: 'it returns false'. Refute it at one input. -/
def fnExactTurnWalkWrong : ChangeSpec := { name := "fnExactTurnWalk", fn := fun _ => fun
  | [d1, d2, d3] => { results := [.lit (.bool false)], args := [d1, d2, d3] }
  | _ => none }
def FnExactTurnWalkWrongFalsely : Prop := fnExactTurnWalkRow.holds Try.pinned (OpenSpec.ofChange fnExactTurnWalkWrong)

/-- 'laws.FnTurnLoad': WHATEVER THE INPUT: true; the input reads as it did. -/
def fnTurnLoadSpec : ChangeSpec := { name := "fnTurnLoad", fn := fun _ => fun
  | [d] => { results := [.lit (.bool true)], args := [d] }
  | _ => none }
def fnTurnLoadRow : OpenClaim := { program := "ytcfmejfmjjgoaaa", sum := "f62fba4b564c5b139bff7c407ae18cc21f01a0453a3e49ba5726259a8cfe33fc", func := "loop.example/waymark/laws.FnTurnLoad", spec := "fnTurnLoad", unfollowed := true, recurses := true, apart := false }
def FnTurnLoadSaid : Prop := fnTurnLoadRow.holds Try.pinned (OpenSpec.ofChange fnTurnLoadSpec)

/-- ITS FALSE NEIGHBOUR: 'it returns false'. Refute it at one input. -/
def fnTurnLoadWrong : ChangeSpec := { name := "fnTurnLoad", fn := fun _ => fun
  | [d] => { results := [.lit (.bool false)], args := [d] }
  | _ => none }
def FnTurnLoadWrongFalsely : Prop := fnTurnLoadRow.holds Try.pinned (OpenSpec.ofChange fnTurnLoadWrong)

/-- 'laws.FnExactTurnNet': WHATEVER THE INPUT: true; the input reads as it did. -/
def fnExactTurnNetSpec : ChangeSpec := { name := "fnExactTurnNet", fn := fun _ => fun
  | [d1, d2] => { results := [.lit (.bool true)], args := [d1, d2] }
  | _ => none }
def fnExactTurnNetRow : OpenClaim := { program := "ytcfmejfmjjgoaaa", sum := "f62fba4b564c5b139bff7c407ae18cc21f01a0453a3e49ba5726259a8cfe33fc", func := "loop.example/waymark/laws.FnExactTurnNet", spec := "fnExactTurnNet", unfollowed := true, recurses := true, apart := false }
def FnExactTurnNetSaid : Prop := fnExactTurnNetRow.holds Try.pinned (OpenSpec.ofChange fnExactTurnNetSpec)

/-- ITS FALSE NEIGHBOUR: 'it returns false'. Refute it at one input. -/
def fnExactTurnNetWrong : ChangeSpec := { name := "fnExactTurnNet", fn := fun _ => fun
  | [d1, d2] => { results := [.lit (.bool false)], args := [d1, d2] }
  | _ => none }
def FnExactTurnNetWrongFalsely : Prop := fnExactTurnNetRow.holds Try.pinned (OpenSpec.ofChange fnExactTurnNetWrong)

/-- 'laws.FnTurnNet': WHATEVER THE INPUT: true; the input reads as it did. -/
def fnTurnNetSpec : ChangeSpec := { name := "fnTurnNet", fn := fun _ => fun
  | [d] => { results := [.lit (.bool true)], args := [d] }
  | _ => none }
def fnTurnNetRow : OpenClaim := { program := "ytcfmejfmjjgoaaa", sum := "f62fba4b564c5b139bff7c407ae18cc21f01a0453a3e49ba5726259a8cfe33fc", func := "loop.example/waymark/laws.FnTurnNet", spec := "fnTurnNet", unfollowed := true, recurses := true, apart := false }
def FnTurnNetSaid : Prop := fnTurnNetRow.holds Try.pinned (OpenSpec.ofChange fnTurnNetSpec)

/-- ITS FALSE NEIGHBOUR: 'it returns false'. Refute it at one input. -/
def fnTurnNetWrong : ChangeSpec := { name := "fnTurnNet", fn := fun _ => fun
  | [d] => { results := [.lit (.bool false)], args := [d] }
  | _ => none }
def FnTurnNetWrongFalsely : Prop := fnTurnNetRow.holds Try.pinned (OpenSpec.ofChange fnTurnNetWrong)

/-- 'laws.FnTurnBest': WHATEVER THE INPUT: true; the input reads as it did. -/
def fnTurnBestSpec : ChangeSpec := { name := "fnTurnBest", fn := fun _ => fun
  | [d] => { results := [.lit (.bool true)], args := [d] }
  | _ => none }
def fnTurnBestRow : OpenClaim := { program := "ytcfmejfmjjgoaaa", sum := "f62fba4b564c5b139bff7c407ae18cc21f01a0453a3e49ba5726259a8cfe33fc", func := "loop.example/waymark/laws.FnTurnBest", spec := "fnTurnBest", unfollowed := true, recurses := true, apart := false }
def FnTurnBestSaid : Prop := fnTurnBestRow.holds Try.pinned (OpenSpec.ofChange fnTurnBestSpec)

/-- ITS FALSE NEIGHBOUR: 'it returns false'. Refute it at one input. -/
def fnTurnBestWrong : ChangeSpec := { name := "fnTurnBest", fn := fun _ => fun
  | [d] => { results := [.lit (.bool false)], args := [d] }
  | _ => none }
def FnTurnBestWrongFalsely : Prop := fnTurnBestRow.holds Try.pinned (OpenSpec.ofChange fnTurnBestWrong)

/-- 'laws.FnTurnAll': WHATEVER THE INPUT: true; the input reads as it did. -/
def fnTurnAllSpec : ChangeSpec := { name := "fnTurnAll", fn := fun _ => fun
  | [d] => { results := [.lit (.bool true)], args := [d] }
  | _ => none }
def fnTurnAllRow : OpenClaim := { program := "ytcfmejfmjjgoaaa", sum := "f62fba4b564c5b139bff7c407ae18cc21f01a0453a3e49ba5726259a8cfe33fc", func := "loop.example/waymark/laws.FnTurnAll", spec := "fnTurnAll", unfollowed := true, recurses := true, apart := false }
def FnTurnAllSaid : Prop := fnTurnAllRow.holds Try.pinned (OpenSpec.ofChange fnTurnAllSpec)

/-- ITS FALSE NEIGHBOUR: 'it returns false'. Refute it at one input. -/
def fnTurnAllWrong : ChangeSpec := { name := "fnTurnAll", fn := fun _ => fun
  | [d] => { results := [.lit (.bool false)], args := [d] }
  | _ => none }
def FnTurnAllWrongFalsely : Prop := fnTurnAllRow.holds Try.pinned (OpenSpec.ofChange fnTurnAllWrong)

/-- 'laws.FnExactTurnAll': WHATEVER THE INPUT: true; the input reads as it did. -/
def fnExactTurnAllSpec : ChangeSpec := { name := "fnExactTurnAll", fn := fun _ => fun
  | [d1, d2, d3] => { results := [.lit (.bool true)], args := [d1, d2, d3] }
  | _ => none }
def fnExactTurnAllRow : OpenClaim := { program := "ytcfmejfmjjgoaaa", sum := "f62fba4b564c5b139bff7c407ae18cc21f01a0453a3e49ba5726259a8cfe33fc", func := "loop.example/waymark/laws.FnExactTurnAll", spec := "fnExactTurnAll", unfollowed := true, recurses := true, apart := false }
def FnExactTurnAllSaid : Prop := fnExactTurnAllRow.holds Try.pinned (OpenSpec.ofChange fnExactTurnAllSpec)

/-- ITS FALSE NEIGHBOUR: 'it returns false'. Refute it at one input. -/
def fnExactTurnAllWrong : ChangeSpec := { name := "fnExactTurnAll", fn := fun _ => fun
  | [d1, d2, d3] => { results := [.lit (.bool false)], args := [d1, d2, d3] }
  | _ => none }
def FnExactTurnAllWrongFalsely : Prop := fnExactTurnAllRow.holds Try.pinned (OpenSpec.ofChange fnExactTurnAllWrong)

/- THE SECOND FORM. 'bulk': how many values and letters a reading holds, each counted each time it is reached (what is shared counts as often as it is met; a slice's spare places count too). A statement '..UptoSaid' is the law's where the arguments, and the package variables that the reading takes, are together of bulk at most 1048576: NARROWER than '..Said'. Prove '..Said' where nothing that the law and all that it calls make is longer than what came in: it says more and counts as full. Else prove '..UptoSaid'. A law counts once. -/
mutual
def uptoBulk {H : Type} : DataW H → Nat
  | .lit (.string bytes) => bytes.length + 1
  | .lit _ => 1
  | .nil => 1
  | .ptr d => uptoBulk d + 1
  | .slice elems spare => uptoBulkAll elems + uptoBulkAll spare + 1
  | .agg parts => uptoBulkAll parts + 1
  | .iface _ d => uptoBulk d + 1
  | .map entries => uptoBulkEntries entries + 1
  | .held _ => 1
def uptoBulkAll {H : Type} : List (DataW H) → Nat
  | [] => 0
  | d :: r => uptoBulk d + uptoBulkAll r
def uptoBulkEntries {H : Type} : List (Lit × DataW H) → Nat
  | [] => 0
  | x :: r => uptoBulkEntry x + uptoBulkEntries r
def uptoBulkEntry {H : Type} : Lit × DataW H → Nat
  | (.string bytes, d) => bytes.length + uptoBulk d + 1
  | (_, d) => uptoBulk d + 1
 end
def uptoSmall : (H : Type) → List (DataW H) → Bool := fun _ ds => decide (uptoBulkAll ds ≤ 1048576)
def OpenSpec.upto (s : _root_.Go.ChangeSpec) : _root_.Go.OpenSpec := { _root_.Go.OpenSpec.ofChange s with cond := some uptoSmall }

/-- 'laws.FnTurnsOk', WHERE WHAT IT READS IS OF BULK AT MOST 1048576: true; the input reads as it did. -/
def fnTurnsOkUptoRow : OpenClaim := { program := "ytcfmejfmjjgoaaa", sum := "f62fba4b564c5b139bff7c407ae18cc21f01a0453a3e49ba5726259a8cfe33fc", func := "loop.example/waymark/laws.FnTurnsOk", spec := "fnTurnsOk", unfollowed := true, recurses := true, apart := false, narrowed := true }
def FnTurnsOkUptoSaid : Prop := fnTurnsOkUptoRow.holds Try.pinned (OpenSpec.upto fnTurnsOkSpec)

/-- 'laws.FnExactTurnsOk', WHERE WHAT IT READS IS OF BULK AT MOST 1048576: true; the input reads as it did. -/
def fnExactTurnsOkUptoRow : OpenClaim := { program := "ytcfmejfmjjgoaaa", sum := "f62fba4b564c5b139bff7c407ae18cc21f01a0453a3e49ba5726259a8cfe33fc", func := "loop.example/waymark/laws.FnExactTurnsOk", spec := "fnExactTurnsOk", unfollowed := true, recurses := true, apart := false, narrowed := true }
def FnExactTurnsOkUptoSaid : Prop := fnExactTurnsOkUptoRow.holds Try.pinned (OpenSpec.upto fnExactTurnsOkSpec)

/-- 'laws.FnTurnWalk', WHERE WHAT IT READS IS OF BULK AT MOST 1048576: true; the input reads as it did. -/
def fnTurnWalkUptoRow : OpenClaim := { program := "ytcfmejfmjjgoaaa", sum := "f62fba4b564c5b139bff7c407ae18cc21f01a0453a3e49ba5726259a8cfe33fc", func := "loop.example/waymark/laws.FnTurnWalk", spec := "fnTurnWalk", unfollowed := true, recurses := true, apart := false, narrowed := true }
def FnTurnWalkUptoSaid : Prop := fnTurnWalkUptoRow.holds Try.pinned (OpenSpec.upto fnTurnWalkSpec)

/-- 'laws.FnExactTurnWalk', WHERE WHAT IT READS IS OF BULK AT MOST 1048576: true; the input reads as it did. -/
def fnExactTurnWalkUptoRow : OpenClaim := { program := "ytcfmejfmjjgoaaa", sum := "f62fba4b564c5b139bff7c407ae18cc21f01a0453a3e49ba5726259a8cfe33fc", func := "loop.example/waymark/laws.FnExactTurnWalk", spec := "fnExactTurnWalk", unfollowed := true, recurses := true, apart := false, narrowed := true }
def FnExactTurnWalkUptoSaid : Prop := fnExactTurnWalkUptoRow.holds Try.pinned (OpenSpec.upto fnExactTurnWalkSpec)

/-- 'laws.FnTurnLoad', WHERE WHAT IT READS IS OF BULK AT MOST 1048576: true; the input reads as it did. -/
def fnTurnLoadUptoRow : OpenClaim := { program := "ytcfmejfmjjgoaaa", sum := "f62fba4b564c5b139bff7c407ae18cc21f01a0453a3e49ba5726259a8cfe33fc", func := "loop.example/waymark/laws.FnTurnLoad", spec := "fnTurnLoad", unfollowed := true, recurses := true, apart := false, narrowed := true }
def FnTurnLoadUptoSaid : Prop := fnTurnLoadUptoRow.holds Try.pinned (OpenSpec.upto fnTurnLoadSpec)

/-- 'laws.FnExactTurnNet', WHERE WHAT IT READS IS OF BULK AT MOST 1048576: true; the input reads as it did. -/
def fnExactTurnNetUptoRow : OpenClaim := { program := "ytcfmejfmjjgoaaa", sum := "f62fba4b564c5b139bff7c407ae18cc21f01a0453a3e49ba5726259a8cfe33fc", func := "loop.example/waymark/laws.FnExactTurnNet", spec := "fnExactTurnNet", unfollowed := true, recurses := true, apart := false, narrowed := true }
def FnExactTurnNetUptoSaid : Prop := fnExactTurnNetUptoRow.holds Try.pinned (OpenSpec.upto fnExactTurnNetSpec)

/-- 'laws.FnTurnNet', WHERE WHAT IT READS IS OF BULK AT MOST 1048576: true; the input reads as it did. -/
def fnTurnNetUptoRow : OpenClaim := { program := "ytcfmejfmjjgoaaa", sum := "f62fba4b564c5b139bff7c407ae18cc21f01a0453a3e49ba5726259a8cfe33fc", func := "loop.example/waymark/laws.FnTurnNet", spec := "fnTurnNet", unfollowed := true, recurses := true, apart := false, narrowed := true }
def FnTurnNetUptoSaid : Prop := fnTurnNetUptoRow.holds Try.pinned (OpenSpec.upto fnTurnNetSpec)

/-- 'laws.FnTurnBest', WHERE WHAT IT READS IS OF BULK AT MOST 1048576: true; the input reads as it did. -/
def fnTurnBestUptoRow : OpenClaim := { program := "ytcfmejfmjjgoaaa", sum := "f62fba4b564c5b139bff7c407ae18cc21f01a0453a3e49ba5726259a8cfe33fc", func := "loop.example/waymark/laws.FnTurnBest", spec := "fnTurnBest", unfollowed := true, recurses := true, apart := false, narrowed := true }
def FnTurnBestUptoSaid : Prop := fnTurnBestUptoRow.holds Try.pinned (OpenSpec.upto fnTurnBestSpec)

/-- 'laws.FnTurnAll', WHERE WHAT IT READS IS OF BULK AT MOST 1048576: true; the input reads as it did. -/
def fnTurnAllUptoRow : OpenClaim := { program := "ytcfmejfmjjgoaaa", sum := "f62fba4b564c5b139bff7c407ae18cc21f01a0453a3e49ba5726259a8cfe33fc", func := "loop.example/waymark/laws.FnTurnAll", spec := "fnTurnAll", unfollowed := true, recurses := true, apart := false, narrowed := true }
def FnTurnAllUptoSaid : Prop := fnTurnAllUptoRow.holds Try.pinned (OpenSpec.upto fnTurnAllSpec)

/-- 'laws.FnExactTurnAll', WHERE WHAT IT READS IS OF BULK AT MOST 1048576: true; the input reads as it did. -/
def fnExactTurnAllUptoRow : OpenClaim := { program := "ytcfmejfmjjgoaaa", sum := "f62fba4b564c5b139bff7c407ae18cc21f01a0453a3e49ba5726259a8cfe33fc", func := "loop.example/waymark/laws.FnExactTurnAll", spec := "fnExactTurnAll", unfollowed := true, recurses := true, apart := false, narrowed := true }
def FnExactTurnAllUptoSaid : Prop := fnExactTurnAllUptoRow.holds Try.pinned (OpenSpec.upto fnExactTurnAllSpec)

end Rows
end Go.Proofs.Ytcfmejfmjjgoaaa
