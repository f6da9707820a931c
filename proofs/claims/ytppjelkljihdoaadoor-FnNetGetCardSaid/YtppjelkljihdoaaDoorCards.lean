/-
  DERIVED. GIVEN WITH THE SEED: THE CARDS: each row of YtppjelkljihdoaaDoorRows.lean that lists a variable, with what it lists TIED to the program's text (the seventh form; the later family's looks); each row that meets fmt, with fmt's text TOLD by the authors' own Lean function (tested against real Go, not proved from fmt's source: count such statements apart). THE CARD IS WHAT COUNTS. Prove the row's statement (the work); the ties are given (YtppjelkljihdoaaDoorTie.lean); close each card by the builder's one call (the guide's Derived/Test/ToyasCard.lean, 'card_holds'). Laid BY PROGRAM, IN A SANDBOX (cutbox-door.mjs). By AI agents, Wed Nov 11 2026. No macro, syntax, notation, axiom, sorry.
-/
import Derived.Test.YtppjelkljihdoaaDoorRows
import GoSem.ClaimSeven
namespace Go.Proofs.YtppjelkljihdoaaDoor
namespace Rows

/-- THE TIED CARD OF 'laws.FnNetPut'. -/
def fnNetPutCard : Claim7 := { stood := { row := fnNetPutRow, standIns := [], harness := (true, "b195c6c6f846b8fa04a7f9aafa0e87211945c69103f5fbac091660d33d954ed2"), looks := true }, kinds := [], alts := [], laidByText := true, laidKinds := [.data, .data, .data, .data, .sentinel, .sentinel, .pinned], laidTests := true, laidLooks := .later }
def FnNetPutCardSaid : Prop := Claim7.holds Tryd.pinned (.plain (OpenSpec.ofChange fnNetPutSpec)) fnNetPutCard

/-- THE TIED CARD OF 'laws.FnNetGet'. -/
def fnNetGetCard : Claim7 := { stood := { row := fnNetGetRow, standIns := [], harness := (true, "b195c6c6f846b8fa04a7f9aafa0e87211945c69103f5fbac091660d33d954ed2"), looks := true }, kinds := [], alts := [], laidByText := true, laidKinds := [.data, .data, .data, .data, .sentinel, .sentinel, .pinned], laidTests := true, laidLooks := .later }
def FnNetGetCardSaid : Prop := Claim7.holds Tryd.pinned (.plain (OpenSpec.ofChange fnNetGetSpec)) fnNetGetCard

/-- THE TIED CARD OF 'laws.FnExactNetGet'. -/
def fnExactNetGetCard : Claim7 := { stood := { row := fnExactNetGetRow, standIns := [], harness := (true, "b195c6c6f846b8fa04a7f9aafa0e87211945c69103f5fbac091660d33d954ed2"), looks := true }, kinds := [], alts := [], laidByText := true, laidKinds := [.data, .data, .data, .data, .sentinel, .sentinel, .pinned], laidTests := true, laidLooks := .later }
def FnExactNetGetCardSaid : Prop := Claim7.holds Tryd.pinned (.plain (OpenSpec.ofChange fnExactNetGetSpec)) fnExactNetGetCard

/-- THE TIED CARD OF 'laws.FnExactNetPut'. -/
def fnExactNetPutCard : Claim7 := { stood := { row := fnExactNetPutRow, standIns := [], harness := (true, "b195c6c6f846b8fa04a7f9aafa0e87211945c69103f5fbac091660d33d954ed2"), looks := true }, kinds := [], alts := [], laidByText := true, laidKinds := [.data, .data, .data], laidTests := true, laidLooks := .later }
def FnExactNetPutCardSaid : Prop := Claim7.holds Tryd.pinned (.plain (OpenSpec.ofChange fnExactNetPutSpec)) fnExactNetPutCard

/-- THE SECOND FORM's CARD OF 'laws.FnNetPut'. -/
def fnNetPutUptoCard : Claim7 := { stood := { row := fnNetPutUptoRow, standIns := [], harness := (true, "b195c6c6f846b8fa04a7f9aafa0e87211945c69103f5fbac091660d33d954ed2"), looks := true }, kinds := [], alts := [], laidByText := true, laidKinds := [.data, .data, .data, .data, .sentinel, .sentinel, .pinned], laidTests := true, laidLooks := .later }
def FnNetPutUptoCardSaid : Prop := Claim7.holds Tryd.pinned (.plain (OpenSpec.upto fnNetPutSpec)) fnNetPutUptoCard

/-- THE SECOND FORM's CARD OF 'laws.FnNetGet'. -/
def fnNetGetUptoCard : Claim7 := { stood := { row := fnNetGetUptoRow, standIns := [], harness := (true, "b195c6c6f846b8fa04a7f9aafa0e87211945c69103f5fbac091660d33d954ed2"), looks := true }, kinds := [], alts := [], laidByText := true, laidKinds := [.data, .data, .data, .data, .sentinel, .sentinel, .pinned], laidTests := true, laidLooks := .later }
def FnNetGetUptoCardSaid : Prop := Claim7.holds Tryd.pinned (.plain (OpenSpec.upto fnNetGetSpec)) fnNetGetUptoCard

/-- THE SECOND FORM's CARD OF 'laws.FnExactNetGet'. -/
def fnExactNetGetUptoCard : Claim7 := { stood := { row := fnExactNetGetUptoRow, standIns := [], harness := (true, "b195c6c6f846b8fa04a7f9aafa0e87211945c69103f5fbac091660d33d954ed2"), looks := true }, kinds := [], alts := [], laidByText := true, laidKinds := [.data, .data, .data, .data, .sentinel, .sentinel, .pinned], laidTests := true, laidLooks := .later }
def FnExactNetGetUptoCardSaid : Prop := Claim7.holds Tryd.pinned (.plain (OpenSpec.upto fnExactNetGetSpec)) fnExactNetGetUptoCard

/-- THE SECOND FORM's CARD OF 'laws.FnExactNetPut'. -/
def fnExactNetPutUptoCard : Claim7 := { stood := { row := fnExactNetPutUptoRow, standIns := [], harness := (true, "b195c6c6f846b8fa04a7f9aafa0e87211945c69103f5fbac091660d33d954ed2"), looks := true }, kinds := [], alts := [], laidByText := true, laidKinds := [.data, .data, .data], laidTests := true, laidLooks := .later }
def FnExactNetPutUptoCardSaid : Prop := Claim7.holds Tryd.pinned (.plain (OpenSpec.upto fnExactNetPutSpec)) fnExactNetPutUptoCard
end Rows
end Go.Proofs.YtppjelkljihdoaaDoor
