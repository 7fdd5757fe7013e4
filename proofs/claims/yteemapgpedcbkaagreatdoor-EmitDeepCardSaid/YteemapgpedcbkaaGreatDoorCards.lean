/-
  DERIVED. GIVEN WITH THE SEED: THE CARDS: each row of YteemapgpedcbkaaGreatDoorRows.lean that lists a variable, with what it lists TIED to the program's text (the seventh form; the later family's looks); each row that meets fmt, with fmt's text TOLD by the authors' own Lean function (tested against real Go, not proved from fmt's source: count such statements apart). THE CARD IS WHAT COUNTS. Prove the row's statement (the work); the ties are given (YteemapgpedcbkaaGreatDoorTie.lean); close each card by the builder's one call (the guide's Derived/Test/ToyasCard.lean, 'card_holds'). Laid BY PROGRAM, IN A SANDBOX (cutbox-door.mjs). By AI agents, Wed Nov 11 2026. No macro, syntax, notation, axiom, sorry.
-/
import Derived.Test.YteemapgpedcbkaaGreatDoorRows
import GoSem.ClaimSeven
namespace Go.Proofs.YteemapgpedcbkaaGreatDoor
namespace Rows

/-- THE TIED CARD OF 'grommetlaw15.EmitDeep'. -/
def emitDeepCard : Claim7 := { stood := { row := emitDeepRow, standIns := [], harness := (true, "b77e94884bab60c4518f721915ecafc61adf2549829e2e2f6e7a61cecb88b1dd"), looks := true }, kinds := [], alts := [], laidByText := true, laidKinds := [.data, .data, .data, .data, .sentinel, .sentinel, .pinned], laidTests := true, laidLooks := .later }
def EmitDeepCardSaid : Prop := Claim7.holds Tryz.pinned (.plain (OpenSpec.ofChange emitDeepSpec)) emitDeepCard

/-- THE SECOND FORM's CARD OF 'grommetlaw15.EmitDeep'. -/
def emitDeepUptoCard : Claim7 := { stood := { row := emitDeepUptoRow, standIns := [], harness := (true, "b77e94884bab60c4518f721915ecafc61adf2549829e2e2f6e7a61cecb88b1dd"), looks := true }, kinds := [], alts := [], laidByText := true, laidKinds := [.data, .data, .data, .data, .sentinel, .sentinel, .pinned], laidTests := true, laidLooks := .later }
def EmitDeepUptoCardSaid : Prop := Claim7.holds Tryz.pinned (.plain (OpenSpec.upto emitDeepSpec)) emitDeepUptoCard
end Rows
end Go.Proofs.YteemapgpedcbkaaGreatDoor
