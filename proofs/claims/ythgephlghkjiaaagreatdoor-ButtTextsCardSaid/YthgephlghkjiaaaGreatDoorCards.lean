/-
  DERIVED. GIVEN WITH THE SEED: THE CARDS: each row of YthgephlghkjiaaaGreatDoorRows.lean that lists a variable, with what it lists TIED to the program's text (the seventh form; the later family's looks); each row that meets fmt, with fmt's text TOLD by the authors' own Lean function (tested against real Go, not proved from fmt's source: count such statements apart). THE CARD IS WHAT COUNTS. Prove the row's statement (the work); the ties are given (YthgephlghkjiaaaGreatDoorTie.lean); close each card by the builder's one call (the guide's Derived/Test/ToyasCard.lean, 'card_holds'). Laid BY PROGRAM, IN A SANDBOX (cutbox-door.mjs). By AI agents, Wed Nov 11 2026. No macro, syntax, notation, axiom, sorry.
-/
import Derived.Test.YthgephlghkjiaaaGreatDoorRows
import GoSem.ClaimSeven
namespace Go.Proofs.YthgephlghkjiaaaGreatDoor
namespace Rows

/-- THE TIED CARD OF 'nocklaw08.ButtTexts'. -/
def buttTextsCard : Claim7 := { stood := { row := buttTextsRow, standIns := [], harness := (true, "cada5125b5d438357a3c1f09bb87d34e2da591146fc073b2e3c64ced73168703"), looks := true }, kinds := [], alts := [], goes := true, laidByText := true, laidKinds := [.data, .data, .data, .data, .handle, .sentinel, .sentinel, .funcs, .funcs, .sentinel, .pinned], laidTests := true, laidLooks := .later }
def ButtTextsCardSaid : Prop := Claim7.holds Tryz.pinned (.plain (OpenSpec.ofChange buttTextsSpec)) buttTextsCard

/-- THE TIED CARD OF 'nocklaw08.ButtBack'. -/
def buttBackCard : Claim7 := { stood := { row := buttBackRow, standIns := [], harness := (true, "cada5125b5d438357a3c1f09bb87d34e2da591146fc073b2e3c64ced73168703"), looks := true }, kinds := [], alts := [], goes := true, laidByText := true, laidKinds := [.data, .data, .data, .data, .handle, .sentinel, .sentinel, .funcs, .funcs, .sentinel, .pinned], laidTests := true, laidLooks := .later }
def ButtBackCardSaid : Prop := Claim7.holds Tryz.pinned (.plain (OpenSpec.ofChange buttBackSpec)) buttBackCard
end Rows
end Go.Proofs.YthgephlghkjiaaaGreatDoor
