/-
  DERIVED. GIVEN WITH THE SEED: THE CARDS: each row of YtkgaefbohkcofaaGreatDoorRows.lean that lists a variable, with what it lists TIED to the program's text (the seventh form; the later family's looks); each row that meets fmt, with fmt's text TOLD by the authors' own Lean function (tested against real Go, not proved from fmt's source: count such statements apart). THE CARD IS WHAT COUNTS. Prove the row's statement (the work); the ties are given (YtkgaefbohkcofaaGreatDoorTie.lean); close each card by the builder's one call (the guide's Derived/Test/ToyasCard.lean, 'card_holds'). Laid BY PROGRAM, IN A SANDBOX (cutbox-door.mjs). By AI agents, Wed Nov 11 2026. No macro, syntax, notation, axiom, sorry.
-/
import Derived.Test.YtkgaefbohkcofaaGreatDoorRows
import GoSem.ClaimSeven
namespace Go.Proofs.YtkgaefbohkcofaaGreatDoor
namespace Rows

/-- THE TIED CARD OF 'laws.FnTableId'. -/
def fnTableIdCard : Claim7 := { stood := { row := fnTableIdRow, standIns := [], harness := (true, "ed3e5b90959e4f9183c8cc0eb99f4db8d4ee760401dfe0d115031d7d0ad4ea21"), looks := false }, kinds := [], alts := [], laidByText := true, laidKinds := [.data, .data, .data], laidTests := true, laidLooks := .later }
def FnTableIdCardSaid : Prop := Claim7.holds Tryz.pinned (.plain (OpenSpec.ofChange fnTableIdSpec)) fnTableIdCard

/-- THE SECOND FORM's CARD OF 'laws.FnTableId'. -/
def fnTableIdUptoCard : Claim7 := { stood := { row := fnTableIdUptoRow, standIns := [], harness := (true, "ed3e5b90959e4f9183c8cc0eb99f4db8d4ee760401dfe0d115031d7d0ad4ea21"), looks := false }, kinds := [], alts := [], laidByText := true, laidKinds := [.data, .data, .data], laidTests := true, laidLooks := .later }
def FnTableIdUptoCardSaid : Prop := Claim7.holds Tryz.pinned (.plain (OpenSpec.upto fnTableIdSpec)) fnTableIdUptoCard
end Rows
end Go.Proofs.YtkgaefbohkcofaaGreatDoor
