/-
  DERIVED. GIVEN WITH THE SEED: THE CARDS: each row of YtmamikjllokmiaaGreatDoorRows.lean that lists a variable, with what it lists TIED to the program's text (the seventh form; the later family's looks); each row that meets fmt, with fmt's text TOLD by the authors' own Lean function (tested against real Go, not proved from fmt's source: count such statements apart). THE CARD IS WHAT COUNTS. Prove the row's statement (the work); the ties are given (YtmamikjllokmiaaGreatDoorTie.lean); close each card by the builder's one call (the guide's Derived/Test/ToyasCard.lean, 'card_holds'). Laid BY PROGRAM, IN A SANDBOX (cutbox-door.mjs). By AI agents, Wed Nov 11 2026. No macro, syntax, notation, axiom, sorry.
-/
import Derived.Test.YtmamikjllokmiaaGreatDoorRows
import GoSem.ClaimSeven
namespace Go.Proofs.YtmamikjllokmiaaGreatDoor
namespace Rows

/-- THE TIED CARD OF 'archivistlaw20.FanEnds'. -/
def fanEndsCard : Claim7 := { stood := { row := fanEndsRow, standIns := [], harness := (true, "d77eaf0cb9afc44f3bda372bc87c3ee9bd7ff30d95bc381c40cd50f98b97e175"), looks := true }, kinds := [], alts := [], laidByText := true, laidKinds := [.data, .data, .data, .sentinel, .sentinel], laidTests := true, laidLooks := .later }
def FanEndsCardSaid : Prop := Claim7.holds Tryz.pinned (.plain (OpenSpec.ofChange fanEndsSpec)) fanEndsCard

/-- THE SECOND FORM's CARD OF 'archivistlaw20.FanEnds'. -/
def fanEndsUptoCard : Claim7 := { stood := { row := fanEndsUptoRow, standIns := [], harness := (true, "d77eaf0cb9afc44f3bda372bc87c3ee9bd7ff30d95bc381c40cd50f98b97e175"), looks := true }, kinds := [], alts := [], laidByText := true, laidKinds := [.data, .data, .data, .sentinel, .sentinel], laidTests := true, laidLooks := .later }
def FanEndsUptoCardSaid : Prop := Claim7.holds Tryz.pinned (.plain (OpenSpec.upto fanEndsSpec)) fanEndsUptoCard
end Rows
end Go.Proofs.YtmamikjllokmiaaGreatDoor
