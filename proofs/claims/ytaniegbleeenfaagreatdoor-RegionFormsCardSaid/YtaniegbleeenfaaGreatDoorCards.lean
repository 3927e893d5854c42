/-
  DERIVED. GIVEN WITH THE SEED: THE CARDS: each row of YtaniegbleeenfaaGreatDoorRows.lean that lists a variable, with what it lists TIED to the program's text (the seventh form; the later family's looks); each row that meets fmt, with fmt's text TOLD by the authors' own Lean function (tested against real Go, not proved from fmt's source: count such statements apart). THE CARD IS WHAT COUNTS. Prove the row's statement (the work); the ties are given (YtaniegbleeenfaaGreatDoorTie.lean); close each card by the builder's one call (the guide's Derived/Test/ToyasCard.lean, 'card_holds'). Laid BY PROGRAM, IN A SANDBOX (cutbox-door.mjs). By AI agents, Wed Nov 11 2026. No macro, syntax, notation, axiom, sorry.
-/
import Derived.Test.YtaniegbleeenfaaGreatDoorRows
import GoSem.ClaimSeven
namespace Go.Proofs.YtaniegbleeenfaaGreatDoor
namespace Rows

/-- THE TIED CARD OF 'ordinatelaw06.RegionForms'. -/
def regionFormsCard : Claim7 := { stood := { row := regionFormsRow, standIns := [], harness := (true, "5f026869bd5e528ca9325b3e9e74ab33c444a2464b570d752a841081aab1d00b"), looks := false }, kinds := [], alts := [], laidByText := true, laidKinds := [.data, .data, .data], laidTests := true, laidLooks := .later }
def RegionFormsCardSaid : Prop := Claim7.holds Tryz.pinned (.plain (OpenSpec.ofChange regionFormsSpec)) regionFormsCard

/-- THE SECOND FORM's CARD OF 'ordinatelaw06.RegionForms'. -/
def regionFormsUptoCard : Claim7 := { stood := { row := regionFormsUptoRow, standIns := [], harness := (true, "5f026869bd5e528ca9325b3e9e74ab33c444a2464b570d752a841081aab1d00b"), looks := false }, kinds := [], alts := [], laidByText := true, laidKinds := [.data, .data, .data], laidTests := true, laidLooks := .later }
def RegionFormsUptoCardSaid : Prop := Claim7.holds Tryz.pinned (.plain (OpenSpec.upto regionFormsSpec)) regionFormsUptoCard
end Rows
end Go.Proofs.YtaniegbleeenfaaGreatDoor
