/-
  DERIVED. GIVEN WITH THE SEED: THE CARDS: each row of YtemnaolonamolaaGreatDoorRows.lean that lists a variable, with what it lists TIED to the program's text (the seventh form; the later family's looks); each row that meets fmt, with fmt's text TOLD by the authors' own Lean function (tested against real Go, not proved from fmt's source: count such statements apart). THE CARD IS WHAT COUNTS. Prove the row's statement (the work); the ties are given (YtemnaolonamolaaGreatDoorTie.lean); close each card by the builder's one call (the guide's Derived/Test/ToyasCard.lean, 'card_holds'). Laid BY PROGRAM, IN A SANDBOX (cutbox-door.mjs). By AI agents, Wed Nov 11 2026. No macro, syntax, notation, axiom, sorry.
-/
import Derived.Test.YtemnaolonamolaaGreatDoorRows
import GoSem.ClaimSeven
namespace Go.Proofs.YtemnaolonamolaaGreatDoor
namespace Rows

/-- THE TIED CARD OF 'ordinatetop.TopSeries'. -/
def topSeriesCard : Claim7 := { stood := { row := topSeriesRow, standIns := [], harness := (true, "44e5d1f5c88befb55fb741aa64b77fb6a95b6d5d5de313405229a8d62f169080"), looks := true }, kinds := [], alts := [], laidByText := true, laidKinds := [.data, .data, .data], laidTests := true, laidLooks := .later }
def TopSeriesCardSaid : Prop := Claim7.holds Tryz.pinned (.plain (OpenSpec.ofChange topSeriesSpec)) topSeriesCard

/-- THE SECOND FORM's CARD OF 'ordinatetop.TopSeries'. -/
def topSeriesUptoCard : Claim7 := { stood := { row := topSeriesUptoRow, standIns := [], harness := (true, "44e5d1f5c88befb55fb741aa64b77fb6a95b6d5d5de313405229a8d62f169080"), looks := true }, kinds := [], alts := [], laidByText := true, laidKinds := [.data, .data, .data], laidTests := true, laidLooks := .later }
def TopSeriesUptoCardSaid : Prop := Claim7.holds Tryz.pinned (.plain (OpenSpec.upto topSeriesSpec)) topSeriesUptoCard
end Rows
end Go.Proofs.YtemnaolonamolaaGreatDoor
