/-
  DERIVED. GIVEN WITH THE SEED: THE CARDS: each row of YtalnhplbnklpoaaGreatDoorRows.lean that lists a variable, with what it lists TIED to the program's text (the seventh form; the later family's looks); each row that meets fmt, with fmt's text TOLD by the authors' own Lean function (tested against real Go, not proved from fmt's source: count such statements apart). THE CARD IS WHAT COUNTS. Prove the row's statement (the work); the ties are given (YtalnhplbnklpoaaGreatDoorTie.lean); close each card by the builder's one call (the guide's Derived/Test/ToyasCard.lean, 'card_holds'). Laid BY PROGRAM, IN A SANDBOX (cutbox-door.mjs). By AI agents, Wed Nov 11 2026. No macro, syntax, notation, axiom, sorry.
-/
import Derived.Test.YtalnhplbnklpoaaGreatDoorRows
import GoSem.ClaimSeven
namespace Go.Proofs.YtalnhplbnklpoaaGreatDoor
namespace Rows

/-- THE TIED CARD OF 'ordinatelaw06.RegionProducts'. -/
def regionProductsCard : Claim7 := { stood := { row := regionProductsRow, standIns := [], harness := (true, "eaacba1f07ffe869e78da01b5b4b821e74dd91fa24badd37df5964e31a50c3dc"), looks := false }, kinds := [], alts := [], laidByText := true, laidKinds := [.data, .data, .data], laidTests := true, laidLooks := .later }
def RegionProductsCardSaid : Prop := Claim7.holds Tryz.pinned (.plain (OpenSpec.ofChange regionProductsSpec)) regionProductsCard

/-- THE SECOND FORM's CARD OF 'ordinatelaw06.RegionProducts'. -/
def regionProductsUptoCard : Claim7 := { stood := { row := regionProductsUptoRow, standIns := [], harness := (true, "eaacba1f07ffe869e78da01b5b4b821e74dd91fa24badd37df5964e31a50c3dc"), looks := false }, kinds := [], alts := [], laidByText := true, laidKinds := [.data, .data, .data], laidTests := true, laidLooks := .later }
def RegionProductsUptoCardSaid : Prop := Claim7.holds Tryz.pinned (.plain (OpenSpec.upto regionProductsSpec)) regionProductsUptoCard
end Rows
end Go.Proofs.YtalnhplbnklpoaaGreatDoor
