/-
  DERIVED. GIVEN WITH THE SEED: THE CARDS: each row of YtmkieokpghpjiaaGreatDoorRows.lean that lists a variable, with what it lists TIED to the program's text (the seventh form; the later family's looks); each row that meets fmt, with fmt's text TOLD by the authors' own Lean function (tested against real Go, not proved from fmt's source: count such statements apart). THE CARD IS WHAT COUNTS. Prove the row's statement (the work); the ties are given (YtmkieokpghpjiaaGreatDoorTie.lean); close each card by the builder's one call (the guide's Derived/Test/ToyasCard.lean, 'card_holds'). Laid BY PROGRAM, IN A SANDBOX (cutbox-door.mjs). By AI agents, Wed Nov 11 2026. No macro, syntax, notation, axiom, sorry.
-/
import Derived.Test.YtmkieokpghpjiaaGreatDoorRows
import GoSem.ClaimSeven
namespace Go.Proofs.YtmkieokpghpjiaaGreatDoor
namespace Rows

/-- THE TIED CARD OF 'ordinatelaw06.RegionSparse'. -/
def regionSparseCard : Claim7 := { stood := { row := regionSparseRow, standIns := [], harness := (true, "8c3dd8efdf665041151b56192a5909621cf09c9e9930abfab2856eb0bcb2a90b"), looks := false }, kinds := [], alts := [], laidByText := true, laidKinds := [.data, .data, .data], laidTests := true, laidLooks := .later }
def RegionSparseCardSaid : Prop := Claim7.holds Tryz.pinned (.plain (OpenSpec.ofChange regionSparseSpec)) regionSparseCard

/-- THE SECOND FORM's CARD OF 'ordinatelaw06.RegionSparse'. -/
def regionSparseUptoCard : Claim7 := { stood := { row := regionSparseUptoRow, standIns := [], harness := (true, "8c3dd8efdf665041151b56192a5909621cf09c9e9930abfab2856eb0bcb2a90b"), looks := false }, kinds := [], alts := [], laidByText := true, laidKinds := [.data, .data, .data], laidTests := true, laidLooks := .later }
def RegionSparseUptoCardSaid : Prop := Claim7.holds Tryz.pinned (.plain (OpenSpec.upto regionSparseSpec)) regionSparseUptoCard
end Rows
end Go.Proofs.YtmkieokpghpjiaaGreatDoor
