/-
  DERIVED. GIVEN WITH THE SEED: THE CARDS: each row of YtidnkcdelnfkjaaGreatDoorRows.lean that lists a variable, with what it lists TIED to the program's text (the seventh form; the later family's looks); each row that meets fmt, with fmt's text TOLD by the authors' own Lean function (tested against real Go, not proved from fmt's source: count such statements apart). THE CARD IS WHAT COUNTS. Prove the row's statement (the work); the ties are given (YtidnkcdelnfkjaaGreatDoorTie.lean); close each card by the builder's one call (the guide's Derived/Test/ToyasCard.lean, 'card_holds'). Laid BY PROGRAM, IN A SANDBOX (cutbox-door.mjs). By AI agents, Wed Nov 11 2026. No macro, syntax, notation, axiom, sorry.
-/
import Derived.Test.YtidnkcdelnfkjaaGreatDoorRows
import GoSem.ClaimSeven
namespace Go.Proofs.YtidnkcdelnfkjaaGreatDoor
namespace Rows

/-- THE TIED CARD OF 'ordinatelaw06.RegionPolygons'. -/
def regionPolygonsCard : Claim7 := { stood := { row := regionPolygonsRow, standIns := [], harness := (true, "0c5c5f15c933890c92cfe7d7f185875af42e24098677d71bc71344534311eb45"), looks := false }, kinds := [], alts := [], laidByText := true, laidKinds := [.data, .data, .data], laidTests := true, laidLooks := .later }
def RegionPolygonsCardSaid : Prop := Claim7.holds Tryz.pinned (.plain (OpenSpec.ofChange regionPolygonsSpec)) regionPolygonsCard

/-- THE TIED CARD OF 'ordinatelaw06.RegionAreas'. -/
def regionAreasCard : Claim7 := { stood := { row := regionAreasRow, standIns := [], harness := (true, "0c5c5f15c933890c92cfe7d7f185875af42e24098677d71bc71344534311eb45"), looks := false }, kinds := [], alts := [], laidByText := true, laidKinds := [.data, .data, .data], laidTests := true, laidLooks := .later }
def RegionAreasCardSaid : Prop := Claim7.holds Tryz.pinned (.plain (OpenSpec.ofChange regionAreasSpec)) regionAreasCard

/-- THE TIED CARD OF 'ordinatelaw06.RegionSums'. -/
def regionSumsCard : Claim7 := { stood := { row := regionSumsRow, standIns := [], harness := (true, "0c5c5f15c933890c92cfe7d7f185875af42e24098677d71bc71344534311eb45"), looks := false }, kinds := [], alts := [], laidByText := true, laidKinds := [.data, .data, .data], laidTests := true, laidLooks := .later }
def RegionSumsCardSaid : Prop := Claim7.holds Tryz.pinned (.plain (OpenSpec.ofChange regionSumsSpec)) regionSumsCard

/-- THE TIED CARD OF 'ordinatelaw06.RegionMonomials'. -/
def regionMonomialsCard : Claim7 := { stood := { row := regionMonomialsRow, standIns := [], harness := (true, "0c5c5f15c933890c92cfe7d7f185875af42e24098677d71bc71344534311eb45"), looks := false }, kinds := [], alts := [], laidByText := true, laidKinds := [.data, .data, .data], laidTests := true, laidLooks := .later }
def RegionMonomialsCardSaid : Prop := Claim7.holds Tryz.pinned (.plain (OpenSpec.ofChange regionMonomialsSpec)) regionMonomialsCard

/-- THE TIED CARD OF 'ordinatelaw06.RegionProves'. -/
def regionProvesCard : Claim7 := { stood := { row := regionProvesRow, standIns := [], harness := (true, "0c5c5f15c933890c92cfe7d7f185875af42e24098677d71bc71344534311eb45"), looks := false }, kinds := [], alts := [], laidByText := true, laidKinds := [.data, .data, .data], laidTests := true, laidLooks := .later }
def RegionProvesCardSaid : Prop := Claim7.holds Tryz.pinned (.plain (OpenSpec.ofChange regionProvesSpec)) regionProvesCard

/-- THE TIED CARD OF 'ordinatelaw06.RegionFits'. -/
def regionFitsCard : Claim7 := { stood := { row := regionFitsRow, standIns := [], harness := (true, "0c5c5f15c933890c92cfe7d7f185875af42e24098677d71bc71344534311eb45"), looks := false }, kinds := [], alts := [], laidByText := true, laidKinds := [.data, .data, .data], laidTests := true, laidLooks := .later }
def RegionFitsCardSaid : Prop := Claim7.holds Tryz.pinned (.plain (OpenSpec.ofChange regionFitsSpec)) regionFitsCard

/-- THE TIED CARD OF 'ordinatelaw06.RegionReduces'. -/
def regionReducesCard : Claim7 := { stood := { row := regionReducesRow, standIns := [], harness := (true, "0c5c5f15c933890c92cfe7d7f185875af42e24098677d71bc71344534311eb45"), looks := false }, kinds := [], alts := [], laidByText := true, laidKinds := [.data, .data, .data], laidTests := true, laidLooks := .later }
def RegionReducesCardSaid : Prop := Claim7.holds Tryz.pinned (.plain (OpenSpec.ofChange regionReducesSpec)) regionReducesCard

/-- THE TIED CARD OF 'ordinatelaw06.RegionIntegrals'. -/
def regionIntegralsCard : Claim7 := { stood := { row := regionIntegralsRow, standIns := [], harness := (true, "0c5c5f15c933890c92cfe7d7f185875af42e24098677d71bc71344534311eb45"), looks := false }, kinds := [], alts := [], laidByText := true, laidKinds := [.data, .data, .data], laidTests := true, laidLooks := .later }
def RegionIntegralsCardSaid : Prop := Claim7.holds Tryz.pinned (.plain (OpenSpec.ofChange regionIntegralsSpec)) regionIntegralsCard

/-- THE TIED CARD OF 'ordinatelaw06.RegionForms'. -/
def regionFormsCard : Claim7 := { stood := { row := regionFormsRow, standIns := [], harness := (true, "0c5c5f15c933890c92cfe7d7f185875af42e24098677d71bc71344534311eb45"), looks := false }, kinds := [], alts := [], laidByText := true, laidKinds := [.data, .data, .data], laidTests := true, laidLooks := .later }
def RegionFormsCardSaid : Prop := Claim7.holds Tryz.pinned (.plain (OpenSpec.ofChange regionFormsSpec)) regionFormsCard

/-- THE TIED CARD OF 'ordinatelaw06.RegionTchakaloff'. -/
def regionTchakaloffCard : Claim7 := { stood := { row := regionTchakaloffRow, standIns := [], harness := (true, "0c5c5f15c933890c92cfe7d7f185875af42e24098677d71bc71344534311eb45"), looks := false }, kinds := [], alts := [], laidByText := true, laidKinds := [.data, .data, .data], laidTests := true, laidLooks := .later }
def RegionTchakaloffCardSaid : Prop := Claim7.holds Tryz.pinned (.plain (OpenSpec.ofChange regionTchakaloffSpec)) regionTchakaloffCard

/-- THE TIED CARD OF 'ordinatelaw06.RegionProducts'. -/
def regionProductsCard : Claim7 := { stood := { row := regionProductsRow, standIns := [], harness := (true, "0c5c5f15c933890c92cfe7d7f185875af42e24098677d71bc71344534311eb45"), looks := false }, kinds := [], alts := [], laidByText := true, laidKinds := [.data, .data, .data], laidTests := true, laidLooks := .later }
def RegionProductsCardSaid : Prop := Claim7.holds Tryz.pinned (.plain (OpenSpec.ofChange regionProductsSpec)) regionProductsCard

/-- THE TIED CARD OF 'ordinatelaw06.RegionClouds'. -/
def regionCloudsCard : Claim7 := { stood := { row := regionCloudsRow, standIns := [], harness := (true, "0c5c5f15c933890c92cfe7d7f185875af42e24098677d71bc71344534311eb45"), looks := false }, kinds := [], alts := [], laidByText := true, laidKinds := [.data, .data, .data], laidTests := true, laidLooks := .later }
def RegionCloudsCardSaid : Prop := Claim7.holds Tryz.pinned (.plain (OpenSpec.ofChange regionCloudsSpec)) regionCloudsCard

/-- THE TIED CARD OF 'ordinatelaw06.RegionSparse'. -/
def regionSparseCard : Claim7 := { stood := { row := regionSparseRow, standIns := [], harness := (true, "0c5c5f15c933890c92cfe7d7f185875af42e24098677d71bc71344534311eb45"), looks := false }, kinds := [], alts := [], laidByText := true, laidKinds := [.data, .data, .data], laidTests := true, laidLooks := .later }
def RegionSparseCardSaid : Prop := Claim7.holds Tryz.pinned (.plain (OpenSpec.ofChange regionSparseSpec)) regionSparseCard

/-- THE TIED CARD OF 'ordinatelaw06.RegionSmolyak'. -/
def regionSmolyakCard : Claim7 := { stood := { row := regionSmolyakRow, standIns := [], harness := (true, "0c5c5f15c933890c92cfe7d7f185875af42e24098677d71bc71344534311eb45"), looks := false }, kinds := [], alts := [], laidByText := true, laidKinds := [.data, .data, .data], laidTests := true, laidLooks := .later }
def RegionSmolyakCardSaid : Prop := Claim7.holds Tryz.pinned (.plain (OpenSpec.ofChange regionSmolyakSpec)) regionSmolyakCard

/-- THE SECOND FORM's CARD OF 'ordinatelaw06.RegionPolygons'. -/
def regionPolygonsUptoCard : Claim7 := { stood := { row := regionPolygonsUptoRow, standIns := [], harness := (true, "0c5c5f15c933890c92cfe7d7f185875af42e24098677d71bc71344534311eb45"), looks := false }, kinds := [], alts := [], laidByText := true, laidKinds := [.data, .data, .data], laidTests := true, laidLooks := .later }
def RegionPolygonsUptoCardSaid : Prop := Claim7.holds Tryz.pinned (.plain (OpenSpec.upto regionPolygonsSpec)) regionPolygonsUptoCard

/-- THE SECOND FORM's CARD OF 'ordinatelaw06.RegionAreas'. -/
def regionAreasUptoCard : Claim7 := { stood := { row := regionAreasUptoRow, standIns := [], harness := (true, "0c5c5f15c933890c92cfe7d7f185875af42e24098677d71bc71344534311eb45"), looks := false }, kinds := [], alts := [], laidByText := true, laidKinds := [.data, .data, .data], laidTests := true, laidLooks := .later }
def RegionAreasUptoCardSaid : Prop := Claim7.holds Tryz.pinned (.plain (OpenSpec.upto regionAreasSpec)) regionAreasUptoCard

/-- THE SECOND FORM's CARD OF 'ordinatelaw06.RegionSums'. -/
def regionSumsUptoCard : Claim7 := { stood := { row := regionSumsUptoRow, standIns := [], harness := (true, "0c5c5f15c933890c92cfe7d7f185875af42e24098677d71bc71344534311eb45"), looks := false }, kinds := [], alts := [], laidByText := true, laidKinds := [.data, .data, .data], laidTests := true, laidLooks := .later }
def RegionSumsUptoCardSaid : Prop := Claim7.holds Tryz.pinned (.plain (OpenSpec.upto regionSumsSpec)) regionSumsUptoCard

/-- THE SECOND FORM's CARD OF 'ordinatelaw06.RegionMonomials'. -/
def regionMonomialsUptoCard : Claim7 := { stood := { row := regionMonomialsUptoRow, standIns := [], harness := (true, "0c5c5f15c933890c92cfe7d7f185875af42e24098677d71bc71344534311eb45"), looks := false }, kinds := [], alts := [], laidByText := true, laidKinds := [.data, .data, .data], laidTests := true, laidLooks := .later }
def RegionMonomialsUptoCardSaid : Prop := Claim7.holds Tryz.pinned (.plain (OpenSpec.upto regionMonomialsSpec)) regionMonomialsUptoCard

/-- THE SECOND FORM's CARD OF 'ordinatelaw06.RegionProves'. -/
def regionProvesUptoCard : Claim7 := { stood := { row := regionProvesUptoRow, standIns := [], harness := (true, "0c5c5f15c933890c92cfe7d7f185875af42e24098677d71bc71344534311eb45"), looks := false }, kinds := [], alts := [], laidByText := true, laidKinds := [.data, .data, .data], laidTests := true, laidLooks := .later }
def RegionProvesUptoCardSaid : Prop := Claim7.holds Tryz.pinned (.plain (OpenSpec.upto regionProvesSpec)) regionProvesUptoCard

/-- THE SECOND FORM's CARD OF 'ordinatelaw06.RegionFits'. -/
def regionFitsUptoCard : Claim7 := { stood := { row := regionFitsUptoRow, standIns := [], harness := (true, "0c5c5f15c933890c92cfe7d7f185875af42e24098677d71bc71344534311eb45"), looks := false }, kinds := [], alts := [], laidByText := true, laidKinds := [.data, .data, .data], laidTests := true, laidLooks := .later }
def RegionFitsUptoCardSaid : Prop := Claim7.holds Tryz.pinned (.plain (OpenSpec.upto regionFitsSpec)) regionFitsUptoCard

/-- THE SECOND FORM's CARD OF 'ordinatelaw06.RegionReduces'. -/
def regionReducesUptoCard : Claim7 := { stood := { row := regionReducesUptoRow, standIns := [], harness := (true, "0c5c5f15c933890c92cfe7d7f185875af42e24098677d71bc71344534311eb45"), looks := false }, kinds := [], alts := [], laidByText := true, laidKinds := [.data, .data, .data], laidTests := true, laidLooks := .later }
def RegionReducesUptoCardSaid : Prop := Claim7.holds Tryz.pinned (.plain (OpenSpec.upto regionReducesSpec)) regionReducesUptoCard

/-- THE SECOND FORM's CARD OF 'ordinatelaw06.RegionIntegrals'. -/
def regionIntegralsUptoCard : Claim7 := { stood := { row := regionIntegralsUptoRow, standIns := [], harness := (true, "0c5c5f15c933890c92cfe7d7f185875af42e24098677d71bc71344534311eb45"), looks := false }, kinds := [], alts := [], laidByText := true, laidKinds := [.data, .data, .data], laidTests := true, laidLooks := .later }
def RegionIntegralsUptoCardSaid : Prop := Claim7.holds Tryz.pinned (.plain (OpenSpec.upto regionIntegralsSpec)) regionIntegralsUptoCard

/-- THE SECOND FORM's CARD OF 'ordinatelaw06.RegionForms'. -/
def regionFormsUptoCard : Claim7 := { stood := { row := regionFormsUptoRow, standIns := [], harness := (true, "0c5c5f15c933890c92cfe7d7f185875af42e24098677d71bc71344534311eb45"), looks := false }, kinds := [], alts := [], laidByText := true, laidKinds := [.data, .data, .data], laidTests := true, laidLooks := .later }
def RegionFormsUptoCardSaid : Prop := Claim7.holds Tryz.pinned (.plain (OpenSpec.upto regionFormsSpec)) regionFormsUptoCard

/-- THE SECOND FORM's CARD OF 'ordinatelaw06.RegionTchakaloff'. -/
def regionTchakaloffUptoCard : Claim7 := { stood := { row := regionTchakaloffUptoRow, standIns := [], harness := (true, "0c5c5f15c933890c92cfe7d7f185875af42e24098677d71bc71344534311eb45"), looks := false }, kinds := [], alts := [], laidByText := true, laidKinds := [.data, .data, .data], laidTests := true, laidLooks := .later }
def RegionTchakaloffUptoCardSaid : Prop := Claim7.holds Tryz.pinned (.plain (OpenSpec.upto regionTchakaloffSpec)) regionTchakaloffUptoCard

/-- THE SECOND FORM's CARD OF 'ordinatelaw06.RegionProducts'. -/
def regionProductsUptoCard : Claim7 := { stood := { row := regionProductsUptoRow, standIns := [], harness := (true, "0c5c5f15c933890c92cfe7d7f185875af42e24098677d71bc71344534311eb45"), looks := false }, kinds := [], alts := [], laidByText := true, laidKinds := [.data, .data, .data], laidTests := true, laidLooks := .later }
def RegionProductsUptoCardSaid : Prop := Claim7.holds Tryz.pinned (.plain (OpenSpec.upto regionProductsSpec)) regionProductsUptoCard

/-- THE SECOND FORM's CARD OF 'ordinatelaw06.RegionClouds'. -/
def regionCloudsUptoCard : Claim7 := { stood := { row := regionCloudsUptoRow, standIns := [], harness := (true, "0c5c5f15c933890c92cfe7d7f185875af42e24098677d71bc71344534311eb45"), looks := false }, kinds := [], alts := [], laidByText := true, laidKinds := [.data, .data, .data], laidTests := true, laidLooks := .later }
def RegionCloudsUptoCardSaid : Prop := Claim7.holds Tryz.pinned (.plain (OpenSpec.upto regionCloudsSpec)) regionCloudsUptoCard

/-- THE SECOND FORM's CARD OF 'ordinatelaw06.RegionSparse'. -/
def regionSparseUptoCard : Claim7 := { stood := { row := regionSparseUptoRow, standIns := [], harness := (true, "0c5c5f15c933890c92cfe7d7f185875af42e24098677d71bc71344534311eb45"), looks := false }, kinds := [], alts := [], laidByText := true, laidKinds := [.data, .data, .data], laidTests := true, laidLooks := .later }
def RegionSparseUptoCardSaid : Prop := Claim7.holds Tryz.pinned (.plain (OpenSpec.upto regionSparseSpec)) regionSparseUptoCard

/-- THE SECOND FORM's CARD OF 'ordinatelaw06.RegionSmolyak'. -/
def regionSmolyakUptoCard : Claim7 := { stood := { row := regionSmolyakUptoRow, standIns := [], harness := (true, "0c5c5f15c933890c92cfe7d7f185875af42e24098677d71bc71344534311eb45"), looks := false }, kinds := [], alts := [], laidByText := true, laidKinds := [.data, .data, .data], laidTests := true, laidLooks := .later }
def RegionSmolyakUptoCardSaid : Prop := Claim7.holds Tryz.pinned (.plain (OpenSpec.upto regionSmolyakSpec)) regionSmolyakUptoCard
end Rows
end Go.Proofs.YtidnkcdelnfkjaaGreatDoor
