/-
  DERIVED. GIVEN WITH THE SEED: THE CARDS: each row of YtdheblnjmnlpfaaGreatDoorRows.lean that lists a variable, with what it lists TIED to the program's text (the seventh form; the later family's looks); each row that meets fmt, with fmt's text TOLD by the authors' own Lean function (tested against real Go, not proved from fmt's source: count such statements apart). THE CARD IS WHAT COUNTS. Prove the row's statement (the work); the ties are given (YtdheblnjmnlpfaaGreatDoorTie.lean); close each card by the builder's one call (the guide's Derived/Test/ToyasCard.lean, 'card_holds'). Laid BY PROGRAM, IN A SANDBOX (cutbox-door.mjs). By AI agents, Wed Nov 11 2026. No macro, syntax, notation, axiom, sorry.
-/
import Derived.Test.YtdheblnjmnlpfaaGreatDoorRows
import GoSem.ClaimSeven
namespace Go.Proofs.YtdheblnjmnlpfaaGreatDoor
namespace Rows

/-- THE TIED CARD OF 'ordinatelaw01.NumReads'. -/
def numReadsCard : Claim7 := { stood := { row := numReadsRow, standIns := [], harness := (true, "d16810730f89bce1b9cc8410eb3f2ce7fcbbc20ed803cf82e67a7162be033119"), looks := true }, kinds := [], alts := [], laidByText := true, laidKinds := [.data, .data, .data, .data, .sentinel, .sentinel, .pinned], laidTests := true, laidLooks := .later }
def NumReadsCardSaid : Prop := Claim7.holds Tryz.pinned (.plain (OpenSpec.ofChange numReadsSpec)) numReadsCard

/-- THE TIED CARD OF 'ordinatelaw01.NumSimplest'. -/
def numSimplestCard : Claim7 := { stood := { row := numSimplestRow, standIns := [], harness := (true, "d16810730f89bce1b9cc8410eb3f2ce7fcbbc20ed803cf82e67a7162be033119"), looks := true }, kinds := [], alts := [], laidByText := true, laidKinds := [.data, .data, .data, .data, .sentinel, .sentinel, .pinned], laidTests := true, laidLooks := .later }
def NumSimplestCardSaid : Prop := Claim7.holds Tryz.pinned (.plain (OpenSpec.ofChange numSimplestSpec)) numSimplestCard

/-- THE TIED CARD OF 'ordinatelaw01.NumDigits'. -/
def numDigitsCard : Claim7 := { stood := { row := numDigitsRow, standIns := [], harness := (true, "d16810730f89bce1b9cc8410eb3f2ce7fcbbc20ed803cf82e67a7162be033119"), looks := true }, kinds := [], alts := [], laidByText := true, laidKinds := [.data, .data, .data, .data, .sentinel, .sentinel, .pinned], laidTests := true, laidLooks := .later }
def NumDigitsCardSaid : Prop := Claim7.holds Tryz.pinned (.plain (OpenSpec.ofChange numDigitsSpec)) numDigitsCard

/-- THE TIED CARD OF 'ordinatelaw01.NumTexts'. -/
def numTextsCard : Claim7 := { stood := { row := numTextsRow, standIns := [], harness := (true, "d16810730f89bce1b9cc8410eb3f2ce7fcbbc20ed803cf82e67a7162be033119"), looks := true }, kinds := [], alts := [], laidByText := true, laidKinds := [.data, .data, .data, .data, .sentinel, .sentinel, .pinned], laidTests := true, laidLooks := .later }
def NumTextsCardSaid : Prop := Claim7.holds Tryz.pinned (.plain (OpenSpec.ofChange numTextsSpec)) numTextsCard

/-- THE TIED CARD OF 'ordinatelaw01.NumGrid'. -/
def numGridCard : Claim7 := { stood := { row := numGridRow, standIns := [], harness := (true, "d16810730f89bce1b9cc8410eb3f2ce7fcbbc20ed803cf82e67a7162be033119"), looks := true }, kinds := [], alts := [], laidByText := true, laidKinds := [.data, .data, .data, .data, .sentinel, .sentinel, .pinned], laidTests := true, laidLooks := .later }
def NumGridCardSaid : Prop := Claim7.holds Tryz.pinned (.plain (OpenSpec.ofChange numGridSpec)) numGridCard

/-- THE TIED CARD OF 'ordinatelaw01.NumField'. -/
def numFieldCard : Claim7 := { stood := { row := numFieldRow, standIns := [], harness := (true, "d16810730f89bce1b9cc8410eb3f2ce7fcbbc20ed803cf82e67a7162be033119"), looks := true }, kinds := [], alts := [], laidByText := true, laidKinds := [.data, .data, .data, .data, .sentinel, .sentinel, .pinned], laidTests := true, laidLooks := .later }
def NumFieldCardSaid : Prop := Claim7.holds Tryz.pinned (.plain (OpenSpec.ofChange numFieldSpec)) numFieldCard

/-- THE TIED CARD OF 'ordinatelaw01.NumGrids'. -/
def numGridsCard : Claim7 := { stood := { row := numGridsRow, standIns := [], harness := (true, "d16810730f89bce1b9cc8410eb3f2ce7fcbbc20ed803cf82e67a7162be033119"), looks := true }, kinds := [], alts := [], laidByText := true, laidKinds := [.data, .data, .data, .data, .sentinel, .sentinel, .pinned], laidTests := true, laidLooks := .later }
def NumGridsCardSaid : Prop := Claim7.holds Tryz.pinned (.plain (OpenSpec.ofChange numGridsSpec)) numGridsCard

/-- THE TIED CARD OF 'ordinatelaw01.NumSimple'. -/
def numSimpleCard : Claim7 := { stood := { row := numSimpleRow, standIns := [], harness := (true, "d16810730f89bce1b9cc8410eb3f2ce7fcbbc20ed803cf82e67a7162be033119"), looks := true }, kinds := [], alts := [], laidByText := true, laidKinds := [.data, .data, .data, .data, .sentinel, .sentinel, .pinned], laidTests := true, laidLooks := .later }
def NumSimpleCardSaid : Prop := Claim7.holds Tryz.pinned (.plain (OpenSpec.ofChange numSimpleSpec)) numSimpleCard

/-- THE TIED CARD OF 'ordinatelaw01.NumOps'. -/
def numOpsCard : Claim7 := { stood := { row := numOpsRow, standIns := [], harness := (true, "d16810730f89bce1b9cc8410eb3f2ce7fcbbc20ed803cf82e67a7162be033119"), looks := true }, kinds := [], alts := [], laidByText := true, laidKinds := [.data, .data, .data, .data, .sentinel, .sentinel, .pinned], laidTests := true, laidLooks := .later }
def NumOpsCardSaid : Prop := Claim7.holds Tryz.pinned (.plain (OpenSpec.ofChange numOpsSpec)) numOpsCard

/-- THE TIED CARD OF 'ordinatelaw01.NumProves'. -/
def numProvesCard : Claim7 := { stood := { row := numProvesRow, standIns := [], harness := (true, "d16810730f89bce1b9cc8410eb3f2ce7fcbbc20ed803cf82e67a7162be033119"), looks := true }, kinds := [], alts := [], laidByText := true, laidKinds := [.data, .data, .data, .data, .sentinel, .sentinel, .pinned], laidTests := true, laidLooks := .later }
def NumProvesCardSaid : Prop := Claim7.holds Tryz.pinned (.plain (OpenSpec.ofChange numProvesSpec)) numProvesCard

/-- THE TIED CARD OF 'ordinatelaw01.NumFolds'. -/
def numFoldsCard : Claim7 := { stood := { row := numFoldsRow, standIns := [], harness := (true, "d16810730f89bce1b9cc8410eb3f2ce7fcbbc20ed803cf82e67a7162be033119"), looks := true }, kinds := [], alts := [], laidByText := true, laidKinds := [.data, .data, .data, .data, .sentinel, .sentinel, .pinned], laidTests := true, laidLooks := .later }
def NumFoldsCardSaid : Prop := Claim7.holds Tryz.pinned (.plain (OpenSpec.ofChange numFoldsSpec)) numFoldsCard

/-- THE TIED CARD OF 'ordinatelaw01.NumParts'. -/
def numPartsCard : Claim7 := { stood := { row := numPartsRow, standIns := [], harness := (true, "d16810730f89bce1b9cc8410eb3f2ce7fcbbc20ed803cf82e67a7162be033119"), looks := true }, kinds := [], alts := [], laidByText := true, laidKinds := [.data, .data, .data, .data, .sentinel, .sentinel, .pinned], laidTests := true, laidLooks := .later }
def NumPartsCardSaid : Prop := Claim7.holds Tryz.pinned (.plain (OpenSpec.ofChange numPartsSpec)) numPartsCard

/-- THE TIED CARD OF 'ordinatelaw01.NumSpans'. -/
def numSpansCard : Claim7 := { stood := { row := numSpansRow, standIns := [], harness := (true, "d16810730f89bce1b9cc8410eb3f2ce7fcbbc20ed803cf82e67a7162be033119"), looks := true }, kinds := [], alts := [], laidByText := true, laidKinds := [.data, .data, .data, .data, .sentinel, .sentinel, .pinned], laidTests := true, laidLooks := .later }
def NumSpansCardSaid : Prop := Claim7.holds Tryz.pinned (.plain (OpenSpec.ofChange numSpansSpec)) numSpansCard

/-- THE TIED CARD OF 'ordinatelaw01.NumPowers'. -/
def numPowersCard : Claim7 := { stood := { row := numPowersRow, standIns := [], harness := (true, "d16810730f89bce1b9cc8410eb3f2ce7fcbbc20ed803cf82e67a7162be033119"), looks := true }, kinds := [], alts := [], laidByText := true, laidKinds := [.data, .data, .data, .data, .sentinel, .sentinel, .pinned], laidTests := true, laidLooks := .later }
def NumPowersCardSaid : Prop := Claim7.holds Tryz.pinned (.plain (OpenSpec.ofChange numPowersSpec)) numPowersCard

/-- THE TIED CARD OF 'ordinatelaw01.NumNames'. -/
def numNamesCard : Claim7 := { stood := { row := numNamesRow, standIns := [], harness := (true, "d16810730f89bce1b9cc8410eb3f2ce7fcbbc20ed803cf82e67a7162be033119"), looks := true }, kinds := [], alts := [], laidByText := true, laidKinds := [.data, .data, .data, .data, .sentinel, .sentinel, .pinned], laidTests := true, laidLooks := .later }
def NumNamesCardSaid : Prop := Claim7.holds Tryz.pinned (.plain (OpenSpec.ofChange numNamesSpec)) numNamesCard

/-- THE TIED CARD OF 'ordinatelaw01.NumEncloses'. -/
def numEnclosesCard : Claim7 := { stood := { row := numEnclosesRow, standIns := [], harness := (true, "d16810730f89bce1b9cc8410eb3f2ce7fcbbc20ed803cf82e67a7162be033119"), looks := true }, kinds := [], alts := [], laidByText := true, laidKinds := [.data, .data, .data, .data, .sentinel, .sentinel, .pinned], laidTests := true, laidLooks := .later }
def NumEnclosesCardSaid : Prop := Claim7.holds Tryz.pinned (.plain (OpenSpec.ofChange numEnclosesSpec)) numEnclosesCard

/-- THE SECOND FORM's CARD OF 'ordinatelaw01.NumReads'. -/
def numReadsUptoCard : Claim7 := { stood := { row := numReadsUptoRow, standIns := [], harness := (true, "d16810730f89bce1b9cc8410eb3f2ce7fcbbc20ed803cf82e67a7162be033119"), looks := true }, kinds := [], alts := [], laidByText := true, laidKinds := [.data, .data, .data, .data, .sentinel, .sentinel, .pinned], laidTests := true, laidLooks := .later }
def NumReadsUptoCardSaid : Prop := Claim7.holds Tryz.pinned (.plain (OpenSpec.upto numReadsSpec)) numReadsUptoCard

/-- THE SECOND FORM's CARD OF 'ordinatelaw01.NumSimplest'. -/
def numSimplestUptoCard : Claim7 := { stood := { row := numSimplestUptoRow, standIns := [], harness := (true, "d16810730f89bce1b9cc8410eb3f2ce7fcbbc20ed803cf82e67a7162be033119"), looks := true }, kinds := [], alts := [], laidByText := true, laidKinds := [.data, .data, .data, .data, .sentinel, .sentinel, .pinned], laidTests := true, laidLooks := .later }
def NumSimplestUptoCardSaid : Prop := Claim7.holds Tryz.pinned (.plain (OpenSpec.upto numSimplestSpec)) numSimplestUptoCard

/-- THE SECOND FORM's CARD OF 'ordinatelaw01.NumDigits'. -/
def numDigitsUptoCard : Claim7 := { stood := { row := numDigitsUptoRow, standIns := [], harness := (true, "d16810730f89bce1b9cc8410eb3f2ce7fcbbc20ed803cf82e67a7162be033119"), looks := true }, kinds := [], alts := [], laidByText := true, laidKinds := [.data, .data, .data, .data, .sentinel, .sentinel, .pinned], laidTests := true, laidLooks := .later }
def NumDigitsUptoCardSaid : Prop := Claim7.holds Tryz.pinned (.plain (OpenSpec.upto numDigitsSpec)) numDigitsUptoCard

/-- THE SECOND FORM's CARD OF 'ordinatelaw01.NumTexts'. -/
def numTextsUptoCard : Claim7 := { stood := { row := numTextsUptoRow, standIns := [], harness := (true, "d16810730f89bce1b9cc8410eb3f2ce7fcbbc20ed803cf82e67a7162be033119"), looks := true }, kinds := [], alts := [], laidByText := true, laidKinds := [.data, .data, .data, .data, .sentinel, .sentinel, .pinned], laidTests := true, laidLooks := .later }
def NumTextsUptoCardSaid : Prop := Claim7.holds Tryz.pinned (.plain (OpenSpec.upto numTextsSpec)) numTextsUptoCard

/-- THE SECOND FORM's CARD OF 'ordinatelaw01.NumGrid'. -/
def numGridUptoCard : Claim7 := { stood := { row := numGridUptoRow, standIns := [], harness := (true, "d16810730f89bce1b9cc8410eb3f2ce7fcbbc20ed803cf82e67a7162be033119"), looks := true }, kinds := [], alts := [], laidByText := true, laidKinds := [.data, .data, .data, .data, .sentinel, .sentinel, .pinned], laidTests := true, laidLooks := .later }
def NumGridUptoCardSaid : Prop := Claim7.holds Tryz.pinned (.plain (OpenSpec.upto numGridSpec)) numGridUptoCard

/-- THE SECOND FORM's CARD OF 'ordinatelaw01.NumField'. -/
def numFieldUptoCard : Claim7 := { stood := { row := numFieldUptoRow, standIns := [], harness := (true, "d16810730f89bce1b9cc8410eb3f2ce7fcbbc20ed803cf82e67a7162be033119"), looks := true }, kinds := [], alts := [], laidByText := true, laidKinds := [.data, .data, .data, .data, .sentinel, .sentinel, .pinned], laidTests := true, laidLooks := .later }
def NumFieldUptoCardSaid : Prop := Claim7.holds Tryz.pinned (.plain (OpenSpec.upto numFieldSpec)) numFieldUptoCard

/-- THE SECOND FORM's CARD OF 'ordinatelaw01.NumGrids'. -/
def numGridsUptoCard : Claim7 := { stood := { row := numGridsUptoRow, standIns := [], harness := (true, "d16810730f89bce1b9cc8410eb3f2ce7fcbbc20ed803cf82e67a7162be033119"), looks := true }, kinds := [], alts := [], laidByText := true, laidKinds := [.data, .data, .data, .data, .sentinel, .sentinel, .pinned], laidTests := true, laidLooks := .later }
def NumGridsUptoCardSaid : Prop := Claim7.holds Tryz.pinned (.plain (OpenSpec.upto numGridsSpec)) numGridsUptoCard

/-- THE SECOND FORM's CARD OF 'ordinatelaw01.NumSimple'. -/
def numSimpleUptoCard : Claim7 := { stood := { row := numSimpleUptoRow, standIns := [], harness := (true, "d16810730f89bce1b9cc8410eb3f2ce7fcbbc20ed803cf82e67a7162be033119"), looks := true }, kinds := [], alts := [], laidByText := true, laidKinds := [.data, .data, .data, .data, .sentinel, .sentinel, .pinned], laidTests := true, laidLooks := .later }
def NumSimpleUptoCardSaid : Prop := Claim7.holds Tryz.pinned (.plain (OpenSpec.upto numSimpleSpec)) numSimpleUptoCard

/-- THE SECOND FORM's CARD OF 'ordinatelaw01.NumOps'. -/
def numOpsUptoCard : Claim7 := { stood := { row := numOpsUptoRow, standIns := [], harness := (true, "d16810730f89bce1b9cc8410eb3f2ce7fcbbc20ed803cf82e67a7162be033119"), looks := true }, kinds := [], alts := [], laidByText := true, laidKinds := [.data, .data, .data, .data, .sentinel, .sentinel, .pinned], laidTests := true, laidLooks := .later }
def NumOpsUptoCardSaid : Prop := Claim7.holds Tryz.pinned (.plain (OpenSpec.upto numOpsSpec)) numOpsUptoCard

/-- THE SECOND FORM's CARD OF 'ordinatelaw01.NumProves'. -/
def numProvesUptoCard : Claim7 := { stood := { row := numProvesUptoRow, standIns := [], harness := (true, "d16810730f89bce1b9cc8410eb3f2ce7fcbbc20ed803cf82e67a7162be033119"), looks := true }, kinds := [], alts := [], laidByText := true, laidKinds := [.data, .data, .data, .data, .sentinel, .sentinel, .pinned], laidTests := true, laidLooks := .later }
def NumProvesUptoCardSaid : Prop := Claim7.holds Tryz.pinned (.plain (OpenSpec.upto numProvesSpec)) numProvesUptoCard

/-- THE SECOND FORM's CARD OF 'ordinatelaw01.NumFolds'. -/
def numFoldsUptoCard : Claim7 := { stood := { row := numFoldsUptoRow, standIns := [], harness := (true, "d16810730f89bce1b9cc8410eb3f2ce7fcbbc20ed803cf82e67a7162be033119"), looks := true }, kinds := [], alts := [], laidByText := true, laidKinds := [.data, .data, .data, .data, .sentinel, .sentinel, .pinned], laidTests := true, laidLooks := .later }
def NumFoldsUptoCardSaid : Prop := Claim7.holds Tryz.pinned (.plain (OpenSpec.upto numFoldsSpec)) numFoldsUptoCard

/-- THE SECOND FORM's CARD OF 'ordinatelaw01.NumParts'. -/
def numPartsUptoCard : Claim7 := { stood := { row := numPartsUptoRow, standIns := [], harness := (true, "d16810730f89bce1b9cc8410eb3f2ce7fcbbc20ed803cf82e67a7162be033119"), looks := true }, kinds := [], alts := [], laidByText := true, laidKinds := [.data, .data, .data, .data, .sentinel, .sentinel, .pinned], laidTests := true, laidLooks := .later }
def NumPartsUptoCardSaid : Prop := Claim7.holds Tryz.pinned (.plain (OpenSpec.upto numPartsSpec)) numPartsUptoCard

/-- THE SECOND FORM's CARD OF 'ordinatelaw01.NumSpans'. -/
def numSpansUptoCard : Claim7 := { stood := { row := numSpansUptoRow, standIns := [], harness := (true, "d16810730f89bce1b9cc8410eb3f2ce7fcbbc20ed803cf82e67a7162be033119"), looks := true }, kinds := [], alts := [], laidByText := true, laidKinds := [.data, .data, .data, .data, .sentinel, .sentinel, .pinned], laidTests := true, laidLooks := .later }
def NumSpansUptoCardSaid : Prop := Claim7.holds Tryz.pinned (.plain (OpenSpec.upto numSpansSpec)) numSpansUptoCard

/-- THE SECOND FORM's CARD OF 'ordinatelaw01.NumPowers'. -/
def numPowersUptoCard : Claim7 := { stood := { row := numPowersUptoRow, standIns := [], harness := (true, "d16810730f89bce1b9cc8410eb3f2ce7fcbbc20ed803cf82e67a7162be033119"), looks := true }, kinds := [], alts := [], laidByText := true, laidKinds := [.data, .data, .data, .data, .sentinel, .sentinel, .pinned], laidTests := true, laidLooks := .later }
def NumPowersUptoCardSaid : Prop := Claim7.holds Tryz.pinned (.plain (OpenSpec.upto numPowersSpec)) numPowersUptoCard

/-- THE SECOND FORM's CARD OF 'ordinatelaw01.NumNames'. -/
def numNamesUptoCard : Claim7 := { stood := { row := numNamesUptoRow, standIns := [], harness := (true, "d16810730f89bce1b9cc8410eb3f2ce7fcbbc20ed803cf82e67a7162be033119"), looks := true }, kinds := [], alts := [], laidByText := true, laidKinds := [.data, .data, .data, .data, .sentinel, .sentinel, .pinned], laidTests := true, laidLooks := .later }
def NumNamesUptoCardSaid : Prop := Claim7.holds Tryz.pinned (.plain (OpenSpec.upto numNamesSpec)) numNamesUptoCard

/-- THE SECOND FORM's CARD OF 'ordinatelaw01.NumEncloses'. -/
def numEnclosesUptoCard : Claim7 := { stood := { row := numEnclosesUptoRow, standIns := [], harness := (true, "d16810730f89bce1b9cc8410eb3f2ce7fcbbc20ed803cf82e67a7162be033119"), looks := true }, kinds := [], alts := [], laidByText := true, laidKinds := [.data, .data, .data, .data, .sentinel, .sentinel, .pinned], laidTests := true, laidLooks := .later }
def NumEnclosesUptoCardSaid : Prop := Claim7.holds Tryz.pinned (.plain (OpenSpec.upto numEnclosesSpec)) numEnclosesUptoCard
end Rows
end Go.Proofs.YtdheblnjmnlpfaaGreatDoor
