/-
  DERIVED. GIVEN WITH THE SEED: THE CARDS: each row of YtkljejejabikiaaGreatDoorRows.lean that lists a variable, with what it lists TIED to the program's text (the seventh form; the later family's looks); each row that meets fmt, with fmt's text TOLD by the authors' own Lean function (tested against real Go, not proved from fmt's source: count such statements apart). THE CARD IS WHAT COUNTS. Prove the row's statement (the work); the ties are given (YtkljejejabikiaaGreatDoorTie.lean); close each card by the builder's one call (the guide's Derived/Test/ToyasCard.lean, 'card_holds'). Laid BY PROGRAM, IN A SANDBOX (cutbox-door.mjs). By AI agents, Wed Nov 11 2026. No macro, syntax, notation, axiom, sorry.
-/
import Derived.Test.YtkljejejabikiaaGreatDoorRows
import GoSem.ClaimSeven
namespace Go.Proofs.YtkljejejabikiaaGreatDoor
namespace Rows

/-- THE TIED CARD OF 'cusplaw06.PointReads'. -/
def pointReadsCard : Claim7 := { stood := { row := pointReadsRow, standIns := [], harness := (true, "9a9e990a405cede5ec4e48625edf75c071f5b492eaa7fb6ebfd5ab45885f4ecc"), looks := true }, kinds := [], alts := [], laidByText := true, laidKinds := [.data, .data, .data, .data, .data, .sentinel, .sentinel, .pinned, .pinned, .pinned, .pinned], laidTests := true, laidLooks := .later }
def PointReadsCardSaid : Prop := Claim7.holds Tryz.pinned (.plain (OpenSpec.ofChange pointReadsSpec)) pointReadsCard

/-- THE TIED CARD OF 'cusplaw04.DecimReads'. -/
def decimReadsCard : Claim7 := { stood := { row := decimReadsRow, standIns := [], harness := (true, "9a9e990a405cede5ec4e48625edf75c071f5b492eaa7fb6ebfd5ab45885f4ecc"), looks := true }, kinds := [], alts := [], laidByText := true, laidKinds := [.data, .data, .data, .data, .data, .sentinel, .sentinel, .pinned, .pinned, .pinned, .pinned], laidTests := true, laidLooks := .later }
def DecimReadsCardSaid : Prop := Claim7.holds Tryz.pinned (.plain (OpenSpec.ofChange decimReadsSpec)) decimReadsCard

/-- THE TIED CARD OF 'cusplaw04.DecimTells'. -/
def decimTellsCard : Claim7 := { stood := { row := decimTellsRow, standIns := [], harness := (true, "9a9e990a405cede5ec4e48625edf75c071f5b492eaa7fb6ebfd5ab45885f4ecc"), looks := true }, kinds := [], alts := [], laidByText := true, laidKinds := [.data, .data, .data, .data, .data, .sentinel, .sentinel, .pinned, .pinned, .pinned, .pinned], laidTests := true, laidLooks := .later }
def DecimTellsCardSaid : Prop := Claim7.holds Tryz.pinned (.plain (OpenSpec.ofChange decimTellsSpec)) decimTellsCard

/-- THE TIED CARD OF 'cusplaw04.DecimHolds'. -/
def decimHoldsCard : Claim7 := { stood := { row := decimHoldsRow, standIns := [], harness := (true, "9a9e990a405cede5ec4e48625edf75c071f5b492eaa7fb6ebfd5ab45885f4ecc"), looks := true }, kinds := [], alts := [], laidByText := true, laidKinds := [.data, .data, .data, .data, .data, .sentinel, .sentinel, .pinned, .pinned, .pinned, .pinned], laidTests := true, laidLooks := .later }
def DecimHoldsCardSaid : Prop := Claim7.holds Tryz.pinned (.plain (OpenSpec.ofChange decimHoldsSpec)) decimHoldsCard

/-- THE TIED CARD OF 'cusplaw04.DecimModes'. -/
def decimModesCard : Claim7 := { stood := { row := decimModesRow, standIns := [], harness := (true, "9a9e990a405cede5ec4e48625edf75c071f5b492eaa7fb6ebfd5ab45885f4ecc"), looks := true }, kinds := [], alts := [], laidByText := true, laidKinds := [.data, .data, .data, .data, .data, .sentinel, .sentinel, .pinned, .pinned, .pinned, .pinned], laidTests := true, laidLooks := .later }
def DecimModesCardSaid : Prop := Claim7.holds Tryz.pinned (.plain (OpenSpec.ofChange decimModesSpec)) decimModesCard

/-- THE TIED CARD OF 'cusplaw04.DecimFixed'. -/
def decimFixedCard : Claim7 := { stood := { row := decimFixedRow, standIns := [], harness := (true, "9a9e990a405cede5ec4e48625edf75c071f5b492eaa7fb6ebfd5ab45885f4ecc"), looks := true }, kinds := [], alts := [], laidByText := true, laidKinds := [.data, .data, .data, .data, .data, .sentinel, .sentinel, .pinned, .pinned, .pinned, .pinned], laidTests := true, laidLooks := .later }
def DecimFixedCardSaid : Prop := Claim7.holds Tryz.pinned (.plain (OpenSpec.ofChange decimFixedSpec)) decimFixedCard

/-- THE TIED CARD OF 'cusplaw04.DecimBack'. -/
def decimBackCard : Claim7 := { stood := { row := decimBackRow, standIns := [], harness := (true, "9a9e990a405cede5ec4e48625edf75c071f5b492eaa7fb6ebfd5ab45885f4ecc"), looks := true }, kinds := [], alts := [], laidByText := true, laidKinds := [.data, .data, .data, .data, .data, .sentinel, .sentinel, .pinned, .pinned, .pinned, .pinned], laidTests := true, laidLooks := .later }
def DecimBackCardSaid : Prop := Claim7.holds Tryz.pinned (.plain (OpenSpec.ofChange decimBackSpec)) decimBackCard

/-- THE TIED CARD OF 'cusplaw04.DecimNear'. -/
def decimNearCard : Claim7 := { stood := { row := decimNearRow, standIns := [], harness := (true, "9a9e990a405cede5ec4e48625edf75c071f5b492eaa7fb6ebfd5ab45885f4ecc"), looks := true }, kinds := [], alts := [], laidByText := true, laidKinds := [.data, .data, .data, .data, .data, .sentinel, .sentinel, .pinned, .pinned, .pinned, .pinned], laidTests := true, laidLooks := .later }
def DecimNearCardSaid : Prop := Claim7.holds Tryz.pinned (.plain (OpenSpec.ofChange decimNearSpec)) decimNearCard

/-- THE SECOND FORM's CARD OF 'cusplaw06.PointReads'. -/
def pointReadsUptoCard : Claim7 := { stood := { row := pointReadsUptoRow, standIns := [], harness := (true, "9a9e990a405cede5ec4e48625edf75c071f5b492eaa7fb6ebfd5ab45885f4ecc"), looks := true }, kinds := [], alts := [], laidByText := true, laidKinds := [.data, .data, .data, .data, .data, .sentinel, .sentinel, .pinned, .pinned, .pinned, .pinned], laidTests := true, laidLooks := .later }
def PointReadsUptoCardSaid : Prop := Claim7.holds Tryz.pinned (.plain (OpenSpec.upto pointReadsSpec)) pointReadsUptoCard

/-- THE SECOND FORM's CARD OF 'cusplaw04.DecimReads'. -/
def decimReadsUptoCard : Claim7 := { stood := { row := decimReadsUptoRow, standIns := [], harness := (true, "9a9e990a405cede5ec4e48625edf75c071f5b492eaa7fb6ebfd5ab45885f4ecc"), looks := true }, kinds := [], alts := [], laidByText := true, laidKinds := [.data, .data, .data, .data, .data, .sentinel, .sentinel, .pinned, .pinned, .pinned, .pinned], laidTests := true, laidLooks := .later }
def DecimReadsUptoCardSaid : Prop := Claim7.holds Tryz.pinned (.plain (OpenSpec.upto decimReadsSpec)) decimReadsUptoCard

/-- THE SECOND FORM's CARD OF 'cusplaw04.DecimTells'. -/
def decimTellsUptoCard : Claim7 := { stood := { row := decimTellsUptoRow, standIns := [], harness := (true, "9a9e990a405cede5ec4e48625edf75c071f5b492eaa7fb6ebfd5ab45885f4ecc"), looks := true }, kinds := [], alts := [], laidByText := true, laidKinds := [.data, .data, .data, .data, .data, .sentinel, .sentinel, .pinned, .pinned, .pinned, .pinned], laidTests := true, laidLooks := .later }
def DecimTellsUptoCardSaid : Prop := Claim7.holds Tryz.pinned (.plain (OpenSpec.upto decimTellsSpec)) decimTellsUptoCard

/-- THE SECOND FORM's CARD OF 'cusplaw04.DecimHolds'. -/
def decimHoldsUptoCard : Claim7 := { stood := { row := decimHoldsUptoRow, standIns := [], harness := (true, "9a9e990a405cede5ec4e48625edf75c071f5b492eaa7fb6ebfd5ab45885f4ecc"), looks := true }, kinds := [], alts := [], laidByText := true, laidKinds := [.data, .data, .data, .data, .data, .sentinel, .sentinel, .pinned, .pinned, .pinned, .pinned], laidTests := true, laidLooks := .later }
def DecimHoldsUptoCardSaid : Prop := Claim7.holds Tryz.pinned (.plain (OpenSpec.upto decimHoldsSpec)) decimHoldsUptoCard

/-- THE SECOND FORM's CARD OF 'cusplaw04.DecimModes'. -/
def decimModesUptoCard : Claim7 := { stood := { row := decimModesUptoRow, standIns := [], harness := (true, "9a9e990a405cede5ec4e48625edf75c071f5b492eaa7fb6ebfd5ab45885f4ecc"), looks := true }, kinds := [], alts := [], laidByText := true, laidKinds := [.data, .data, .data, .data, .data, .sentinel, .sentinel, .pinned, .pinned, .pinned, .pinned], laidTests := true, laidLooks := .later }
def DecimModesUptoCardSaid : Prop := Claim7.holds Tryz.pinned (.plain (OpenSpec.upto decimModesSpec)) decimModesUptoCard

/-- THE SECOND FORM's CARD OF 'cusplaw04.DecimFixed'. -/
def decimFixedUptoCard : Claim7 := { stood := { row := decimFixedUptoRow, standIns := [], harness := (true, "9a9e990a405cede5ec4e48625edf75c071f5b492eaa7fb6ebfd5ab45885f4ecc"), looks := true }, kinds := [], alts := [], laidByText := true, laidKinds := [.data, .data, .data, .data, .data, .sentinel, .sentinel, .pinned, .pinned, .pinned, .pinned], laidTests := true, laidLooks := .later }
def DecimFixedUptoCardSaid : Prop := Claim7.holds Tryz.pinned (.plain (OpenSpec.upto decimFixedSpec)) decimFixedUptoCard

/-- THE SECOND FORM's CARD OF 'cusplaw04.DecimBack'. -/
def decimBackUptoCard : Claim7 := { stood := { row := decimBackUptoRow, standIns := [], harness := (true, "9a9e990a405cede5ec4e48625edf75c071f5b492eaa7fb6ebfd5ab45885f4ecc"), looks := true }, kinds := [], alts := [], laidByText := true, laidKinds := [.data, .data, .data, .data, .data, .sentinel, .sentinel, .pinned, .pinned, .pinned, .pinned], laidTests := true, laidLooks := .later }
def DecimBackUptoCardSaid : Prop := Claim7.holds Tryz.pinned (.plain (OpenSpec.upto decimBackSpec)) decimBackUptoCard

/-- THE SECOND FORM's CARD OF 'cusplaw04.DecimNear'. -/
def decimNearUptoCard : Claim7 := { stood := { row := decimNearUptoRow, standIns := [], harness := (true, "9a9e990a405cede5ec4e48625edf75c071f5b492eaa7fb6ebfd5ab45885f4ecc"), looks := true }, kinds := [], alts := [], laidByText := true, laidKinds := [.data, .data, .data, .data, .data, .sentinel, .sentinel, .pinned, .pinned, .pinned, .pinned], laidTests := true, laidLooks := .later }
def DecimNearUptoCardSaid : Prop := Claim7.holds Tryz.pinned (.plain (OpenSpec.upto decimNearSpec)) decimNearUptoCard
end Rows
end Go.Proofs.YtkljejejabikiaaGreatDoor
