/-
  DERIVED. GIVEN WITH THE SEED: THE CARDS: each row of YtmheajenlhlbhaaGreatDoorRows.lean that lists a variable, with what it lists TIED to the program's text (the seventh form; the later family's looks); each row that meets fmt, with fmt's text TOLD by the authors' own Lean function (tested against real Go, not proved from fmt's source: count such statements apart). THE CARD IS WHAT COUNTS. Prove the row's statement (the work); the ties are given (YtmheajenlhlbhaaGreatDoorTie.lean); close each card by the builder's one call (the guide's Derived/Test/ToyasCard.lean, 'card_holds'). Laid BY PROGRAM, IN A SANDBOX (cutbox-door.mjs). By AI agents, Wed Nov 11 2026. No macro, syntax, notation, axiom, sorry.
-/
import Derived.Test.YtmheajenlhlbhaaGreatDoorRows
import GoSem.ClaimSeven
namespace Go.Proofs.YtmheajenlhlbhaaGreatDoor
namespace Rows

/-- THE TIED CARD OF 'withylaw10.LeafRise'. -/
def leafRiseCard : Claim7 := { stood := { row := leafRiseRow, standIns := [], harness := (true, "09115c9c50980ff5bf7e396397c5a42d24365546b1409e8b8a457ca0dda4a959"), looks := true }, kinds := [], alts := [], laidByText := true, laidKinds := [.handle], laidTests := true, laidLooks := .later }
def LeafRiseCardSaid : Prop := Claim7.holds Tryz.pinned (.plain (OpenSpec.ofChange leafRiseSpec)) leafRiseCard

/-- THE TIED CARD OF 'withylaw19.BuildTwice'. -/
def buildTwiceCard : Claim7 := { stood := { row := buildTwiceRow, standIns := [], harness := (true, "09115c9c50980ff5bf7e396397c5a42d24365546b1409e8b8a457ca0dda4a959"), looks := true }, kinds := [], alts := [], laidByText := true, laidKinds := [.handle], laidTests := true, laidLooks := .later }
def BuildTwiceCardSaid : Prop := Claim7.holds Tryz.pinned (.plain (OpenSpec.ofChange buildTwiceSpec)) buildTwiceCard

/-- THE TIED CARD OF 'withylaw19.BuildDoes'. -/
def buildDoesCard : Claim7 := { stood := { row := buildDoesRow, standIns := [], harness := (true, "09115c9c50980ff5bf7e396397c5a42d24365546b1409e8b8a457ca0dda4a959"), looks := true }, kinds := [], alts := [], laidByText := true, laidKinds := [.handle], laidTests := true, laidLooks := .later }
def BuildDoesCardSaid : Prop := Claim7.holds Tryz.pinned (.plain (OpenSpec.ofChange buildDoesSpec)) buildDoesCard

/-- THE TIED CARD OF 'withylaw19.BuildFull'. -/
def buildFullCard : Claim7 := { stood := { row := buildFullRow, standIns := [], harness := (true, "09115c9c50980ff5bf7e396397c5a42d24365546b1409e8b8a457ca0dda4a959"), looks := true }, kinds := [], alts := [], laidByText := true, laidKinds := [.handle], laidTests := true, laidLooks := .later }
def BuildFullCardSaid : Prop := Claim7.holds Tryz.pinned (.plain (OpenSpec.ofChange buildFullSpec)) buildFullCard

/-- THE TIED CARD OF 'withylaw19.BuildSynced'. -/
def buildSyncedCard : Claim7 := { stood := { row := buildSyncedRow, standIns := [], harness := (true, "09115c9c50980ff5bf7e396397c5a42d24365546b1409e8b8a457ca0dda4a959"), looks := true }, kinds := [], alts := [], laidByText := true, laidKinds := [.handle], laidTests := true, laidLooks := .later }
def BuildSyncedCardSaid : Prop := Claim7.holds Tryz.pinned (.plain (OpenSpec.ofChange buildSyncedSpec)) buildSyncedCard

/-- THE TIED CARD OF 'withylaw19.BuildOther'. -/
def buildOtherCard : Claim7 := { stood := { row := buildOtherRow, standIns := [], harness := (true, "09115c9c50980ff5bf7e396397c5a42d24365546b1409e8b8a457ca0dda4a959"), looks := true }, kinds := [], alts := [], laidByText := true, laidKinds := [.handle], laidTests := true, laidLooks := .later }
def BuildOtherCardSaid : Prop := Claim7.holds Tryz.pinned (.plain (OpenSpec.ofChange buildOtherSpec)) buildOtherCard

/-- THE TIED CARD OF 'withylaw19.BuildSteps'. -/
def buildStepsCard : Claim7 := { stood := { row := buildStepsRow, standIns := [], harness := (true, "09115c9c50980ff5bf7e396397c5a42d24365546b1409e8b8a457ca0dda4a959"), looks := true }, kinds := [], alts := [], laidByText := true, laidKinds := [.handle], laidTests := true, laidLooks := .later }
def BuildStepsCardSaid : Prop := Claim7.holds Tryz.pinned (.plain (OpenSpec.ofChange buildStepsSpec)) buildStepsCard

/-- THE TIED CARD OF 'withylaw19.BuildCrash'. -/
def buildCrashCard : Claim7 := { stood := { row := buildCrashRow, standIns := [], harness := (true, "09115c9c50980ff5bf7e396397c5a42d24365546b1409e8b8a457ca0dda4a959"), looks := true }, kinds := [], alts := [], laidByText := true, laidKinds := [.handle], laidTests := true, laidLooks := .later }
def BuildCrashCardSaid : Prop := Claim7.holds Tryz.pinned (.plain (OpenSpec.ofChange buildCrashSpec)) buildCrashCard

/-- THE SECOND FORM's CARD OF 'withylaw10.LeafRise'. -/
def leafRiseUptoCard : Claim7 := { stood := { row := leafRiseUptoRow, standIns := [], harness := (true, "09115c9c50980ff5bf7e396397c5a42d24365546b1409e8b8a457ca0dda4a959"), looks := true }, kinds := [], alts := [], laidByText := true, laidKinds := [.handle], laidTests := true, laidLooks := .later }
def LeafRiseUptoCardSaid : Prop := Claim7.holds Tryz.pinned (.plain (OpenSpec.upto leafRiseSpec)) leafRiseUptoCard

/-- THE SECOND FORM's CARD OF 'withylaw19.BuildTwice'. -/
def buildTwiceUptoCard : Claim7 := { stood := { row := buildTwiceUptoRow, standIns := [], harness := (true, "09115c9c50980ff5bf7e396397c5a42d24365546b1409e8b8a457ca0dda4a959"), looks := true }, kinds := [], alts := [], laidByText := true, laidKinds := [.handle], laidTests := true, laidLooks := .later }
def BuildTwiceUptoCardSaid : Prop := Claim7.holds Tryz.pinned (.plain (OpenSpec.upto buildTwiceSpec)) buildTwiceUptoCard

/-- THE SECOND FORM's CARD OF 'withylaw19.BuildDoes'. -/
def buildDoesUptoCard : Claim7 := { stood := { row := buildDoesUptoRow, standIns := [], harness := (true, "09115c9c50980ff5bf7e396397c5a42d24365546b1409e8b8a457ca0dda4a959"), looks := true }, kinds := [], alts := [], laidByText := true, laidKinds := [.handle], laidTests := true, laidLooks := .later }
def BuildDoesUptoCardSaid : Prop := Claim7.holds Tryz.pinned (.plain (OpenSpec.upto buildDoesSpec)) buildDoesUptoCard

/-- THE SECOND FORM's CARD OF 'withylaw19.BuildFull'. -/
def buildFullUptoCard : Claim7 := { stood := { row := buildFullUptoRow, standIns := [], harness := (true, "09115c9c50980ff5bf7e396397c5a42d24365546b1409e8b8a457ca0dda4a959"), looks := true }, kinds := [], alts := [], laidByText := true, laidKinds := [.handle], laidTests := true, laidLooks := .later }
def BuildFullUptoCardSaid : Prop := Claim7.holds Tryz.pinned (.plain (OpenSpec.upto buildFullSpec)) buildFullUptoCard

/-- THE SECOND FORM's CARD OF 'withylaw19.BuildSynced'. -/
def buildSyncedUptoCard : Claim7 := { stood := { row := buildSyncedUptoRow, standIns := [], harness := (true, "09115c9c50980ff5bf7e396397c5a42d24365546b1409e8b8a457ca0dda4a959"), looks := true }, kinds := [], alts := [], laidByText := true, laidKinds := [.handle], laidTests := true, laidLooks := .later }
def BuildSyncedUptoCardSaid : Prop := Claim7.holds Tryz.pinned (.plain (OpenSpec.upto buildSyncedSpec)) buildSyncedUptoCard

/-- THE SECOND FORM's CARD OF 'withylaw19.BuildOther'. -/
def buildOtherUptoCard : Claim7 := { stood := { row := buildOtherUptoRow, standIns := [], harness := (true, "09115c9c50980ff5bf7e396397c5a42d24365546b1409e8b8a457ca0dda4a959"), looks := true }, kinds := [], alts := [], laidByText := true, laidKinds := [.handle], laidTests := true, laidLooks := .later }
def BuildOtherUptoCardSaid : Prop := Claim7.holds Tryz.pinned (.plain (OpenSpec.upto buildOtherSpec)) buildOtherUptoCard

/-- THE SECOND FORM's CARD OF 'withylaw19.BuildSteps'. -/
def buildStepsUptoCard : Claim7 := { stood := { row := buildStepsUptoRow, standIns := [], harness := (true, "09115c9c50980ff5bf7e396397c5a42d24365546b1409e8b8a457ca0dda4a959"), looks := true }, kinds := [], alts := [], laidByText := true, laidKinds := [.handle], laidTests := true, laidLooks := .later }
def BuildStepsUptoCardSaid : Prop := Claim7.holds Tryz.pinned (.plain (OpenSpec.upto buildStepsSpec)) buildStepsUptoCard

/-- THE SECOND FORM's CARD OF 'withylaw19.BuildCrash'. -/
def buildCrashUptoCard : Claim7 := { stood := { row := buildCrashUptoRow, standIns := [], harness := (true, "09115c9c50980ff5bf7e396397c5a42d24365546b1409e8b8a457ca0dda4a959"), looks := true }, kinds := [], alts := [], laidByText := true, laidKinds := [.handle], laidTests := true, laidLooks := .later }
def BuildCrashUptoCardSaid : Prop := Claim7.holds Tryz.pinned (.plain (OpenSpec.upto buildCrashSpec)) buildCrashUptoCard
end Rows
end Go.Proofs.YtmheajenlhlbhaaGreatDoor
