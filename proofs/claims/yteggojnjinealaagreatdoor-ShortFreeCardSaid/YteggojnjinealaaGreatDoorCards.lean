/-
  DERIVED. GIVEN WITH THE SEED: THE CARDS: each row of YteggojnjinealaaGreatDoorRows.lean that lists a variable, with what it lists TIED to the program's text (the seventh form; the later family's looks); each row that meets fmt, with fmt's text TOLD by the authors' own Lean function (tested against real Go, not proved from fmt's source: count such statements apart). THE CARD IS WHAT COUNTS. Prove the row's statement (the work); the ties are given (YteggojnjinealaaGreatDoorTie.lean); close each card by the builder's one call (the guide's Derived/Test/ToyasCard.lean, 'card_holds'). Laid BY PROGRAM, IN A SANDBOX (cutbox-door.mjs). By AI agents, Wed Nov 11 2026. No macro, syntax, notation, axiom, sorry.
-/
import Derived.Test.YteggojnjinealaaGreatDoorRows
import GoSem.ClaimSeven
namespace Go.Proofs.YteggojnjinealaaGreatDoor
namespace Rows

/-- THE TIED CARD OF 'ganttop.TopTimed'. -/
def topTimedCard : Claim7 := { stood := { row := topTimedRow, standIns := [], harness := (true, "1076da7ca6c1930a047129807aca96e9b9130f34e56554caea66866122c9c10f"), looks := false }, kinds := [], alts := [], laidByText := true, laidKinds := [.data], laidTests := true, laidLooks := .later }
def TopTimedCardSaid : Prop := Claim7.holds Tryz.pinned (.plain (OpenSpec.ofChange topTimedSpec)) topTimedCard

/-- THE TIED CARD OF 'gantkeep3.ClearFewer'. -/
def clearFewerCard : Claim7 := { stood := { row := clearFewerRow, standIns := [], harness := (true, "1076da7ca6c1930a047129807aca96e9b9130f34e56554caea66866122c9c10f"), looks := false }, kinds := [], alts := [], laidByText := true, laidKinds := [.data], laidTests := true, laidLooks := .later }
def ClearFewerCardSaid : Prop := Claim7.holds Tryz.pinned (.plain (OpenSpec.ofChange clearFewerSpec)) clearFewerCard

/-- THE TIED CARD OF 'gantkeep3.ClearProves'. -/
def clearProvesCard : Claim7 := { stood := { row := clearProvesRow, standIns := [], harness := (true, "1076da7ca6c1930a047129807aca96e9b9130f34e56554caea66866122c9c10f"), looks := false }, kinds := [], alts := [], laidByText := true, laidKinds := [.data], laidTests := true, laidLooks := .later }
def ClearProvesCardSaid : Prop := Claim7.holds Tryz.pinned (.plain (OpenSpec.ofChange clearProvesSpec)) clearProvesCard

/-- THE TIED CARD OF 'gantkeep3.ClearBack'. -/
def clearBackCard : Claim7 := { stood := { row := clearBackRow, standIns := [], harness := (true, "1076da7ca6c1930a047129807aca96e9b9130f34e56554caea66866122c9c10f"), looks := false }, kinds := [], alts := [], laidByText := true, laidKinds := [.data], laidTests := true, laidLooks := .later }
def ClearBackCardSaid : Prop := Claim7.holds Tryz.pinned (.plain (OpenSpec.ofChange clearBackSpec)) clearBackCard

/-- THE TIED CARD OF 'gantkeep3.ShortFree'. -/
def shortFreeCard : Claim7 := { stood := { row := shortFreeRow, standIns := [], harness := (true, "1076da7ca6c1930a047129807aca96e9b9130f34e56554caea66866122c9c10f"), looks := false }, kinds := [], alts := [], laidByText := true, laidKinds := [.data], laidTests := true, laidLooks := .later }
def ShortFreeCardSaid : Prop := Claim7.holds Tryz.pinned (.plain (OpenSpec.ofChange shortFreeSpec)) shortFreeCard

/-- THE TIED CARD OF 'gantkeep3.PathBack'. -/
def pathBackCard : Claim7 := { stood := { row := pathBackRow, standIns := [], harness := (true, "1076da7ca6c1930a047129807aca96e9b9130f34e56554caea66866122c9c10f"), looks := false }, kinds := [], alts := [], laidByText := true, laidKinds := [.data], laidTests := true, laidLooks := .later }
def PathBackCardSaid : Prop := Claim7.holds Tryz.pinned (.plain (OpenSpec.ofChange pathBackSpec)) pathBackCard

/-- THE TIED CARD OF 'gantkeep3.PathFewer'. -/
def pathFewerCard : Claim7 := { stood := { row := pathFewerRow, standIns := [], harness := (true, "1076da7ca6c1930a047129807aca96e9b9130f34e56554caea66866122c9c10f"), looks := false }, kinds := [], alts := [], laidByText := true, laidKinds := [.data], laidTests := true, laidLooks := .later }
def PathFewerCardSaid : Prop := Claim7.holds Tryz.pinned (.plain (OpenSpec.ofChange pathFewerSpec)) pathFewerCard

/-- THE TIED CARD OF 'gantkeep3.PathFree'. -/
def pathFreeCard : Claim7 := { stood := { row := pathFreeRow, standIns := [], harness := (true, "1076da7ca6c1930a047129807aca96e9b9130f34e56554caea66866122c9c10f"), looks := false }, kinds := [], alts := [], laidByText := true, laidKinds := [.data], laidTests := true, laidLooks := .later }
def PathFreeCardSaid : Prop := Claim7.holds Tryz.pinned (.plain (OpenSpec.ofChange pathFreeSpec)) pathFreeCard

/-- THE TIED CARD OF 'ganttop.TopWays'. -/
def topWaysCard : Claim7 := { stood := { row := topWaysRow, standIns := [], harness := (true, "1076da7ca6c1930a047129807aca96e9b9130f34e56554caea66866122c9c10f"), looks := false }, kinds := [], alts := [], laidByText := true, laidKinds := [.data], laidTests := true, laidLooks := .later }
def TopWaysCardSaid : Prop := Claim7.holds Tryz.pinned (.plain (OpenSpec.ofChange topWaysSpec)) topWaysCard

/-- THE SECOND FORM's CARD OF 'ganttop.TopTimed'. -/
def topTimedUptoCard : Claim7 := { stood := { row := topTimedUptoRow, standIns := [], harness := (true, "1076da7ca6c1930a047129807aca96e9b9130f34e56554caea66866122c9c10f"), looks := false }, kinds := [], alts := [], laidByText := true, laidKinds := [.data], laidTests := true, laidLooks := .later }
def TopTimedUptoCardSaid : Prop := Claim7.holds Tryz.pinned (.plain (OpenSpec.upto topTimedSpec)) topTimedUptoCard

/-- THE SECOND FORM's CARD OF 'gantkeep3.ClearFewer'. -/
def clearFewerUptoCard : Claim7 := { stood := { row := clearFewerUptoRow, standIns := [], harness := (true, "1076da7ca6c1930a047129807aca96e9b9130f34e56554caea66866122c9c10f"), looks := false }, kinds := [], alts := [], laidByText := true, laidKinds := [.data], laidTests := true, laidLooks := .later }
def ClearFewerUptoCardSaid : Prop := Claim7.holds Tryz.pinned (.plain (OpenSpec.upto clearFewerSpec)) clearFewerUptoCard

/-- THE SECOND FORM's CARD OF 'gantkeep3.ClearProves'. -/
def clearProvesUptoCard : Claim7 := { stood := { row := clearProvesUptoRow, standIns := [], harness := (true, "1076da7ca6c1930a047129807aca96e9b9130f34e56554caea66866122c9c10f"), looks := false }, kinds := [], alts := [], laidByText := true, laidKinds := [.data], laidTests := true, laidLooks := .later }
def ClearProvesUptoCardSaid : Prop := Claim7.holds Tryz.pinned (.plain (OpenSpec.upto clearProvesSpec)) clearProvesUptoCard

/-- THE SECOND FORM's CARD OF 'gantkeep3.ClearBack'. -/
def clearBackUptoCard : Claim7 := { stood := { row := clearBackUptoRow, standIns := [], harness := (true, "1076da7ca6c1930a047129807aca96e9b9130f34e56554caea66866122c9c10f"), looks := false }, kinds := [], alts := [], laidByText := true, laidKinds := [.data], laidTests := true, laidLooks := .later }
def ClearBackUptoCardSaid : Prop := Claim7.holds Tryz.pinned (.plain (OpenSpec.upto clearBackSpec)) clearBackUptoCard

/-- THE SECOND FORM's CARD OF 'gantkeep3.ShortFree'. -/
def shortFreeUptoCard : Claim7 := { stood := { row := shortFreeUptoRow, standIns := [], harness := (true, "1076da7ca6c1930a047129807aca96e9b9130f34e56554caea66866122c9c10f"), looks := false }, kinds := [], alts := [], laidByText := true, laidKinds := [.data], laidTests := true, laidLooks := .later }
def ShortFreeUptoCardSaid : Prop := Claim7.holds Tryz.pinned (.plain (OpenSpec.upto shortFreeSpec)) shortFreeUptoCard

/-- THE SECOND FORM's CARD OF 'gantkeep3.PathBack'. -/
def pathBackUptoCard : Claim7 := { stood := { row := pathBackUptoRow, standIns := [], harness := (true, "1076da7ca6c1930a047129807aca96e9b9130f34e56554caea66866122c9c10f"), looks := false }, kinds := [], alts := [], laidByText := true, laidKinds := [.data], laidTests := true, laidLooks := .later }
def PathBackUptoCardSaid : Prop := Claim7.holds Tryz.pinned (.plain (OpenSpec.upto pathBackSpec)) pathBackUptoCard

/-- THE SECOND FORM's CARD OF 'gantkeep3.PathFewer'. -/
def pathFewerUptoCard : Claim7 := { stood := { row := pathFewerUptoRow, standIns := [], harness := (true, "1076da7ca6c1930a047129807aca96e9b9130f34e56554caea66866122c9c10f"), looks := false }, kinds := [], alts := [], laidByText := true, laidKinds := [.data], laidTests := true, laidLooks := .later }
def PathFewerUptoCardSaid : Prop := Claim7.holds Tryz.pinned (.plain (OpenSpec.upto pathFewerSpec)) pathFewerUptoCard

/-- THE SECOND FORM's CARD OF 'gantkeep3.PathFree'. -/
def pathFreeUptoCard : Claim7 := { stood := { row := pathFreeUptoRow, standIns := [], harness := (true, "1076da7ca6c1930a047129807aca96e9b9130f34e56554caea66866122c9c10f"), looks := false }, kinds := [], alts := [], laidByText := true, laidKinds := [.data], laidTests := true, laidLooks := .later }
def PathFreeUptoCardSaid : Prop := Claim7.holds Tryz.pinned (.plain (OpenSpec.upto pathFreeSpec)) pathFreeUptoCard

/-- THE SECOND FORM's CARD OF 'ganttop.TopWays'. -/
def topWaysUptoCard : Claim7 := { stood := { row := topWaysUptoRow, standIns := [], harness := (true, "1076da7ca6c1930a047129807aca96e9b9130f34e56554caea66866122c9c10f"), looks := false }, kinds := [], alts := [], laidByText := true, laidKinds := [.data], laidTests := true, laidLooks := .later }
def TopWaysUptoCardSaid : Prop := Claim7.holds Tryz.pinned (.plain (OpenSpec.upto topWaysSpec)) topWaysUptoCard
end Rows
end Go.Proofs.YteggojnjinealaaGreatDoor
