/-
  DERIVED. GIVEN WITH THE SEED: THE CARDS: each row of YtnenjkgffapplaaDoorRows.lean that lists a variable, with what it lists TIED to the program's text (the seventh form; the later family's looks); each row that meets fmt, with fmt's text TOLD by the authors' own Lean function (tested against real Go, not proved from fmt's source: count such statements apart). THE CARD IS WHAT COUNTS. Prove the row's statement (the work); the ties are given (YtnenjkgffapplaaDoorTie.lean); close each card by the builder's one call (the guide's Derived/Test/ToyasCard.lean, 'card_holds'). Laid BY PROGRAM, IN A SANDBOX (cutbox-door.mjs). By AI agents, Wed Nov 11 2026. No macro, syntax, notation, axiom, sorry.
-/
import Derived.Test.YtnenjkgffapplaaDoorRows
import GoSem.ClaimSeven
namespace Go.Proofs.YtnenjkgffapplaaDoor
namespace Rows

/-- THE TIED CARD OF 'gantkeep3.TrackSums'. -/
def trackSumsCard : Claim7 := { stood := { row := trackSumsRow, standIns := [], harness := (true, "509c907300eae508df734ea5e1d011f1382a02516643e98a77740848c4ce575c"), looks := false }, kinds := [], alts := [], laidByText := true, laidKinds := [.data], laidTests := true, laidLooks := .later }
def TrackSumsCardSaid : Prop := Claim7.holds Tryd.pinned (.plain (OpenSpec.ofChange trackSumsSpec)) trackSumsCard

/-- THE TIED CARD OF 'gantkeep3.ShortPlain'. -/
def shortPlainCard : Claim7 := { stood := { row := shortPlainRow, standIns := [], harness := (true, "509c907300eae508df734ea5e1d011f1382a02516643e98a77740848c4ce575c"), looks := false }, kinds := [], alts := [], laidByText := true, laidKinds := [.data], laidTests := true, laidLooks := .later }
def ShortPlainCardSaid : Prop := Claim7.holds Tryd.pinned (.plain (OpenSpec.ofChange shortPlainSpec)) shortPlainCard

/-- THE TIED CARD OF 'gantkeep3.ShortHalves'. -/
def shortHalvesCard : Claim7 := { stood := { row := shortHalvesRow, standIns := [], harness := (true, "509c907300eae508df734ea5e1d011f1382a02516643e98a77740848c4ce575c"), looks := false }, kinds := [], alts := [], laidByText := true, laidKinds := [.data], laidTests := true, laidLooks := .later }
def ShortHalvesCardSaid : Prop := Claim7.holds Tryd.pinned (.plain (OpenSpec.ofChange shortHalvesSpec)) shortHalvesCard

/-- THE TIED CARD OF 'gantkeep3.SingleTwo'. -/
def singleTwoCard : Claim7 := { stood := { row := singleTwoRow, standIns := [], harness := (true, "509c907300eae508df734ea5e1d011f1382a02516643e98a77740848c4ce575c"), looks := false }, kinds := [], alts := [], laidByText := true, laidKinds := [.data], laidTests := true, laidLooks := .later }
def SingleTwoCardSaid : Prop := Claim7.holds Tryd.pinned (.plain (OpenSpec.ofChange singleTwoSpec)) singleTwoCard

/-- THE TIED CARD OF 'gantkeep3.ShapeRigid'. -/
def shapeRigidCard : Claim7 := { stood := { row := shapeRigidRow, standIns := [], harness := (true, "509c907300eae508df734ea5e1d011f1382a02516643e98a77740848c4ce575c"), looks := false }, kinds := [], alts := [], laidByText := true, laidKinds := [.data], laidTests := true, laidLooks := .later }
def ShapeRigidCardSaid : Prop := Claim7.holds Tryd.pinned (.plain (OpenSpec.ofChange shapeRigidSpec)) shapeRigidCard

/-- THE TIED CARD OF 'gantkeep3.SingleStill'. -/
def singleStillCard : Claim7 := { stood := { row := singleStillRow, standIns := [], harness := (true, "509c907300eae508df734ea5e1d011f1382a02516643e98a77740848c4ce575c"), looks := false }, kinds := [], alts := [], laidByText := true, laidKinds := [.data], laidTests := true, laidLooks := .later }
def SingleStillCardSaid : Prop := Claim7.holds Tryd.pinned (.plain (OpenSpec.ofChange singleStillSpec)) singleStillCard

/-- THE TIED CARD OF 'gantkeep3.TimingFits'. -/
def timingFitsCard : Claim7 := { stood := { row := timingFitsRow, standIns := [], harness := (true, "509c907300eae508df734ea5e1d011f1382a02516643e98a77740848c4ce575c"), looks := false }, kinds := [], alts := [], laidByText := true, laidKinds := [.data], laidTests := true, laidLooks := .later }
def TimingFitsCardSaid : Prop := Claim7.holds Tryd.pinned (.plain (OpenSpec.ofChange timingFitsSpec)) timingFitsCard

/-- THE TIED CARD OF 'gantkeep3.RoamNear'. -/
def roamNearCard : Claim7 := { stood := { row := roamNearRow, standIns := [], harness := (true, "509c907300eae508df734ea5e1d011f1382a02516643e98a77740848c4ce575c"), looks := false }, kinds := [], alts := [], laidByText := true, laidKinds := [.data], laidTests := true, laidLooks := .later }
def RoamNearCardSaid : Prop := Claim7.holds Tryd.pinned (.plain (OpenSpec.ofChange roamNearSpec)) roamNearCard

/-- THE TIED CARD OF 'gantkeep3.TimingSmooth'. -/
def timingSmoothCard : Claim7 := { stood := { row := timingSmoothRow, standIns := [], harness := (true, "509c907300eae508df734ea5e1d011f1382a02516643e98a77740848c4ce575c"), looks := false }, kinds := [], alts := [], laidByText := true, laidKinds := [.data], laidTests := true, laidLooks := .later }
def TimingSmoothCardSaid : Prop := Claim7.holds Tryd.pinned (.plain (OpenSpec.ofChange timingSmoothSpec)) timingSmoothCard

/-- THE SECOND FORM's CARD OF 'gantkeep3.TrackSums'. -/
def trackSumsUptoCard : Claim7 := { stood := { row := trackSumsUptoRow, standIns := [], harness := (true, "509c907300eae508df734ea5e1d011f1382a02516643e98a77740848c4ce575c"), looks := false }, kinds := [], alts := [], laidByText := true, laidKinds := [.data], laidTests := true, laidLooks := .later }
def TrackSumsUptoCardSaid : Prop := Claim7.holds Tryd.pinned (.plain (OpenSpec.upto trackSumsSpec)) trackSumsUptoCard

/-- THE SECOND FORM's CARD OF 'gantkeep3.ShortPlain'. -/
def shortPlainUptoCard : Claim7 := { stood := { row := shortPlainUptoRow, standIns := [], harness := (true, "509c907300eae508df734ea5e1d011f1382a02516643e98a77740848c4ce575c"), looks := false }, kinds := [], alts := [], laidByText := true, laidKinds := [.data], laidTests := true, laidLooks := .later }
def ShortPlainUptoCardSaid : Prop := Claim7.holds Tryd.pinned (.plain (OpenSpec.upto shortPlainSpec)) shortPlainUptoCard

/-- THE SECOND FORM's CARD OF 'gantkeep3.ShortHalves'. -/
def shortHalvesUptoCard : Claim7 := { stood := { row := shortHalvesUptoRow, standIns := [], harness := (true, "509c907300eae508df734ea5e1d011f1382a02516643e98a77740848c4ce575c"), looks := false }, kinds := [], alts := [], laidByText := true, laidKinds := [.data], laidTests := true, laidLooks := .later }
def ShortHalvesUptoCardSaid : Prop := Claim7.holds Tryd.pinned (.plain (OpenSpec.upto shortHalvesSpec)) shortHalvesUptoCard

/-- THE SECOND FORM's CARD OF 'gantkeep3.SingleTwo'. -/
def singleTwoUptoCard : Claim7 := { stood := { row := singleTwoUptoRow, standIns := [], harness := (true, "509c907300eae508df734ea5e1d011f1382a02516643e98a77740848c4ce575c"), looks := false }, kinds := [], alts := [], laidByText := true, laidKinds := [.data], laidTests := true, laidLooks := .later }
def SingleTwoUptoCardSaid : Prop := Claim7.holds Tryd.pinned (.plain (OpenSpec.upto singleTwoSpec)) singleTwoUptoCard

/-- THE SECOND FORM's CARD OF 'gantkeep3.ShapeRigid'. -/
def shapeRigidUptoCard : Claim7 := { stood := { row := shapeRigidUptoRow, standIns := [], harness := (true, "509c907300eae508df734ea5e1d011f1382a02516643e98a77740848c4ce575c"), looks := false }, kinds := [], alts := [], laidByText := true, laidKinds := [.data], laidTests := true, laidLooks := .later }
def ShapeRigidUptoCardSaid : Prop := Claim7.holds Tryd.pinned (.plain (OpenSpec.upto shapeRigidSpec)) shapeRigidUptoCard

/-- THE SECOND FORM's CARD OF 'gantkeep3.SingleStill'. -/
def singleStillUptoCard : Claim7 := { stood := { row := singleStillUptoRow, standIns := [], harness := (true, "509c907300eae508df734ea5e1d011f1382a02516643e98a77740848c4ce575c"), looks := false }, kinds := [], alts := [], laidByText := true, laidKinds := [.data], laidTests := true, laidLooks := .later }
def SingleStillUptoCardSaid : Prop := Claim7.holds Tryd.pinned (.plain (OpenSpec.upto singleStillSpec)) singleStillUptoCard

/-- THE SECOND FORM's CARD OF 'gantkeep3.TimingFits'. -/
def timingFitsUptoCard : Claim7 := { stood := { row := timingFitsUptoRow, standIns := [], harness := (true, "509c907300eae508df734ea5e1d011f1382a02516643e98a77740848c4ce575c"), looks := false }, kinds := [], alts := [], laidByText := true, laidKinds := [.data], laidTests := true, laidLooks := .later }
def TimingFitsUptoCardSaid : Prop := Claim7.holds Tryd.pinned (.plain (OpenSpec.upto timingFitsSpec)) timingFitsUptoCard

/-- THE SECOND FORM's CARD OF 'gantkeep3.RoamNear'. -/
def roamNearUptoCard : Claim7 := { stood := { row := roamNearUptoRow, standIns := [], harness := (true, "509c907300eae508df734ea5e1d011f1382a02516643e98a77740848c4ce575c"), looks := false }, kinds := [], alts := [], laidByText := true, laidKinds := [.data], laidTests := true, laidLooks := .later }
def RoamNearUptoCardSaid : Prop := Claim7.holds Tryd.pinned (.plain (OpenSpec.upto roamNearSpec)) roamNearUptoCard

/-- THE SECOND FORM's CARD OF 'gantkeep3.TimingSmooth'. -/
def timingSmoothUptoCard : Claim7 := { stood := { row := timingSmoothUptoRow, standIns := [], harness := (true, "509c907300eae508df734ea5e1d011f1382a02516643e98a77740848c4ce575c"), looks := false }, kinds := [], alts := [], laidByText := true, laidKinds := [.data], laidTests := true, laidLooks := .later }
def TimingSmoothUptoCardSaid : Prop := Claim7.holds Tryd.pinned (.plain (OpenSpec.upto timingSmoothSpec)) timingSmoothUptoCard
end Rows
end Go.Proofs.YtnenjkgffapplaaDoor
