/-
  DERIVED. GIVEN WITH THE SEED: THE CARDS: each row of YtgaokohhkdeomaaDoorRows.lean that lists a variable, with what it lists TIED to the program's text (the seventh form; the later family's looks); each row that meets fmt, with fmt's text TOLD by the authors' own Lean function (tested against real Go, not proved from fmt's source: count such statements apart). THE CARD IS WHAT COUNTS. Prove the row's statement (the work); the ties are given (YtgaokohhkdeomaaDoorTie.lean); close each card by the builder's one call (the guide's Derived/Test/ToyasCard.lean, 'card_holds'). Laid BY PROGRAM, IN A SANDBOX (cutbox-door.mjs). By AI agents, Wed Nov 11 2026. No macro, syntax, notation, axiom, sorry.
-/
import Derived.Test.YtgaokohhkdeomaaDoorRows
import GoSem.ClaimSeven
namespace Go.Proofs.YtgaokohhkdeomaaDoor
namespace Rows

/-- THE TIED CARD OF 'gantkeep3.TrackSums'. -/
def trackSumsCard : Claim7 := { stood := { row := trackSumsRow, standIns := [], harness := (true, "613e9000d4e0b072b3645e041bf4dd3612b6788f653eca195e5f29ef99633598"), looks := false }, kinds := [], alts := [], laidByText := true, laidKinds := [.data], laidTests := true, laidLooks := .later }
def TrackSumsCardSaid : Prop := Claim7.holds Tryd.pinned (.plain (OpenSpec.ofChange trackSumsSpec)) trackSumsCard

/-- THE TIED CARD OF 'gantkeep3.ForeMoved'. -/
def foreMovedCard : Claim7 := { stood := { row := foreMovedRow, standIns := [], harness := (true, "613e9000d4e0b072b3645e041bf4dd3612b6788f653eca195e5f29ef99633598"), looks := false }, kinds := [], alts := [], laidByText := true, laidKinds := [.data], laidTests := true, laidLooks := .later }
def ForeMovedCardSaid : Prop := Claim7.holds Tryd.pinned (.plain (OpenSpec.ofChange foreMovedSpec)) foreMovedCard

/-- THE TIED CARD OF 'gantkeep3.TrackLimits'. -/
def trackLimitsCard : Claim7 := { stood := { row := trackLimitsRow, standIns := [], harness := (true, "613e9000d4e0b072b3645e041bf4dd3612b6788f653eca195e5f29ef99633598"), looks := false }, kinds := [], alts := [], laidByText := true, laidKinds := [.data], laidTests := true, laidLooks := .later }
def TrackLimitsCardSaid : Prop := Claim7.holds Tryd.pinned (.plain (OpenSpec.ofChange trackLimitsSpec)) trackLimitsCard

/-- THE TIED CARD OF 'gantkeep3.ShortPlain'. -/
def shortPlainCard : Claim7 := { stood := { row := shortPlainRow, standIns := [], harness := (true, "613e9000d4e0b072b3645e041bf4dd3612b6788f653eca195e5f29ef99633598"), looks := false }, kinds := [], alts := [], laidByText := true, laidKinds := [.data], laidTests := true, laidLooks := .later }
def ShortPlainCardSaid : Prop := Claim7.holds Tryd.pinned (.plain (OpenSpec.ofChange shortPlainSpec)) shortPlainCard

/-- THE TIED CARD OF 'gantkeep3.ShortHalves'. -/
def shortHalvesCard : Claim7 := { stood := { row := shortHalvesRow, standIns := [], harness := (true, "613e9000d4e0b072b3645e041bf4dd3612b6788f653eca195e5f29ef99633598"), looks := false }, kinds := [], alts := [], laidByText := true, laidKinds := [.data], laidTests := true, laidLooks := .later }
def ShortHalvesCardSaid : Prop := Claim7.holds Tryd.pinned (.plain (OpenSpec.ofChange shortHalvesSpec)) shortHalvesCard

/-- THE TIED CARD OF 'gantkeep3.InverseRing'. -/
def inverseRingCard : Claim7 := { stood := { row := inverseRingRow, standIns := [], harness := (true, "613e9000d4e0b072b3645e041bf4dd3612b6788f653eca195e5f29ef99633598"), looks := false }, kinds := [], alts := [], laidByText := true, laidKinds := [.data], laidTests := true, laidLooks := .later }
def InverseRingCardSaid : Prop := Claim7.holds Tryd.pinned (.plain (OpenSpec.ofChange inverseRingSpec)) inverseRingCard

/-- THE TIED CARD OF 'gantkeep3.TrackCuts'. -/
def trackCutsCard : Claim7 := { stood := { row := trackCutsRow, standIns := [], harness := (true, "613e9000d4e0b072b3645e041bf4dd3612b6788f653eca195e5f29ef99633598"), looks := false }, kinds := [], alts := [], laidByText := true, laidKinds := [.data], laidTests := true, laidLooks := .later }
def TrackCutsCardSaid : Prop := Claim7.holds Tryd.pinned (.plain (OpenSpec.ofChange trackCutsSpec)) trackCutsCard

/-- THE TIED CARD OF 'gantkeep3.SingleTwo'. -/
def singleTwoCard : Claim7 := { stood := { row := singleTwoRow, standIns := [], harness := (true, "613e9000d4e0b072b3645e041bf4dd3612b6788f653eca195e5f29ef99633598"), looks := false }, kinds := [], alts := [], laidByText := true, laidKinds := [.data], laidTests := true, laidLooks := .later }
def SingleTwoCardSaid : Prop := Claim7.holds Tryd.pinned (.plain (OpenSpec.ofChange singleTwoSpec)) singleTwoCard

/-- THE TIED CARD OF 'gantkeep3.ShapeRigid'. -/
def shapeRigidCard : Claim7 := { stood := { row := shapeRigidRow, standIns := [], harness := (true, "613e9000d4e0b072b3645e041bf4dd3612b6788f653eca195e5f29ef99633598"), looks := false }, kinds := [], alts := [], laidByText := true, laidKinds := [.data], laidTests := true, laidLooks := .later }
def ShapeRigidCardSaid : Prop := Claim7.holds Tryd.pinned (.plain (OpenSpec.ofChange shapeRigidSpec)) shapeRigidCard

/-- THE TIED CARD OF 'gantkeep3.TrackDelays'. -/
def trackDelaysCard : Claim7 := { stood := { row := trackDelaysRow, standIns := [], harness := (true, "613e9000d4e0b072b3645e041bf4dd3612b6788f653eca195e5f29ef99633598"), looks := false }, kinds := [], alts := [], laidByText := true, laidKinds := [.data], laidTests := true, laidLooks := .later }
def TrackDelaysCardSaid : Prop := Claim7.holds Tryd.pinned (.plain (OpenSpec.ofChange trackDelaysSpec)) trackDelaysCard

/-- THE TIED CARD OF 'gantkeep3.TrackJoins'. -/
def trackJoinsCard : Claim7 := { stood := { row := trackJoinsRow, standIns := [], harness := (true, "613e9000d4e0b072b3645e041bf4dd3612b6788f653eca195e5f29ef99633598"), looks := false }, kinds := [], alts := [], laidByText := true, laidKinds := [.data], laidTests := true, laidLooks := .later }
def TrackJoinsCardSaid : Prop := Claim7.holds Tryd.pinned (.plain (OpenSpec.ofChange trackJoinsSpec)) trackJoinsCard

/-- THE TIED CARD OF 'gantkeep3.ForceWork'. -/
def forceWorkCard : Claim7 := { stood := { row := forceWorkRow, standIns := [], harness := (true, "613e9000d4e0b072b3645e041bf4dd3612b6788f653eca195e5f29ef99633598"), looks := false }, kinds := [], alts := [], laidByText := true, laidKinds := [.data], laidTests := true, laidLooks := .later }
def ForceWorkCardSaid : Prop := Claim7.holds Tryd.pinned (.plain (OpenSpec.ofChange forceWorkSpec)) forceWorkCard

/-- THE TIED CARD OF 'gantkeep3.SingleStill'. -/
def singleStillCard : Claim7 := { stood := { row := singleStillRow, standIns := [], harness := (true, "613e9000d4e0b072b3645e041bf4dd3612b6788f653eca195e5f29ef99633598"), looks := false }, kinds := [], alts := [], laidByText := true, laidKinds := [.data], laidTests := true, laidLooks := .later }
def SingleStillCardSaid : Prop := Claim7.holds Tryd.pinned (.plain (OpenSpec.ofChange singleStillSpec)) singleStillCard

/-- THE TIED CARD OF 'gantkeep3.TimingFits'. -/
def timingFitsCard : Claim7 := { stood := { row := timingFitsRow, standIns := [], harness := (true, "613e9000d4e0b072b3645e041bf4dd3612b6788f653eca195e5f29ef99633598"), looks := false }, kinds := [], alts := [], laidByText := true, laidKinds := [.data], laidTests := true, laidLooks := .later }
def TimingFitsCardSaid : Prop := Claim7.holds Tryd.pinned (.plain (OpenSpec.ofChange timingFitsSpec)) timingFitsCard

/-- THE SECOND FORM's CARD OF 'gantkeep3.TrackSums'. -/
def trackSumsUptoCard : Claim7 := { stood := { row := trackSumsUptoRow, standIns := [], harness := (true, "613e9000d4e0b072b3645e041bf4dd3612b6788f653eca195e5f29ef99633598"), looks := false }, kinds := [], alts := [], laidByText := true, laidKinds := [.data], laidTests := true, laidLooks := .later }
def TrackSumsUptoCardSaid : Prop := Claim7.holds Tryd.pinned (.plain (OpenSpec.upto trackSumsSpec)) trackSumsUptoCard

/-- THE SECOND FORM's CARD OF 'gantkeep3.ForeMoved'. -/
def foreMovedUptoCard : Claim7 := { stood := { row := foreMovedUptoRow, standIns := [], harness := (true, "613e9000d4e0b072b3645e041bf4dd3612b6788f653eca195e5f29ef99633598"), looks := false }, kinds := [], alts := [], laidByText := true, laidKinds := [.data], laidTests := true, laidLooks := .later }
def ForeMovedUptoCardSaid : Prop := Claim7.holds Tryd.pinned (.plain (OpenSpec.upto foreMovedSpec)) foreMovedUptoCard

/-- THE SECOND FORM's CARD OF 'gantkeep3.TrackLimits'. -/
def trackLimitsUptoCard : Claim7 := { stood := { row := trackLimitsUptoRow, standIns := [], harness := (true, "613e9000d4e0b072b3645e041bf4dd3612b6788f653eca195e5f29ef99633598"), looks := false }, kinds := [], alts := [], laidByText := true, laidKinds := [.data], laidTests := true, laidLooks := .later }
def TrackLimitsUptoCardSaid : Prop := Claim7.holds Tryd.pinned (.plain (OpenSpec.upto trackLimitsSpec)) trackLimitsUptoCard

/-- THE SECOND FORM's CARD OF 'gantkeep3.ShortPlain'. -/
def shortPlainUptoCard : Claim7 := { stood := { row := shortPlainUptoRow, standIns := [], harness := (true, "613e9000d4e0b072b3645e041bf4dd3612b6788f653eca195e5f29ef99633598"), looks := false }, kinds := [], alts := [], laidByText := true, laidKinds := [.data], laidTests := true, laidLooks := .later }
def ShortPlainUptoCardSaid : Prop := Claim7.holds Tryd.pinned (.plain (OpenSpec.upto shortPlainSpec)) shortPlainUptoCard

/-- THE SECOND FORM's CARD OF 'gantkeep3.ShortHalves'. -/
def shortHalvesUptoCard : Claim7 := { stood := { row := shortHalvesUptoRow, standIns := [], harness := (true, "613e9000d4e0b072b3645e041bf4dd3612b6788f653eca195e5f29ef99633598"), looks := false }, kinds := [], alts := [], laidByText := true, laidKinds := [.data], laidTests := true, laidLooks := .later }
def ShortHalvesUptoCardSaid : Prop := Claim7.holds Tryd.pinned (.plain (OpenSpec.upto shortHalvesSpec)) shortHalvesUptoCard

/-- THE SECOND FORM's CARD OF 'gantkeep3.InverseRing'. -/
def inverseRingUptoCard : Claim7 := { stood := { row := inverseRingUptoRow, standIns := [], harness := (true, "613e9000d4e0b072b3645e041bf4dd3612b6788f653eca195e5f29ef99633598"), looks := false }, kinds := [], alts := [], laidByText := true, laidKinds := [.data], laidTests := true, laidLooks := .later }
def InverseRingUptoCardSaid : Prop := Claim7.holds Tryd.pinned (.plain (OpenSpec.upto inverseRingSpec)) inverseRingUptoCard

/-- THE SECOND FORM's CARD OF 'gantkeep3.TrackCuts'. -/
def trackCutsUptoCard : Claim7 := { stood := { row := trackCutsUptoRow, standIns := [], harness := (true, "613e9000d4e0b072b3645e041bf4dd3612b6788f653eca195e5f29ef99633598"), looks := false }, kinds := [], alts := [], laidByText := true, laidKinds := [.data], laidTests := true, laidLooks := .later }
def TrackCutsUptoCardSaid : Prop := Claim7.holds Tryd.pinned (.plain (OpenSpec.upto trackCutsSpec)) trackCutsUptoCard

/-- THE SECOND FORM's CARD OF 'gantkeep3.SingleTwo'. -/
def singleTwoUptoCard : Claim7 := { stood := { row := singleTwoUptoRow, standIns := [], harness := (true, "613e9000d4e0b072b3645e041bf4dd3612b6788f653eca195e5f29ef99633598"), looks := false }, kinds := [], alts := [], laidByText := true, laidKinds := [.data], laidTests := true, laidLooks := .later }
def SingleTwoUptoCardSaid : Prop := Claim7.holds Tryd.pinned (.plain (OpenSpec.upto singleTwoSpec)) singleTwoUptoCard

/-- THE SECOND FORM's CARD OF 'gantkeep3.ShapeRigid'. -/
def shapeRigidUptoCard : Claim7 := { stood := { row := shapeRigidUptoRow, standIns := [], harness := (true, "613e9000d4e0b072b3645e041bf4dd3612b6788f653eca195e5f29ef99633598"), looks := false }, kinds := [], alts := [], laidByText := true, laidKinds := [.data], laidTests := true, laidLooks := .later }
def ShapeRigidUptoCardSaid : Prop := Claim7.holds Tryd.pinned (.plain (OpenSpec.upto shapeRigidSpec)) shapeRigidUptoCard

/-- THE SECOND FORM's CARD OF 'gantkeep3.TrackDelays'. -/
def trackDelaysUptoCard : Claim7 := { stood := { row := trackDelaysUptoRow, standIns := [], harness := (true, "613e9000d4e0b072b3645e041bf4dd3612b6788f653eca195e5f29ef99633598"), looks := false }, kinds := [], alts := [], laidByText := true, laidKinds := [.data], laidTests := true, laidLooks := .later }
def TrackDelaysUptoCardSaid : Prop := Claim7.holds Tryd.pinned (.plain (OpenSpec.upto trackDelaysSpec)) trackDelaysUptoCard

/-- THE SECOND FORM's CARD OF 'gantkeep3.TrackJoins'. -/
def trackJoinsUptoCard : Claim7 := { stood := { row := trackJoinsUptoRow, standIns := [], harness := (true, "613e9000d4e0b072b3645e041bf4dd3612b6788f653eca195e5f29ef99633598"), looks := false }, kinds := [], alts := [], laidByText := true, laidKinds := [.data], laidTests := true, laidLooks := .later }
def TrackJoinsUptoCardSaid : Prop := Claim7.holds Tryd.pinned (.plain (OpenSpec.upto trackJoinsSpec)) trackJoinsUptoCard

/-- THE SECOND FORM's CARD OF 'gantkeep3.ForceWork'. -/
def forceWorkUptoCard : Claim7 := { stood := { row := forceWorkUptoRow, standIns := [], harness := (true, "613e9000d4e0b072b3645e041bf4dd3612b6788f653eca195e5f29ef99633598"), looks := false }, kinds := [], alts := [], laidByText := true, laidKinds := [.data], laidTests := true, laidLooks := .later }
def ForceWorkUptoCardSaid : Prop := Claim7.holds Tryd.pinned (.plain (OpenSpec.upto forceWorkSpec)) forceWorkUptoCard

/-- THE SECOND FORM's CARD OF 'gantkeep3.SingleStill'. -/
def singleStillUptoCard : Claim7 := { stood := { row := singleStillUptoRow, standIns := [], harness := (true, "613e9000d4e0b072b3645e041bf4dd3612b6788f653eca195e5f29ef99633598"), looks := false }, kinds := [], alts := [], laidByText := true, laidKinds := [.data], laidTests := true, laidLooks := .later }
def SingleStillUptoCardSaid : Prop := Claim7.holds Tryd.pinned (.plain (OpenSpec.upto singleStillSpec)) singleStillUptoCard

/-- THE SECOND FORM's CARD OF 'gantkeep3.TimingFits'. -/
def timingFitsUptoCard : Claim7 := { stood := { row := timingFitsUptoRow, standIns := [], harness := (true, "613e9000d4e0b072b3645e041bf4dd3612b6788f653eca195e5f29ef99633598"), looks := false }, kinds := [], alts := [], laidByText := true, laidKinds := [.data], laidTests := true, laidLooks := .later }
def TimingFitsUptoCardSaid : Prop := Claim7.holds Tryd.pinned (.plain (OpenSpec.upto timingFitsSpec)) timingFitsUptoCard
end Rows
end Go.Proofs.YtgaokohhkdeomaaDoor
