/-
  DERIVED. GIVEN WITH THE SEED: THE CARDS: each row of YtejfdhcigkgbmaaDoorRows.lean that lists a variable, with what it lists TIED to the program's text (the seventh form; the later family's looks); each row that meets fmt, with fmt's text TOLD by the authors' own Lean function (tested against real Go, not proved from fmt's source: count such statements apart). THE CARD IS WHAT COUNTS. Prove the row's statement (the work); the ties are given (YtejfdhcigkgbmaaDoorTie.lean); close each card by the builder's one call (the guide's Derived/Test/ToyasCard.lean, 'card_holds'). Laid BY PROGRAM, IN A SANDBOX (cutbox-door.mjs). By AI agents, Wed Nov 11 2026. No macro, syntax, notation, axiom, sorry.
-/
import Derived.Test.YtejfdhcigkgbmaaDoorRows
import GoSem.ClaimSeven
namespace Go.Proofs.YtejfdhcigkgbmaaDoor
namespace Rows

/-- THE TIED CARD OF 'gantkeep3.TrackSums'. -/
def trackSumsCard : Claim7 := { stood := { row := trackSumsRow, standIns := [], harness := (true, "c90b75916dda73041626a2047769d087934f2dfcf54c864af5616f8aef3e26a8"), looks := false }, kinds := [], alts := [], laidByText := true, laidKinds := [.data], laidTests := true, laidLooks := .later }
def TrackSumsCardSaid : Prop := Claim7.holds Tryd.pinned (.plain (OpenSpec.ofChange trackSumsSpec)) trackSumsCard

/-- THE TIED CARD OF 'gantkeep3.TimingRests'. -/
def timingRestsCard : Claim7 := { stood := { row := timingRestsRow, standIns := [], harness := (true, "c90b75916dda73041626a2047769d087934f2dfcf54c864af5616f8aef3e26a8"), looks := false }, kinds := [], alts := [], laidByText := true, laidKinds := [.data], laidTests := true, laidLooks := .later }
def TimingRestsCardSaid : Prop := Claim7.holds Tryd.pinned (.plain (OpenSpec.ofChange timingRestsSpec)) timingRestsCard

/-- THE TIED CARD OF 'gantkeep3.ArmClamps'. -/
def armClampsCard : Claim7 := { stood := { row := armClampsRow, standIns := [], harness := (true, "c90b75916dda73041626a2047769d087934f2dfcf54c864af5616f8aef3e26a8"), looks := false }, kinds := [], alts := [], laidByText := true, laidKinds := [.data], laidTests := true, laidLooks := .later }
def ArmClampsCardSaid : Prop := Claim7.holds Tryd.pinned (.plain (OpenSpec.ofChange armClampsSpec)) armClampsCard

/-- THE TIED CARD OF 'gantkeep3.ForeLengths'. -/
def foreLengthsCard : Claim7 := { stood := { row := foreLengthsRow, standIns := [], harness := (true, "c90b75916dda73041626a2047769d087934f2dfcf54c864af5616f8aef3e26a8"), looks := false }, kinds := [], alts := [], laidByText := true, laidKinds := [.data], laidTests := true, laidLooks := .later }
def ForeLengthsCardSaid : Prop := Claim7.holds Tryd.pinned (.plain (OpenSpec.ofChange foreLengthsSpec)) foreLengthsCard

/-- THE TIED CARD OF 'gantkeep3.RoamBeside'. -/
def roamBesideCard : Claim7 := { stood := { row := roamBesideRow, standIns := [], harness := (true, "c90b75916dda73041626a2047769d087934f2dfcf54c864af5616f8aef3e26a8"), looks := false }, kinds := [], alts := [], laidByText := true, laidKinds := [.data], laidTests := true, laidLooks := .later }
def RoamBesideCardSaid : Prop := Claim7.holds Tryd.pinned (.plain (OpenSpec.ofChange roamBesideSpec)) roamBesideCard

/-- THE TIED CARD OF 'gantkeep3.ForeMoved'. -/
def foreMovedCard : Claim7 := { stood := { row := foreMovedRow, standIns := [], harness := (true, "c90b75916dda73041626a2047769d087934f2dfcf54c864af5616f8aef3e26a8"), looks := false }, kinds := [], alts := [], laidByText := true, laidKinds := [.data], laidTests := true, laidLooks := .later }
def ForeMovedCardSaid : Prop := Claim7.holds Tryd.pinned (.plain (OpenSpec.ofChange foreMovedSpec)) foreMovedCard

/-- THE TIED CARD OF 'gantkeep3.ForceSums'. -/
def forceSumsCard : Claim7 := { stood := { row := forceSumsRow, standIns := [], harness := (true, "c90b75916dda73041626a2047769d087934f2dfcf54c864af5616f8aef3e26a8"), looks := false }, kinds := [], alts := [], laidByText := true, laidKinds := [.data], laidTests := true, laidLooks := .later }
def ForceSumsCardSaid : Prop := Claim7.holds Tryd.pinned (.plain (OpenSpec.ofChange forceSumsSpec)) forceSumsCard

/-- THE TIED CARD OF 'gantkeep3.TrackLimits'. -/
def trackLimitsCard : Claim7 := { stood := { row := trackLimitsRow, standIns := [], harness := (true, "c90b75916dda73041626a2047769d087934f2dfcf54c864af5616f8aef3e26a8"), looks := false }, kinds := [], alts := [], laidByText := true, laidKinds := [.data], laidTests := true, laidLooks := .later }
def TrackLimitsCardSaid : Prop := Claim7.holds Tryd.pinned (.plain (OpenSpec.ofChange trackLimitsSpec)) trackLimitsCard

/-- THE TIED CARD OF 'gantkeep3.ShortPlain'. -/
def shortPlainCard : Claim7 := { stood := { row := shortPlainRow, standIns := [], harness := (true, "c90b75916dda73041626a2047769d087934f2dfcf54c864af5616f8aef3e26a8"), looks := false }, kinds := [], alts := [], laidByText := true, laidKinds := [.data], laidTests := true, laidLooks := .later }
def ShortPlainCardSaid : Prop := Claim7.holds Tryd.pinned (.plain (OpenSpec.ofChange shortPlainSpec)) shortPlainCard

/-- THE TIED CARD OF 'gantkeep3.ShortHalves'. -/
def shortHalvesCard : Claim7 := { stood := { row := shortHalvesRow, standIns := [], harness := (true, "c90b75916dda73041626a2047769d087934f2dfcf54c864af5616f8aef3e26a8"), looks := false }, kinds := [], alts := [], laidByText := true, laidKinds := [.data], laidTests := true, laidLooks := .later }
def ShortHalvesCardSaid : Prop := Claim7.holds Tryd.pinned (.plain (OpenSpec.ofChange shortHalvesSpec)) shortHalvesCard

/-- THE TIED CARD OF 'gantkeep3.SingleSums'. -/
def singleSumsCard : Claim7 := { stood := { row := singleSumsRow, standIns := [], harness := (true, "c90b75916dda73041626a2047769d087934f2dfcf54c864af5616f8aef3e26a8"), looks := false }, kinds := [], alts := [], laidByText := true, laidKinds := [.data], laidTests := true, laidLooks := .later }
def SingleSumsCardSaid : Prop := Claim7.holds Tryd.pinned (.plain (OpenSpec.ofChange singleSumsSpec)) singleSumsCard

/-- THE SECOND FORM's CARD OF 'gantkeep3.TrackSums'. -/
def trackSumsUptoCard : Claim7 := { stood := { row := trackSumsUptoRow, standIns := [], harness := (true, "c90b75916dda73041626a2047769d087934f2dfcf54c864af5616f8aef3e26a8"), looks := false }, kinds := [], alts := [], laidByText := true, laidKinds := [.data], laidTests := true, laidLooks := .later }
def TrackSumsUptoCardSaid : Prop := Claim7.holds Tryd.pinned (.plain (OpenSpec.upto trackSumsSpec)) trackSumsUptoCard

/-- THE SECOND FORM's CARD OF 'gantkeep3.TimingRests'. -/
def timingRestsUptoCard : Claim7 := { stood := { row := timingRestsUptoRow, standIns := [], harness := (true, "c90b75916dda73041626a2047769d087934f2dfcf54c864af5616f8aef3e26a8"), looks := false }, kinds := [], alts := [], laidByText := true, laidKinds := [.data], laidTests := true, laidLooks := .later }
def TimingRestsUptoCardSaid : Prop := Claim7.holds Tryd.pinned (.plain (OpenSpec.upto timingRestsSpec)) timingRestsUptoCard

/-- THE SECOND FORM's CARD OF 'gantkeep3.ArmClamps'. -/
def armClampsUptoCard : Claim7 := { stood := { row := armClampsUptoRow, standIns := [], harness := (true, "c90b75916dda73041626a2047769d087934f2dfcf54c864af5616f8aef3e26a8"), looks := false }, kinds := [], alts := [], laidByText := true, laidKinds := [.data], laidTests := true, laidLooks := .later }
def ArmClampsUptoCardSaid : Prop := Claim7.holds Tryd.pinned (.plain (OpenSpec.upto armClampsSpec)) armClampsUptoCard

/-- THE SECOND FORM's CARD OF 'gantkeep3.ForeLengths'. -/
def foreLengthsUptoCard : Claim7 := { stood := { row := foreLengthsUptoRow, standIns := [], harness := (true, "c90b75916dda73041626a2047769d087934f2dfcf54c864af5616f8aef3e26a8"), looks := false }, kinds := [], alts := [], laidByText := true, laidKinds := [.data], laidTests := true, laidLooks := .later }
def ForeLengthsUptoCardSaid : Prop := Claim7.holds Tryd.pinned (.plain (OpenSpec.upto foreLengthsSpec)) foreLengthsUptoCard

/-- THE SECOND FORM's CARD OF 'gantkeep3.RoamBeside'. -/
def roamBesideUptoCard : Claim7 := { stood := { row := roamBesideUptoRow, standIns := [], harness := (true, "c90b75916dda73041626a2047769d087934f2dfcf54c864af5616f8aef3e26a8"), looks := false }, kinds := [], alts := [], laidByText := true, laidKinds := [.data], laidTests := true, laidLooks := .later }
def RoamBesideUptoCardSaid : Prop := Claim7.holds Tryd.pinned (.plain (OpenSpec.upto roamBesideSpec)) roamBesideUptoCard

/-- THE SECOND FORM's CARD OF 'gantkeep3.ForeMoved'. -/
def foreMovedUptoCard : Claim7 := { stood := { row := foreMovedUptoRow, standIns := [], harness := (true, "c90b75916dda73041626a2047769d087934f2dfcf54c864af5616f8aef3e26a8"), looks := false }, kinds := [], alts := [], laidByText := true, laidKinds := [.data], laidTests := true, laidLooks := .later }
def ForeMovedUptoCardSaid : Prop := Claim7.holds Tryd.pinned (.plain (OpenSpec.upto foreMovedSpec)) foreMovedUptoCard

/-- THE SECOND FORM's CARD OF 'gantkeep3.ForceSums'. -/
def forceSumsUptoCard : Claim7 := { stood := { row := forceSumsUptoRow, standIns := [], harness := (true, "c90b75916dda73041626a2047769d087934f2dfcf54c864af5616f8aef3e26a8"), looks := false }, kinds := [], alts := [], laidByText := true, laidKinds := [.data], laidTests := true, laidLooks := .later }
def ForceSumsUptoCardSaid : Prop := Claim7.holds Tryd.pinned (.plain (OpenSpec.upto forceSumsSpec)) forceSumsUptoCard

/-- THE SECOND FORM's CARD OF 'gantkeep3.TrackLimits'. -/
def trackLimitsUptoCard : Claim7 := { stood := { row := trackLimitsUptoRow, standIns := [], harness := (true, "c90b75916dda73041626a2047769d087934f2dfcf54c864af5616f8aef3e26a8"), looks := false }, kinds := [], alts := [], laidByText := true, laidKinds := [.data], laidTests := true, laidLooks := .later }
def TrackLimitsUptoCardSaid : Prop := Claim7.holds Tryd.pinned (.plain (OpenSpec.upto trackLimitsSpec)) trackLimitsUptoCard

/-- THE SECOND FORM's CARD OF 'gantkeep3.ShortPlain'. -/
def shortPlainUptoCard : Claim7 := { stood := { row := shortPlainUptoRow, standIns := [], harness := (true, "c90b75916dda73041626a2047769d087934f2dfcf54c864af5616f8aef3e26a8"), looks := false }, kinds := [], alts := [], laidByText := true, laidKinds := [.data], laidTests := true, laidLooks := .later }
def ShortPlainUptoCardSaid : Prop := Claim7.holds Tryd.pinned (.plain (OpenSpec.upto shortPlainSpec)) shortPlainUptoCard

/-- THE SECOND FORM's CARD OF 'gantkeep3.ShortHalves'. -/
def shortHalvesUptoCard : Claim7 := { stood := { row := shortHalvesUptoRow, standIns := [], harness := (true, "c90b75916dda73041626a2047769d087934f2dfcf54c864af5616f8aef3e26a8"), looks := false }, kinds := [], alts := [], laidByText := true, laidKinds := [.data], laidTests := true, laidLooks := .later }
def ShortHalvesUptoCardSaid : Prop := Claim7.holds Tryd.pinned (.plain (OpenSpec.upto shortHalvesSpec)) shortHalvesUptoCard

/-- THE SECOND FORM's CARD OF 'gantkeep3.SingleSums'. -/
def singleSumsUptoCard : Claim7 := { stood := { row := singleSumsUptoRow, standIns := [], harness := (true, "c90b75916dda73041626a2047769d087934f2dfcf54c864af5616f8aef3e26a8"), looks := false }, kinds := [], alts := [], laidByText := true, laidKinds := [.data], laidTests := true, laidLooks := .later }
def SingleSumsUptoCardSaid : Prop := Claim7.holds Tryd.pinned (.plain (OpenSpec.upto singleSumsSpec)) singleSumsUptoCard
end Rows
end Go.Proofs.YtejfdhcigkgbmaaDoor
