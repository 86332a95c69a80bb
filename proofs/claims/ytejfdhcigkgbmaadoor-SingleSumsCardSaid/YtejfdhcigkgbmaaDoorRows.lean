/-
  NARROWER THAN 'FOR EVERY INPUT', by the rows' own cells (each row's printed sentence says how): TrackSums: laid · TimingRests: laid · ArmClamps: laid · ForeLengths: laid · RoamBeside: laid · ForeMoved: laid · ForceSums: laid · TrackLimits: laid · ShortPlain: laid · ShortHalves: laid · SingleSums: laid.
  DERIVED. THE GIVEN ROWS OF THIS SEAT. 11 by the template 'for every input the law returns true; each argument reads behind the call as it read before'; 0 by the template 'total and deterministic' (their statements: YtejfdhcigkgbmaaDoorTotals.lean).
  GIVEN WITH THE SEED: the statements are not yours to turn. If you find one false, say at which input.
  Laid BY PROGRAM, IN A SANDBOX (cutbox-rows.mjs): the forced cells as the released guide's own fill.sh prints them over the translation 4a1d54fe61c7acd6… (all of the seat's roots in one cut). By AI agents, Wed Nov 11 2026. No macro, syntax, notation, axiom, sorry.
-/
import Derived.Test.YtejfdhcigkgbmaaDoorChecked
import GoSem.Claim
import GoSem.ClaimJoined
import GoSem.ClaimMapViews
import Derived.JoinedTies
import Derived.KernelRfl
namespace Go.Proofs.YtejfdhcigkgbmaaDoor
/- THE CELL 'sum', in the pinned program and in every row, IS THE sha256 OF THE DUMP (.gsa) THAT YtejfdhcigkgbmaaDoorProg.lean LOADS. Nothing in Lean hashes anything: it is a label: what it is worth is what the hold of that sum in a sandbox is worth. -/
noncomputable def Tryd.pinned : Pinned := { name := "ytejfdhcigkgbmaadoor", sum := "4a1d54fe61c7acd676a846f628f87267e6b44dd30ae0361df584260ce34e50de", checked := Tryd.checked }
namespace Rows
def none {H : Type} : Left H := { results := [], args := [] }

/- WHAT THE LISTED PACKAGE-LEVEL VARIABLES READ AS WHEN THE CALL BEGINS. Each datum BY PROGRAM (the guide's laid-datum.mjs) off the statement by which the dump's own 'gosem.cut.vars' lays the variable. In a bare row this is a premise. The card (YtejfdhcigkgbmaaDoorCards.lean) ties it to the program's text. -/
def laid_math_bits_deBruijn64tab {H : Type} : DataW H := .agg [.lit (.int .u8 0), .lit (.int .u8 1), .lit (.int .u8 56), .lit (.int .u8 2), .lit (.int .u8 57), .lit (.int .u8 49), .lit (.int .u8 28), .lit (.int .u8 3), .lit (.int .u8 61), .lit (.int .u8 58), .lit (.int .u8 42), .lit (.int .u8 50), .lit (.int .u8 38), .lit (.int .u8 29), .lit (.int .u8 17), .lit (.int .u8 4), .lit (.int .u8 62), .lit (.int .u8 47), .lit (.int .u8 59), .lit (.int .u8 36), .lit (.int .u8 45), .lit (.int .u8 43), .lit (.int .u8 51), .lit (.int .u8 22), .lit (.int .u8 53), .lit (.int .u8 39), .lit (.int .u8 33), .lit (.int .u8 30), .lit (.int .u8 24), .lit (.int .u8 18), .lit (.int .u8 12), .lit (.int .u8 5), .lit (.int .u8 63), .lit (.int .u8 55), .lit (.int .u8 48), .lit (.int .u8 27), .lit (.int .u8 60), .lit (.int .u8 41), .lit (.int .u8 37), .lit (.int .u8 16), .lit (.int .u8 46), .lit (.int .u8 35), .lit (.int .u8 44), .lit (.int .u8 21), .lit (.int .u8 52), .lit (.int .u8 32), .lit (.int .u8 23), .lit (.int .u8 11), .lit (.int .u8 54), .lit (.int .u8 26), .lit (.int .u8 40), .lit (.int .u8 15), .lit (.int .u8 34), .lit (.int .u8 20), .lit (.int .u8 31), .lit (.int .u8 10), .lit (.int .u8 25), .lit (.int .u8 14), .lit (.int .u8 19), .lit (.int .u8 9), .lit (.int .u8 13), .lit (.int .u8 8), .lit (.int .u8 7), .lit (.int .u8 6)]

/-- 'gantkeep3.TrackSums': WHATEVER THE INPUT: true; the input reads as it did. -/
def trackSumsSpec : ChangeSpec := { name := "trackSums", fn := fun _ => fun
  | [d1, d2] => { results := [.lit (.bool true)], args := [d1, d2] }
  | _ => none }
def trackSumsRow : OpenClaim := { program := "ytejfdhcigkgbmaadoor", sum := "4a1d54fe61c7acd676a846f628f87267e6b44dd30ae0361df584260ce34e50de", func := "gantry/gantkeep3.TrackSums", spec := "trackSums", inPlace := ["math/bits.Sub64", "internal/bytealg.abigen_runtime_cmpstring"], unfollowed := true, recurses := true, named := ["math/bits.deBruijn64tab"], apart := false, laid := [("math/bits.deBruijn64tab", laid_math_bits_deBruijn64tab)] }
def TrackSumsSaid : Prop := trackSumsRow.holds Tryd.pinned (OpenSpec.ofChange trackSumsSpec)

/-- ITS FALSE NEIGHBOUR: 'it returns false'. Refute it at one input. -/
def trackSumsWrong : ChangeSpec := { name := "trackSums", fn := fun _ => fun
  | [d1, d2] => { results := [.lit (.bool false)], args := [d1, d2] }
  | _ => none }
def TrackSumsWrongFalsely : Prop := trackSumsRow.holds Tryd.pinned (OpenSpec.ofChange trackSumsWrong)

/-- 'gantkeep3.TimingRests': WHATEVER THE INPUT: true; the input reads as it did. -/
def timingRestsSpec : ChangeSpec := { name := "timingRests", fn := fun _ => fun
  | [d1, d2, d3, d4] => { results := [.lit (.bool true)], args := [d1, d2, d3, d4] }
  | _ => none }
def timingRestsRow : OpenClaim := { program := "ytejfdhcigkgbmaadoor", sum := "4a1d54fe61c7acd676a846f628f87267e6b44dd30ae0361df584260ce34e50de", func := "gantry/gantkeep3.TimingRests", spec := "timingRests", inPlace := ["math/bits.Sub64", "internal/bytealg.abigen_runtime_cmpstring"], named := ["math/bits.deBruijn64tab"], apart := false, laid := [("math/bits.deBruijn64tab", laid_math_bits_deBruijn64tab)] }
def TimingRestsSaid : Prop := timingRestsRow.holds Tryd.pinned (OpenSpec.ofChange timingRestsSpec)

/-- ITS FALSE NEIGHBOUR: 'it returns false'. Refute it at one input. -/
def timingRestsWrong : ChangeSpec := { name := "timingRests", fn := fun _ => fun
  | [d1, d2, d3, d4] => { results := [.lit (.bool false)], args := [d1, d2, d3, d4] }
  | _ => none }
def TimingRestsWrongFalsely : Prop := timingRestsRow.holds Tryd.pinned (OpenSpec.ofChange timingRestsWrong)

/-- 'gantkeep3.ArmClamps': WHATEVER THE INPUT: true; the input reads as it did. -/
def armClampsSpec : ChangeSpec := { name := "armClamps", fn := fun _ => fun
  | [d1, d2, d3] => { results := [.lit (.bool true)], args := [d1, d2, d3] }
  | _ => none }
def armClampsRow : OpenClaim := { program := "ytejfdhcigkgbmaadoor", sum := "4a1d54fe61c7acd676a846f628f87267e6b44dd30ae0361df584260ce34e50de", func := "gantry/gantkeep3.ArmClamps", spec := "armClamps", inPlace := ["math/bits.Sub64", "internal/bytealg.abigen_runtime_cmpstring"], named := ["math/bits.deBruijn64tab"], apart := false, laid := [("math/bits.deBruijn64tab", laid_math_bits_deBruijn64tab)] }
def ArmClampsSaid : Prop := armClampsRow.holds Tryd.pinned (OpenSpec.ofChange armClampsSpec)

/-- ITS FALSE NEIGHBOUR: 'it returns false'. Refute it at one input. -/
def armClampsWrong : ChangeSpec := { name := "armClamps", fn := fun _ => fun
  | [d1, d2, d3] => { results := [.lit (.bool false)], args := [d1, d2, d3] }
  | _ => none }
def ArmClampsWrongFalsely : Prop := armClampsRow.holds Tryd.pinned (OpenSpec.ofChange armClampsWrong)

/-- 'gantkeep3.ForeLengths': WHATEVER THE INPUT: true; the input reads as it did. -/
def foreLengthsSpec : ChangeSpec := { name := "foreLengths", fn := fun _ => fun
  | [d1, d2] => { results := [.lit (.bool true)], args := [d1, d2] }
  | _ => none }
def foreLengthsRow : OpenClaim := { program := "ytejfdhcigkgbmaadoor", sum := "4a1d54fe61c7acd676a846f628f87267e6b44dd30ae0361df584260ce34e50de", func := "gantry/gantkeep3.ForeLengths", spec := "foreLengths", inPlace := ["math/bits.Sub64", "internal/bytealg.abigen_runtime_cmpstring"], named := ["math/bits.deBruijn64tab"], apart := false, laid := [("math/bits.deBruijn64tab", laid_math_bits_deBruijn64tab)] }
def ForeLengthsSaid : Prop := foreLengthsRow.holds Tryd.pinned (OpenSpec.ofChange foreLengthsSpec)

/-- ITS FALSE NEIGHBOUR: 'it returns false'. Refute it at one input. -/
def foreLengthsWrong : ChangeSpec := { name := "foreLengths", fn := fun _ => fun
  | [d1, d2] => { results := [.lit (.bool false)], args := [d1, d2] }
  | _ => none }
def ForeLengthsWrongFalsely : Prop := foreLengthsRow.holds Tryd.pinned (OpenSpec.ofChange foreLengthsWrong)

/-- 'gantkeep3.RoamBeside': WHATEVER THE INPUT: true; the input reads as it did. -/
def roamBesideSpec : ChangeSpec := { name := "roamBeside", fn := fun _ => fun
  | [d1, d2, d3] => { results := [.lit (.bool true)], args := [d1, d2, d3] }
  | _ => none }
def roamBesideRow : OpenClaim := { program := "ytejfdhcigkgbmaadoor", sum := "4a1d54fe61c7acd676a846f628f87267e6b44dd30ae0361df584260ce34e50de", func := "gantry/gantkeep3.RoamBeside", spec := "roamBeside", inPlace := ["math/bits.Sub64", "internal/bytealg.abigen_runtime_cmpstring"], unfollowed := true, recurses := true, named := ["math/bits.deBruijn64tab"], apart := false, laid := [("math/bits.deBruijn64tab", laid_math_bits_deBruijn64tab)] }
def RoamBesideSaid : Prop := roamBesideRow.holds Tryd.pinned (OpenSpec.ofChange roamBesideSpec)

/-- ITS FALSE NEIGHBOUR: 'it returns false'. Refute it at one input. -/
def roamBesideWrong : ChangeSpec := { name := "roamBeside", fn := fun _ => fun
  | [d1, d2, d3] => { results := [.lit (.bool false)], args := [d1, d2, d3] }
  | _ => none }
def RoamBesideWrongFalsely : Prop := roamBesideRow.holds Tryd.pinned (OpenSpec.ofChange roamBesideWrong)

/-- 'gantkeep3.ForeMoved': WHATEVER THE INPUT: true; the input reads as it did. -/
def foreMovedSpec : ChangeSpec := { name := "foreMoved", fn := fun _ => fun
  | [d1, d2, d3, d4] => { results := [.lit (.bool true)], args := [d1, d2, d3, d4] }
  | _ => none }
def foreMovedRow : OpenClaim := { program := "ytejfdhcigkgbmaadoor", sum := "4a1d54fe61c7acd676a846f628f87267e6b44dd30ae0361df584260ce34e50de", func := "gantry/gantkeep3.ForeMoved", spec := "foreMoved", inPlace := ["math/bits.Sub64", "internal/bytealg.abigen_runtime_cmpstring"], unfollowed := true, recurses := true, named := ["math/bits.deBruijn64tab"], apart := false, laid := [("math/bits.deBruijn64tab", laid_math_bits_deBruijn64tab)] }
def ForeMovedSaid : Prop := foreMovedRow.holds Tryd.pinned (OpenSpec.ofChange foreMovedSpec)

/-- ITS FALSE NEIGHBOUR: 'it returns false'. Refute it at one input. -/
def foreMovedWrong : ChangeSpec := { name := "foreMoved", fn := fun _ => fun
  | [d1, d2, d3, d4] => { results := [.lit (.bool false)], args := [d1, d2, d3, d4] }
  | _ => none }
def ForeMovedWrongFalsely : Prop := foreMovedRow.holds Tryd.pinned (OpenSpec.ofChange foreMovedWrong)

/-- 'gantkeep3.ForceSums': WHATEVER THE INPUT: true; the input reads as it did. -/
def forceSumsSpec : ChangeSpec := { name := "forceSums", fn := fun _ => fun
  | [d1, d2, d3, d4, d5] => { results := [.lit (.bool true)], args := [d1, d2, d3, d4, d5] }
  | _ => none }
def forceSumsRow : OpenClaim := { program := "ytejfdhcigkgbmaadoor", sum := "4a1d54fe61c7acd676a846f628f87267e6b44dd30ae0361df584260ce34e50de", func := "gantry/gantkeep3.ForceSums", spec := "forceSums", inPlace := ["math/bits.Sub64", "internal/bytealg.abigen_runtime_cmpstring"], named := ["math/bits.deBruijn64tab"], apart := false, laid := [("math/bits.deBruijn64tab", laid_math_bits_deBruijn64tab)] }
def ForceSumsSaid : Prop := forceSumsRow.holds Tryd.pinned (OpenSpec.ofChange forceSumsSpec)

/-- ITS FALSE NEIGHBOUR: 'it returns false'. Refute it at one input. -/
def forceSumsWrong : ChangeSpec := { name := "forceSums", fn := fun _ => fun
  | [d1, d2, d3, d4, d5] => { results := [.lit (.bool false)], args := [d1, d2, d3, d4, d5] }
  | _ => none }
def ForceSumsWrongFalsely : Prop := forceSumsRow.holds Tryd.pinned (OpenSpec.ofChange forceSumsWrong)

/-- 'gantkeep3.TrackLimits': WHATEVER THE INPUT: true; the input reads as it did. -/
def trackLimitsSpec : ChangeSpec := { name := "trackLimits", fn := fun _ => fun
  | [d1, d2, d3] => { results := [.lit (.bool true)], args := [d1, d2, d3] }
  | _ => none }
def trackLimitsRow : OpenClaim := { program := "ytejfdhcigkgbmaadoor", sum := "4a1d54fe61c7acd676a846f628f87267e6b44dd30ae0361df584260ce34e50de", func := "gantry/gantkeep3.TrackLimits", spec := "trackLimits", inPlace := ["math/bits.Sub64", "internal/bytealg.abigen_runtime_cmpstring"], named := ["math/bits.deBruijn64tab"], apart := false, laid := [("math/bits.deBruijn64tab", laid_math_bits_deBruijn64tab)] }
def TrackLimitsSaid : Prop := trackLimitsRow.holds Tryd.pinned (OpenSpec.ofChange trackLimitsSpec)

/-- ITS FALSE NEIGHBOUR: 'it returns false'. Refute it at one input. -/
def trackLimitsWrong : ChangeSpec := { name := "trackLimits", fn := fun _ => fun
  | [d1, d2, d3] => { results := [.lit (.bool false)], args := [d1, d2, d3] }
  | _ => none }
def TrackLimitsWrongFalsely : Prop := trackLimitsRow.holds Tryd.pinned (OpenSpec.ofChange trackLimitsWrong)

/-- 'gantkeep3.ShortPlain': WHATEVER THE INPUT: true; the input reads as it did. -/
def shortPlainSpec : ChangeSpec := { name := "shortPlain", fn := fun _ => fun
  | [d1, d2] => { results := [.lit (.bool true)], args := [d1, d2] }
  | _ => none }
def shortPlainRow : OpenClaim := { program := "ytejfdhcigkgbmaadoor", sum := "4a1d54fe61c7acd676a846f628f87267e6b44dd30ae0361df584260ce34e50de", func := "gantry/gantkeep3.ShortPlain", spec := "shortPlain", inPlace := ["math/bits.Sub64", "internal/bytealg.abigen_runtime_cmpstring"], unfollowed := true, recurses := true, named := ["math/bits.deBruijn64tab"], apart := false, laid := [("math/bits.deBruijn64tab", laid_math_bits_deBruijn64tab)] }
def ShortPlainSaid : Prop := shortPlainRow.holds Tryd.pinned (OpenSpec.ofChange shortPlainSpec)

/-- ITS FALSE NEIGHBOUR: 'it returns false'. Refute it at one input. -/
def shortPlainWrong : ChangeSpec := { name := "shortPlain", fn := fun _ => fun
  | [d1, d2] => { results := [.lit (.bool false)], args := [d1, d2] }
  | _ => none }
def ShortPlainWrongFalsely : Prop := shortPlainRow.holds Tryd.pinned (OpenSpec.ofChange shortPlainWrong)

/-- 'gantkeep3.ShortHalves': WHATEVER THE INPUT: true; the input reads as it did. -/
def shortHalvesSpec : ChangeSpec := { name := "shortHalves", fn := fun _ => fun
  | [d1, d2] => { results := [.lit (.bool true)], args := [d1, d2] }
  | _ => none }
def shortHalvesRow : OpenClaim := { program := "ytejfdhcigkgbmaadoor", sum := "4a1d54fe61c7acd676a846f628f87267e6b44dd30ae0361df584260ce34e50de", func := "gantry/gantkeep3.ShortHalves", spec := "shortHalves", inPlace := ["math/bits.Sub64", "internal/bytealg.abigen_runtime_cmpstring"], named := ["math/bits.deBruijn64tab"], apart := false, laid := [("math/bits.deBruijn64tab", laid_math_bits_deBruijn64tab)] }
def ShortHalvesSaid : Prop := shortHalvesRow.holds Tryd.pinned (OpenSpec.ofChange shortHalvesSpec)

/-- ITS FALSE NEIGHBOUR: 'it returns false'. Refute it at one input. -/
def shortHalvesWrong : ChangeSpec := { name := "shortHalves", fn := fun _ => fun
  | [d1, d2] => { results := [.lit (.bool false)], args := [d1, d2] }
  | _ => none }
def ShortHalvesWrongFalsely : Prop := shortHalvesRow.holds Tryd.pinned (OpenSpec.ofChange shortHalvesWrong)

/-- 'gantkeep3.SingleSums': WHATEVER THE INPUT: true; the input reads as it did. -/
def singleSumsSpec : ChangeSpec := { name := "singleSums", fn := fun _ => fun
  | [d1, d2, d3, d4, d5] => { results := [.lit (.bool true)], args := [d1, d2, d3, d4, d5] }
  | _ => none }
def singleSumsRow : OpenClaim := { program := "ytejfdhcigkgbmaadoor", sum := "4a1d54fe61c7acd676a846f628f87267e6b44dd30ae0361df584260ce34e50de", func := "gantry/gantkeep3.SingleSums", spec := "singleSums", inPlace := ["math/bits.Sub64", "internal/bytealg.abigen_runtime_cmpstring"], named := ["math/bits.deBruijn64tab"], apart := false, laid := [("math/bits.deBruijn64tab", laid_math_bits_deBruijn64tab)] }
def SingleSumsSaid : Prop := singleSumsRow.holds Tryd.pinned (OpenSpec.ofChange singleSumsSpec)

/-- ITS FALSE NEIGHBOUR: 'it returns false'. Refute it at one input. -/
def singleSumsWrong : ChangeSpec := { name := "singleSums", fn := fun _ => fun
  | [d1, d2, d3, d4, d5] => { results := [.lit (.bool false)], args := [d1, d2, d3, d4, d5] }
  | _ => none }
def SingleSumsWrongFalsely : Prop := singleSumsRow.holds Tryd.pinned (OpenSpec.ofChange singleSumsWrong)

/- THE SECOND FORM. 'bulk': how many values and letters a reading holds, each counted each time it is reached (what is shared counts as often as it is met; a slice's spare places count too). A statement '..UptoSaid' is the law's where the arguments, and the package variables that the reading takes, are together of bulk at most 1048576: NARROWER than '..Said'. Prove '..Said' where nothing that the law and all that it calls make is longer than what came in: it says more and counts as full. Else prove '..UptoSaid'. A law counts once. -/
mutual
def uptoBulk {H : Type} : DataW H → Nat
  | .lit (.string bytes) => bytes.length + 1
  | .lit _ => 1
  | .nil => 1
  | .ptr d => uptoBulk d + 1
  | .slice elems spare => uptoBulkAll elems + uptoBulkAll spare + 1
  | .agg parts => uptoBulkAll parts + 1
  | .iface _ d => uptoBulk d + 1
  | .map entries => uptoBulkEntries entries + 1
  | .held _ => 1
def uptoBulkAll {H : Type} : List (DataW H) → Nat
  | [] => 0
  | d :: r => uptoBulk d + uptoBulkAll r
def uptoBulkEntries {H : Type} : List (Lit × DataW H) → Nat
  | [] => 0
  | x :: r => uptoBulkEntry x + uptoBulkEntries r
def uptoBulkEntry {H : Type} : Lit × DataW H → Nat
  | (.string bytes, d) => bytes.length + uptoBulk d + 1
  | (_, d) => uptoBulk d + 1
 end
def uptoSmall : (H : Type) → List (DataW H) → Bool := fun _ ds => decide (uptoBulkAll ds ≤ 1048576)
def OpenSpec.upto (s : _root_.Go.ChangeSpec) : _root_.Go.OpenSpec := { _root_.Go.OpenSpec.ofChange s with cond := some uptoSmall }

/-- 'gantkeep3.TrackSums', WHERE WHAT IT READS IS OF BULK AT MOST 1048576: true; the input reads as it did. -/
def trackSumsUptoRow : OpenClaim := { program := "ytejfdhcigkgbmaadoor", sum := "4a1d54fe61c7acd676a846f628f87267e6b44dd30ae0361df584260ce34e50de", func := "gantry/gantkeep3.TrackSums", spec := "trackSums", inPlace := ["math/bits.Sub64", "internal/bytealg.abigen_runtime_cmpstring"], unfollowed := true, recurses := true, named := ["math/bits.deBruijn64tab"], apart := false, laid := [("math/bits.deBruijn64tab", laid_math_bits_deBruijn64tab)], narrowed := true }
def TrackSumsUptoSaid : Prop := trackSumsUptoRow.holds Tryd.pinned (OpenSpec.upto trackSumsSpec)

/-- 'gantkeep3.TimingRests', WHERE WHAT IT READS IS OF BULK AT MOST 1048576: true; the input reads as it did. -/
def timingRestsUptoRow : OpenClaim := { program := "ytejfdhcigkgbmaadoor", sum := "4a1d54fe61c7acd676a846f628f87267e6b44dd30ae0361df584260ce34e50de", func := "gantry/gantkeep3.TimingRests", spec := "timingRests", inPlace := ["math/bits.Sub64", "internal/bytealg.abigen_runtime_cmpstring"], named := ["math/bits.deBruijn64tab"], apart := false, laid := [("math/bits.deBruijn64tab", laid_math_bits_deBruijn64tab)], narrowed := true }
def TimingRestsUptoSaid : Prop := timingRestsUptoRow.holds Tryd.pinned (OpenSpec.upto timingRestsSpec)

/-- 'gantkeep3.ArmClamps', WHERE WHAT IT READS IS OF BULK AT MOST 1048576: true; the input reads as it did. -/
def armClampsUptoRow : OpenClaim := { program := "ytejfdhcigkgbmaadoor", sum := "4a1d54fe61c7acd676a846f628f87267e6b44dd30ae0361df584260ce34e50de", func := "gantry/gantkeep3.ArmClamps", spec := "armClamps", inPlace := ["math/bits.Sub64", "internal/bytealg.abigen_runtime_cmpstring"], named := ["math/bits.deBruijn64tab"], apart := false, laid := [("math/bits.deBruijn64tab", laid_math_bits_deBruijn64tab)], narrowed := true }
def ArmClampsUptoSaid : Prop := armClampsUptoRow.holds Tryd.pinned (OpenSpec.upto armClampsSpec)

/-- 'gantkeep3.ForeLengths', WHERE WHAT IT READS IS OF BULK AT MOST 1048576: true; the input reads as it did. -/
def foreLengthsUptoRow : OpenClaim := { program := "ytejfdhcigkgbmaadoor", sum := "4a1d54fe61c7acd676a846f628f87267e6b44dd30ae0361df584260ce34e50de", func := "gantry/gantkeep3.ForeLengths", spec := "foreLengths", inPlace := ["math/bits.Sub64", "internal/bytealg.abigen_runtime_cmpstring"], named := ["math/bits.deBruijn64tab"], apart := false, laid := [("math/bits.deBruijn64tab", laid_math_bits_deBruijn64tab)], narrowed := true }
def ForeLengthsUptoSaid : Prop := foreLengthsUptoRow.holds Tryd.pinned (OpenSpec.upto foreLengthsSpec)

/-- 'gantkeep3.RoamBeside', WHERE WHAT IT READS IS OF BULK AT MOST 1048576: true; the input reads as it did. -/
def roamBesideUptoRow : OpenClaim := { program := "ytejfdhcigkgbmaadoor", sum := "4a1d54fe61c7acd676a846f628f87267e6b44dd30ae0361df584260ce34e50de", func := "gantry/gantkeep3.RoamBeside", spec := "roamBeside", inPlace := ["math/bits.Sub64", "internal/bytealg.abigen_runtime_cmpstring"], unfollowed := true, recurses := true, named := ["math/bits.deBruijn64tab"], apart := false, laid := [("math/bits.deBruijn64tab", laid_math_bits_deBruijn64tab)], narrowed := true }
def RoamBesideUptoSaid : Prop := roamBesideUptoRow.holds Tryd.pinned (OpenSpec.upto roamBesideSpec)

/-- 'gantkeep3.ForeMoved', WHERE WHAT IT READS IS OF BULK AT MOST 1048576: true; the input reads as it did. -/
def foreMovedUptoRow : OpenClaim := { program := "ytejfdhcigkgbmaadoor", sum := "4a1d54fe61c7acd676a846f628f87267e6b44dd30ae0361df584260ce34e50de", func := "gantry/gantkeep3.ForeMoved", spec := "foreMoved", inPlace := ["math/bits.Sub64", "internal/bytealg.abigen_runtime_cmpstring"], unfollowed := true, recurses := true, named := ["math/bits.deBruijn64tab"], apart := false, laid := [("math/bits.deBruijn64tab", laid_math_bits_deBruijn64tab)], narrowed := true }
def ForeMovedUptoSaid : Prop := foreMovedUptoRow.holds Tryd.pinned (OpenSpec.upto foreMovedSpec)

/-- 'gantkeep3.ForceSums', WHERE WHAT IT READS IS OF BULK AT MOST 1048576: true; the input reads as it did. -/
def forceSumsUptoRow : OpenClaim := { program := "ytejfdhcigkgbmaadoor", sum := "4a1d54fe61c7acd676a846f628f87267e6b44dd30ae0361df584260ce34e50de", func := "gantry/gantkeep3.ForceSums", spec := "forceSums", inPlace := ["math/bits.Sub64", "internal/bytealg.abigen_runtime_cmpstring"], named := ["math/bits.deBruijn64tab"], apart := false, laid := [("math/bits.deBruijn64tab", laid_math_bits_deBruijn64tab)], narrowed := true }
def ForceSumsUptoSaid : Prop := forceSumsUptoRow.holds Tryd.pinned (OpenSpec.upto forceSumsSpec)

/-- 'gantkeep3.TrackLimits', WHERE WHAT IT READS IS OF BULK AT MOST 1048576: true; the input reads as it did. -/
def trackLimitsUptoRow : OpenClaim := { program := "ytejfdhcigkgbmaadoor", sum := "4a1d54fe61c7acd676a846f628f87267e6b44dd30ae0361df584260ce34e50de", func := "gantry/gantkeep3.TrackLimits", spec := "trackLimits", inPlace := ["math/bits.Sub64", "internal/bytealg.abigen_runtime_cmpstring"], named := ["math/bits.deBruijn64tab"], apart := false, laid := [("math/bits.deBruijn64tab", laid_math_bits_deBruijn64tab)], narrowed := true }
def TrackLimitsUptoSaid : Prop := trackLimitsUptoRow.holds Tryd.pinned (OpenSpec.upto trackLimitsSpec)

/-- 'gantkeep3.ShortPlain', WHERE WHAT IT READS IS OF BULK AT MOST 1048576: true; the input reads as it did. -/
def shortPlainUptoRow : OpenClaim := { program := "ytejfdhcigkgbmaadoor", sum := "4a1d54fe61c7acd676a846f628f87267e6b44dd30ae0361df584260ce34e50de", func := "gantry/gantkeep3.ShortPlain", spec := "shortPlain", inPlace := ["math/bits.Sub64", "internal/bytealg.abigen_runtime_cmpstring"], unfollowed := true, recurses := true, named := ["math/bits.deBruijn64tab"], apart := false, laid := [("math/bits.deBruijn64tab", laid_math_bits_deBruijn64tab)], narrowed := true }
def ShortPlainUptoSaid : Prop := shortPlainUptoRow.holds Tryd.pinned (OpenSpec.upto shortPlainSpec)

/-- 'gantkeep3.ShortHalves', WHERE WHAT IT READS IS OF BULK AT MOST 1048576: true; the input reads as it did. -/
def shortHalvesUptoRow : OpenClaim := { program := "ytejfdhcigkgbmaadoor", sum := "4a1d54fe61c7acd676a846f628f87267e6b44dd30ae0361df584260ce34e50de", func := "gantry/gantkeep3.ShortHalves", spec := "shortHalves", inPlace := ["math/bits.Sub64", "internal/bytealg.abigen_runtime_cmpstring"], named := ["math/bits.deBruijn64tab"], apart := false, laid := [("math/bits.deBruijn64tab", laid_math_bits_deBruijn64tab)], narrowed := true }
def ShortHalvesUptoSaid : Prop := shortHalvesUptoRow.holds Tryd.pinned (OpenSpec.upto shortHalvesSpec)

/-- 'gantkeep3.SingleSums', WHERE WHAT IT READS IS OF BULK AT MOST 1048576: true; the input reads as it did. -/
def singleSumsUptoRow : OpenClaim := { program := "ytejfdhcigkgbmaadoor", sum := "4a1d54fe61c7acd676a846f628f87267e6b44dd30ae0361df584260ce34e50de", func := "gantry/gantkeep3.SingleSums", spec := "singleSums", inPlace := ["math/bits.Sub64", "internal/bytealg.abigen_runtime_cmpstring"], named := ["math/bits.deBruijn64tab"], apart := false, laid := [("math/bits.deBruijn64tab", laid_math_bits_deBruijn64tab)], narrowed := true }
def SingleSumsUptoSaid : Prop := singleSumsUptoRow.holds Tryd.pinned (OpenSpec.upto singleSumsSpec)

end Rows
end Go.Proofs.YtejfdhcigkgbmaaDoor
