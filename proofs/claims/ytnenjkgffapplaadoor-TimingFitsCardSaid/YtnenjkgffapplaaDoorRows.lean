/-
  NARROWER THAN 'FOR EVERY INPUT', by the rows' own cells (each row's printed sentence says how): TrackSums: laid · ShortPlain: laid · ShortHalves: laid · SingleTwo: laid · ShapeRigid: laid · SingleStill: laid · TimingFits: laid · RoamNear: laid · TimingSmooth: laid.
  DERIVED. THE GIVEN ROWS OF THIS SEAT. 9 by the template 'for every input the law returns true; each argument reads behind the call as it read before'; 0 by the template 'total and deterministic' (their statements: YtnenjkgffapplaaDoorTotals.lean).
  GIVEN WITH THE SEED: the statements are not yours to turn. If you find one false, say at which input.
  Laid BY PROGRAM, IN A SANDBOX (cutbox-rows.mjs): the forced cells as the released guide's own fill.sh prints them over the translation 6fbf0da88220ff2e… (all of the seat's roots in one cut). By AI agents, Wed Nov 11 2026. No macro, syntax, notation, axiom, sorry.
-/
import Derived.Test.YtnenjkgffapplaaDoorChecked
import GoSem.Claim
import GoSem.ClaimJoined
import GoSem.ClaimMapViews
import Derived.JoinedTies
import Derived.KernelRfl
namespace Go.Proofs.YtnenjkgffapplaaDoor
/- THE CELL 'sum', in the pinned program and in every row, IS THE sha256 OF THE DUMP (.gsa) THAT YtnenjkgffapplaaDoorProg.lean LOADS. Nothing in Lean hashes anything: it is a label: what it is worth is what the hold of that sum in a sandbox is worth. -/
noncomputable def Tryd.pinned : Pinned := { name := "ytnenjkgffapplaadoor", sum := "6fbf0da88220ff2e94808530b46f0082d4a6042d70d5e9d9aba67d219d4be51e", checked := Tryd.checked }
namespace Rows
def none {H : Type} : Left H := { results := [], args := [] }

/- WHAT THE LISTED PACKAGE-LEVEL VARIABLES READ AS WHEN THE CALL BEGINS. Each datum BY PROGRAM (the guide's laid-datum.mjs) off the statement by which the dump's own 'gosem.cut.vars' lays the variable. In a bare row this is a premise. The card (YtnenjkgffapplaaDoorCards.lean) ties it to the program's text. -/
def laid_math_bits_deBruijn64tab {H : Type} : DataW H := .agg [.lit (.int .u8 0), .lit (.int .u8 1), .lit (.int .u8 56), .lit (.int .u8 2), .lit (.int .u8 57), .lit (.int .u8 49), .lit (.int .u8 28), .lit (.int .u8 3), .lit (.int .u8 61), .lit (.int .u8 58), .lit (.int .u8 42), .lit (.int .u8 50), .lit (.int .u8 38), .lit (.int .u8 29), .lit (.int .u8 17), .lit (.int .u8 4), .lit (.int .u8 62), .lit (.int .u8 47), .lit (.int .u8 59), .lit (.int .u8 36), .lit (.int .u8 45), .lit (.int .u8 43), .lit (.int .u8 51), .lit (.int .u8 22), .lit (.int .u8 53), .lit (.int .u8 39), .lit (.int .u8 33), .lit (.int .u8 30), .lit (.int .u8 24), .lit (.int .u8 18), .lit (.int .u8 12), .lit (.int .u8 5), .lit (.int .u8 63), .lit (.int .u8 55), .lit (.int .u8 48), .lit (.int .u8 27), .lit (.int .u8 60), .lit (.int .u8 41), .lit (.int .u8 37), .lit (.int .u8 16), .lit (.int .u8 46), .lit (.int .u8 35), .lit (.int .u8 44), .lit (.int .u8 21), .lit (.int .u8 52), .lit (.int .u8 32), .lit (.int .u8 23), .lit (.int .u8 11), .lit (.int .u8 54), .lit (.int .u8 26), .lit (.int .u8 40), .lit (.int .u8 15), .lit (.int .u8 34), .lit (.int .u8 20), .lit (.int .u8 31), .lit (.int .u8 10), .lit (.int .u8 25), .lit (.int .u8 14), .lit (.int .u8 19), .lit (.int .u8 9), .lit (.int .u8 13), .lit (.int .u8 8), .lit (.int .u8 7), .lit (.int .u8 6)]

/-- 'gantkeep3.TrackSums': WHATEVER THE INPUT: true; the input reads as it did. -/
def trackSumsSpec : ChangeSpec := { name := "trackSums", fn := fun _ => fun
  | [d1, d2] => { results := [.lit (.bool true)], args := [d1, d2] }
  | _ => none }
def trackSumsRow : OpenClaim := { program := "ytnenjkgffapplaadoor", sum := "6fbf0da88220ff2e94808530b46f0082d4a6042d70d5e9d9aba67d219d4be51e", func := "gantry/gantkeep3.TrackSums", spec := "trackSums", inPlace := ["math/bits.Sub64", "internal/bytealg.abigen_runtime_cmpstring"], unfollowed := true, recurses := true, named := ["math/bits.deBruijn64tab"], apart := false, laid := [("math/bits.deBruijn64tab", laid_math_bits_deBruijn64tab)] }
def TrackSumsSaid : Prop := trackSumsRow.holds Tryd.pinned (OpenSpec.ofChange trackSumsSpec)

/-- ITS FALSE NEIGHBOUR: 'it returns false'. Refute it at one input. -/
def trackSumsWrong : ChangeSpec := { name := "trackSums", fn := fun _ => fun
  | [d1, d2] => { results := [.lit (.bool false)], args := [d1, d2] }
  | _ => none }
def TrackSumsWrongFalsely : Prop := trackSumsRow.holds Tryd.pinned (OpenSpec.ofChange trackSumsWrong)

/-- 'gantkeep3.ShortPlain': WHATEVER THE INPUT: true; the input reads as it did. -/
def shortPlainSpec : ChangeSpec := { name := "shortPlain", fn := fun _ => fun
  | [d1, d2] => { results := [.lit (.bool true)], args := [d1, d2] }
  | _ => none }
def shortPlainRow : OpenClaim := { program := "ytnenjkgffapplaadoor", sum := "6fbf0da88220ff2e94808530b46f0082d4a6042d70d5e9d9aba67d219d4be51e", func := "gantry/gantkeep3.ShortPlain", spec := "shortPlain", inPlace := ["math/bits.Sub64", "internal/bytealg.abigen_runtime_cmpstring"], unfollowed := true, recurses := true, named := ["math/bits.deBruijn64tab"], apart := false, laid := [("math/bits.deBruijn64tab", laid_math_bits_deBruijn64tab)] }
def ShortPlainSaid : Prop := shortPlainRow.holds Tryd.pinned (OpenSpec.ofChange shortPlainSpec)

/-- ITS FALSE NEIGHBOUR: 'it returns false'. Refute it at one input. -/
def shortPlainWrong : ChangeSpec := { name := "shortPlain", fn := fun _ => fun
  | [d1, d2] => { results := [.lit (.bool false)], args := [d1, d2] }
  | _ => none }
def ShortPlainWrongFalsely : Prop := shortPlainRow.holds Tryd.pinned (OpenSpec.ofChange shortPlainWrong)

/-- 'gantkeep3.ShortHalves': WHATEVER THE INPUT: true; the input reads as it did. -/
def shortHalvesSpec : ChangeSpec := { name := "shortHalves", fn := fun _ => fun
  | [d1, d2] => { results := [.lit (.bool true)], args := [d1, d2] }
  | _ => none }
def shortHalvesRow : OpenClaim := { program := "ytnenjkgffapplaadoor", sum := "6fbf0da88220ff2e94808530b46f0082d4a6042d70d5e9d9aba67d219d4be51e", func := "gantry/gantkeep3.ShortHalves", spec := "shortHalves", inPlace := ["math/bits.Sub64", "internal/bytealg.abigen_runtime_cmpstring"], named := ["math/bits.deBruijn64tab"], apart := false, laid := [("math/bits.deBruijn64tab", laid_math_bits_deBruijn64tab)] }
def ShortHalvesSaid : Prop := shortHalvesRow.holds Tryd.pinned (OpenSpec.ofChange shortHalvesSpec)

/-- ITS FALSE NEIGHBOUR: 'it returns false'. Refute it at one input. -/
def shortHalvesWrong : ChangeSpec := { name := "shortHalves", fn := fun _ => fun
  | [d1, d2] => { results := [.lit (.bool false)], args := [d1, d2] }
  | _ => none }
def ShortHalvesWrongFalsely : Prop := shortHalvesRow.holds Tryd.pinned (OpenSpec.ofChange shortHalvesWrong)

/-- 'gantkeep3.SingleTwo': WHATEVER THE INPUT: true; the input reads as it did. -/
def singleTwoSpec : ChangeSpec := { name := "singleTwo", fn := fun _ => fun
  | [d1, d2] => { results := [.lit (.bool true)], args := [d1, d2] }
  | _ => none }
def singleTwoRow : OpenClaim := { program := "ytnenjkgffapplaadoor", sum := "6fbf0da88220ff2e94808530b46f0082d4a6042d70d5e9d9aba67d219d4be51e", func := "gantry/gantkeep3.SingleTwo", spec := "singleTwo", inPlace := ["math/bits.Sub64", "internal/bytealg.abigen_runtime_cmpstring"], named := ["math/bits.deBruijn64tab"], apart := false, laid := [("math/bits.deBruijn64tab", laid_math_bits_deBruijn64tab)] }
def SingleTwoSaid : Prop := singleTwoRow.holds Tryd.pinned (OpenSpec.ofChange singleTwoSpec)

/-- ITS FALSE NEIGHBOUR: 'it returns false'. Refute it at one input. -/
def singleTwoWrong : ChangeSpec := { name := "singleTwo", fn := fun _ => fun
  | [d1, d2] => { results := [.lit (.bool false)], args := [d1, d2] }
  | _ => none }
def SingleTwoWrongFalsely : Prop := singleTwoRow.holds Tryd.pinned (OpenSpec.ofChange singleTwoWrong)

/-- 'gantkeep3.ShapeRigid': WHATEVER THE INPUT: true; the input reads as it did. -/
def shapeRigidSpec : ChangeSpec := { name := "shapeRigid", fn := fun _ => fun
  | [d1, d2] => { results := [.lit (.bool true)], args := [d1, d2] }
  | _ => none }
def shapeRigidRow : OpenClaim := { program := "ytnenjkgffapplaadoor", sum := "6fbf0da88220ff2e94808530b46f0082d4a6042d70d5e9d9aba67d219d4be51e", func := "gantry/gantkeep3.ShapeRigid", spec := "shapeRigid", inPlace := ["math/bits.Sub64", "internal/bytealg.abigen_runtime_cmpstring"], named := ["math/bits.deBruijn64tab"], apart := false, laid := [("math/bits.deBruijn64tab", laid_math_bits_deBruijn64tab)] }
def ShapeRigidSaid : Prop := shapeRigidRow.holds Tryd.pinned (OpenSpec.ofChange shapeRigidSpec)

/-- ITS FALSE NEIGHBOUR: 'it returns false'. Refute it at one input. -/
def shapeRigidWrong : ChangeSpec := { name := "shapeRigid", fn := fun _ => fun
  | [d1, d2] => { results := [.lit (.bool false)], args := [d1, d2] }
  | _ => none }
def ShapeRigidWrongFalsely : Prop := shapeRigidRow.holds Tryd.pinned (OpenSpec.ofChange shapeRigidWrong)

/-- 'gantkeep3.SingleStill': WHATEVER THE INPUT: true; the input reads as it did. -/
def singleStillSpec : ChangeSpec := { name := "singleStill", fn := fun _ => fun
  | [d1, d2] => { results := [.lit (.bool true)], args := [d1, d2] }
  | _ => none }
def singleStillRow : OpenClaim := { program := "ytnenjkgffapplaadoor", sum := "6fbf0da88220ff2e94808530b46f0082d4a6042d70d5e9d9aba67d219d4be51e", func := "gantry/gantkeep3.SingleStill", spec := "singleStill", inPlace := ["math/bits.Sub64", "internal/bytealg.abigen_runtime_cmpstring"], unfollowed := true, recurses := true, named := ["math/bits.deBruijn64tab"], apart := false, laid := [("math/bits.deBruijn64tab", laid_math_bits_deBruijn64tab)] }
def SingleStillSaid : Prop := singleStillRow.holds Tryd.pinned (OpenSpec.ofChange singleStillSpec)

/-- ITS FALSE NEIGHBOUR: 'it returns false'. Refute it at one input. -/
def singleStillWrong : ChangeSpec := { name := "singleStill", fn := fun _ => fun
  | [d1, d2] => { results := [.lit (.bool false)], args := [d1, d2] }
  | _ => none }
def SingleStillWrongFalsely : Prop := singleStillRow.holds Tryd.pinned (OpenSpec.ofChange singleStillWrong)

/-- 'gantkeep3.TimingFits': WHATEVER THE INPUT: true; the input reads as it did. -/
def timingFitsSpec : ChangeSpec := { name := "timingFits", fn := fun _ => fun
  | [d1, d2, d3, d4] => { results := [.lit (.bool true)], args := [d1, d2, d3, d4] }
  | _ => none }
def timingFitsRow : OpenClaim := { program := "ytnenjkgffapplaadoor", sum := "6fbf0da88220ff2e94808530b46f0082d4a6042d70d5e9d9aba67d219d4be51e", func := "gantry/gantkeep3.TimingFits", spec := "timingFits", inPlace := ["math/bits.Sub64", "internal/bytealg.abigen_runtime_cmpstring"], named := ["math/bits.deBruijn64tab"], apart := false, laid := [("math/bits.deBruijn64tab", laid_math_bits_deBruijn64tab)] }
def TimingFitsSaid : Prop := timingFitsRow.holds Tryd.pinned (OpenSpec.ofChange timingFitsSpec)

/-- ITS FALSE NEIGHBOUR: 'it returns false'. Refute it at one input. -/
def timingFitsWrong : ChangeSpec := { name := "timingFits", fn := fun _ => fun
  | [d1, d2, d3, d4] => { results := [.lit (.bool false)], args := [d1, d2, d3, d4] }
  | _ => none }
def TimingFitsWrongFalsely : Prop := timingFitsRow.holds Tryd.pinned (OpenSpec.ofChange timingFitsWrong)

/-- 'gantkeep3.RoamNear': WHATEVER THE INPUT: true; the input reads as it did. -/
def roamNearSpec : ChangeSpec := { name := "roamNear", fn := fun _ => fun
  | [d1, d2, d3, d4] => { results := [.lit (.bool true)], args := [d1, d2, d3, d4] }
  | _ => none }
def roamNearRow : OpenClaim := { program := "ytnenjkgffapplaadoor", sum := "6fbf0da88220ff2e94808530b46f0082d4a6042d70d5e9d9aba67d219d4be51e", func := "gantry/gantkeep3.RoamNear", spec := "roamNear", inPlace := ["math/bits.Sub64", "internal/bytealg.abigen_runtime_cmpstring"], unfollowed := true, recurses := true, named := ["math/bits.deBruijn64tab"], apart := false, laid := [("math/bits.deBruijn64tab", laid_math_bits_deBruijn64tab)] }
def RoamNearSaid : Prop := roamNearRow.holds Tryd.pinned (OpenSpec.ofChange roamNearSpec)

/-- ITS FALSE NEIGHBOUR: 'it returns false'. Refute it at one input. -/
def roamNearWrong : ChangeSpec := { name := "roamNear", fn := fun _ => fun
  | [d1, d2, d3, d4] => { results := [.lit (.bool false)], args := [d1, d2, d3, d4] }
  | _ => none }
def RoamNearWrongFalsely : Prop := roamNearRow.holds Tryd.pinned (OpenSpec.ofChange roamNearWrong)

/-- 'gantkeep3.TimingSmooth': WHATEVER THE INPUT: true; the input reads as it did. -/
def timingSmoothSpec : ChangeSpec := { name := "timingSmooth", fn := fun _ => fun
  | [d1, d2, d3, d4] => { results := [.lit (.bool true)], args := [d1, d2, d3, d4] }
  | _ => none }
def timingSmoothRow : OpenClaim := { program := "ytnenjkgffapplaadoor", sum := "6fbf0da88220ff2e94808530b46f0082d4a6042d70d5e9d9aba67d219d4be51e", func := "gantry/gantkeep3.TimingSmooth", spec := "timingSmooth", inPlace := ["math/bits.Sub64", "internal/bytealg.abigen_runtime_cmpstring"], named := ["math/bits.deBruijn64tab"], apart := false, laid := [("math/bits.deBruijn64tab", laid_math_bits_deBruijn64tab)] }
def TimingSmoothSaid : Prop := timingSmoothRow.holds Tryd.pinned (OpenSpec.ofChange timingSmoothSpec)

/-- ITS FALSE NEIGHBOUR: 'it returns false'. Refute it at one input. -/
def timingSmoothWrong : ChangeSpec := { name := "timingSmooth", fn := fun _ => fun
  | [d1, d2, d3, d4] => { results := [.lit (.bool false)], args := [d1, d2, d3, d4] }
  | _ => none }
def TimingSmoothWrongFalsely : Prop := timingSmoothRow.holds Tryd.pinned (OpenSpec.ofChange timingSmoothWrong)

/- THE SECOND FORM. 'bulk': how many values and letters a reading holds, each counted each time it is reached (what is shared counts as often as it is met; a slice's spare places count too). A statement '..UptoSaid' is the law's where the arguments, and the package variables that the reading takes, are together of bulk at most 1048576: NARROWER than '..Said'. Prove '..Said' where nothing that the law and all that it calls make is longer than what came in: it says more and counts as full. Else prove '..UptoSaid'. A law counts once. -/
mutual
def uptoBulk {H : Type} : DataW H → Nat
  | .lit (.string bytes) => bytes.length + 1
  | .lit _ => 1
  | .nil => 1
  | .ptr d => uptoBulk d + 1
  | .slice elems spare => uptoBulkAll elems + uptoBulkAll spare + 1
  | .agg parts => uptoBulkAll parts + 1
  | .iface _ d => uptoBulk d + 1
  | .map entries => uptoBulkEntries entries + 1
  | .held _ => 1
def uptoBulkAll {H : Type} : List (DataW H) → Nat
  | [] => 0
  | d :: r => uptoBulk d + uptoBulkAll r
def uptoBulkEntries {H : Type} : List (Lit × DataW H) → Nat
  | [] => 0
  | x :: r => uptoBulkEntry x + uptoBulkEntries r
def uptoBulkEntry {H : Type} : Lit × DataW H → Nat
  | (.string bytes, d) => bytes.length + uptoBulk d + 1
  | (_, d) => uptoBulk d + 1
 end
def uptoSmall : (H : Type) → List (DataW H) → Bool := fun _ ds => decide (uptoBulkAll ds ≤ 1048576)
def OpenSpec.upto (s : _root_.Go.ChangeSpec) : _root_.Go.OpenSpec := { _root_.Go.OpenSpec.ofChange s with cond := some uptoSmall }

/-- 'gantkeep3.TrackSums', WHERE WHAT IT READS IS OF BULK AT MOST 1048576: true; the input reads as it did. -/
def trackSumsUptoRow : OpenClaim := { program := "ytnenjkgffapplaadoor", sum := "6fbf0da88220ff2e94808530b46f0082d4a6042d70d5e9d9aba67d219d4be51e", func := "gantry/gantkeep3.TrackSums", spec := "trackSums", inPlace := ["math/bits.Sub64", "internal/bytealg.abigen_runtime_cmpstring"], unfollowed := true, recurses := true, named := ["math/bits.deBruijn64tab"], apart := false, laid := [("math/bits.deBruijn64tab", laid_math_bits_deBruijn64tab)], narrowed := true }
def TrackSumsUptoSaid : Prop := trackSumsUptoRow.holds Tryd.pinned (OpenSpec.upto trackSumsSpec)

/-- 'gantkeep3.ShortPlain', WHERE WHAT IT READS IS OF BULK AT MOST 1048576: true; the input reads as it did. -/
def shortPlainUptoRow : OpenClaim := { program := "ytnenjkgffapplaadoor", sum := "6fbf0da88220ff2e94808530b46f0082d4a6042d70d5e9d9aba67d219d4be51e", func := "gantry/gantkeep3.ShortPlain", spec := "shortPlain", inPlace := ["math/bits.Sub64", "internal/bytealg.abigen_runtime_cmpstring"], unfollowed := true, recurses := true, named := ["math/bits.deBruijn64tab"], apart := false, laid := [("math/bits.deBruijn64tab", laid_math_bits_deBruijn64tab)], narrowed := true }
def ShortPlainUptoSaid : Prop := shortPlainUptoRow.holds Tryd.pinned (OpenSpec.upto shortPlainSpec)

/-- 'gantkeep3.ShortHalves', WHERE WHAT IT READS IS OF BULK AT MOST 1048576: true; the input reads as it did. -/
def shortHalvesUptoRow : OpenClaim := { program := "ytnenjkgffapplaadoor", sum := "6fbf0da88220ff2e94808530b46f0082d4a6042d70d5e9d9aba67d219d4be51e", func := "gantry/gantkeep3.ShortHalves", spec := "shortHalves", inPlace := ["math/bits.Sub64", "internal/bytealg.abigen_runtime_cmpstring"], named := ["math/bits.deBruijn64tab"], apart := false, laid := [("math/bits.deBruijn64tab", laid_math_bits_deBruijn64tab)], narrowed := true }
def ShortHalvesUptoSaid : Prop := shortHalvesUptoRow.holds Tryd.pinned (OpenSpec.upto shortHalvesSpec)

/-- 'gantkeep3.SingleTwo', WHERE WHAT IT READS IS OF BULK AT MOST 1048576: true; the input reads as it did. -/
def singleTwoUptoRow : OpenClaim := { program := "ytnenjkgffapplaadoor", sum := "6fbf0da88220ff2e94808530b46f0082d4a6042d70d5e9d9aba67d219d4be51e", func := "gantry/gantkeep3.SingleTwo", spec := "singleTwo", inPlace := ["math/bits.Sub64", "internal/bytealg.abigen_runtime_cmpstring"], named := ["math/bits.deBruijn64tab"], apart := false, laid := [("math/bits.deBruijn64tab", laid_math_bits_deBruijn64tab)], narrowed := true }
def SingleTwoUptoSaid : Prop := singleTwoUptoRow.holds Tryd.pinned (OpenSpec.upto singleTwoSpec)

/-- 'gantkeep3.ShapeRigid', WHERE WHAT IT READS IS OF BULK AT MOST 1048576: true; the input reads as it did. -/
def shapeRigidUptoRow : OpenClaim := { program := "ytnenjkgffapplaadoor", sum := "6fbf0da88220ff2e94808530b46f0082d4a6042d70d5e9d9aba67d219d4be51e", func := "gantry/gantkeep3.ShapeRigid", spec := "shapeRigid", inPlace := ["math/bits.Sub64", "internal/bytealg.abigen_runtime_cmpstring"], named := ["math/bits.deBruijn64tab"], apart := false, laid := [("math/bits.deBruijn64tab", laid_math_bits_deBruijn64tab)], narrowed := true }
def ShapeRigidUptoSaid : Prop := shapeRigidUptoRow.holds Tryd.pinned (OpenSpec.upto shapeRigidSpec)

/-- 'gantkeep3.SingleStill', WHERE WHAT IT READS IS OF BULK AT MOST 1048576: true; the input reads as it did. -/
def singleStillUptoRow : OpenClaim := { program := "ytnenjkgffapplaadoor", sum := "6fbf0da88220ff2e94808530b46f0082d4a6042d70d5e9d9aba67d219d4be51e", func := "gantry/gantkeep3.SingleStill", spec := "singleStill", inPlace := ["math/bits.Sub64", "internal/bytealg.abigen_runtime_cmpstring"], unfollowed := true, recurses := true, named := ["math/bits.deBruijn64tab"], apart := false, laid := [("math/bits.deBruijn64tab", laid_math_bits_deBruijn64tab)], narrowed := true }
def SingleStillUptoSaid : Prop := singleStillUptoRow.holds Tryd.pinned (OpenSpec.upto singleStillSpec)

/-- 'gantkeep3.TimingFits', WHERE WHAT IT READS IS OF BULK AT MOST 1048576: true; the input reads as it did. -/
def timingFitsUptoRow : OpenClaim := { program := "ytnenjkgffapplaadoor", sum := "6fbf0da88220ff2e94808530b46f0082d4a6042d70d5e9d9aba67d219d4be51e", func := "gantry/gantkeep3.TimingFits", spec := "timingFits", inPlace := ["math/bits.Sub64", "internal/bytealg.abigen_runtime_cmpstring"], named := ["math/bits.deBruijn64tab"], apart := false, laid := [("math/bits.deBruijn64tab", laid_math_bits_deBruijn64tab)], narrowed := true }
def TimingFitsUptoSaid : Prop := timingFitsUptoRow.holds Tryd.pinned (OpenSpec.upto timingFitsSpec)

/-- 'gantkeep3.RoamNear', WHERE WHAT IT READS IS OF BULK AT MOST 1048576: true; the input reads as it did. -/
def roamNearUptoRow : OpenClaim := { program := "ytnenjkgffapplaadoor", sum := "6fbf0da88220ff2e94808530b46f0082d4a6042d70d5e9d9aba67d219d4be51e", func := "gantry/gantkeep3.RoamNear", spec := "roamNear", inPlace := ["math/bits.Sub64", "internal/bytealg.abigen_runtime_cmpstring"], unfollowed := true, recurses := true, named := ["math/bits.deBruijn64tab"], apart := false, laid := [("math/bits.deBruijn64tab", laid_math_bits_deBruijn64tab)], narrowed := true }
def RoamNearUptoSaid : Prop := roamNearUptoRow.holds Tryd.pinned (OpenSpec.upto roamNearSpec)

/-- 'gantkeep3.TimingSmooth', WHERE WHAT IT READS IS OF BULK AT MOST 1048576: true; the input reads as it did. -/
def timingSmoothUptoRow : OpenClaim := { program := "ytnenjkgffapplaadoor", sum := "6fbf0da88220ff2e94808530b46f0082d4a6042d70d5e9d9aba67d219d4be51e", func := "gantry/gantkeep3.TimingSmooth", spec := "timingSmooth", inPlace := ["math/bits.Sub64", "internal/bytealg.abigen_runtime_cmpstring"], named := ["math/bits.deBruijn64tab"], apart := false, laid := [("math/bits.deBruijn64tab", laid_math_bits_deBruijn64tab)], narrowed := true }
def TimingSmoothUptoSaid : Prop := timingSmoothUptoRow.holds Tryd.pinned (OpenSpec.upto timingSmoothSpec)

end Rows
end Go.Proofs.YtnenjkgffapplaaDoor
