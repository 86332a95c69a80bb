/-
  NARROWER THAN 'FOR EVERY INPUT', by the rows' own cells (each row's printed sentence says how): TopTimed: laid · ClearFewer: laid · ClearProves: laid · ClearBack: laid · ShortFree: laid · PathBack: laid · PathFewer: laid · PathFree: laid · TopWays: laid.
  DERIVED. THE GIVEN ROWS OF THIS SEAT. 9 by the template 'for every input the law returns true; each argument reads behind the call as it read before'; 0 by the template 'total and deterministic' (their statements: YteggojnjinealaaGreatDoorTotals.lean).
  GIVEN WITH THE SEED: the statements are not yours to turn. If you find one false, say at which input.
  Laid BY PROGRAM, IN A SANDBOX (cutbox-rows.mjs): the forced cells as the released guide's own fill.sh prints them over the translation 41de5532b555eaa9… (all of the seat's roots in one cut). By AI agents, Wed Nov 11 2026. No macro, syntax, notation, axiom, sorry.
-/
import Derived.Test.YteggojnjinealaaGreatDoorChecked
import GoSem.Claim
import GoSem.ClaimJoined
import GoSem.ClaimMapViews
import Derived.JoinedTies
import Derived.KernelRfl
namespace Go.Proofs.YteggojnjinealaaGreatDoor
/- THE CELL 'sum', in the pinned program and in every row, IS THE sha256 OF THE DUMP (.gsa) THAT YteggojnjinealaaGreatDoorProg.lean LOADS. Nothing in Lean hashes anything: it is a label: what it is worth is what the hold of that sum in a sandbox is worth. -/
noncomputable def Tryz.pinned : Pinned := { name := "yteggojnjinealaagreatdoor", sum := "41de5532b555eaa9174ce642458cae51a964d4fe23b1c9db0b34084151879efc", checked := Tryz.checked }
namespace Rows
def none {H : Type} : Left H := { results := [], args := [] }

/- WHAT THE LISTED PACKAGE-LEVEL VARIABLES READ AS WHEN THE CALL BEGINS. Each datum BY PROGRAM (the guide's laid-datum.mjs) off the statement by which the dump's own 'gosem.cut.vars' lays the variable. In a bare row this is a premise. The card (YteggojnjinealaaGreatDoorCards.lean) ties it to the program's text. -/
def laid_math_bits_deBruijn64tab {H : Type} : DataW H := .agg [.lit (.int .u8 0), .lit (.int .u8 1), .lit (.int .u8 56), .lit (.int .u8 2), .lit (.int .u8 57), .lit (.int .u8 49), .lit (.int .u8 28), .lit (.int .u8 3), .lit (.int .u8 61), .lit (.int .u8 58), .lit (.int .u8 42), .lit (.int .u8 50), .lit (.int .u8 38), .lit (.int .u8 29), .lit (.int .u8 17), .lit (.int .u8 4), .lit (.int .u8 62), .lit (.int .u8 47), .lit (.int .u8 59), .lit (.int .u8 36), .lit (.int .u8 45), .lit (.int .u8 43), .lit (.int .u8 51), .lit (.int .u8 22), .lit (.int .u8 53), .lit (.int .u8 39), .lit (.int .u8 33), .lit (.int .u8 30), .lit (.int .u8 24), .lit (.int .u8 18), .lit (.int .u8 12), .lit (.int .u8 5), .lit (.int .u8 63), .lit (.int .u8 55), .lit (.int .u8 48), .lit (.int .u8 27), .lit (.int .u8 60), .lit (.int .u8 41), .lit (.int .u8 37), .lit (.int .u8 16), .lit (.int .u8 46), .lit (.int .u8 35), .lit (.int .u8 44), .lit (.int .u8 21), .lit (.int .u8 52), .lit (.int .u8 32), .lit (.int .u8 23), .lit (.int .u8 11), .lit (.int .u8 54), .lit (.int .u8 26), .lit (.int .u8 40), .lit (.int .u8 15), .lit (.int .u8 34), .lit (.int .u8 20), .lit (.int .u8 31), .lit (.int .u8 10), .lit (.int .u8 25), .lit (.int .u8 14), .lit (.int .u8 19), .lit (.int .u8 9), .lit (.int .u8 13), .lit (.int .u8 8), .lit (.int .u8 7), .lit (.int .u8 6)]

/-- 'ganttop.TopTimed': WHATEVER THE INPUT: true; the input reads as it did. -/
def topTimedSpec : ChangeSpec := { name := "topTimed", fn := fun _ => fun
  | [d1, d2] => { results := [.lit (.bool true)], args := [d1, d2] }
  | _ => none }
def topTimedRow : OpenClaim := { program := "yteggojnjinealaagreatdoor", sum := "41de5532b555eaa9174ce642458cae51a964d4fe23b1c9db0b34084151879efc", func := "gantry/ganttop.TopTimed", spec := "topTimed", inPlace := ["math/bits.Sub64", "internal/bytealg.abigen_runtime_cmpstring"], unfollowed := true, recurses := true, named := ["math/bits.deBruijn64tab"], apart := false, laid := [("math/bits.deBruijn64tab", laid_math_bits_deBruijn64tab)] }
def TopTimedSaid : Prop := topTimedRow.holds Tryz.pinned (OpenSpec.ofChange topTimedSpec)

/-- ITS FALSE NEIGHBOUR: 'it returns false'. Refute it at one input. -/
def topTimedWrong : ChangeSpec := { name := "topTimed", fn := fun _ => fun
  | [d1, d2] => { results := [.lit (.bool false)], args := [d1, d2] }
  | _ => none }
def TopTimedWrongFalsely : Prop := topTimedRow.holds Tryz.pinned (OpenSpec.ofChange topTimedWrong)

/-- 'gantkeep3.ClearFewer': WHATEVER THE INPUT: true; the input reads as it did. -/
def clearFewerSpec : ChangeSpec := { name := "clearFewer", fn := fun _ => fun
  | [d1, d2, d3, d4, d5] => { results := [.lit (.bool true)], args := [d1, d2, d3, d4, d5] }
  | _ => none }
def clearFewerRow : OpenClaim := { program := "yteggojnjinealaagreatdoor", sum := "41de5532b555eaa9174ce642458cae51a964d4fe23b1c9db0b34084151879efc", func := "gantry/gantkeep3.ClearFewer", spec := "clearFewer", inPlace := ["math/bits.Sub64", "internal/bytealg.abigen_runtime_cmpstring"], unfollowed := true, recurses := true, named := ["math/bits.deBruijn64tab"], apart := false, laid := [("math/bits.deBruijn64tab", laid_math_bits_deBruijn64tab)] }
def ClearFewerSaid : Prop := clearFewerRow.holds Tryz.pinned (OpenSpec.ofChange clearFewerSpec)

/-- ITS FALSE NEIGHBOUR: 'it returns false'. Refute it at one input. -/
def clearFewerWrong : ChangeSpec := { name := "clearFewer", fn := fun _ => fun
  | [d1, d2, d3, d4, d5] => { results := [.lit (.bool false)], args := [d1, d2, d3, d4, d5] }
  | _ => none }
def ClearFewerWrongFalsely : Prop := clearFewerRow.holds Tryz.pinned (OpenSpec.ofChange clearFewerWrong)

/-- 'gantkeep3.ClearProves': WHATEVER THE INPUT: true; the input reads as it did. -/
def clearProvesSpec : ChangeSpec := { name := "clearProves", fn := fun _ => fun
  | [d1, d2, d3, d4, d5, d6] => { results := [.lit (.bool true)], args := [d1, d2, d3, d4, d5, d6] }
  | _ => none }
def clearProvesRow : OpenClaim := { program := "yteggojnjinealaagreatdoor", sum := "41de5532b555eaa9174ce642458cae51a964d4fe23b1c9db0b34084151879efc", func := "gantry/gantkeep3.ClearProves", spec := "clearProves", inPlace := ["math/bits.Sub64", "internal/bytealg.abigen_runtime_cmpstring"], unfollowed := true, recurses := true, named := ["math/bits.deBruijn64tab"], apart := false, laid := [("math/bits.deBruijn64tab", laid_math_bits_deBruijn64tab)] }
def ClearProvesSaid : Prop := clearProvesRow.holds Tryz.pinned (OpenSpec.ofChange clearProvesSpec)

/-- ITS FALSE NEIGHBOUR: 'it returns false'. Refute it at one input. -/
def clearProvesWrong : ChangeSpec := { name := "clearProves", fn := fun _ => fun
  | [d1, d2, d3, d4, d5, d6] => { results := [.lit (.bool false)], args := [d1, d2, d3, d4, d5, d6] }
  | _ => none }
def ClearProvesWrongFalsely : Prop := clearProvesRow.holds Tryz.pinned (OpenSpec.ofChange clearProvesWrong)

/-- 'gantkeep3.ClearBack': WHATEVER THE INPUT: true; the input reads as it did. -/
def clearBackSpec : ChangeSpec := { name := "clearBack", fn := fun _ => fun
  | [d1, d2, d3, d4, d5] => { results := [.lit (.bool true)], args := [d1, d2, d3, d4, d5] }
  | _ => none }
def clearBackRow : OpenClaim := { program := "yteggojnjinealaagreatdoor", sum := "41de5532b555eaa9174ce642458cae51a964d4fe23b1c9db0b34084151879efc", func := "gantry/gantkeep3.ClearBack", spec := "clearBack", inPlace := ["math/bits.Sub64", "internal/bytealg.abigen_runtime_cmpstring"], unfollowed := true, recurses := true, named := ["math/bits.deBruijn64tab"], apart := false, laid := [("math/bits.deBruijn64tab", laid_math_bits_deBruijn64tab)] }
def ClearBackSaid : Prop := clearBackRow.holds Tryz.pinned (OpenSpec.ofChange clearBackSpec)

/-- ITS FALSE NEIGHBOUR: 'it returns false'. Refute it at one input. -/
def clearBackWrong : ChangeSpec := { name := "clearBack", fn := fun _ => fun
  | [d1, d2, d3, d4, d5] => { results := [.lit (.bool false)], args := [d1, d2, d3, d4, d5] }
  | _ => none }
def ClearBackWrongFalsely : Prop := clearBackRow.holds Tryz.pinned (OpenSpec.ofChange clearBackWrong)

/-- 'gantkeep3.ShortFree': WHATEVER THE INPUT: true; the input reads as it did. -/
def shortFreeSpec : ChangeSpec := { name := "shortFree", fn := fun _ => fun
  | [d1, d2, d3] => { results := [.lit (.bool true)], args := [d1, d2, d3] }
  | _ => none }
def shortFreeRow : OpenClaim := { program := "yteggojnjinealaagreatdoor", sum := "41de5532b555eaa9174ce642458cae51a964d4fe23b1c9db0b34084151879efc", func := "gantry/gantkeep3.ShortFree", spec := "shortFree", inPlace := ["math/bits.Sub64", "internal/bytealg.abigen_runtime_cmpstring"], unfollowed := true, recurses := true, named := ["math/bits.deBruijn64tab"], apart := false, laid := [("math/bits.deBruijn64tab", laid_math_bits_deBruijn64tab)] }
def ShortFreeSaid : Prop := shortFreeRow.holds Tryz.pinned (OpenSpec.ofChange shortFreeSpec)

/-- ITS FALSE NEIGHBOUR: 'it returns false'. Refute it at one input. -/
def shortFreeWrong : ChangeSpec := { name := "shortFree", fn := fun _ => fun
  | [d1, d2, d3] => { results := [.lit (.bool false)], args := [d1, d2, d3] }
  | _ => none }
def ShortFreeWrongFalsely : Prop := shortFreeRow.holds Tryz.pinned (OpenSpec.ofChange shortFreeWrong)

/-- 'gantkeep3.PathBack': WHATEVER THE INPUT: true; the input reads as it did. -/
def pathBackSpec : ChangeSpec := { name := "pathBack", fn := fun _ => fun
  | [d1, d2, d3, d4, d5] => { results := [.lit (.bool true)], args := [d1, d2, d3, d4, d5] }
  | _ => none }
def pathBackRow : OpenClaim := { program := "yteggojnjinealaagreatdoor", sum := "41de5532b555eaa9174ce642458cae51a964d4fe23b1c9db0b34084151879efc", func := "gantry/gantkeep3.PathBack", spec := "pathBack", inPlace := ["math/bits.Sub64", "internal/bytealg.abigen_runtime_cmpstring"], unfollowed := true, recurses := true, named := ["math/bits.deBruijn64tab"], apart := false, laid := [("math/bits.deBruijn64tab", laid_math_bits_deBruijn64tab)] }
def PathBackSaid : Prop := pathBackRow.holds Tryz.pinned (OpenSpec.ofChange pathBackSpec)

/-- ITS FALSE NEIGHBOUR: 'it returns false'. Refute it at one input. -/
def pathBackWrong : ChangeSpec := { name := "pathBack", fn := fun _ => fun
  | [d1, d2, d3, d4, d5] => { results := [.lit (.bool false)], args := [d1, d2, d3, d4, d5] }
  | _ => none }
def PathBackWrongFalsely : Prop := pathBackRow.holds Tryz.pinned (OpenSpec.ofChange pathBackWrong)

/-- 'gantkeep3.PathFewer': WHATEVER THE INPUT: true; the input reads as it did. -/
def pathFewerSpec : ChangeSpec := { name := "pathFewer", fn := fun _ => fun
  | [d1, d2, d3, d4, d5, d6] => { results := [.lit (.bool true)], args := [d1, d2, d3, d4, d5, d6] }
  | _ => none }
def pathFewerRow : OpenClaim := { program := "yteggojnjinealaagreatdoor", sum := "41de5532b555eaa9174ce642458cae51a964d4fe23b1c9db0b34084151879efc", func := "gantry/gantkeep3.PathFewer", spec := "pathFewer", inPlace := ["math/bits.Sub64", "internal/bytealg.abigen_runtime_cmpstring"], unfollowed := true, recurses := true, named := ["math/bits.deBruijn64tab"], apart := false, laid := [("math/bits.deBruijn64tab", laid_math_bits_deBruijn64tab)] }
def PathFewerSaid : Prop := pathFewerRow.holds Tryz.pinned (OpenSpec.ofChange pathFewerSpec)

/-- ITS FALSE NEIGHBOUR: 'it returns false'. Refute it at one input. -/
def pathFewerWrong : ChangeSpec := { name := "pathFewer", fn := fun _ => fun
  | [d1, d2, d3, d4, d5, d6] => { results := [.lit (.bool false)], args := [d1, d2, d3, d4, d5, d6] }
  | _ => none }
def PathFewerWrongFalsely : Prop := pathFewerRow.holds Tryz.pinned (OpenSpec.ofChange pathFewerWrong)

/-- 'gantkeep3.PathFree': WHATEVER THE INPUT: true; the input reads as it did. -/
def pathFreeSpec : ChangeSpec := { name := "pathFree", fn := fun _ => fun
  | [d1, d2, d3, d4, d5] => { results := [.lit (.bool true)], args := [d1, d2, d3, d4, d5] }
  | _ => none }
def pathFreeRow : OpenClaim := { program := "yteggojnjinealaagreatdoor", sum := "41de5532b555eaa9174ce642458cae51a964d4fe23b1c9db0b34084151879efc", func := "gantry/gantkeep3.PathFree", spec := "pathFree", inPlace := ["math/bits.Sub64", "internal/bytealg.abigen_runtime_cmpstring"], unfollowed := true, recurses := true, named := ["math/bits.deBruijn64tab"], apart := false, laid := [("math/bits.deBruijn64tab", laid_math_bits_deBruijn64tab)] }
def PathFreeSaid : Prop := pathFreeRow.holds Tryz.pinned (OpenSpec.ofChange pathFreeSpec)

/-- ITS FALSE NEIGHBOUR: 'it returns false'. Refute it at one input. -/
def pathFreeWrong : ChangeSpec := { name := "pathFree", fn := fun _ => fun
  | [d1, d2, d3, d4, d5] => { results := [.lit (.bool false)], args := [d1, d2, d3, d4, d5] }
  | _ => none }
def PathFreeWrongFalsely : Prop := pathFreeRow.holds Tryz.pinned (OpenSpec.ofChange pathFreeWrong)

/-- 'ganttop.TopWays': WHATEVER THE INPUT: true; the input reads as it did. -/
def topWaysSpec : ChangeSpec := { name := "topWays", fn := fun _ => fun
  | [d1, d2, d3, d4, d5] => { results := [.lit (.bool true)], args := [d1, d2, d3, d4, d5] }
  | _ => none }
def topWaysRow : OpenClaim := { program := "yteggojnjinealaagreatdoor", sum := "41de5532b555eaa9174ce642458cae51a964d4fe23b1c9db0b34084151879efc", func := "gantry/ganttop.TopWays", spec := "topWays", inPlace := ["math/bits.Sub64", "internal/bytealg.abigen_runtime_cmpstring"], unfollowed := true, recurses := true, named := ["math/bits.deBruijn64tab"], apart := false, laid := [("math/bits.deBruijn64tab", laid_math_bits_deBruijn64tab)] }
def TopWaysSaid : Prop := topWaysRow.holds Tryz.pinned (OpenSpec.ofChange topWaysSpec)

/-- ITS FALSE NEIGHBOUR: 'it returns false'. Refute it at one input. -/
def topWaysWrong : ChangeSpec := { name := "topWays", fn := fun _ => fun
  | [d1, d2, d3, d4, d5] => { results := [.lit (.bool false)], args := [d1, d2, d3, d4, d5] }
  | _ => none }
def TopWaysWrongFalsely : Prop := topWaysRow.holds Tryz.pinned (OpenSpec.ofChange topWaysWrong)

/- THE SECOND FORM. 'bulk': how many values and letters a reading holds, each counted each time it is reached (what is shared counts as often as it is met; a slice's spare places count too). A statement '..UptoSaid' is the law's where the arguments, and the package variables that the reading takes, are together of bulk at most 1048576: NARROWER than '..Said'. Prove '..Said' where nothing that the law and all that it calls make is longer than what came in: it says more and counts as full. Else prove '..UptoSaid'. A law counts once. -/
mutual
def uptoBulk {H : Type} : DataW H → Nat
  | .lit (.string bytes) => bytes.length + 1
  | .lit _ => 1
  | .nil => 1
  | .ptr d => uptoBulk d + 1
  | .slice elems spare => uptoBulkAll elems + uptoBulkAll spare + 1
  | .agg parts => uptoBulkAll parts + 1
  | .iface _ d => uptoBulk d + 1
  | .map entries => uptoBulkEntries entries + 1
  | .held _ => 1
def uptoBulkAll {H : Type} : List (DataW H) → Nat
  | [] => 0
  | d :: r => uptoBulk d + uptoBulkAll r
def uptoBulkEntries {H : Type} : List (Lit × DataW H) → Nat
  | [] => 0
  | x :: r => uptoBulkEntry x + uptoBulkEntries r
def uptoBulkEntry {H : Type} : Lit × DataW H → Nat
  | (.string bytes, d) => bytes.length + uptoBulk d + 1
  | (_, d) => uptoBulk d + 1
 end
def uptoSmall : (H : Type) → List (DataW H) → Bool := fun _ ds => decide (uptoBulkAll ds ≤ 1048576)
def OpenSpec.upto (s : _root_.Go.ChangeSpec) : _root_.Go.OpenSpec := { _root_.Go.OpenSpec.ofChange s with cond := some uptoSmall }

/-- 'ganttop.TopTimed', WHERE WHAT IT READS IS OF BULK AT MOST 1048576: true; the input reads as it did. -/
def topTimedUptoRow : OpenClaim := { program := "yteggojnjinealaagreatdoor", sum := "41de5532b555eaa9174ce642458cae51a964d4fe23b1c9db0b34084151879efc", func := "gantry/ganttop.TopTimed", spec := "topTimed", inPlace := ["math/bits.Sub64", "internal/bytealg.abigen_runtime_cmpstring"], unfollowed := true, recurses := true, named := ["math/bits.deBruijn64tab"], apart := false, laid := [("math/bits.deBruijn64tab", laid_math_bits_deBruijn64tab)], narrowed := true }
def TopTimedUptoSaid : Prop := topTimedUptoRow.holds Tryz.pinned (OpenSpec.upto topTimedSpec)

/-- 'gantkeep3.ClearFewer', WHERE WHAT IT READS IS OF BULK AT MOST 1048576: true; the input reads as it did. -/
def clearFewerUptoRow : OpenClaim := { program := "yteggojnjinealaagreatdoor", sum := "41de5532b555eaa9174ce642458cae51a964d4fe23b1c9db0b34084151879efc", func := "gantry/gantkeep3.ClearFewer", spec := "clearFewer", inPlace := ["math/bits.Sub64", "internal/bytealg.abigen_runtime_cmpstring"], unfollowed := true, recurses := true, named := ["math/bits.deBruijn64tab"], apart := false, laid := [("math/bits.deBruijn64tab", laid_math_bits_deBruijn64tab)], narrowed := true }
def ClearFewerUptoSaid : Prop := clearFewerUptoRow.holds Tryz.pinned (OpenSpec.upto clearFewerSpec)

/-- 'gantkeep3.ClearProves', WHERE WHAT IT READS IS OF BULK AT MOST 1048576: true; the input reads as it did. -/
def clearProvesUptoRow : OpenClaim := { program := "yteggojnjinealaagreatdoor", sum := "41de5532b555eaa9174ce642458cae51a964d4fe23b1c9db0b34084151879efc", func := "gantry/gantkeep3.ClearProves", spec := "clearProves", inPlace := ["math/bits.Sub64", "internal/bytealg.abigen_runtime_cmpstring"], unfollowed := true, recurses := true, named := ["math/bits.deBruijn64tab"], apart := false, laid := [("math/bits.deBruijn64tab", laid_math_bits_deBruijn64tab)], narrowed := true }
def ClearProvesUptoSaid : Prop := clearProvesUptoRow.holds Tryz.pinned (OpenSpec.upto clearProvesSpec)

/-- 'gantkeep3.ClearBack', WHERE WHAT IT READS IS OF BULK AT MOST 1048576: true; the input reads as it did. -/
def clearBackUptoRow : OpenClaim := { program := "yteggojnjinealaagreatdoor", sum := "41de5532b555eaa9174ce642458cae51a964d4fe23b1c9db0b34084151879efc", func := "gantry/gantkeep3.ClearBack", spec := "clearBack", inPlace := ["math/bits.Sub64", "internal/bytealg.abigen_runtime_cmpstring"], unfollowed := true, recurses := true, named := ["math/bits.deBruijn64tab"], apart := false, laid := [("math/bits.deBruijn64tab", laid_math_bits_deBruijn64tab)], narrowed := true }
def ClearBackUptoSaid : Prop := clearBackUptoRow.holds Tryz.pinned (OpenSpec.upto clearBackSpec)

/-- 'gantkeep3.ShortFree', WHERE WHAT IT READS IS OF BULK AT MOST 1048576: true; the input reads as it did. -/
def shortFreeUptoRow : OpenClaim := { program := "yteggojnjinealaagreatdoor", sum := "41de5532b555eaa9174ce642458cae51a964d4fe23b1c9db0b34084151879efc", func := "gantry/gantkeep3.ShortFree", spec := "shortFree", inPlace := ["math/bits.Sub64", "internal/bytealg.abigen_runtime_cmpstring"], unfollowed := true, recurses := true, named := ["math/bits.deBruijn64tab"], apart := false, laid := [("math/bits.deBruijn64tab", laid_math_bits_deBruijn64tab)], narrowed := true }
def ShortFreeUptoSaid : Prop := shortFreeUptoRow.holds Tryz.pinned (OpenSpec.upto shortFreeSpec)

/-- 'gantkeep3.PathBack', WHERE WHAT IT READS IS OF BULK AT MOST 1048576: true; the input reads as it did. -/
def pathBackUptoRow : OpenClaim := { program := "yteggojnjinealaagreatdoor", sum := "41de5532b555eaa9174ce642458cae51a964d4fe23b1c9db0b34084151879efc", func := "gantry/gantkeep3.PathBack", spec := "pathBack", inPlace := ["math/bits.Sub64", "internal/bytealg.abigen_runtime_cmpstring"], unfollowed := true, recurses := true, named := ["math/bits.deBruijn64tab"], apart := false, laid := [("math/bits.deBruijn64tab", laid_math_bits_deBruijn64tab)], narrowed := true }
def PathBackUptoSaid : Prop := pathBackUptoRow.holds Tryz.pinned (OpenSpec.upto pathBackSpec)

/-- 'gantkeep3.PathFewer', WHERE WHAT IT READS IS OF BULK AT MOST 1048576: true; the input reads as it did. -/
def pathFewerUptoRow : OpenClaim := { program := "yteggojnjinealaagreatdoor", sum := "41de5532b555eaa9174ce642458cae51a964d4fe23b1c9db0b34084151879efc", func := "gantry/gantkeep3.PathFewer", spec := "pathFewer", inPlace := ["math/bits.Sub64", "internal/bytealg.abigen_runtime_cmpstring"], unfollowed := true, recurses := true, named := ["math/bits.deBruijn64tab"], apart := false, laid := [("math/bits.deBruijn64tab", laid_math_bits_deBruijn64tab)], narrowed := true }
def PathFewerUptoSaid : Prop := pathFewerUptoRow.holds Tryz.pinned (OpenSpec.upto pathFewerSpec)

/-- 'gantkeep3.PathFree', WHERE WHAT IT READS IS OF BULK AT MOST 1048576: true; the input reads as it did. -/
def pathFreeUptoRow : OpenClaim := { program := "yteggojnjinealaagreatdoor", sum := "41de5532b555eaa9174ce642458cae51a964d4fe23b1c9db0b34084151879efc", func := "gantry/gantkeep3.PathFree", spec := "pathFree", inPlace := ["math/bits.Sub64", "internal/bytealg.abigen_runtime_cmpstring"], unfollowed := true, recurses := true, named := ["math/bits.deBruijn64tab"], apart := false, laid := [("math/bits.deBruijn64tab", laid_math_bits_deBruijn64tab)], narrowed := true }
def PathFreeUptoSaid : Prop := pathFreeUptoRow.holds Tryz.pinned (OpenSpec.upto pathFreeSpec)

/-- 'ganttop.TopWays', WHERE WHAT IT READS IS OF BULK AT MOST 1048576: true; the input reads as it did. -/
def topWaysUptoRow : OpenClaim := { program := "yteggojnjinealaagreatdoor", sum := "41de5532b555eaa9174ce642458cae51a964d4fe23b1c9db0b34084151879efc", func := "gantry/ganttop.TopWays", spec := "topWays", inPlace := ["math/bits.Sub64", "internal/bytealg.abigen_runtime_cmpstring"], unfollowed := true, recurses := true, named := ["math/bits.deBruijn64tab"], apart := false, laid := [("math/bits.deBruijn64tab", laid_math_bits_deBruijn64tab)], narrowed := true }
def TopWaysUptoSaid : Prop := topWaysUptoRow.holds Tryz.pinned (OpenSpec.upto topWaysSpec)

end Rows
end Go.Proofs.YteggojnjinealaaGreatDoor
