/-
  Part 6 of the proof: contracts of the program's functions. Conditions: those of the theorems below.
-/
import Derived.Test.YtgaokohhkdeomaaDoorTC5
import Derived.Test.YtgaokohhkdeomaaDoorTC2
import Derived.RowKit3
import GoSem.ClaimChange
import Derived.ChangeSlices
import Derived.WideShapes
import Derived.OpenShut
import Derived.Test.YtgaokohhkdeomaaDoorTC3
import Derived.Lib.LaidTab
set_option linter.all false
namespace Go.Proofs.YtgaokohhkdeomaaDoor.PE
open Go
set_option maxRecDepth 100000
variable {G : World → (Nat → Prop) → Prop} (hG : GOk G)
theorem enterCt : Enters Tryd.prog 52 Tryd.f52 (bodyC Tryd.f52) := ⟨Tryd.func52, by kernel_rfl, rfl⟩
noncomputable def bCt : Code := (loopsOf (bodyC Tryd.f52)).getD 0 .skip
def polCt : Pol := { live := [(8, [1, 2, 3, 11, 37, 38, 39])], own := [36] }
noncomputable def RCt : Orc := [(80, c70)]
def LcF (w : Nat) (a : Int) (q : List Rat) (u : Nat → Int) (v : Nat → List Rat) : Nat → List PV
  | 1 => [kyPV 900 a q]
  | 2 => [kyPV 900 a q, kyPV (w + 65) (u 0) (v 0)]
  | 3 => [kyPV 900 a q, kyPV (w + 65) (u 0) (v 0), kyPV (w + 65) (u 1) (v 1)]
  | 4 => [kyPV 900 a q, kyPV (w + 65) (u 0) (v 0), kyPV (w + 65) (u 1) (v 1), kyPV (w + 65) (u 2) (v 2)]
  | _ => [kyPV 900 a q, kyPV (w + 65) (u 0) (v 0), kyPV (w + 65) (u 1) (v 1), kyPV (w + 65) (u 2) (v 2), kyPV (w + 65) (u 3) (v 3)]
def sCt (w n : Nat) (tk : Nat → Int) (qs : Nat → List Rat) (a b : Int) (q : List Rat) (u : Nat → Int) (v : Nat → List Rat) (c : Nat) (j : Int) : LS := ⟨[trC w n tk qs, .i .i64 a, .i .i64 b, .sl 0 2 0 c, trC w n tk qs, .i .i64 n, .i .i64 j], [some ⟨2, .vals (LcF w a q u v c)⟩]⟩
theorem tCt1 (w n : Nat) (tk : Nat → Int) (qs : Nat → List Rat) (a b : Int) (q : List Rat) (u : Nat → Int) (v : Nat → List Rat) (j : Int) : (evRound Tryd.prog RCt [] polCt Tryd.f52.ntmps 0 [1, 2, 3, 11, 37, 38, 39] bCt (sCt w n tk qs a b q u v 1 j)).run =
  (Tr.br (decide (j < (↑n : Int))) (.br (ix (j) ((↑n : Int))) (.br (decide (a < tk j.toNat)) (.br (decide (tk j.toNat < b)) (.br (Nat.ble 1 (qs j.toNat).length && (qs j.toNat).length.ble 1000 && w.ble 10000) (.br (((0 : Nat) + (qs j.toNat).length).ble (qs j.toNat).length) (.br (((1 : Nat) + [PE.PV.agg [.i .i64 (tk j.toNat), .lst 3 (.rats (w + (65 : Nat)) (List.take (qs j.toNat).length (List.drop (0 : Nat) (qs j.toNat))))]].length).ble 4294967296) (.br (ib (j + (1 : Int))) (.ok (.out .normal (LS.mk [trC w n tk qs, .i .i64 a, .i .i64 b, .sl 0 2 0 2, trC w n tk qs, .i .i64 (↑n : Int), .i .i64 (j + (1 : Int))] [some (.mk 2 (.vals [.agg [.i .i64 a, .lst 3 (.rats 900 q)], .agg [.i .i64 (tk j.toNat), .lst 3 (.rats (w + (65 : Nat)) (List.take (qs j.toNat).length (List.drop (0 : Nat) (qs j.toNat))))]]))]))) (.no 13002)) (.no 12002)) (.no 12005)) (.no 1)) (.br (ib (j + (1 : Int))) (.ok (.out .normal (LS.mk [trC w n tk qs, .i .i64 a, .i .i64 b, .sl 0 2 0 1, trC w n tk qs, .i .i64 (↑n : Int), .i .i64 (j + (1 : Int))] [some (.mk 2 (.vals [.agg [.i .i64 a, .lst 3 (.rats 900 q)]]))]))) (.no 13002))) (.br (ib (j + (1 : Int))) (.ok (.out .normal (LS.mk [trC w n tk qs, .i .i64 a, .i .i64 b, .sl 0 2 0 1, trC w n tk qs, .i .i64 (↑n : Int), .i .i64 (j + (1 : Int))] [some (.mk 2 (.vals [.agg [.i .i64 a, .lst 3 (.rats 900 q)]]))]))) (.no 13002))) (.no 10004)) (.ok (.out (.exit 0) (LS.mk [trC w n tk qs, .i .i64 a, .i .i64 b, .sl 0 2 0 1, trC w n tk qs, .i .i64 (↑n : Int), .i .i64 j] [some (.mk 2 (.vals [.agg [.i .i64 a, .lst 3 (.rats 900 q)]]))])))).run := by kernel_rfl
theorem tCt2 (w n : Nat) (tk : Nat → Int) (qs : Nat → List Rat) (a b : Int) (q : List Rat) (u : Nat → Int) (v : Nat → List Rat) (j : Int) : (evRound Tryd.prog RCt [] polCt Tryd.f52.ntmps 0 [1, 2, 3, 11, 37, 38, 39] bCt (sCt w n tk qs a b q u v 2 j)).run =
  (Tr.br (decide (j < (↑n : Int))) (.br (ix (j) ((↑n : Int))) (.br (decide (a < tk j.toNat)) (.br (decide (tk j.toNat < b)) (.br (Nat.ble 1 (qs j.toNat).length && (qs j.toNat).length.ble 1000 && w.ble 10000) (.br (((0 : Nat) + (qs j.toNat).length).ble (qs j.toNat).length) (.br (((2 : Nat) + [PE.PV.agg [.i .i64 (tk j.toNat), .lst 3 (.rats (w + (65 : Nat)) (List.take (qs j.toNat).length (List.drop (0 : Nat) (qs j.toNat))))]].length).ble 4294967296) (.br (ib (j + (1 : Int))) (.ok (.out .normal (LS.mk [trC w n tk qs, .i .i64 a, .i .i64 b, .sl 0 2 0 3, trC w n tk qs, .i .i64 (↑n : Int), .i .i64 (j + (1 : Int))] [some (.mk 2 (.vals [.agg [.i .i64 a, .lst 3 (.rats 900 q)], .agg [.i .i64 (u (0 : Nat)), .lst 3 (.rats (w + (65 : Nat)) (v (0 : Nat)))], .agg [.i .i64 (tk j.toNat), .lst 3 (.rats (w + (65 : Nat)) (List.take (qs j.toNat).length (List.drop (0 : Nat) (qs j.toNat))))]]))]))) (.no 13002)) (.no 12002)) (.no 12005)) (.no 1)) (.br (ib (j + (1 : Int))) (.ok (.out .normal (LS.mk [trC w n tk qs, .i .i64 a, .i .i64 b, .sl 0 2 0 2, trC w n tk qs, .i .i64 (↑n : Int), .i .i64 (j + (1 : Int))] [some (.mk 2 (.vals [.agg [.i .i64 a, .lst 3 (.rats 900 q)], .agg [.i .i64 (u (0 : Nat)), .lst 3 (.rats (w + (65 : Nat)) (v (0 : Nat)))]]))]))) (.no 13002))) (.br (ib (j + (1 : Int))) (.ok (.out .normal (LS.mk [trC w n tk qs, .i .i64 a, .i .i64 b, .sl 0 2 0 2, trC w n tk qs, .i .i64 (↑n : Int), .i .i64 (j + (1 : Int))] [some (.mk 2 (.vals [.agg [.i .i64 a, .lst 3 (.rats 900 q)], .agg [.i .i64 (u (0 : Nat)), .lst 3 (.rats (w + (65 : Nat)) (v (0 : Nat)))]]))]))) (.no 13002))) (.no 10004)) (.ok (.out (.exit 0) (LS.mk [trC w n tk qs, .i .i64 a, .i .i64 b, .sl 0 2 0 2, trC w n tk qs, .i .i64 (↑n : Int), .i .i64 j] [some (.mk 2 (.vals [.agg [.i .i64 a, .lst 3 (.rats 900 q)], .agg [.i .i64 (u (0 : Nat)), .lst 3 (.rats (w + (65 : Nat)) (v (0 : Nat)))]]))])))).run := by kernel_rfl
theorem tCt3 (w n : Nat) (tk : Nat → Int) (qs : Nat → List Rat) (a b : Int) (q : List Rat) (u : Nat → Int) (v : Nat → List Rat) (j : Int) : (evRound Tryd.prog RCt [] polCt Tryd.f52.ntmps 0 [1, 2, 3, 11, 37, 38, 39] bCt (sCt w n tk qs a b q u v 3 j)).run =
  (Tr.br (decide (j < (↑n : Int))) (.br (ix (j) ((↑n : Int))) (.br (decide (a < tk j.toNat)) (.br (decide (tk j.toNat < b)) (.br (Nat.ble 1 (qs j.toNat).length && (qs j.toNat).length.ble 1000 && w.ble 10000) (.br (((0 : Nat) + (qs j.toNat).length).ble (qs j.toNat).length) (.br (((3 : Nat) + [PE.PV.agg [.i .i64 (tk j.toNat), .lst 3 (.rats (w + (65 : Nat)) (List.take (qs j.toNat).length (List.drop (0 : Nat) (qs j.toNat))))]].length).ble 4294967296) (.br (ib (j + (1 : Int))) (.ok (.out .normal (LS.mk [trC w n tk qs, .i .i64 a, .i .i64 b, .sl 0 2 0 4, trC w n tk qs, .i .i64 (↑n : Int), .i .i64 (j + (1 : Int))] [some (.mk 2 (.vals [.agg [.i .i64 a, .lst 3 (.rats 900 q)], .agg [.i .i64 (u (0 : Nat)), .lst 3 (.rats (w + (65 : Nat)) (v (0 : Nat)))], .agg [.i .i64 (u (1 : Nat)), .lst 3 (.rats (w + (65 : Nat)) (v (1 : Nat)))], .agg [.i .i64 (tk j.toNat), .lst 3 (.rats (w + (65 : Nat)) (List.take (qs j.toNat).length (List.drop (0 : Nat) (qs j.toNat))))]]))]))) (.no 13002)) (.no 12002)) (.no 12005)) (.no 1)) (.br (ib (j + (1 : Int))) (.ok (.out .normal (LS.mk [trC w n tk qs, .i .i64 a, .i .i64 b, .sl 0 2 0 3, trC w n tk qs, .i .i64 (↑n : Int), .i .i64 (j + (1 : Int))] [some (.mk 2 (.vals [.agg [.i .i64 a, .lst 3 (.rats 900 q)], .agg [.i .i64 (u (0 : Nat)), .lst 3 (.rats (w + (65 : Nat)) (v (0 : Nat)))], .agg [.i .i64 (u (1 : Nat)), .lst 3 (.rats (w + (65 : Nat)) (v (1 : Nat)))]]))]))) (.no 13002))) (.br (ib (j + (1 : Int))) (.ok (.out .normal (LS.mk [trC w n tk qs, .i .i64 a, .i .i64 b, .sl 0 2 0 3, trC w n tk qs, .i .i64 (↑n : Int), .i .i64 (j + (1 : Int))] [some (.mk 2 (.vals [.agg [.i .i64 a, .lst 3 (.rats 900 q)], .agg [.i .i64 (u (0 : Nat)), .lst 3 (.rats (w + (65 : Nat)) (v (0 : Nat)))], .agg [.i .i64 (u (1 : Nat)), .lst 3 (.rats (w + (65 : Nat)) (v (1 : Nat)))]]))]))) (.no 13002))) (.no 10004)) (.ok (.out (.exit 0) (LS.mk [trC w n tk qs, .i .i64 a, .i .i64 b, .sl 0 2 0 3, trC w n tk qs, .i .i64 (↑n : Int), .i .i64 j] [some (.mk 2 (.vals [.agg [.i .i64 a, .lst 3 (.rats 900 q)], .agg [.i .i64 (u (0 : Nat)), .lst 3 (.rats (w + (65 : Nat)) (v (0 : Nat)))], .agg [.i .i64 (u (1 : Nat)), .lst 3 (.rats (w + (65 : Nat)) (v (1 : Nat)))]]))])))).run := by kernel_rfl
theorem tCt4 (w n : Nat) (tk : Nat → Int) (qs : Nat → List Rat) (a b : Int) (q : List Rat) (u : Nat → Int) (v : Nat → List Rat) (j : Int) : (evRound Tryd.prog RCt [] polCt Tryd.f52.ntmps 0 [1, 2, 3, 11, 37, 38, 39] bCt (sCt w n tk qs a b q u v 4 j)).run =
  (Tr.br (decide (j < (↑n : Int))) (.br (ix (j) ((↑n : Int))) (.br (decide (a < tk j.toNat)) (.br (decide (tk j.toNat < b)) (.br (Nat.ble 1 (qs j.toNat).length && (qs j.toNat).length.ble 1000 && w.ble 10000) (.br (((0 : Nat) + (qs j.toNat).length).ble (qs j.toNat).length) (.br (((4 : Nat) + [PE.PV.agg [.i .i64 (tk j.toNat), .lst 3 (.rats (w + (65 : Nat)) (List.take (qs j.toNat).length (List.drop (0 : Nat) (qs j.toNat))))]].length).ble 4294967296) (.br (ib (j + (1 : Int))) (.ok (.out .normal (LS.mk [trC w n tk qs, .i .i64 a, .i .i64 b, .sl 0 2 0 5, trC w n tk qs, .i .i64 (↑n : Int), .i .i64 (j + (1 : Int))] [some (.mk 2 (.vals [.agg [.i .i64 a, .lst 3 (.rats 900 q)], .agg [.i .i64 (u (0 : Nat)), .lst 3 (.rats (w + (65 : Nat)) (v (0 : Nat)))], .agg [.i .i64 (u (1 : Nat)), .lst 3 (.rats (w + (65 : Nat)) (v (1 : Nat)))], .agg [.i .i64 (u (2 : Nat)), .lst 3 (.rats (w + (65 : Nat)) (v (2 : Nat)))], .agg [.i .i64 (tk j.toNat), .lst 3 (.rats (w + (65 : Nat)) (List.take (qs j.toNat).length (List.drop (0 : Nat) (qs j.toNat))))]]))]))) (.no 13002)) (.no 12002)) (.no 12005)) (.no 1)) (.br (ib (j + (1 : Int))) (.ok (.out .normal (LS.mk [trC w n tk qs, .i .i64 a, .i .i64 b, .sl 0 2 0 4, trC w n tk qs, .i .i64 (↑n : Int), .i .i64 (j + (1 : Int))] [some (.mk 2 (.vals [.agg [.i .i64 a, .lst 3 (.rats 900 q)], .agg [.i .i64 (u (0 : Nat)), .lst 3 (.rats (w + (65 : Nat)) (v (0 : Nat)))], .agg [.i .i64 (u (1 : Nat)), .lst 3 (.rats (w + (65 : Nat)) (v (1 : Nat)))], .agg [.i .i64 (u (2 : Nat)), .lst 3 (.rats (w + (65 : Nat)) (v (2 : Nat)))]]))]))) (.no 13002))) (.br (ib (j + (1 : Int))) (.ok (.out .normal (LS.mk [trC w n tk qs, .i .i64 a, .i .i64 b, .sl 0 2 0 4, trC w n tk qs, .i .i64 (↑n : Int), .i .i64 (j + (1 : Int))] [some (.mk 2 (.vals [.agg [.i .i64 a, .lst 3 (.rats 900 q)], .agg [.i .i64 (u (0 : Nat)), .lst 3 (.rats (w + (65 : Nat)) (v (0 : Nat)))], .agg [.i .i64 (u (1 : Nat)), .lst 3 (.rats (w + (65 : Nat)) (v (1 : Nat)))], .agg [.i .i64 (u (2 : Nat)), .lst 3 (.rats (w + (65 : Nat)) (v (2 : Nat)))]]))]))) (.no 13002))) (.no 10004)) (.ok (.out (.exit 0) (LS.mk [trC w n tk qs, .i .i64 a, .i .i64 b, .sl 0 2 0 4, trC w n tk qs, .i .i64 (↑n : Int), .i .i64 j] [some (.mk 2 (.vals [.agg [.i .i64 a, .lst 3 (.rats 900 q)], .agg [.i .i64 (u (0 : Nat)), .lst 3 (.rats (w + (65 : Nat)) (v (0 : Nat)))], .agg [.i .i64 (u (1 : Nat)), .lst 3 (.rats (w + (65 : Nat)) (v (1 : Nat)))], .agg [.i .i64 (u (2 : Nat)), .lst 3 (.rats (w + (65 : Nat)) (v (2 : Nat)))]]))])))).run := by kernel_rfl
theorem tCt5 (w n : Nat) (tk : Nat → Int) (qs : Nat → List Rat) (a b : Int) (q : List Rat) (u : Nat → Int) (v : Nat → List Rat) (j : Int) : (evRound Tryd.prog RCt [] polCt Tryd.f52.ntmps 0 [1, 2, 3, 11, 37, 38, 39] bCt (sCt w n tk qs a b q u v 5 j)).run =
  (Tr.br (decide (j < (↑n : Int))) (.br (ix (j) ((↑n : Int))) (.br (decide (a < tk j.toNat)) (.br (decide (tk j.toNat < b)) (.br (Nat.ble 1 (qs j.toNat).length && (qs j.toNat).length.ble 1000 && w.ble 10000) (.br (((0 : Nat) + (qs j.toNat).length).ble (qs j.toNat).length) (.br (((5 : Nat) + [PE.PV.agg [.i .i64 (tk j.toNat), .lst 3 (.rats (w + (65 : Nat)) (List.take (qs j.toNat).length (List.drop (0 : Nat) (qs j.toNat))))]].length).ble 4294967296) (.br (ib (j + (1 : Int))) (.ok (.out .normal (LS.mk [trC w n tk qs, .i .i64 a, .i .i64 b, .sl 0 2 0 6, trC w n tk qs, .i .i64 (↑n : Int), .i .i64 (j + (1 : Int))] [some (.mk 2 (.vals [.agg [.i .i64 a, .lst 3 (.rats 900 q)], .agg [.i .i64 (u (0 : Nat)), .lst 3 (.rats (w + (65 : Nat)) (v (0 : Nat)))], .agg [.i .i64 (u (1 : Nat)), .lst 3 (.rats (w + (65 : Nat)) (v (1 : Nat)))], .agg [.i .i64 (u (2 : Nat)), .lst 3 (.rats (w + (65 : Nat)) (v (2 : Nat)))], .agg [.i .i64 (u (3 : Nat)), .lst 3 (.rats (w + (65 : Nat)) (v (3 : Nat)))], .agg [.i .i64 (tk j.toNat), .lst 3 (.rats (w + (65 : Nat)) (List.take (qs j.toNat).length (List.drop (0 : Nat) (qs j.toNat))))]]))]))) (.no 13002)) (.no 12002)) (.no 12005)) (.no 1)) (.br (ib (j + (1 : Int))) (.ok (.out .normal (LS.mk [trC w n tk qs, .i .i64 a, .i .i64 b, .sl 0 2 0 5, trC w n tk qs, .i .i64 (↑n : Int), .i .i64 (j + (1 : Int))] [some (.mk 2 (.vals [.agg [.i .i64 a, .lst 3 (.rats 900 q)], .agg [.i .i64 (u (0 : Nat)), .lst 3 (.rats (w + (65 : Nat)) (v (0 : Nat)))], .agg [.i .i64 (u (1 : Nat)), .lst 3 (.rats (w + (65 : Nat)) (v (1 : Nat)))], .agg [.i .i64 (u (2 : Nat)), .lst 3 (.rats (w + (65 : Nat)) (v (2 : Nat)))], .agg [.i .i64 (u (3 : Nat)), .lst 3 (.rats (w + (65 : Nat)) (v (3 : Nat)))]]))]))) (.no 13002))) (.br (ib (j + (1 : Int))) (.ok (.out .normal (LS.mk [trC w n tk qs, .i .i64 a, .i .i64 b, .sl 0 2 0 5, trC w n tk qs, .i .i64 (↑n : Int), .i .i64 (j + (1 : Int))] [some (.mk 2 (.vals [.agg [.i .i64 a, .lst 3 (.rats 900 q)], .agg [.i .i64 (u (0 : Nat)), .lst 3 (.rats (w + (65 : Nat)) (v (0 : Nat)))], .agg [.i .i64 (u (1 : Nat)), .lst 3 (.rats (w + (65 : Nat)) (v (1 : Nat)))], .agg [.i .i64 (u (2 : Nat)), .lst 3 (.rats (w + (65 : Nat)) (v (2 : Nat)))], .agg [.i .i64 (u (3 : Nat)), .lst 3 (.rats (w + (65 : Nat)) (v (3 : Nat)))]]))]))) (.no 13002))) (.no 10004)) (.ok (.out (.exit 0) (LS.mk [trC w n tk qs, .i .i64 a, .i .i64 b, .sl 0 2 0 5, trC w n tk qs, .i .i64 (↑n : Int), .i .i64 j] [some (.mk 2 (.vals [.agg [.i .i64 a, .lst 3 (.rats 900 q)], .agg [.i .i64 (u (0 : Nat)), .lst 3 (.rats (w + (65 : Nat)) (v (0 : Nat)))], .agg [.i .i64 (u (1 : Nat)), .lst 3 (.rats (w + (65 : Nat)) (v (1 : Nat)))], .agg [.i .i64 (u (2 : Nat)), .lst 3 (.rats (w + (65 : Nat)) (v (2 : Nat)))], .agg [.i .i64 (u (3 : Nat)), .lst 3 (.rats (w + (65 : Nat)) (v (3 : Nat)))]]))])))).run := by kernel_rfl
def PCt (w n : Nat) (tk : Nat → Int) (qs : Nat → List Rat) (a : PV) (t : Int) : Prop := a = trC w n tk qs ∧ -100000 ≤ t ∧ t ≤ 100000
noncomputable def vCtA (w n : Nat) (tk : Nat → Int) (qs : Nat → List Rat) (R : Int → List Rat) : Spec := fun args hs K => match args, hs with
  | [a, .i .i64 t], [] => .br (decP (PCt w n tk qs a t)) (K (.fr 3 (.rats 900 (R t))) []) (.no 1)
  | _, _ => .no 1
noncomputable def OCt (A : Am) (w n : Nat) (tk : Nat → Int) (qs : Nat → List Rat) (R : Int → List Rat) : Orc := [(20, vCtA w n tk qs R), (36, cst [armPV A, trC w n tk qs] True (.i .i64 0)), (80, c70)]
noncomputable def lCt (w n : Nat) (tk : Nat → Int) (qs : Nat → List Rat) (a b : Int) (R : Int → List Rat) (u : Nat → Int) (v : Nat → List Rat) (p : Nat) : LSpec := lcst (sCt w n tk qs a b (R a) u v 1 0) (.exit 0) (sCt w n tk qs a b (R a) u v (p + 1) n)
theorem eCt0 (A : Am) (w n : Nat) (tk : Nat → Int) (qs : Nat → List Rat) (a b : Int) (R : Int → List Rat) (u : Nat → Int) (v : Nat → List Rat) : (evF Tryd.prog (OCt A w n tk qs R) [(8, lCt w n tk qs a b R u v 0)] polCt Tryd.f52 [armPV A, trC w n tk qs, .i .i64 a, .i .i64 b] [] retK).run =
  (Tr.br (decP (isA [armPV A, trC w n tk qs] True [armPV A, trC w n tk qs])) (.br (decide (a < (0 : Int))) (.ok (.ret (.tup [.nil, .i .i64 (1 : Int)]) [])) (.br (decide (b ≤ a)) (.ok (.ret (.tup [.nil, .i .i64 (1 : Int)]) [])) (.br (decide ((2000 : Int) < b)) (.ok (.ret (.tup [.nil, .i .i64 (1 : Int)]) [])) (.br (decP (PCt w n tk qs (trC w n tk qs) a)) (.br (((0 : Nat) + (R a).length).ble (R a).length) (.br (decP (isLS (LS.mk [trC w n tk qs, .i .i64 a, .i .i64 b, .sl 0 2 0 1, trC w n tk qs, .i .i64 (↑n : Int), .i .i64 (0 : Int)] [some (.mk 2 (.vals [.agg [.i .i64 a, .lst 3 (.rats 900 (R a))]]))]) (LS.mk [trC w n tk qs, .i .i64 a, .i .i64 b, .sl 0 2 0 1, trC w n tk qs, .i .i64 (↑n : Int), .i .i64 (0 : Int)] [some (.mk 2 (.vals [.agg [.i .i64 a, .lst 3 (.rats 900 (List.take (R a).length (List.drop (0 : Nat) (R a))))]]))]))) (.br (decP (PCt w n tk qs (trC w n tk qs) b)) (.br (((0 : Nat) + (R b).length).ble (R b).length) (.br (((1 : Nat) + [PE.PV.agg [.i .i64 b, .lst 3 (.rats 900 (List.take (R b).length (List.drop (0 : Nat) (R b))))]].length).ble 4294967296) (.br (decide ((60 : Int) < (↑((1 : Nat) + [PE.PV.agg [.i .i64 b, .lst 3 (.rats 900 (List.take (R b).length (List.drop (0 : Nat) (R b))))]].length) : Int))) (.ok (.ret (.tup [.nil, .i .i64 (2 : Int)]) [])) (.ok (.ret (.tup [.fr 2 (.vals [.agg [.i .i64 a, .lst 3 (.rats 900 (R a))], .agg [.i .i64 b, .lst 3 (.rats 900 (List.take (R b).length (List.drop (0 : Nat) (R b))))]]), .i .i64 (0 : Int)]) []))) (.no 14002)) (.no 14005)) (.no 1)) (.no 1)) (.no 7004)) (.no 1))))) (.no 1)).run := by kernel_rfl
theorem eCt1 (A : Am) (w n : Nat) (tk : Nat → Int) (qs : Nat → List Rat) (a b : Int) (R : Int → List Rat) (u : Nat → Int) (v : Nat → List Rat) : (evF Tryd.prog (OCt A w n tk qs R) [(8, lCt w n tk qs a b R u v 1)] polCt Tryd.f52 [armPV A, trC w n tk qs, .i .i64 a, .i .i64 b] [] retK).run =
  (Tr.br (decP (isA [armPV A, trC w n tk qs] True [armPV A, trC w n tk qs])) (.br (decide (a < (0 : Int))) (.ok (.ret (.tup [.nil, .i .i64 (1 : Int)]) [])) (.br (decide (b ≤ a)) (.ok (.ret (.tup [.nil, .i .i64 (1 : Int)]) [])) (.br (decide ((2000 : Int) < b)) (.ok (.ret (.tup [.nil, .i .i64 (1 : Int)]) [])) (.br (decP (PCt w n tk qs (trC w n tk qs) a)) (.br (((0 : Nat) + (R a).length).ble (R a).length) (.br (decP (isLS (LS.mk [trC w n tk qs, .i .i64 a, .i .i64 b, .sl 0 2 0 1, trC w n tk qs, .i .i64 (↑n : Int), .i .i64 (0 : Int)] [some (.mk 2 (.vals [.agg [.i .i64 a, .lst 3 (.rats 900 (R a))]]))]) (LS.mk [trC w n tk qs, .i .i64 a, .i .i64 b, .sl 0 2 0 1, trC w n tk qs, .i .i64 (↑n : Int), .i .i64 (0 : Int)] [some (.mk 2 (.vals [.agg [.i .i64 a, .lst 3 (.rats 900 (List.take (R a).length (List.drop (0 : Nat) (R a))))]]))]))) (.br (decP (PCt w n tk qs (trC w n tk qs) b)) (.br (((0 : Nat) + (R b).length).ble (R b).length) (.br (((2 : Nat) + [PE.PV.agg [.i .i64 b, .lst 3 (.rats 900 (List.take (R b).length (List.drop (0 : Nat) (R b))))]].length).ble 4294967296) (.br (decide ((60 : Int) < (↑((2 : Nat) + [PE.PV.agg [.i .i64 b, .lst 3 (.rats 900 (List.take (R b).length (List.drop (0 : Nat) (R b))))]].length) : Int))) (.ok (.ret (.tup [.nil, .i .i64 (2 : Int)]) [])) (.ok (.ret (.tup [.fr 2 (.vals [.agg [.i .i64 a, .lst 3 (.rats 900 (R a))], .agg [.i .i64 (u (0 : Nat)), .lst 3 (.rats (w + (65 : Nat)) (v (0 : Nat)))], .agg [.i .i64 b, .lst 3 (.rats 900 (List.take (R b).length (List.drop (0 : Nat) (R b))))]]), .i .i64 (0 : Int)]) []))) (.no 14002)) (.no 14005)) (.no 1)) (.no 1)) (.no 7004)) (.no 1))))) (.no 1)).run := by kernel_rfl
theorem eCt2 (A : Am) (w n : Nat) (tk : Nat → Int) (qs : Nat → List Rat) (a b : Int) (R : Int → List Rat) (u : Nat → Int) (v : Nat → List Rat) : (evF Tryd.prog (OCt A w n tk qs R) [(8, lCt w n tk qs a b R u v 2)] polCt Tryd.f52 [armPV A, trC w n tk qs, .i .i64 a, .i .i64 b] [] retK).run =
  (Tr.br (decP (isA [armPV A, trC w n tk qs] True [armPV A, trC w n tk qs])) (.br (decide (a < (0 : Int))) (.ok (.ret (.tup [.nil, .i .i64 (1 : Int)]) [])) (.br (decide (b ≤ a)) (.ok (.ret (.tup [.nil, .i .i64 (1 : Int)]) [])) (.br (decide ((2000 : Int) < b)) (.ok (.ret (.tup [.nil, .i .i64 (1 : Int)]) [])) (.br (decP (PCt w n tk qs (trC w n tk qs) a)) (.br (((0 : Nat) + (R a).length).ble (R a).length) (.br (decP (isLS (LS.mk [trC w n tk qs, .i .i64 a, .i .i64 b, .sl 0 2 0 1, trC w n tk qs, .i .i64 (↑n : Int), .i .i64 (0 : Int)] [some (.mk 2 (.vals [.agg [.i .i64 a, .lst 3 (.rats 900 (R a))]]))]) (LS.mk [trC w n tk qs, .i .i64 a, .i .i64 b, .sl 0 2 0 1, trC w n tk qs, .i .i64 (↑n : Int), .i .i64 (0 : Int)] [some (.mk 2 (.vals [.agg [.i .i64 a, .lst 3 (.rats 900 (List.take (R a).length (List.drop (0 : Nat) (R a))))]]))]))) (.br (decP (PCt w n tk qs (trC w n tk qs) b)) (.br (((0 : Nat) + (R b).length).ble (R b).length) (.br (((3 : Nat) + [PE.PV.agg [.i .i64 b, .lst 3 (.rats 900 (List.take (R b).length (List.drop (0 : Nat) (R b))))]].length).ble 4294967296) (.br (decide ((60 : Int) < (↑((3 : Nat) + [PE.PV.agg [.i .i64 b, .lst 3 (.rats 900 (List.take (R b).length (List.drop (0 : Nat) (R b))))]].length) : Int))) (.ok (.ret (.tup [.nil, .i .i64 (2 : Int)]) [])) (.ok (.ret (.tup [.fr 2 (.vals [.agg [.i .i64 a, .lst 3 (.rats 900 (R a))], .agg [.i .i64 (u (0 : Nat)), .lst 3 (.rats (w + (65 : Nat)) (v (0 : Nat)))], .agg [.i .i64 (u (1 : Nat)), .lst 3 (.rats (w + (65 : Nat)) (v (1 : Nat)))], .agg [.i .i64 b, .lst 3 (.rats 900 (List.take (R b).length (List.drop (0 : Nat) (R b))))]]), .i .i64 (0 : Int)]) []))) (.no 14002)) (.no 14005)) (.no 1)) (.no 1)) (.no 7004)) (.no 1))))) (.no 1)).run := by kernel_rfl
theorem eCt3 (A : Am) (w n : Nat) (tk : Nat → Int) (qs : Nat → List Rat) (a b : Int) (R : Int → List Rat) (u : Nat → Int) (v : Nat → List Rat) : (evF Tryd.prog (OCt A w n tk qs R) [(8, lCt w n tk qs a b R u v 3)] polCt Tryd.f52 [armPV A, trC w n tk qs, .i .i64 a, .i .i64 b] [] retK).run =
  (Tr.br (decP (isA [armPV A, trC w n tk qs] True [armPV A, trC w n tk qs])) (.br (decide (a < (0 : Int))) (.ok (.ret (.tup [.nil, .i .i64 (1 : Int)]) [])) (.br (decide (b ≤ a)) (.ok (.ret (.tup [.nil, .i .i64 (1 : Int)]) [])) (.br (decide ((2000 : Int) < b)) (.ok (.ret (.tup [.nil, .i .i64 (1 : Int)]) [])) (.br (decP (PCt w n tk qs (trC w n tk qs) a)) (.br (((0 : Nat) + (R a).length).ble (R a).length) (.br (decP (isLS (LS.mk [trC w n tk qs, .i .i64 a, .i .i64 b, .sl 0 2 0 1, trC w n tk qs, .i .i64 (↑n : Int), .i .i64 (0 : Int)] [some (.mk 2 (.vals [.agg [.i .i64 a, .lst 3 (.rats 900 (R a))]]))]) (LS.mk [trC w n tk qs, .i .i64 a, .i .i64 b, .sl 0 2 0 1, trC w n tk qs, .i .i64 (↑n : Int), .i .i64 (0 : Int)] [some (.mk 2 (.vals [.agg [.i .i64 a, .lst 3 (.rats 900 (List.take (R a).length (List.drop (0 : Nat) (R a))))]]))]))) (.br (decP (PCt w n tk qs (trC w n tk qs) b)) (.br (((0 : Nat) + (R b).length).ble (R b).length) (.br (((4 : Nat) + [PE.PV.agg [.i .i64 b, .lst 3 (.rats 900 (List.take (R b).length (List.drop (0 : Nat) (R b))))]].length).ble 4294967296) (.br (decide ((60 : Int) < (↑((4 : Nat) + [PE.PV.agg [.i .i64 b, .lst 3 (.rats 900 (List.take (R b).length (List.drop (0 : Nat) (R b))))]].length) : Int))) (.ok (.ret (.tup [.nil, .i .i64 (2 : Int)]) [])) (.ok (.ret (.tup [.fr 2 (.vals [.agg [.i .i64 a, .lst 3 (.rats 900 (R a))], .agg [.i .i64 (u (0 : Nat)), .lst 3 (.rats (w + (65 : Nat)) (v (0 : Nat)))], .agg [.i .i64 (u (1 : Nat)), .lst 3 (.rats (w + (65 : Nat)) (v (1 : Nat)))], .agg [.i .i64 (u (2 : Nat)), .lst 3 (.rats (w + (65 : Nat)) (v (2 : Nat)))], .agg [.i .i64 b, .lst 3 (.rats 900 (List.take (R b).length (List.drop (0 : Nat) (R b))))]]), .i .i64 (0 : Int)]) []))) (.no 14002)) (.no 14005)) (.no 1)) (.no 1)) (.no 7004)) (.no 1))))) (.no 1)).run := by kernel_rfl
theorem eCt4 (A : Am) (w n : Nat) (tk : Nat → Int) (qs : Nat → List Rat) (a b : Int) (R : Int → List Rat) (u : Nat → Int) (v : Nat → List Rat) : (evF Tryd.prog (OCt A w n tk qs R) [(8, lCt w n tk qs a b R u v 4)] polCt Tryd.f52 [armPV A, trC w n tk qs, .i .i64 a, .i .i64 b] [] retK).run =
  (Tr.br (decP (isA [armPV A, trC w n tk qs] True [armPV A, trC w n tk qs])) (.br (decide (a < (0 : Int))) (.ok (.ret (.tup [.nil, .i .i64 (1 : Int)]) [])) (.br (decide (b ≤ a)) (.ok (.ret (.tup [.nil, .i .i64 (1 : Int)]) [])) (.br (decide ((2000 : Int) < b)) (.ok (.ret (.tup [.nil, .i .i64 (1 : Int)]) [])) (.br (decP (PCt w n tk qs (trC w n tk qs) a)) (.br (((0 : Nat) + (R a).length).ble (R a).length) (.br (decP (isLS (LS.mk [trC w n tk qs, .i .i64 a, .i .i64 b, .sl 0 2 0 1, trC w n tk qs, .i .i64 (↑n : Int), .i .i64 (0 : Int)] [some (.mk 2 (.vals [.agg [.i .i64 a, .lst 3 (.rats 900 (R a))]]))]) (LS.mk [trC w n tk qs, .i .i64 a, .i .i64 b, .sl 0 2 0 1, trC w n tk qs, .i .i64 (↑n : Int), .i .i64 (0 : Int)] [some (.mk 2 (.vals [.agg [.i .i64 a, .lst 3 (.rats 900 (List.take (R a).length (List.drop (0 : Nat) (R a))))]]))]))) (.br (decP (PCt w n tk qs (trC w n tk qs) b)) (.br (((0 : Nat) + (R b).length).ble (R b).length) (.br (((5 : Nat) + [PE.PV.agg [.i .i64 b, .lst 3 (.rats 900 (List.take (R b).length (List.drop (0 : Nat) (R b))))]].length).ble 4294967296) (.br (decide ((60 : Int) < (↑((5 : Nat) + [PE.PV.agg [.i .i64 b, .lst 3 (.rats 900 (List.take (R b).length (List.drop (0 : Nat) (R b))))]].length) : Int))) (.ok (.ret (.tup [.nil, .i .i64 (2 : Int)]) [])) (.ok (.ret (.tup [.fr 2 (.vals [.agg [.i .i64 a, .lst 3 (.rats 900 (R a))], .agg [.i .i64 (u (0 : Nat)), .lst 3 (.rats (w + (65 : Nat)) (v (0 : Nat)))], .agg [.i .i64 (u (1 : Nat)), .lst 3 (.rats (w + (65 : Nat)) (v (1 : Nat)))], .agg [.i .i64 (u (2 : Nat)), .lst 3 (.rats (w + (65 : Nat)) (v (2 : Nat)))], .agg [.i .i64 (u (3 : Nat)), .lst 3 (.rats (w + (65 : Nat)) (v (3 : Nat)))], .agg [.i .i64 b, .lst 3 (.rats 900 (List.take (R b).length (List.drop (0 : Nat) (R b))))]]), .i .i64 (0 : Int)]) []))) (.no 14002)) (.no 14005)) (.no 1)) (.no 1)) (.no 7004)) (.no 1))))) (.no 1)).run := by kernel_rfl
end Go.Proofs.YtgaokohhkdeomaaDoor.PE
namespace Go.Proofs.YtgaokohhkdeomaaDoor.PE
open Go
set_option maxRecDepth 100000
variable {G : World → (Nat → Prop) → Prop} (hG : GOk G)
abbrev RdCt (G : World → (Nat → Prop) → Prop) := Rnd Tryd.prog G Tryd.f52.ntmps 0 [1, 2, 3, 11, 37, 38, 39] bCt
theorem inc_le {f : Nat → Int} {N : Nat} (h : ∀ j, j + 1 < N → f j < f (j + 1)) {i j : Nat} (hij : i ≤ j) (hj : j < N) : f i ≤ f j := by
  have key : ∀ d i, i + d = j → f i ≤ f j := by
    intro d
    induction d with
    | zero => intro i e; rw [show i = j by omega]; exact Int.le_refl _
    | succ d ih => intro i e; have := h i (by omega); have := ih (i + 1) (by omega); omega
  exact key (j - i) i (by omega)
theorem cut_at (tk : Nat → Int) (a : Int) : ∀ n : Nat, (∀ j, j + 1 < n → tk j < tk (j + 1)) → ∃ s, s ≤ n ∧ ∀ i, i < n → (tk i ≤ a ↔ i < s)
  | 0, _ => ⟨0, Nat.le_refl _, fun i hi => absurd hi (by omega)⟩
  | n + 1, h => by
    obtain ⟨s, h1, h2⟩ := cut_at tk a n (fun j hj => h j (by omega))
    by_cases hn : tk n ≤ a
    · refine ⟨n + 1, Nat.le_refl _, fun i hi => ⟨fun _ => hi, fun _ => ?_⟩⟩
      have := inc_le h (show i ≤ n by omega) (by omega)
      omega
    · refine ⟨s, by omega, fun i hi => ?_⟩
      by_cases e : i = n
      · subst e
        exact ⟨fun hh => absurd hh hn, fun hh => by omega⟩
      · exact h2 i (by omega)
theorem gskip {R : LS → Exit → LS → Prop} (st : Nat → LS) {e : Exit} {ls' : LS} : ∀ (k i : Nat), (∀ j, i ≤ j → j < i + k → R (st j) .normal (st (j + 1))) → Goes R (st (i + k)) e ls' → Goes R (st i) e ls'
  | 0, _, _, hl => hl
  | k + 1, i, h, hl => .more _ (st (i + 1)) _ _ (h i (Nat.le_refl _) (by omega)) (gskip st k (i + 1) (fun j h1 h2 => h j (by omega) (by omega)) (by rw [show i + 1 + k = i + (k + 1) by omega]; exact hl))
section
variable (w n : Nat) (tk : Nat → Int) (qs : Nat → List Rat) (a b : Int) (q : List Rat) (u : Nat → Int) (v : Nat → List Rat)
include hG in
theorem skCt (hT : TabG G) (hn : n ≤ 60) (c : Nat) (c1 : 1 ≤ c) (c5 : c ≤ 5) (j : Nat) (hj : j < n) (h : tk j ≤ a ∨ b ≤ tk j) :
    RdCt G (sCt w n tk qs a b q u v c ((j : Nat) : Int)) .normal (sCt w n tk qs a b q u v c ((j + 1 : Nat) : Int)) := by
  refine round_ok hG (.cons (ck70 hG hT) .nil) mix (L := []) (pol := polCt) (O := RCt) (LpsOK.none (by kernel_rfl)) (Nat.zero_le _) ?_
  have hc : c = 1 ∨ c = 2 ∨ c = 3 ∨ c = 4 ∨ c = 5 := by omega
  rcases hc with rfl | rfl | rfl | rfl | rfl <;> (first | rw [tCt1] | rw [tCt2] | rw [tCt3] | rw [tCt4] | rw [tCt5]) <;> rw [Int.toNat_natCast] <;> by_cases g : a < tk j <;> (
    have g2 : a < tk j → ¬ tk j < b := by omega
    repeat first | rw [Tr.run_t (by first | (simp only [Bool.and_eq_true, Bool.or_eq_true, decide_eq_true_eq, Nat.ble_eq, Nat.blt_eq, List.length_cons, List.length_nil, Bool.not_eq_true', decide_eq_false_iff_not]; omega) | exact decP_iff.2 ⟨rfl, trivial⟩ | exact decP_iff.2 rfl | exact decide_eq_true rfl | decide)] | rw [Tr.run_f (by first | (simp only [Bool.and_eq_false_iff, Bool.not_eq_false', decide_eq_true_eq, decide_eq_false_iff_not]; omega) | exact congrArg (!·) (decide_eq_true rfl) | decide)]
    rw [Tr.run_ok]
    rfl)
include hG in
theorem exCt (hT : TabG G) (hn : n ≤ 60) (c : Nat) (c1 : 1 ≤ c) (c5 : c ≤ 5) :
    RdCt G (sCt w n tk qs a b q u v c ((n : Nat) : Int)) (.exit 0) (sCt w n tk qs a b q u v c ((n : Nat) : Int)) := by
  refine round_ok hG (.cons (ck70 hG hT) .nil) mix (L := []) (pol := polCt) (O := RCt) (LpsOK.none (by kernel_rfl)) (Nat.zero_le _) ?_
  have hc : c = 1 ∨ c = 2 ∨ c = 3 ∨ c = 4 ∨ c = 5 := by omega
  rcases hc with rfl | rfl | rfl | rfl | rfl
  · rw [tCt1, Tr.run_f (decide_eq_false (by omega)), Tr.run_ok]
    rfl
  · rw [tCt2, Tr.run_f (decide_eq_false (by omega)), Tr.run_ok]
    rfl
  · rw [tCt3, Tr.run_f (decide_eq_false (by omega)), Tr.run_ok]
    rfl
  · rw [tCt4, Tr.run_f (decide_eq_false (by omega)), Tr.run_ok]
    rfl
  · rw [tCt5, Tr.run_f (decide_eq_false (by omega)), Tr.run_ok]
    rfl
include hG in
theorem apCt (hT : TabG G) (hn : n ≤ 60) (hw : w ≤ 9000) (c : Nat) (c1 : 1 ≤ c) (c4 : c ≤ 4) (j : Nat) (hj : j < n) (h1 : a < tk j) (h2 : tk j < b) (hl : 1 ≤ (qs j).length) (hl3 : (qs j).length ≤ 3) (hu : tk j = u (c - 1)) (hv : qs j = v (c - 1)) :
    RdCt G (sCt w n tk qs a b q u v c ((j : Nat) : Int)) .normal (sCt w n tk qs a b q u v (c + 1) ((j + 1 : Nat) : Int)) := by
  refine round_ok hG (.cons (ck70 hG hT) .nil) mix (L := []) (pol := polCt) (O := RCt) (LpsOK.none (by kernel_rfl)) (Nat.zero_le _) ?_
  have hc : c = 1 ∨ c = 2 ∨ c = 3 ∨ c = 4 := by omega
  rcases hc with rfl | rfl | rfl | rfl <;> (first | rw [tCt1] | rw [tCt2] | rw [tCt3] | rw [tCt4]) <;> (
    rw [Int.toNat_natCast]
    simp only [List.drop_zero, List.take_length]
    repeat first | rw [Tr.run_t (by first | (simp only [Bool.and_eq_true, Bool.or_eq_true, decide_eq_true_eq, Nat.ble_eq, Nat.blt_eq, List.length_cons, List.length_nil, Bool.not_eq_true', decide_eq_false_iff_not]; omega) | exact decP_iff.2 ⟨rfl, trivial⟩ | exact decP_iff.2 rfl | exact decide_eq_true rfl | decide)] | rw [Tr.run_f (by first | (simp only [Bool.and_eq_false_iff, Bool.not_eq_false', decide_eq_true_eq, decide_eq_false_iff_not]; omega) | exact congrArg (!·) (decide_eq_true rfl) | decide)]
    rw [Tr.run_ok, hu, hv]
    rfl)
include hG in
theorem goCt (hT : TabG G) (hn : n ≤ 60) (hw : w ≤ 9000) (hl : ∀ j, j < n → 1 ≤ (qs j).length ∧ (qs j).length ≤ 3) (s p : Nat) (hs : ∀ i, i < n → (tk i ≤ a ↔ i < s)) (he : ∀ i, i < n → (tk i ≤ b - 1 ↔ i < s + p)) (hsp : s + p ≤ n) (p4 : p ≤ 4) (hu : ∀ i, i < p → tk (s + i) = u i) (hv : ∀ i, i < p → qs (s + i) = v i) :
    Goes (RdCt G) (sCt w n tk qs a b q u v 1 ((0 : Nat) : Int)) (.exit 0) (sCt w n tk qs a b q u v (p + 1) ((n : Nat) : Int)) := by
  have e3 : Goes (RdCt G) (sCt w n tk qs a b q u v (p + 1) ((s + p : Nat) : Int)) (.exit 0) (sCt w n tk qs a b q u v (p + 1) ((n : Nat) : Int)) :=
    Goes.count (fun j => sCt w n tk qs a b q u v (p + 1) ((j : Nat) : Int)) (by simp) (n - (s + p)) (s + p) (fun j h1 h2 => skCt hG w n tk qs a b q u v hT hn (p + 1) (by omega) (by omega) j (by omega) (.inr (by have := he j (by omega); omega))) (by
      show RdCt G (sCt w n tk qs a b q u v (p + 1) ((s + p + (n - (s + p)) : Nat) : Int)) (.exit 0) _
      rw [show s + p + (n - (s + p)) = n by omega]
      exact exCt hG w n tk qs a b q u v hT hn (p + 1) (by omega) (by omega))
  have e2 : ∀ k i, i + k = p → Goes (RdCt G) (sCt w n tk qs a b q u v (i + 1) ((s + i : Nat) : Int)) (.exit 0) (sCt w n tk qs a b q u v (p + 1) ((n : Nat) : Int)) := by
    intro k
    induction k with
    | zero => intro i e; obtain rfl : i = p := by omega
              exact e3
    | succ k ih =>
      intro i e
      have f1 := hs (s + i) (by omega)
      have f2 := he (s + i) (by omega)
      exact .more _ _ _ _ (apCt hG w n tk qs a b q u v hT hn hw (i + 1) (by omega) (by omega) (s + i) (by omega) (by omega) (by omega) (hl _ (by omega)).1 (hl _ (by omega)).2 (hu i (by omega)) (hv i (by omega))) (ih (i + 1) (by omega))
  refine gskip (fun j => sCt w n tk qs a b q u v 1 ((j : Nat) : Int)) s 0 (fun j h1 h2 => skCt hG w n tk qs a b q u v hT hn 1 (by omega) (by omega) j (by omega) (.inl (by have := hs j (by omega); omega))) ?_
  have := e2 p 0 (by omega)
  show Goes _ (sCt w n tk qs a b q u v 1 ((0 + s : Nat) : Int)) _ _
  rw [Nat.zero_add]
  exact this
end
include hG in
theorem vCtA_ok (hT : TabG G) (w : Nat) (hw : w ≤ 200) {m n : Nat} {tk : Nat → Int} {qs : Nat → List Rat} (h : TrC m n tk qs) : SpecOK Tryd.prog G 20 (vCtA w n tk qs (at17 m n tk qs)) := by
  intro args hs K x hh
  unfold vCtA at hh
  split at hh
  case h_2 => cases hh
  obtain ⟨hc, hr⟩ := Tr.of_br hh
  obtain ⟨rfl, h0, h9⟩ := decP_iff.1 hc
  exact ⟨_, _, (pc17 hG hT w (by omega) h _ h0 h9).le (frrats_le 3 _ (by unfold segW; omega)) (.refl _), hr⟩
def ctT (a b : Int) (s p : Nat) (tk : Nat → Int) (j : Nat) : Int := if j = 0 then a else if j ≤ p then tk (s + (j - 1)) else b
include hG in
theorem pcCt (hT : TabG G) (A : Am) (hA : armB A = true) (w : Nat) (hw : w ≤ 200) {n : Nat} {tk : Nat → Int} {qs : Nat → List Rat} (h : TrC A.n n tk qs) (hc : ckR A n tk qs = 0) (a b : Int) (a0 : 0 ≤ a) (ab : a < b) (b2 : b ≤ 2000) (s p : Nat) (hs : ∀ i, i < n → (tk i ≤ a ↔ i < s)) (he : ∀ i, i < n → (tk i ≤ b - 1 ↔ i < s + p)) (hsp : s + p ≤ n) (p4 : p ≤ 4) :
    PC Tryd.prog G 52 [armPV A, trC w n tk qs, .i .i64 a, .i .i64 b] [] (.tup [.fr 2 (.fn (p + 2) (fun j => kyPV 900 (ctT a b s p tk j) (at17 A.n n tk qs (ctT a b s p tk j)))), .i .i64 0]) [] := by
  have p36 := pc58 hG hT A hA w (by omega) n h.n1 h.n60 tk qs h.len h.rng
  rw [hc] at p36
  have m1 := h.m1
  have m3 := h.m3
  have g := goCt hG w n tk qs a b (at17 A.n n tk qs a) (fun i => tk (s + i)) (fun i => at17 A.n n tk qs (tk (s + i))) hT h.n60 (by omega) (fun j hj => by rw [h.len j hj]; omega) s p hs he hsp p4 (fun i _ => rfl) (fun i hi => (at_key h (by omega)).symm)
  have oc : OrcOK Tryd.prog G (OCt A w n tk qs (at17 A.n n tk qs)) := .cons (vCtA_ok hG hT w hw h) (.cons (cst_t p36) (.cons (ck70 hG hT) .nil))
  have d1 : decP (PCt w n tk qs (trC w n tk qs) a) = true := decP_iff.2 ⟨rfl, by omega, by omega⟩
  have d2 : decP (PCt w n tk qs (trC w n tk qs) b) = true := decP_iff.2 ⟨rfl, by omega, by omega⟩
  have hp : p = 0 ∨ p = 1 ∨ p = 2 ∨ p = 3 ∨ p = 4 := by omega
  rcases hp with rfl | rfl | rfl | rfl | rfl
  · refine (evF_pc (r := .tup [.fr 2 (.vals [kyPV 900 a (at17 A.n n tk qs a), kyPV 900 b (at17 A.n n tk qs b)]), .i .i64 0]) hG oc mix enterCt (pol := polCt) (L := [(8, lCt w n tk qs a b (at17 A.n n tk qs) (fun i => tk (s + i)) (fun i => at17 A.n n tk qs (tk (s + i))) 0)]) (lps1 (b := bCt) (live := [1, 2, 3, 11, 37, 38, 39]) (m := 0) (by kernel_rfl) (by kernel_rfl) (by kernel_rfl) (lcst_ok g)) ?_).le (frs_le0 2 2 _ _ rfl (fun i v hi => ?_)) (.refl _)
    · refine (eCt0 A w n tk qs a b (at17 A.n n tk qs) (fun i => tk (s + i)) (fun i => at17 A.n n tk qs (tk (s + i)))).trans ?_
      simp only [List.drop_zero, List.take_length, List.length_cons, List.length_nil]
      repeat first | rw [Tr.run_t (by first | (simp only [Bool.and_eq_true, Bool.or_eq_true, decide_eq_true_eq, Nat.ble_eq, Nat.blt_eq, List.length_cons, List.length_nil, Bool.not_eq_true', decide_eq_false_iff_not]; omega) | exact d1 | exact d2 | exact decP_iff.2 ⟨rfl, trivial⟩ | exact decP_iff.2 rfl | exact decide_eq_true rfl | decide)] | rw [Tr.run_f (by first | (simp only [Bool.and_eq_false_iff, Bool.not_eq_false', decide_eq_true_eq, decide_eq_false_iff_not]; omega) | exact d1 | exact d2 | exact congrArg (!·) (decide_eq_true rfl) | decide)]
      rw [Tr.run_ok]
      rfl
    · match i, hi with
      | 0, hi => obtain rfl := Option.some.inj hi; exact ⟨rfl, ky_le (by omega) _ _⟩
      | 1, hi => obtain rfl := Option.some.inj hi; exact ⟨rfl, ky_le (by omega) _ _⟩
      | i + 2, hi => cases hi
  · refine (evF_pc (r := .tup [.fr 2 (.vals [kyPV 900 a (at17 A.n n tk qs a), kyPV (w + 65) (tk (s + 0)) (at17 A.n n tk qs (tk (s + 0))), kyPV 900 b (at17 A.n n tk qs b)]), .i .i64 0]) hG oc mix enterCt (pol := polCt) (L := [(8, lCt w n tk qs a b (at17 A.n n tk qs) (fun i => tk (s + i)) (fun i => at17 A.n n tk qs (tk (s + i))) 1)]) (lps1 (b := bCt) (live := [1, 2, 3, 11, 37, 38, 39]) (m := 0) (by kernel_rfl) (by kernel_rfl) (by kernel_rfl) (lcst_ok g)) ?_).le (frs_le0 2 3 _ _ rfl (fun i v hi => ?_)) (.refl _)
    · refine (eCt1 A w n tk qs a b (at17 A.n n tk qs) (fun i => tk (s + i)) (fun i => at17 A.n n tk qs (tk (s + i)))).trans ?_
      simp only [List.drop_zero, List.take_length, List.length_cons, List.length_nil]
      repeat first | rw [Tr.run_t (by first | (simp only [Bool.and_eq_true, Bool.or_eq_true, decide_eq_true_eq, Nat.ble_eq, Nat.blt_eq, List.length_cons, List.length_nil, Bool.not_eq_true', decide_eq_false_iff_not]; omega) | exact d1 | exact d2 | exact decP_iff.2 ⟨rfl, trivial⟩ | exact decP_iff.2 rfl | exact decide_eq_true rfl | decide)] | rw [Tr.run_f (by first | (simp only [Bool.and_eq_false_iff, Bool.not_eq_false', decide_eq_true_eq, decide_eq_false_iff_not]; omega) | exact d1 | exact d2 | exact congrArg (!·) (decide_eq_true rfl) | decide)]
      rw [Tr.run_ok]
      rfl
    · match i, hi with
      | 0, hi => obtain rfl := Option.some.inj hi; exact ⟨rfl, ky_le (by omega) _ _⟩
      | 1, hi => obtain rfl := Option.some.inj hi; exact ⟨rfl, ky_le (by omega) _ _⟩
      | 2, hi => obtain rfl := Option.some.inj hi; exact ⟨rfl, ky_le (by omega) _ _⟩
      | i + 3, hi => cases hi
  · refine (evF_pc (r := .tup [.fr 2 (.vals [kyPV 900 a (at17 A.n n tk qs a), kyPV (w + 65) (tk (s + 0)) (at17 A.n n tk qs (tk (s + 0))), kyPV (w + 65) (tk (s + 1)) (at17 A.n n tk qs (tk (s + 1))), kyPV 900 b (at17 A.n n tk qs b)]), .i .i64 0]) hG oc mix enterCt (pol := polCt) (L := [(8, lCt w n tk qs a b (at17 A.n n tk qs) (fun i => tk (s + i)) (fun i => at17 A.n n tk qs (tk (s + i))) 2)]) (lps1 (b := bCt) (live := [1, 2, 3, 11, 37, 38, 39]) (m := 0) (by kernel_rfl) (by kernel_rfl) (by kernel_rfl) (lcst_ok g)) ?_).le (frs_le0 2 4 _ _ rfl (fun i v hi => ?_)) (.refl _)
    · refine (eCt2 A w n tk qs a b (at17 A.n n tk qs) (fun i => tk (s + i)) (fun i => at17 A.n n tk qs (tk (s + i)))).trans ?_
      simp only [List.drop_zero, List.take_length, List.length_cons, List.length_nil]
      repeat first | rw [Tr.run_t (by first | (simp only [Bool.and_eq_true, Bool.or_eq_true, decide_eq_true_eq, Nat.ble_eq, Nat.blt_eq, List.length_cons, List.length_nil, Bool.not_eq_true', decide_eq_false_iff_not]; omega) | exact d1 | exact d2 | exact decP_iff.2 ⟨rfl, trivial⟩ | exact decP_iff.2 rfl | exact decide_eq_true rfl | decide)] | rw [Tr.run_f (by first | (simp only [Bool.and_eq_false_iff, Bool.not_eq_false', decide_eq_true_eq, decide_eq_false_iff_not]; omega) | exact d1 | exact d2 | exact congrArg (!·) (decide_eq_true rfl) | decide)]
      rw [Tr.run_ok]
      rfl
    · match i, hi with
      | 0, hi => obtain rfl := Option.some.inj hi; exact ⟨rfl, ky_le (by omega) _ _⟩
      | 1, hi => obtain rfl := Option.some.inj hi; exact ⟨rfl, ky_le (by omega) _ _⟩
      | 2, hi => obtain rfl := Option.some.inj hi; exact ⟨rfl, ky_le (by omega) _ _⟩
      | 3, hi => obtain rfl := Option.some.inj hi; exact ⟨rfl, ky_le (by omega) _ _⟩
      | i + 4, hi => cases hi
  · refine (evF_pc (r := .tup [.fr 2 (.vals [kyPV 900 a (at17 A.n n tk qs a), kyPV (w + 65) (tk (s + 0)) (at17 A.n n tk qs (tk (s + 0))), kyPV (w + 65) (tk (s + 1)) (at17 A.n n tk qs (tk (s + 1))), kyPV (w + 65) (tk (s + 2)) (at17 A.n n tk qs (tk (s + 2))), kyPV 900 b (at17 A.n n tk qs b)]), .i .i64 0]) hG oc mix enterCt (pol := polCt) (L := [(8, lCt w n tk qs a b (at17 A.n n tk qs) (fun i => tk (s + i)) (fun i => at17 A.n n tk qs (tk (s + i))) 3)]) (lps1 (b := bCt) (live := [1, 2, 3, 11, 37, 38, 39]) (m := 0) (by kernel_rfl) (by kernel_rfl) (by kernel_rfl) (lcst_ok g)) ?_).le (frs_le0 2 5 _ _ rfl (fun i v hi => ?_)) (.refl _)
    · refine (eCt3 A w n tk qs a b (at17 A.n n tk qs) (fun i => tk (s + i)) (fun i => at17 A.n n tk qs (tk (s + i)))).trans ?_
      simp only [List.drop_zero, List.take_length, List.length_cons, List.length_nil]
      repeat first | rw [Tr.run_t (by first | (simp only [Bool.and_eq_true, Bool.or_eq_true, decide_eq_true_eq, Nat.ble_eq, Nat.blt_eq, List.length_cons, List.length_nil, Bool.not_eq_true', decide_eq_false_iff_not]; omega) | exact d1 | exact d2 | exact decP_iff.2 ⟨rfl, trivial⟩ | exact decP_iff.2 rfl | exact decide_eq_true rfl | decide)] | rw [Tr.run_f (by first | (simp only [Bool.and_eq_false_iff, Bool.not_eq_false', decide_eq_true_eq, decide_eq_false_iff_not]; omega) | exact d1 | exact d2 | exact congrArg (!·) (decide_eq_true rfl) | decide)]
      rw [Tr.run_ok]
      rfl
    · match i, hi with
      | 0, hi => obtain rfl := Option.some.inj hi; exact ⟨rfl, ky_le (by omega) _ _⟩
      | 1, hi => obtain rfl := Option.some.inj hi; exact ⟨rfl, ky_le (by omega) _ _⟩
      | 2, hi => obtain rfl := Option.some.inj hi; exact ⟨rfl, ky_le (by omega) _ _⟩
      | 3, hi => obtain rfl := Option.some.inj hi; exact ⟨rfl, ky_le (by omega) _ _⟩
      | 4, hi => obtain rfl := Option.some.inj hi; exact ⟨rfl, ky_le (by omega) _ _⟩
      | i + 5, hi => cases hi
  · refine (evF_pc (r := .tup [.fr 2 (.vals [kyPV 900 a (at17 A.n n tk qs a), kyPV (w + 65) (tk (s + 0)) (at17 A.n n tk qs (tk (s + 0))), kyPV (w + 65) (tk (s + 1)) (at17 A.n n tk qs (tk (s + 1))), kyPV (w + 65) (tk (s + 2)) (at17 A.n n tk qs (tk (s + 2))), kyPV (w + 65) (tk (s + 3)) (at17 A.n n tk qs (tk (s + 3))), kyPV 900 b (at17 A.n n tk qs b)]), .i .i64 0]) hG oc mix enterCt (pol := polCt) (L := [(8, lCt w n tk qs a b (at17 A.n n tk qs) (fun i => tk (s + i)) (fun i => at17 A.n n tk qs (tk (s + i))) 4)]) (lps1 (b := bCt) (live := [1, 2, 3, 11, 37, 38, 39]) (m := 0) (by kernel_rfl) (by kernel_rfl) (by kernel_rfl) (lcst_ok g)) ?_).le (frs_le0 2 6 _ _ rfl (fun i v hi => ?_)) (.refl _)
    · refine (eCt4 A w n tk qs a b (at17 A.n n tk qs) (fun i => tk (s + i)) (fun i => at17 A.n n tk qs (tk (s + i)))).trans ?_
      simp only [List.drop_zero, List.take_length, List.length_cons, List.length_nil]
      repeat first | rw [Tr.run_t (by first | (simp only [Bool.and_eq_true, Bool.or_eq_true, decide_eq_true_eq, Nat.ble_eq, Nat.blt_eq, List.length_cons, List.length_nil, Bool.not_eq_true', decide_eq_false_iff_not]; omega) | exact d1 | exact d2 | exact decP_iff.2 ⟨rfl, trivial⟩ | exact decP_iff.2 rfl | exact decide_eq_true rfl | decide)] | rw [Tr.run_f (by first | (simp only [Bool.and_eq_false_iff, Bool.not_eq_false', decide_eq_true_eq, decide_eq_false_iff_not]; omega) | exact d1 | exact d2 | exact congrArg (!·) (decide_eq_true rfl) | decide)]
      rw [Tr.run_ok]
      rfl
    · match i, hi with
      | 0, hi => obtain rfl := Option.some.inj hi; exact ⟨rfl, ky_le (by omega) _ _⟩
      | 1, hi => obtain rfl := Option.some.inj hi; exact ⟨rfl, ky_le (by omega) _ _⟩
      | 2, hi => obtain rfl := Option.some.inj hi; exact ⟨rfl, ky_le (by omega) _ _⟩
      | 3, hi => obtain rfl := Option.some.inj hi; exact ⟨rfl, ky_le (by omega) _ _⟩
      | 4, hi => obtain rfl := Option.some.inj hi; exact ⟨rfl, ky_le (by omega) _ _⟩
      | 5, hi => obtain rfl := Option.some.inj hi; exact ⟨rfl, ky_le (by omega) _ _⟩
      | i + 6, hi => cases hi
theorem ctT_rng {n : Nat} {tk : Nat → Int} {a b : Int} {s p : Nat} (ab : a < b) (hs : ∀ i, i < n → (tk i ≤ a ↔ i < s)) (he : ∀ i, i < n → (tk i ≤ b - 1 ↔ i < s + p)) (hsp : s + p ≤ n) (j : Nat) : a ≤ ctT a b s p tk j ∧ ctT a b s p tk j ≤ b := by
  unfold ctT
  by_cases h0 : j = 0
  · rw [if_pos h0]; omega
  · rw [if_neg h0]
    by_cases h1 : j ≤ p
    · rw [if_pos h1]
      have f1 := hs (s + (j - 1)) (by omega)
      have f2 := he (s + (j - 1)) (by omega)
      omega
    · rw [if_neg h1]; omega
theorem ctT_inc {n : Nat} {tk : Nat → Int} {a b : Int} {s p : Nat} (ab : a < b) (hi : ∀ j, j + 1 < n → tk j < tk (j + 1)) (hs : ∀ i, i < n → (tk i ≤ a ↔ i < s)) (he : ∀ i, i < n → (tk i ≤ b - 1 ↔ i < s + p)) (hsp : s + p ≤ n) (j : Nat) (hj : j + 1 < p + 2) : ctT a b s p tk j < ctT a b s p tk (j + 1) := by
  unfold ctT
  rw [if_neg (show ¬ j + 1 = 0 by omega), Nat.add_sub_cancel]
  by_cases h0 : j = 0
  · rw [if_pos h0]
    by_cases h1 : j + 1 ≤ p
    · rw [if_pos h1]
      have f1 := hs (s + j) (by omega)
      omega
    · rw [if_neg h1]; exact ab
  · rw [if_neg h0, if_pos (show j ≤ p by omega)]
    by_cases h1 : j + 1 ≤ p
    · rw [if_pos h1]
      have := hi (s + (j - 1)) (by omega)
      rw [show s + (j - 1) + 1 = s + j by omega] at this
      exact this
    · rw [if_neg h1]
      have f2 := he (s + (j - 1)) (by omega)
      omega
theorem ctTrC {A : Am} {n : Nat} {tk : Nat → Int} {qs : Nat → List Rat} (h : TrC A.n n tk qs) {a b : Int} (a0 : 0 ≤ a) (ab : a < b) (b2 : b ≤ 2000) {s p : Nat} (hs : ∀ i, i < n → (tk i ≤ a ↔ i < s)) (he : ∀ i, i < n → (tk i ≤ b - 1 ↔ i < s + p)) (hsp : s + p ≤ n) (p4 : p ≤ 4) :
    TrC A.n (p + 2) (ctT a b s p tk) (fun j => at17 A.n n tk qs (ctT a b s p tk j)) :=
  ⟨by omega, by omega, h.m1, h.m3, fun j _ => at_len h _, fun j _ => by have := ctT_rng ab hs he hsp j; omega, fun j hj => ctT_inc ab h.inc hs he hsp j hj⟩
theorem ct_same {A : Am} {n : Nat} {tk : Nat → Int} {qs : Nat → List Rat} (h : TrC A.n n tk qs) {a b : Int} (a0 : 0 ≤ a) (ab : a < b) (b2 : b ≤ 2000) {s p : Nat} (hs : ∀ i, i < n → (tk i ≤ a ↔ i < s)) (he : ∀ i, i < n → (tk i ≤ b - 1 ↔ i < s + p)) (hsp : s + p ≤ n) (p4 : p ≤ 4) {t : Int} (h1 : a ≤ t) (h2 : t ≤ b) :
    at17 A.n (p + 2) (ctT a b s p tk) (fun j => at17 A.n n tk qs (ctT a b s p tk j)) t = at17 A.n n tk qs t := by
  refine at_same h (ctTrC h a0 ab b2 hs he hsp p4) (fun _ _ => rfl) (fun i hi j hj => ?_) (show a ≤ t from h1) (by
    have e : ctT a b s p tk (p + 2 - 1) = b := by unfold ctT; rw [if_neg (by omega), if_neg (by omega)]
    rw [e]; exact h2)
  have g1 := ctT_rng ab hs he hsp i
  have g2 := ctT_rng ab hs he hsp (i + 1)
  have f1 := hs j hj
  have f2 := he j hj
  rcases Nat.lt_or_ge j s with k1 | k1
  · left; omega
  · rcases Nat.lt_or_ge j (s + p) with k2 | k2
    · have e : ctT a b s p tk (j - s + 1) = tk j := by
        unfold ctT
        rw [if_neg (by omega), if_pos (by omega), show s + (j - s + 1 - 1) = j by omega]
      rcases Nat.lt_or_ge i (j - s + 1) with k3 | k3
      · right
        have := inc_le (N := p + 2) (f := ctT a b s p tk) (fun j hj => ctT_inc ab h.inc hs he hsp j hj) (show i + 1 ≤ j - s + 1 by omega) (by omega)
        omega
      · left
        have := inc_le (N := p + 2) (f := ctT a b s p tk) (fun j hj => ctT_inc ab h.inc hs he hsp j hj) (show j - s + 1 ≤ i by omega) (by omega)
        omega
    · right; omega
theorem ct_ck {A : Am} {n : Nat} {tk : Nat → Int} {qs : Nat → List Rat} (h : TrC A.n n tk qs) {a b : Int} (a0 : 0 ≤ a) (ab : a < b) (b2 : b ≤ 2000) {s p : Nat} (hs : ∀ i, i < n → (tk i ≤ a ↔ i < s)) (he : ∀ i, i < n → (tk i ≤ b - 1 ↔ i < s + p)) (hsp : s + p ≤ n) (hf : ∀ j, j < n → fitB A (qs j) = true) (hsl : ∀ j, j + 1 < n → slowB A (tk (j + 1) - tk j) (qs j) (qs (j + 1)) = true) (hsp0 : ∀ j, j < A.n → 0 ≤ (A.lk j).spd) :
    ckR A (p + 2) (ctT a b s p tk) (fun j => at17 A.n n tk qs (ctT a b s p tk j)) = 0 :=
  ckR_0 (ck_all (fun j _ => by have := ctT_rng ab hs he hsp j; exact ⟨by omega, by omega, at_fit h hf _⟩) (fun j hj => by
    have := ctT_inc ab h.inc hs he hsp j hj
    exact ⟨this, at_slow h hsl hsp0 _ _ (by omega)⟩))
end Go.Proofs.YtgaokohhkdeomaaDoor.PE
namespace Go.Proofs.YtgaokohhkdeomaaDoor.PE
open Go
set_option maxRecDepth 100000
variable {G : World → (Nat → Prop) → Prop} (hG : GOk G)
theorem enterTC : Enters Tryd.prog 9 Tryd.f9 (bodyC Tryd.f9) := ⟨Tryd.func9, by kernel_rfl, rfl⟩
noncomputable def OTC (l m : PV) (A : Am) (n : Nat) (tk : Nat → Int) (qs : Nat → List Rat) (a b : Int) (k : Nat) (f : Nat → PV) : Orc :=
  [(17, cst [] True (.bl true)), (18, cst [.w l] True (armFr A)), (19, cst [armPV A, .w m] True (.fr 2 (.fn n (fun k => kyPV 64 (tk k) (qs k))))), (20, vAtG A.n), (22, vEq), (30, s24), (36, vCk A), (52, cst [armPV A, trC 64 n tk qs, .i .i64 a, .i .i64 b] True (.tup [.fr 2 (.fn k f), .i .i64 0]))]
theorem eTC (l m : PV) (x y z : Int) (A : Am) (n : Nat) (tk : Nat → Int) (qs : Nat → List Rat) (a b : Int) (k : Nat) (f : Nat → PV) : (evF Tryd.prog (OTC l m A n tk qs a b k f) [] {} Tryd.f9 [.w l, .w m, .i .i64 x, .i .i64 y, .i .i64 z] [] retK).run =
  (Tr.br (decP (isA [] True [])) (.br (decP (isA [l.w] True [l.w])) (.br (((0 : Nat) + A.n).ble A.n) (.br (decP (isA [armPV A, m.w] True [armPV A, m.w])) (.br (((0 : Nat) + n).ble n) (.br (ib (x % (200 : Int) + (1 : Int))) (.br (ib (x % (200 : Int) + (1 : Int) + y % (200 : Int))) (.br (decP (isA [armPV A, trC 64 n tk qs, .i .i64 a, .i .i64 b] True [armPV A, trC 64 n tk qs, .i .i64 (x % (200 : Int)), .i .i64 (x % (200 : Int) + (1 : Int) + y % (200 : Int))])) (.br (((0 : Nat) + k).ble k) (.br (ib (x % (200 : Int) + (1 : Int) + y % (200 : Int) - x % (200 : Int))) (.br (ib (x % (200 : Int) + (1 : Int) + y % (200 : Int) - x % (200 : Int) + (1 : Int))) (.br (decide ((0 : Int) < x % (200 : Int) + (1 : Int) + y % (200 : Int) - x % (200 : Int) + (1 : Int)) && decide (x % (200 : Int) + (1 : Int) + y % (200 : Int) - x % (200 : Int) + (1 : Int) ≤ (4294967296 : Int))) (.br (ib (x % (200 : Int) + z % (x % (200 : Int) + (1 : Int) + y % (200 : Int) - x % (200 : Int) + (1 : Int)))) (.br (decP (PCk A (armPV A) k fun (j : Nat) => f (j + (0 : Nat)))) (.br (decide ((ckF A k fun (j : Nat) => f (j + (0 : Nat))) = (0 : Int))) (.br (decP (PtrF A.n (trC 64 n tk qs) (x % (200 : Int) + z % (x % (200 : Int) + (1 : Int) + y % (200 : Int) - x % (200 : Int) + (1 : Int))))) (.br (((0 : Nat) + (trG A.n (trC 64 n tk qs) (x % (200 : Int) + z % (x % (200 : Int) + (1 : Int) + y % (200 : Int) - x % (200 : Int) + (1 : Int)))).length).ble (trG A.n (trC 64 n tk qs) (x % (200 : Int) + z % (x % (200 : Int) + (1 : Int) + y % (200 : Int) - x % (200 : Int) + (1 : Int)))).length) (.br (decP (PtrF A.n (.lst 2 (.fn k fun (j : Nat) => f (j + (0 : Nat)))) (x % (200 : Int) + z % (x % (200 : Int) + (1 : Int) + y % (200 : Int) - x % (200 : Int) + (1 : Int))))) (.br (((0 : Nat) + (trG A.n (.lst 2 (.fn k fun (j : Nat) => f (j + (0 : Nat)))) (x % (200 : Int) + z % (x % (200 : Int) + (1 : Int) + y % (200 : Int) - x % (200 : Int) + (1 : Int)))).length).ble (trG A.n (.lst 2 (.fn k fun (j : Nat) => f (j + (0 : Nat)))) (x % (200 : Int) + z % (x % (200 : Int) + (1 : Int) + y % (200 : Int) - x % (200 : Int) + (1 : Int)))).length) (.br (decP (eqQ (List.take (trG A.n (trC 64 n tk qs) (x % (200 : Int) + z % (x % (200 : Int) + (1 : Int) + y % (200 : Int) - x % (200 : Int) + (1 : Int)))).length (List.drop (0 : Nat) (trG A.n (trC 64 n tk qs) (x % (200 : Int) + z % (x % (200 : Int) + (1 : Int) + y % (200 : Int) - x % (200 : Int) + (1 : Int)))))) (List.take (trG A.n (.lst 2 (.fn k fun (j : Nat) => f (j + (0 : Nat)))) (x % (200 : Int) + z % (x % (200 : Int) + (1 : Int) + y % (200 : Int) - x % (200 : Int) + (1 : Int)))).length (List.drop (0 : Nat) (trG A.n (.lst 2 (.fn k fun (j : Nat) => f (j + (0 : Nat)))) (x % (200 : Int) + z % (x % (200 : Int) + (1 : Int) + y % (200 : Int) - x % (200 : Int) + (1 : Int)))))))) (.ok (.ret (.bl true) [])) (.no 1)) (.no 10004)) (.no 1)) (.no 10007)) (.no 1)) (.ok (.ret (.bl false) []))) (.no 1)) (.no 9002)) (.no 1)) (.no 9004)) (.no 9005)) (.no 8006)) (.no 1)) (.no 7002)) (.no 7005)) (.no 5002)) (.no 1)) (.no 4003)) (.no 1)) (.no 1)).run := by kernel_rfl
include hG in
theorem lawTC (hT : TabG G) (l m : PV) (x y z : Int) (hl : okW l = true) (hm : okW m = true) : PC Tryd.prog G 9 [.w l, .w m, .i .i64 x, .i .i64 y, .i .i64 z] [] (.bl true) [] := by
  have hA := armB_V l
  have hX := limX_V l
  have hL := armL_V l
  have p18 := p18_ok hG l hl
  generalize armD l = A at *
  have p19 := pcTkm hG A hA hX m hm
  have h := tkTrC hA m
  have hc := tk_ck hA hL m
  have hfit : ∀ j, j < tkN m → fitB A (tkQ A m j) = true := fun j _ => tkQ_fit hA m j
  have hsl : ∀ j, j + 1 < tkN m → slowB A (tkK A m (j + 1) - tkK A m j) (tkQ A m j) (tkQ A m (j + 1)) = true := fun j _ => slow_ok hL (tkQ_fit hA m j) (tkQ_fit hA m (j + 1)) (by have := tkK_s A m j; omega)
  have hsp0 : ∀ j, j < A.n → 0 ≤ (A.lk j).spd := fun j _ => by have := (hL j).2.2; grind
  have hn4 := (tkN_range m).2
  have hx := mod_rng x 200 (by omega)
  have hy := mod_rng y 200 (by omega)
  have hz := mod_rng z (x % 200 + 1 + y % 200 - x % 200 + 1) (by omega)
  generalize tkN m = n at *
  generalize tkK A m = tk at *
  generalize tkQ A m = qs at *
  obtain ⟨s, s1, s2⟩ := cut_at tk (x % 200) n h.inc
  obtain ⟨e, e1, e2⟩ := cut_at tk (x % 200 + 1 + y % 200 - 1) n h.inc
  have hse : s ≤ e := by
    rcases Nat.lt_or_ge e s with g | g
    · have a1 := s2 e (by omega)
      have a2 := e2 e (by omega)
      omega
    · exact g
  obtain ⟨p, rfl⟩ : ∃ p, e = s + p := ⟨e - s, by omega⟩
  have p52 := pcCt hG hT A hA 64 (by omega) h hc (x % 200) (x % 200 + 1 + y % 200) (by omega) (by omega) (by omega) s p s2 e2 e1 (by omega)
  have hk := ct_ck h (a := x % 200) (b := x % 200 + 1 + y % 200) (by omega) (by omega) (by omega) s2 e2 e1 hfit hsl hsp0
  have ht := ctTrC h (a := x % 200) (b := x % 200 + 1 + y % 200) (by omega) (by omega) (by omega) s2 e2 e1 (by omega)
  have hs := ct_same h (a := x % 200) (b := x % 200 + 1 + y % 200) (by omega) (by omega) (by omega) s2 e2 e1 (by omega) (t := x % 200 + z % (x % 200 + 1 + y % 200 - x % 200 + 1)) (by omega) (by omega)
  have lk := at_len h (x % 200 + z % (x % 200 + 1 + y % 200 - x % 200 + 1))
  have m3 := h.m3
  refine evF_pc hG (.cons (cst_t (pcTks hG hT)) (.cons (cst_t p18) (.cons (cst_t p19) (.cons (vAtG_ok hG hT A.n) (.cons (vEq_ok hG) (.cons (ok24 hG) (.cons (vCk_ok hG hT A hA) (.cons (cst_t p52) .nil)))))))) mix enterTC (pol := {}) (L := []) (LpsOK.none (by kernel_rfl)) ?_
  refine (eTC l m x y z A n tk qs _ _ _ _).trans ?_
  generalize z % (x % 200 + 1 + y % 200 - x % 200 + 1) = r at *
  generalize x % 200 = a at *
  generalize y % 200 = d at *
  have q1 : decP (PtrF A.n (trC 64 n tk qs) (a + r)) = true := decP_iff.2 ⟨by omega, by omega, 64, n, _, rfl, by omega, fun _ _ => .refl _, h⟩
  have q2 : decP (PtrF A.n (.lst 2 (.fn (p + 2) (fun j => kyPV 900 (ctT a (a + 1 + d) s p tk (j + 0)) (at17 A.n n tk qs (ctT a (a + 1 + d) s p tk (j + 0)))))) (a + r)) = true := decP_iff.2 ⟨by omega, by omega, 900, p + 2, _, rfl, by omega, fun _ _ => .refl _, ht⟩
  have q3 : decP (PCk A (armPV A) (p + 2) (fun j => kyPV 900 (ctT a (a + 1 + d) s p tk (j + 0)) (at17 A.n n tk qs (ctT a (a + 1 + d) s p tk (j + 0))))) = true := decP_iff.2 ⟨rfl, by omega, by omega, 900, by omega, fun j hj => ⟨.refl _, ht.len j hj, ht.rng j hj⟩⟩
  have q4 : decide (ckF A (p + 2) (fun j => kyPV 900 (ctT a (a + 1 + d) s p tk (j + 0)) (at17 A.n n tk qs (ctT a (a + 1 + d) s p tk (j + 0)))) = 0) = true := decide_eq_true hk
  have q5 : decP (eqQ (List.take (trG A.n (trC 64 n tk qs) (a + r)).length (List.drop 0 (trG A.n (trC 64 n tk qs) (a + r)))) (List.take (trG A.n (.lst 2 (.fn (p + 2) (fun j => kyPV 900 (ctT a (a + 1 + d) s p tk (j + 0)) (at17 A.n n tk qs (ctT a (a + 1 + d) s p tk (j + 0)))))) (a + r)).length (List.drop 0 (trG A.n (.lst 2 (.fn (p + 2) (fun j => kyPV 900 (ctT a (a + 1 + d) s p tk (j + 0)) (at17 A.n n tk qs (ctT a (a + 1 + d) s p tk (j + 0)))))) (a + r))))) = true := eqQ_td (by
      rw [trG_C]
      exact hs.symm.trans (trG_C A.n 900 (p + 2) (ctT a (a + 1 + d) s p tk) (fun j => at17 A.n n tk qs (ctT a (a + 1 + d) s p tk j)) (a + r)).symm) (by rw [trG_C, lk]; omega)
  repeat first | rw [Tr.run_t (by first | (simp only [Bool.and_eq_true, Bool.or_eq_true, decide_eq_true_eq, Nat.ble_eq, Nat.blt_eq, List.length_cons, List.length_nil, Bool.not_eq_true', decide_eq_false_iff_not]; omega) | exact q1 | exact q2 | exact q3 | exact q4 | exact q5 | exact decP_iff.2 ⟨rfl, trivial⟩ | exact decP_iff.2 rfl | exact decide_eq_true rfl | decide)] | rw [Tr.run_f (by first | (simp only [Bool.and_eq_false_iff, Bool.not_eq_false', decide_eq_true_eq, decide_eq_false_iff_not]; omega) | exact q1 | exact q2 | exact q3 | exact q4 | exact q5 | exact congrArg (!·) (decide_eq_true rfl) | decide)]
  rw [Tr.run_ok]
end Go.Proofs.YtgaokohhkdeomaaDoor.PE
namespace Go.Proofs.YtgaokohhkdeomaaDoor.PE
open Go
theorem calls_of_does {P : Program} {g : Nat} {fn : Func} {c : Code} (hg : Enters P g fn c) {vs : Array Value} {w : World} {R : Value → World → Prop} (h : Does P g vs w R) : Calls P g vs w fun e w' => ∃ v, e = .returned v ∧ R v w' := by
  have h1 := h { dst := some 0, op := .move (.const undef), type := 0, pos := "", after := #[], guard := none } ⟨#[undef], []⟩ (fun a w' => ∃ v, a.tmps[0]? = some v ∧ R v w') (fun _ _ _ => False) (fun v w' hv => ⟨v, by simp [Act.put], hv⟩)
  have : (callFunc g vs).run P w = .ok (.enter g vs) w := by
    have hname : fn.name ≠ "runtime.NumGoroutine" := by simpa using hg.name
    simp [callFunc, hg.at_, hname, hg.body]
  rw [this, Oper.upon_enter] at h1
  refine h1.mono fun e w' he => ?_
  cases e with
  | returned v =>
    obtain ⟨v', hv, hr⟩ := he
    simp [Act.put] at hv
    subst hv
    exact ⟨v, rfl, hr⟩
  | panicked chain => exact absurd he (by simp)
  | outgrown => exact absurd he (by simp [LetsOut])
theorem HRel.none (w : World) : HRel w (fun _ => False) noMu (hget (([] : List Blk).map some)) :=
  ⟨fun b k h => by simp [hget] at h, fun b k a z h => by simp [hget] at h, fun b b' k k' a z z' h => by simp [hget] at h, fun a h => h.elim⟩
theorem keptBut_of_old {w w' : World} (h1 : w'.os = w.os) (h2 : w'.output = w.output) (h3 : ∀ n, n < w.heap.size → w'.heap[n]? = w.heap[n]?) (may : MemPlace → Prop) : w.keptBut w' may := by
  refine ⟨h1, h2, fun i hi => ?_⟩
  rw [h3 i hi]
  split
  · rename_i e1 e2
    rw [e1] at e2
    cases e2
    exact ⟨rfl, rfl, rfl, fun _ _ => rfl⟩
  · rename_i e1 e2
    rw [e1] at e2
    cases e2
    exact .inr ⟨rfl, rfl⟩
  · rfl
end Go.Proofs.YtgaokohhkdeomaaDoor.PE
namespace Go.Proofs.YtgaokohhkdeomaaDoor.PE
open Go Go.ChangeShapes Go.WideShapes
set_option maxRecDepth 100000
def blkOf : Value → Nat → Prop
  | .slice (some a) _ _, b => b = a.block
  | _, _ => False
section
variable {H : Type} {enc : TypeId × Value → H} {P : Program} {w : World} {t e : TypeId} {base : Nat} {v : Value} {d : DataW H} {p : List MemPlace}
theorem arg_ints (ht : P.underlying t = some (.slice e)) (he : P.underlying e = some (.int .i64)) (hc : P.cellsOf e = 1)
    (hval : Value.okWide P w .any base t v) (h : DataW.Trod enc P w 0 (fun _ => true) true t v d p) :
    ∃ u : PV, okW u = true ∧ (∀ n ∈ intsW u, -9223372036854775808 ≤ n ∧ n ≤ 9223372036854775807) ∧ (∀ b, blkOf v b → b < w.heap.size) ∧ (∀ S : Nat → Prop, (∀ b, blkOf v b → S b) → RepV w S noMu (.w u) v) ∧
      (∀ w' : World, (∀ n, n < w.heap.size → w'.heap[n]? = w.heap[n]?) → ∃ p', DataW.Trod enc P w' 0 (fun b => decide (b < w.heap.size)) true t v d p') ∧
      ((intsW u = [] ∧ d = .nil) ∨ ∃ sp, d = .slice (lits .i64 (intsW u)) sp) := by
  have hval' := hval
  obtain ⟨a0, len, cap, rfl⟩ := okWide_slice ht hval
  obtain ⟨fuel, hf⟩ := h
  rcases open_ints ht he hc hf with ⟨hcs, hx⟩ | ⟨a, len', cap', zs, hcs, _, hl, hm, hz, hx, hcell, hwz⟩
  · simp [Value.cells] at hcs
    obtain ⟨rfl, rfl, rfl⟩ := hcs
    simp only [Prod.mk.injEq] at hx
    obtain ⟨rfl, rfl⟩ := hx
    refine ⟨.nil, rfl, fun n hn => (nomatch hn), fun b hb => hb.elim, fun S _ => .cell _ _ _ rfl (.w _ _ _ (.nil _)), fun w' _ => ⟨[], RowKit.shut_slice_nil ht⟩, .inl ⟨rfl, rfl⟩⟩
  · simp [Value.cells] at hcs
    obtain ⟨rfl, rfl, rfl⟩ := hcs
    simp only [Prod.mk.injEq] at hx
    obtain ⟨rfl, rfl⟩ := hx
    simp only [if_true] at hz
    unfold Value.okWide at hval'
    rw [ht] at hval'
    simp only [Cell.okWide, Cell.ok, ht] at hval'
    obtain ⟨_, _, _, hsp, row, cells, hsh, _⟩ := hval'
    obtain ⟨b, off, spot⟩ := a
    simp only at hsp
    subst hsp
    have hb : b < w.heap.size := by
      unfold World.shape? at hsh
      split at hsh
      · rename_i hh; exact (Array.getElem?_eq_some_iff.1 hh).1
      · cases hsh
    have hcell' : ∀ j, j < zs.length → w.cell? ⟨b, off + j, none⟩ = some (.int .i64 (zs.getD j 0)) := fun j hj => by rw [← add_plain]; exact hcell j hj
    have hlen : (zs.take len).length = len := by rw [List.length_take]; omega
    refine ⟨.lst 1 (.ints .i64 (zs.take len)), rfl, fun n hn => bounds_i64 (hwz n (List.mem_of_mem_take hn)), fun c hc => (by rw [show c = b from hc]; exact hb), fun S hS => ?_, fun w' hw' => ?_, .inr ⟨_, rfl⟩⟩
    · refine .cell _ _ _ rfl (.w _ _ _ ?_)
      have := RepC.lst (w := w) (S := S) noMu 1 (.ints .i64 (zs.take len)) b off cap (fun j => [.int .i64 ((zs.take len).getD j 0)]) (by show (zs.take len).length ≤ cap; omega) (hS b rfl)
        (fun i hi => .i _ _ _) (fun _ _ => rfl) (fun i j hi hj => by
          have hi' : i < len := by rw [← hlen]; exact hi
          obtain rfl : j = 0 := by omega
          show w.cell? ⟨b, off + (i * 1 + 0), none⟩ = _
          rw [Nat.mul_one, Nat.add_zero, hcell' i (by omega)]
          simp [List.getD_eq_getElem?_getD, hi'])
      rw [show (Cont.ints .i64 (zs.take len)).len = len from hlen] at this
      exact this
    · have hd : decide (b < w.heap.size) = true := decide_eq_true hb
      exact ⟨_, 2, shut_ints' (enc := enc) (w := w') (base := 0) (spare := fun b => decide (b < w.heap.size)) (held := true) (len := len) (cap := cap) (zs := zs) 0 ht he hc
        (Nat.zero_le b) hl hm (by simp only [hd, if_true]; exact hz) (fun i hi => by rw [cell_block (hw' b hb)]; exact hcell' i hi) hwz⟩
end
end Go.Proofs.YtgaokohhkdeomaaDoor.PE
namespace Go.Proofs.YtgaokohhkdeomaaDoor.PE
open Go
set_option maxRecDepth 100000
theorem calls_trueG {P : Program} {G : World → (Nat → Prop) → Prop} {g : Nat} {fn : Func} {c : Code} (hg : Enters P g fn c) {args : List PV} (h : PC P G g args [] (.bl true) []) {w : World} {S : Nat → Prop} {vs : List Value} (hw : G w S) (hS : ∀ a, S a → a < w.heap.size)
    (hv : RepVL w S noMu args vs) (may : MemPlace → Prop) :
    Calls P g vs.toArray w fun e w' => e = .returned (.bool true) ∧ w.keptBut w' may ∧ ∀ n, n < w.heap.size → w'.heap[n]? = w.heap[n]? := by
  refine (calls_of_does hg (h w S noMu vs hw hv ⟨fun b k h => by simp [hget] at h, fun b k a z h => by simp [hget] at h, fun b b' k k' a z z' h => by simp [hget] at h, hS⟩ (fun _ _ => rfl))).mono fun e w' he => ?_
  obtain ⟨v, rfl, S', μ', c⟩ := he
  have hr := c.rep
  have : v = .bool true := by
    cases hr with
    | cell _ _ _ _ h => cases h; rfl
    | agg _ _ _ hv h => simp [isAgg, unfr, unfrA, unfr1] at hv
  subst this
  have old : ∀ n, n < w.heap.size → w'.heap[n]? = w.heap[n]? := fun n hn => c.old n hn (fun b z hb => by simp at hb)
  exact ⟨rfl, keptBut_of_old c.os c.output old may, old⟩
def TG (w : World) (S : Nat → Prop) : Prop := S 1 ∧ Go.Proofs.TabAt 1 Go.Lib.deBruijn64tab w
theorem tg_ok : GOk TG := fun _ _ _ _ m h => ⟨m.sub 1 h.1, fun j hj => (m.cell 1 h.1 j).trans (h.2 j hj)⟩
theorem tg_tab : TabG TG := fun _ _ h => h.2
theorem tab_block {w : World} (h : Go.Proofs.TabAt 1 Go.Lib.deBruijn64tab w) : 1 < w.heap.size := by
  have h0 := h 0 (by decide)
  rcases Nat.lt_or_ge 1 w.heap.size with h1 | h1
  · exact h1
  · unfold World.cell? at h0
    rw [show w.heap[(⟨1, 0, none⟩ : Addr).block]? = none from Array.getElem?_eq_none h1] at h0
    cases h0
theorem tab_of_laid {laid : List (String × DataW Unit)} {W : World} (hl : laid = [("math/bits.deBruijn64tab", Go.Lib.tabData .u8 (Go.Lib.deBruijn64tab.map fun n : Nat => (n : Int)))]) (h : laidMetH Tryd.prog laid W) : Go.Proofs.TabAt 1 Go.Lib.deBruijn64tab W := by
  subst hl
  have h1 : laidMet Tryd.prog [("math/bits.deBruijn64tab", Go.Lib.tabData .u8 (Go.Lib.deBruijn64tab.map fun n : Nat => (n : Int)))] W := h
  have h2 := Go.Lib.tabIs_of_head (g := 1) (t := 203) (e := 5) (n := 64) (by kernel_rfl) (by kernel_rfl) (by kernel_rfl) (by kernel_rfl) (by kernel_rfl) (by kernel_rfl) h1
  intro j hj
  have h3 := h2.cell (g := 1) (by kernel_rfl) j (by rw [List.length_map]; exact hj)
  rw [h3, List.getD_eq_getElem?_getD, List.getD_eq_getElem?_getD, List.getElem?_map, List.getElem?_eq_getElem hj]
  rfl
end Go.Proofs.YtgaokohhkdeomaaDoor.PE
