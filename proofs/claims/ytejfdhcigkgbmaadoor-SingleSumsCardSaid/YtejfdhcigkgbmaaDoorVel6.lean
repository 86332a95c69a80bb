/-
  Part 6 of the proof: contracts of the program's functions. Conditions: those of the theorems below.
-/
import Derived.Test.YtejfdhcigkgbmaaDoorVel5
import Derived.Test.YtejfdhcigkgbmaaDoorVel2
import Derived.RowKit3
import GoSem.ClaimChange
import Derived.ChangeSlices
import Derived.WideShapes
import Derived.OpenShut
import Derived.Test.YtejfdhcigkgbmaaDoorVel3
import Derived.Lib.LaidTab
set_option linter.all false
namespace Go.Proofs.YtejfdhcigkgbmaaDoor.PE
open Go
set_option maxRecDepth 100000
variable {G : World → (Nat → Prop) → Prop} (hG : GOk G)
theorem enter103 : Enters Tryd.prog 103 Tryd.f103 (bodyC Tryd.f103) := ⟨Tryd.func103, by kernel_rfl, rfl⟩
noncomputable def O103 : Orc := [(21, g21), (43, g43), (71, g71), (72, g72)]
theorem k103 (t v : Rat) (n m : Nat) : evF Tryd.prog O103 [] {} Tryd.f103 [.q t n, .q v m] [] retK =
  Tr.br (decide ((-72057594037927936 : Int) < (2 : Int)) && decide ((2 : Int) ≤ 9223372036854775807)) (.br (((Int.natAbs (2 : Int)).log2 + (1 : Nat) + m).ble 800000) (.br (decide ((-72057594037927936 : Int) < (1 : Int)) && decide ((1 : Int) ≤ 9223372036854775807)) (.br ((n + n).ble 800000) (.br (((Int.natAbs (1 : Int)).log2 + (1 : Nat) + (n + n) + (1 : Nat)).ble 800000) (.br (((Int.natAbs (2 : Int)).log2 + (1 : Nat) + m + ((Int.natAbs (1 : Int)).log2 + (1 : Nat) + (n + n) + (1 : Nat))).ble 800000) (.br (decide ((↑(1 : Int) : Rat) + t * t = (0 : Rat))) (.ok (.ret (PV.agg [PV.bl false, PV.s (ByteArray.mk #[]), PV.s (ByteArray.mk #[])]) [])) (.ok (.ret (PV.q ((↑(2 : Int) : Rat) * v / ((↑(1 : Int) : Rat) + t * t)) ((Int.natAbs (2 : Int)).log2 + (1 : Nat) + m + ((Int.natAbs (1 : Int)).log2 + (1 : Nat) + (n + n) + (1 : Nat)))) []))) (.no 1)) (.no 1)) (.no 1)) (.no 1)) (.no 1)) (.no 1) := by kernel_rfl
noncomputable def rtQ (t v : Rat) : Rat := hide (2 * v / (1 + t * t))
noncomputable def g103 : Spec := fun args hs K => match args, hs with
  | [.q t n, .q v m], [] => .br (Nat.ble (m + 2 * n + 4) 400000) (K (.q (rtQ t v) (m + 2 * n + 4)) []) (.no 1)
  | _, _ => .no 1
noncomputable def b102 : Code := (loopsOf (bodyC Tryd.f102)).getD 0 .skip
def pol102 : Pol := { live := [(7, [8, 9, 33, 34, 35])] }
theorem enter102 : Enters Tryd.prog 102 Tryd.f102 (bodyC Tryd.f102) := ⟨Tryd.func102, by kernel_rfl, rfl⟩
noncomputable def R102 : Orc := [(41, g41), (83, g83)]
noncomputable def O102 (A : Am) (qs : List Rat) (ff : Nat → Fr) (n : Nat) : Orc := [(39, cst [armPV A, .lst 3 (.rats 64 qs)] True (.tup [.fr 10 (.fn (n + 1) (fun i => frP (ff i) 20000 1500)), .i .i64 0])), (41, g41), (83, g83)]
noncomputable def l102 : LSpec := unr Tryd.prog R102 [] pol102 Tryd.f102.ntmps 0 [8, 9, 33, 34, 35] b102 4
theorem e102 (A : Am) (qs : List Rat) (ff : Nat → Fr) (n : Nat) : evF Tryd.prog (O102 A qs ff n) [(7, l102)] pol102 Tryd.f102 [armPV A, .lst 3 (.rats 64 qs)] [] retK =
  Tr.br (decP (isA [PV.agg [PV.s A.name, PV.agg [PV.agg [PV.q A.bx 64, PV.q A.by_ 64], PV.agg [PV.bl false, PV.q A.t 64]], PV.lst 16 (.fn A.n fun (j : Nat) => PV.agg [PV.q (A.lk j).len 64, PV.q (A.lk j).low 64, PV.q (A.lk j).high 64, PV.q (A.lk j).spd 64, PV.q (A.lk j).brk 64, PV.lst 6 (.fn (A.lk j).np fun (a : Nat) => PV.agg [PV.q ((A.lk j).px a) 64, PV.q ((A.lk j).py a) 64])])], PV.lst 3 (.rats 64 qs)] True [PV.agg [PV.s A.name, PV.agg [PV.agg [PV.q A.bx 64, PV.q A.by_ 64], PV.agg [PV.bl false, PV.q A.t 64]], PV.lst 16 (.fn A.n fun (j : Nat) => PV.agg [PV.q (A.lk j).len 64, PV.q (A.lk j).low 64, PV.q (A.lk j).high 64, PV.q (A.lk j).spd 64, PV.q (A.lk j).brk 64, PV.lst 6 (.fn (A.lk j).np fun (a : Nat) => PV.agg [PV.q ((A.lk j).px a) 64, PV.q ((A.lk j).py a) 64])])], PV.lst 3 (.rats 64 qs)])) (.br (((0 : Nat) + (n + (1 : Nat))).ble (n + (1 : Nat))) (.br (!decide ((0 : Int) = (0 : Int))) (.ok (.ret (PV.tup [PV.nil, PV.i .i64 (0 : Int)]) [])) (.br (decide ((-9223372036854775808) ≤ (↑(n + (1 : Nat)) : Int) - (1 : Int)) && decide ((↑(n + (1 : Nat)) : Int) - (1 : Int) ≤ 9223372036854775807)) (.br (decide ((0 : Int) ≤ (↑(n + (1 : Nat)) : Int) - (1 : Int)) && decide ((↑(n + (1 : Nat)) : Int) - (1 : Int) < (↑(n + (1 : Nat)) : Int))) (.br (decide ((-9223372036854775808) ≤ (↑(n + (1 : Nat)) : Int) - (1 : Int)) && decide ((↑(n + (1 : Nat)) : Int) - (1 : Int) ≤ 9223372036854775807)) (.br (decide ((0 : Int) ≤ (↑(n + (1 : Nat)) : Int) - (1 : Int)) && decide ((↑(n + (1 : Nat)) : Int) - (1 : Int) ≤ (↑(n + (1 : Nat)) : Int))) (.br (decide ((0 : Int) < (↑(((↑(n + (1 : Nat)) : Int) - (1 : Int)).toNat - (0 : Nat)) : Int))) (.br (decide ((0 : Int) ≤ (0 : Int)) && decide ((0 : Int) < (↑(((↑(n + (1 : Nat)) : Int) - (1 : Int)).toNat - (0 : Nat)) : Int))) (.br (((20000 : Nat) + (20000 : Nat) + (1 : Nat)).ble 800000) (.br (((20000 : Nat) + (20000 : Nat) + (1 : Nat)).ble 800000) (.br (((20000 : Nat) + (20000 : Nat) + (1 : Nat)).ble 800000) (.br (Nat.blt (0 : Nat) [PV.agg [PV.q (-((ff (((↑(n + (1 : Nat)) : Int) - (1 : Int)).toNat + (0 : Nat))).y - (ff (Int.toNat 0 + (0 : Nat) + (0 : Nat))).y)) 40001, PV.q ((ff (((↑(n + (1 : Nat)) : Int) - (1 : Int)).toNat + (0 : Nat))).x - (ff (Int.toNat 0 + (0 : Nat) + (0 : Nat))).x) 40001]].length && [PV.agg [PV.q (-((ff (((↑(n + (1 : Nat)) : Int) - (1 : Int)).toNat + (0 : Nat))).y - (ff (Int.toNat 0 + (0 : Nat) + (0 : Nat))).y)) 40001, PV.q ((ff (((↑(n + (1 : Nat)) : Int) - (1 : Int)).toNat + (0 : Nat))).x - (ff (Int.toNat 0 + (0 : Nat) + (0 : Nat))).x) 40001]].length.ble 4294967296) (.br (decide ((-9223372036854775808) ≤ (0 : Int) + (1 : Int)) && decide ((0 : Int) + (1 : Int) ≤ 9223372036854775807)) (.br (decide ((0 : Int) + (1 : Int) < (↑(((↑(n + (1 : Nat)) : Int) - (1 : Int)).toNat - (0 : Nat)) : Int))) (.br (decide ((0 : Int) ≤ (0 : Int) + (1 : Int)) && decide ((0 : Int) + (1 : Int) < (↑(((↑(n + (1 : Nat)) : Int) - (1 : Int)).toNat - (0 : Nat)) : Int))) (.br (((20000 : Nat) + (20000 : Nat) + (1 : Nat)).ble 800000) (.br (((20000 : Nat) + (20000 : Nat) + (1 : Nat)).ble 800000) (.br (((20000 : Nat) + (20000 : Nat) + (1 : Nat)).ble 800000) (.br (([PV.agg [PV.q (-((ff (((↑(n + (1 : Nat)) : Int) - (1 : Int)).toNat + (0 : Nat))).y - (ff (Int.toNat 0 + (0 : Nat) + (0 : Nat))).y)) 40001, PV.q ((ff (((↑(n + (1 : Nat)) : Int) - (1 : Int)).toNat + (0 : Nat))).x - (ff (Int.toNat 0 + (0 : Nat) + (0 : Nat))).x) 40001]].length + [PV.agg [PV.q (-((ff (((↑(n + (1 : Nat)) : Int) - (1 : Int)).toNat + (0 : Nat))).y - (ff (((0 : Int) + (1 : Int)).toNat + (0 : Nat) + (0 : Nat))).y)) 40001, PV.q ((ff (((↑(n + (1 : Nat)) : Int) - (1 : Int)).toNat + (0 : Nat))).x - (ff (((0 : Int) + (1 : Int)).toNat + (0 : Nat) + (0 : Nat))).x) 40001]].length).ble 4294967296) (.br (decide ((-9223372036854775808) ≤ (0 : Int) + (1 : Int) + (1 : Int)) && decide ((0 : Int) + (1 : Int) + (1 : Int) ≤ 9223372036854775807)) (.br (decide ((0 : Int) + (1 : Int) + (1 : Int) < (↑(((↑(n + (1 : Nat)) : Int) - (1 : Int)).toNat - (0 : Nat)) : Int))) (.br (decide ((0 : Int) ≤ (0 : Int) + (1 : Int) + (1 : Int)) && decide ((0 : Int) + (1 : Int) + (1 : Int) < (↑(((↑(n + (1 : Nat)) : Int) - (1 : Int)).toNat - (0 : Nat)) : Int))) (.br (((20000 : Nat) + (20000 : Nat) + (1 : Nat)).ble 800000) (.br (((20000 : Nat) + (20000 : Nat) + (1 : Nat)).ble 800000) (.br (((20000 : Nat) + (20000 : Nat) + (1 : Nat)).ble 800000) (.br (([PV.agg [PV.q (-((ff (((↑(n + (1 : Nat)) : Int) - (1 : Int)).toNat + (0 : Nat))).y - (ff (Int.toNat 0 + (0 : Nat) + (0 : Nat))).y)) 40001, PV.q ((ff (((↑(n + (1 : Nat)) : Int) - (1 : Int)).toNat + (0 : Nat))).x - (ff (Int.toNat 0 + (0 : Nat) + (0 : Nat))).x) 40001]].length + [PV.agg [PV.q (-((ff (((↑(n + (1 : Nat)) : Int) - (1 : Int)).toNat + (0 : Nat))).y - (ff (((0 : Int) + (1 : Int)).toNat + (0 : Nat) + (0 : Nat))).y)) 40001, PV.q ((ff (((↑(n + (1 : Nat)) : Int) - (1 : Int)).toNat + (0 : Nat))).x - (ff (((0 : Int) + (1 : Int)).toNat + (0 : Nat) + (0 : Nat))).x) 40001]].length + [PV.agg [PV.q (-((ff (((↑(n + (1 : Nat)) : Int) - (1 : Int)).toNat + (0 : Nat))).y - (ff (((0 : Int) + (1 : Int) + (1 : Int)).toNat + (0 : Nat) + (0 : Nat))).y)) 40001, PV.q ((ff (((↑(n + (1 : Nat)) : Int) - (1 : Int)).toNat + (0 : Nat))).x - (ff (((0 : Int) + (1 : Int) + (1 : Int)).toNat + (0 : Nat) + (0 : Nat))).x) 40001]].length).ble 4294967296) (.br (decide ((-9223372036854775808) ≤ (0 : Int) + (1 : Int) + (1 : Int) + (1 : Int)) && decide ((0 : Int) + (1 : Int) + (1 : Int) + (1 : Int) ≤ 9223372036854775807)) (.br (decide ((0 : Int) + (1 : Int) + (1 : Int) + (1 : Int) < (↑(((↑(n + (1 : Nat)) : Int) - (1 : Int)).toNat - (0 : Nat)) : Int))) (.br (decide ((0 : Int) ≤ (0 : Int) + (1 : Int) + (1 : Int) + (1 : Int)) && decide ((0 : Int) + (1 : Int) + (1 : Int) + (1 : Int) < (↑(((↑(n + (1 : Nat)) : Int) - (1 : Int)).toNat - (0 : Nat)) : Int))) (.br (((20000 : Nat) + (20000 : Nat) + (1 : Nat)).ble 800000) (.br (((20000 : Nat) + (20000 : Nat) + (1 : Nat)).ble 800000) (.br (((20000 : Nat) + (20000 : Nat) + (1 : Nat)).ble 800000) (.br (([PV.agg [PV.q (-((ff (((↑(n + (1 : Nat)) : Int) - (1 : Int)).toNat + (0 : Nat))).y - (ff (Int.toNat 0 + (0 : Nat) + (0 : Nat))).y)) 40001, PV.q ((ff (((↑(n + (1 : Nat)) : Int) - (1 : Int)).toNat + (0 : Nat))).x - (ff (Int.toNat 0 + (0 : Nat) + (0 : Nat))).x) 40001]].length + [PV.agg [PV.q (-((ff (((↑(n + (1 : Nat)) : Int) - (1 : Int)).toNat + (0 : Nat))).y - (ff (((0 : Int) + (1 : Int)).toNat + (0 : Nat) + (0 : Nat))).y)) 40001, PV.q ((ff (((↑(n + (1 : Nat)) : Int) - (1 : Int)).toNat + (0 : Nat))).x - (ff (((0 : Int) + (1 : Int)).toNat + (0 : Nat) + (0 : Nat))).x) 40001]].length + [PV.agg [PV.q (-((ff (((↑(n + (1 : Nat)) : Int) - (1 : Int)).toNat + (0 : Nat))).y - (ff (((0 : Int) + (1 : Int) + (1 : Int)).toNat + (0 : Nat) + (0 : Nat))).y)) 40001, PV.q ((ff (((↑(n + (1 : Nat)) : Int) - (1 : Int)).toNat + (0 : Nat))).x - (ff (((0 : Int) + (1 : Int) + (1 : Int)).toNat + (0 : Nat) + (0 : Nat))).x) 40001]].length + [PV.agg [PV.q (-((ff (((↑(n + (1 : Nat)) : Int) - (1 : Int)).toNat + (0 : Nat))).y - (ff (((0 : Int) + (1 : Int) + (1 : Int) + (1 : Int)).toNat + (0 : Nat) + (0 : Nat))).y)) 40001, PV.q ((ff (((↑(n + (1 : Nat)) : Int) - (1 : Int)).toNat + (0 : Nat))).x - (ff (((0 : Int) + (1 : Int) + (1 : Int) + (1 : Int)).toNat + (0 : Nat) + (0 : Nat))).x) 40001]].length).ble 4294967296) (.br (decide ((-9223372036854775808) ≤ (0 : Int) + (1 : Int) + (1 : Int) + (1 : Int) + (1 : Int)) && decide ((0 : Int) + (1 : Int) + (1 : Int) + (1 : Int) + (1 : Int) ≤ 9223372036854775807)) (.no 16) (.no 12002)) (.no 11002)) (.no 1)) (.no 1)) (.no 1)) (.no 9004)) (.ok (.ret (PV.tup [PV.fr 6 (.vals [PV.agg [PV.q (-((ff (((↑(n + (1 : Nat)) : Int) - (1 : Int)).toNat + (0 : Nat))).y - (ff (Int.toNat 0 + (0 : Nat) + (0 : Nat))).y)) 40001, PV.q ((ff (((↑(n + (1 : Nat)) : Int) - (1 : Int)).toNat + (0 : Nat))).x - (ff (Int.toNat 0 + (0 : Nat) + (0 : Nat))).x) 40001], PV.agg [PV.q (-((ff (((↑(n + (1 : Nat)) : Int) - (1 : Int)).toNat + (0 : Nat))).y - (ff (((0 : Int) + (1 : Int)).toNat + (0 : Nat) + (0 : Nat))).y)) 40001, PV.q ((ff (((↑(n + (1 : Nat)) : Int) - (1 : Int)).toNat + (0 : Nat))).x - (ff (((0 : Int) + (1 : Int)).toNat + (0 : Nat) + (0 : Nat))).x) 40001], PV.agg [PV.q (-((ff (((↑(n + (1 : Nat)) : Int) - (1 : Int)).toNat + (0 : Nat))).y - (ff (((0 : Int) + (1 : Int) + (1 : Int)).toNat + (0 : Nat) + (0 : Nat))).y)) 40001, PV.q ((ff (((↑(n + (1 : Nat)) : Int) - (1 : Int)).toNat + (0 : Nat))).x - (ff (((0 : Int) + (1 : Int) + (1 : Int)).toNat + (0 : Nat) + (0 : Nat))).x) 40001]]), PV.i .i64 (0 : Int)]) []))) (.no 12002)) (.no 11002)) (.no 1)) (.no 1)) (.no 1)) (.no 9004)) (.ok (.ret (PV.tup [PV.fr 6 (.vals [PV.agg [PV.q (-((ff (((↑(n + (1 : Nat)) : Int) - (1 : Int)).toNat + (0 : Nat))).y - (ff (Int.toNat 0 + (0 : Nat) + (0 : Nat))).y)) 40001, PV.q ((ff (((↑(n + (1 : Nat)) : Int) - (1 : Int)).toNat + (0 : Nat))).x - (ff (Int.toNat 0 + (0 : Nat) + (0 : Nat))).x) 40001], PV.agg [PV.q (-((ff (((↑(n + (1 : Nat)) : Int) - (1 : Int)).toNat + (0 : Nat))).y - (ff (((0 : Int) + (1 : Int)).toNat + (0 : Nat) + (0 : Nat))).y)) 40001, PV.q ((ff (((↑(n + (1 : Nat)) : Int) - (1 : Int)).toNat + (0 : Nat))).x - (ff (((0 : Int) + (1 : Int)).toNat + (0 : Nat) + (0 : Nat))).x) 40001]]), PV.i .i64 (0 : Int)]) []))) (.no 12002)) (.no 11002)) (.no 1)) (.no 1)) (.no 1)) (.no 9004)) (.ok (.ret (PV.tup [PV.fr 6 (.vals [PV.agg [PV.q (-((ff (((↑(n + (1 : Nat)) : Int) - (1 : Int)).toNat + (0 : Nat))).y - (ff (Int.toNat 0 + (0 : Nat) + (0 : Nat))).y)) 40001, PV.q ((ff (((↑(n + (1 : Nat)) : Int) - (1 : Int)).toNat + (0 : Nat))).x - (ff (Int.toNat 0 + (0 : Nat) + (0 : Nat))).x) 40001]]), PV.i .i64 (0 : Int)]) []))) (.no 12002)) (.no 11002)) (.no 1)) (.no 1)) (.no 1)) (.no 9004)) (.ok (.ret (PV.tup [PV.nil, PV.i .i64 (0 : Int)]) []))) (.no 7003)) (.no 7004)) (.no 5005)) (.no 5006))) (.no 2006)) (.no 1) := by kernel_rfl
noncomputable def b66 : Code := (loopsOf (bodyC Tryd.f66)).getD 0 .skip
def pol66 : Pol := { live := [(8, [1, 2, 6, 8, 10, 35, 36])] }
theorem enter66 : Enters Tryd.prog 66 Tryd.f66 (bodyC Tryd.f66) := ⟨Tryd.func66, by kernel_rfl, rfl⟩
noncomputable def R66 : Orc := [(57, g57), (67, g67), (103, g103)]
noncomputable def O66 (A : Am) (qs : List Rat) (cx cy : Nat → Rat) (n : Nat) : Orc := [(57, g57), (67, g67), (71, g71), (102, cst [armPV A, .lst 3 (.rats 64 qs)] True (.tup [.fr 6 (.fn n (fun i => .agg [.q (cx i) 40001, .q (cy i) 40001])), .i .i64 0])), (103, g103)]
noncomputable def l66 : LSpec := unr Tryd.prog R66 [] pol66 Tryd.f66.ntmps 0 [1, 2, 6, 8, 10, 35, 36] b66 4
theorem e66 (A : Am) (qs vs : List Rat) (cx cy : Nat → Rat) (n : Nat) : evF Tryd.prog (O66 A qs cx cy n) [(8, l66)] pol66 Tryd.f66 [armPV A, .lst 3 (.rats 64 qs), .lst 3 (.rats 193 vs)] [] retK =
  Tr.br (decP (isA [PV.agg [PV.s A.name, PV.agg [PV.agg [PV.q A.bx 64, PV.q A.by_ 64], PV.agg [PV.bl false, PV.q A.t 64]], PV.lst 16 (.fn A.n fun (j : Nat) => PV.agg [PV.q (A.lk j).len 64, PV.q (A.lk j).low 64, PV.q (A.lk j).high 64, PV.q (A.lk j).spd 64, PV.q (A.lk j).brk 64, PV.lst 6 (.fn (A.lk j).np fun (a : Nat) => PV.agg [PV.q ((A.lk j).px a) 64, PV.q ((A.lk j).py a) 64])])], PV.lst 3 (.rats 64 qs)] True [PV.agg [PV.s A.name, PV.agg [PV.agg [PV.q A.bx 64, PV.q A.by_ 64], PV.agg [PV.bl false, PV.q A.t 64]], PV.lst 16 (.fn A.n fun (j : Nat) => PV.agg [PV.q (A.lk j).len 64, PV.q (A.lk j).low 64, PV.q (A.lk j).high 64, PV.q (A.lk j).spd 64, PV.q (A.lk j).brk 64, PV.lst 6 (.fn (A.lk j).np fun (a : Nat) => PV.agg [PV.q ((A.lk j).px a) 64, PV.q ((A.lk j).py a) 64])])], PV.lst 3 (.rats 64 qs)])) (.br (((0 : Nat) + n).ble n) (.br (decide ((0 : Int) = (0 : Int))) (.br (!decide ((↑vs.length : Int) = (↑qs.length : Int))) (.br (!decide ((1 : Int) = (0 : Int))) (.ok (.ret (PV.tup [PV.agg [PV.agg [PV.bl false, PV.s (ByteArray.mk #[]), PV.s (ByteArray.mk #[])], PV.agg [PV.bl false, PV.s (ByteArray.mk #[]), PV.s (ByteArray.mk #[])]], PV.i .i64 (1 : Int)]) [])) (.br (decide ((-72057594037927936 : Int) < (0 : Int)) && decide ((0 : Int) ≤ 9223372036854775807)) (.br (decide ((-72057594037927936 : Int) < (0 : Int)) && decide ((0 : Int) ≤ 9223372036854775807)) (.br (decide ((0 : Int) < (↑n : Int))) (.br (decide ((0 : Int) ≤ (0 : Int)) && decide ((0 : Int) < (↑n : Int))) (.br (decide ((0 : Int) ≤ (0 : Int)) && decide ((0 : Int) < (↑qs.length : Int))) (.br (decide ((0 : Int) ≤ (0 : Int)) && decide ((0 : Int) < (↑vs.length : Int))) (.br (((193 : Nat) + (2 : Nat) * (64 : Nat) + (4 : Nat)).ble 400000) (.br (((40001 : Nat) + ((193 : Nat) + (2 : Nat) * (64 : Nat) + (4 : Nat))).ble 800000) (.br (((40001 : Nat) + ((193 : Nat) + (2 : Nat) * (64 : Nat) + (4 : Nat))).ble 800000) (.br (((Int.natAbs (0 : Int)).log2 + (1 : Nat) + ((40001 : Nat) + ((193 : Nat) + (2 : Nat) * (64 : Nat) + (4 : Nat))) + (1 : Nat)).ble 800000) (.br (((Int.natAbs (0 : Int)).log2 + (1 : Nat) + ((40001 : Nat) + ((193 : Nat) + (2 : Nat) * (64 : Nat) + (4 : Nat))) + (1 : Nat)).ble 800000) (.br (decide ((-9223372036854775808) ≤ (0 : Int) + (1 : Int)) && decide ((0 : Int) + (1 : Int) ≤ 9223372036854775807)) (.br (decide ((0 : Int) + (1 : Int) < (↑n : Int))) (.br (decide ((0 : Int) ≤ (0 : Int) + (1 : Int)) && decide ((0 : Int) + (1 : Int) < (↑n : Int))) (.br (decide ((0 : Int) ≤ (0 : Int) + (1 : Int)) && decide ((0 : Int) + (1 : Int) < (↑qs.length : Int))) (.br (decide ((0 : Int) ≤ (0 : Int) + (1 : Int)) && decide ((0 : Int) + (1 : Int) < (↑vs.length : Int))) (.br (((193 : Nat) + (2 : Nat) * (64 : Nat) + (4 : Nat)).ble 400000) (.br (((40001 : Nat) + ((193 : Nat) + (2 : Nat) * (64 : Nat) + (4 : Nat))).ble 800000) (.br (((40001 : Nat) + ((193 : Nat) + (2 : Nat) * (64 : Nat) + (4 : Nat))).ble 800000) (.br (((Int.natAbs (0 : Int)).log2 + (1 : Nat) + ((40001 : Nat) + ((193 : Nat) + (2 : Nat) * (64 : Nat) + (4 : Nat))) + (1 : Nat) + ((40001 : Nat) + ((193 : Nat) + (2 : Nat) * (64 : Nat) + (4 : Nat))) + (1 : Nat)).ble 800000) (.br (((Int.natAbs (0 : Int)).log2 + (1 : Nat) + ((40001 : Nat) + ((193 : Nat) + (2 : Nat) * (64 : Nat) + (4 : Nat))) + (1 : Nat) + ((40001 : Nat) + ((193 : Nat) + (2 : Nat) * (64 : Nat) + (4 : Nat))) + (1 : Nat)).ble 800000) (.br (decide ((-9223372036854775808) ≤ (0 : Int) + (1 : Int) + (1 : Int)) && decide ((0 : Int) + (1 : Int) + (1 : Int) ≤ 9223372036854775807)) (.br (decide ((0 : Int) + (1 : Int) + (1 : Int) < (↑n : Int))) (.br (decide ((0 : Int) ≤ (0 : Int) + (1 : Int) + (1 : Int)) && decide ((0 : Int) + (1 : Int) + (1 : Int) < (↑n : Int))) (.br (decide ((0 : Int) ≤ (0 : Int) + (1 : Int) + (1 : Int)) && decide ((0 : Int) + (1 : Int) + (1 : Int) < (↑qs.length : Int))) (.br (decide ((0 : Int) ≤ (0 : Int) + (1 : Int) + (1 : Int)) && decide ((0 : Int) + (1 : Int) + (1 : Int) < (↑vs.length : Int))) (.br (((193 : Nat) + (2 : Nat) * (64 : Nat) + (4 : Nat)).ble 400000) (.br (((40001 : Nat) + ((193 : Nat) + (2 : Nat) * (64 : Nat) + (4 : Nat))).ble 800000) (.br (((40001 : Nat) + ((193 : Nat) + (2 : Nat) * (64 : Nat) + (4 : Nat))).ble 800000) (.br (((Int.natAbs (0 : Int)).log2 + (1 : Nat) + ((40001 : Nat) + ((193 : Nat) + (2 : Nat) * (64 : Nat) + (4 : Nat))) + (1 : Nat) + ((40001 : Nat) + ((193 : Nat) + (2 : Nat) * (64 : Nat) + (4 : Nat))) + (1 : Nat) + ((40001 : Nat) + ((193 : Nat) + (2 : Nat) * (64 : Nat) + (4 : Nat))) + (1 : Nat)).ble 800000) (.br (((Int.natAbs (0 : Int)).log2 + (1 : Nat) + ((40001 : Nat) + ((193 : Nat) + (2 : Nat) * (64 : Nat) + (4 : Nat))) + (1 : Nat) + ((40001 : Nat) + ((193 : Nat) + (2 : Nat) * (64 : Nat) + (4 : Nat))) + (1 : Nat) + ((40001 : Nat) + ((193 : Nat) + (2 : Nat) * (64 : Nat) + (4 : Nat))) + (1 : Nat)).ble 800000) (.br (decide ((-9223372036854775808) ≤ (0 : Int) + (1 : Int) + (1 : Int) + (1 : Int)) && decide ((0 : Int) + (1 : Int) + (1 : Int) + (1 : Int) ≤ 9223372036854775807)) (.br (decide ((0 : Int) + (1 : Int) + (1 : Int) + (1 : Int) < (↑n : Int))) (.br (decide ((0 : Int) ≤ (0 : Int) + (1 : Int) + (1 : Int) + (1 : Int)) && decide ((0 : Int) + (1 : Int) + (1 : Int) + (1 : Int) < (↑n : Int))) (.br (decide ((0 : Int) ≤ (0 : Int) + (1 : Int) + (1 : Int) + (1 : Int)) && decide ((0 : Int) + (1 : Int) + (1 : Int) + (1 : Int) < (↑qs.length : Int))) (.br (decide ((0 : Int) ≤ (0 : Int) + (1 : Int) + (1 : Int) + (1 : Int)) && decide ((0 : Int) + (1 : Int) + (1 : Int) + (1 : Int) < (↑vs.length : Int))) (.br (((193 : Nat) + (2 : Nat) * (64 : Nat) + (4 : Nat)).ble 400000) (.br (((40001 : Nat) + ((193 : Nat) + (2 : Nat) * (64 : Nat) + (4 : Nat))).ble 800000) (.br (((40001 : Nat) + ((193 : Nat) + (2 : Nat) * (64 : Nat) + (4 : Nat))).ble 800000) (.br (((Int.natAbs (0 : Int)).log2 + (1 : Nat) + ((40001 : Nat) + ((193 : Nat) + (2 : Nat) * (64 : Nat) + (4 : Nat))) + (1 : Nat) + ((40001 : Nat) + ((193 : Nat) + (2 : Nat) * (64 : Nat) + (4 : Nat))) + (1 : Nat) + ((40001 : Nat) + ((193 : Nat) + (2 : Nat) * (64 : Nat) + (4 : Nat))) + (1 : Nat) + ((40001 : Nat) + ((193 : Nat) + (2 : Nat) * (64 : Nat) + (4 : Nat))) + (1 : Nat)).ble 800000) (.br (((Int.natAbs (0 : Int)).log2 + (1 : Nat) + ((40001 : Nat) + ((193 : Nat) + (2 : Nat) * (64 : Nat) + (4 : Nat))) + (1 : Nat) + ((40001 : Nat) + ((193 : Nat) + (2 : Nat) * (64 : Nat) + (4 : Nat))) + (1 : Nat) + ((40001 : Nat) + ((193 : Nat) + (2 : Nat) * (64 : Nat) + (4 : Nat))) + (1 : Nat) + ((40001 : Nat) + ((193 : Nat) + (2 : Nat) * (64 : Nat) + (4 : Nat))) + (1 : Nat)).ble 800000) (.br (decide ((-9223372036854775808) ≤ (0 : Int) + (1 : Int) + (1 : Int) + (1 : Int) + (1 : Int)) && decide ((0 : Int) + (1 : Int) + (1 : Int) + (1 : Int) + (1 : Int) ≤ 9223372036854775807)) (.no 16) (.no 12002)) (.no 1)) (.no 1)) (.no 1)) (.no 1)) (.no 1)) (.no 11006)) (.no 11010)) (.no 11014)) (.ok (.ret (PV.tup [PV.agg [PV.q ((↑(0 : Int) : Rat) + cx (Int.toNat 0 + (0 : Nat)) * rtQ (qs.getD (Int.toNat 0) (0 : Rat)) (vs.getD (Int.toNat 0) (0 : Rat)) + cx (((0 : Int) + (1 : Int)).toNat + (0 : Nat)) * rtQ (qs.getD ((0 : Int) + (1 : Int)).toNat (0 : Rat)) (vs.getD ((0 : Int) + (1 : Int)).toNat (0 : Rat)) + cx (((0 : Int) + (1 : Int) + (1 : Int)).toNat + (0 : Nat)) * rtQ (qs.getD ((0 : Int) + (1 : Int) + (1 : Int)).toNat (0 : Rat)) (vs.getD ((0 : Int) + (1 : Int) + (1 : Int)).toNat (0 : Rat))) 120982, PV.q ((↑(0 : Int) : Rat) + cy (Int.toNat 0 + (0 : Nat)) * rtQ (qs.getD (Int.toNat 0) (0 : Rat)) (vs.getD (Int.toNat 0) (0 : Rat)) + cy (((0 : Int) + (1 : Int)).toNat + (0 : Nat)) * rtQ (qs.getD ((0 : Int) + (1 : Int)).toNat (0 : Rat)) (vs.getD ((0 : Int) + (1 : Int)).toNat (0 : Rat)) + cy (((0 : Int) + (1 : Int) + (1 : Int)).toNat + (0 : Nat)) * rtQ (qs.getD ((0 : Int) + (1 : Int) + (1 : Int)).toNat (0 : Rat)) (vs.getD ((0 : Int) + (1 : Int) + (1 : Int)).toNat (0 : Rat))) 120982], PV.i .i64 (0 : Int)]) []))) (.no 12002)) (.no 1)) (.no 1)) (.no 1)) (.no 1)) (.no 1)) (.no 11006)) (.no 11010)) (.no 11014)) (.ok (.ret (PV.tup [PV.agg [PV.q ((↑(0 : Int) : Rat) + cx (Int.toNat 0 + (0 : Nat)) * rtQ (qs.getD (Int.toNat 0) (0 : Rat)) (vs.getD (Int.toNat 0) (0 : Rat)) + cx (((0 : Int) + (1 : Int)).toNat + (0 : Nat)) * rtQ (qs.getD ((0 : Int) + (1 : Int)).toNat (0 : Rat)) (vs.getD ((0 : Int) + (1 : Int)).toNat (0 : Rat))) 80655, PV.q ((↑(0 : Int) : Rat) + cy (Int.toNat 0 + (0 : Nat)) * rtQ (qs.getD (Int.toNat 0) (0 : Rat)) (vs.getD (Int.toNat 0) (0 : Rat)) + cy (((0 : Int) + (1 : Int)).toNat + (0 : Nat)) * rtQ (qs.getD ((0 : Int) + (1 : Int)).toNat (0 : Rat)) (vs.getD ((0 : Int) + (1 : Int)).toNat (0 : Rat))) 80655], PV.i .i64 (0 : Int)]) []))) (.no 12002)) (.no 1)) (.no 1)) (.no 1)) (.no 1)) (.no 1)) (.no 11006)) (.no 11010)) (.no 11014)) (.ok (.ret (PV.tup [PV.agg [PV.q ((↑(0 : Int) : Rat) + cx (Int.toNat 0 + (0 : Nat)) * rtQ (qs.getD (Int.toNat 0) (0 : Rat)) (vs.getD (Int.toNat 0) (0 : Rat))) 40328, PV.q ((↑(0 : Int) : Rat) + cy (Int.toNat 0 + (0 : Nat)) * rtQ (qs.getD (Int.toNat 0) (0 : Rat)) (vs.getD (Int.toNat 0) (0 : Rat))) 40328], PV.i .i64 (0 : Int)]) []))) (.no 12002)) (.no 1)) (.no 1)) (.no 1)) (.no 1)) (.no 1)) (.no 11006)) (.no 11010)) (.no 11014)) (.ok (.ret (PV.tup [PV.agg [PV.q (↑(0 : Int) : Rat) 1, PV.q (↑(0 : Int) : Rat) 1], PV.i .i64 (0 : Int)]) []))) (.no 1)) (.no 1))) (.br (!decide ((0 : Int) = (0 : Int))) (.ok (.ret (PV.tup [PV.agg [PV.agg [PV.bl false, PV.s (ByteArray.mk #[]), PV.s (ByteArray.mk #[])], PV.agg [PV.bl false, PV.s (ByteArray.mk #[]), PV.s (ByteArray.mk #[])]], PV.i .i64 (0 : Int)]) [])) (.br (decide ((-72057594037927936 : Int) < (0 : Int)) && decide ((0 : Int) ≤ 9223372036854775807)) (.br (decide ((-72057594037927936 : Int) < (0 : Int)) && decide ((0 : Int) ≤ 9223372036854775807)) (.br (decide ((0 : Int) < (↑n : Int))) (.br (decide ((0 : Int) ≤ (0 : Int)) && decide ((0 : Int) < (↑n : Int))) (.br (decide ((0 : Int) ≤ (0 : Int)) && decide ((0 : Int) < (↑qs.length : Int))) (.br (decide ((0 : Int) ≤ (0 : Int)) && decide ((0 : Int) < (↑vs.length : Int))) (.br (((193 : Nat) + (2 : Nat) * (64 : Nat) + (4 : Nat)).ble 400000) (.br (((40001 : Nat) + ((193 : Nat) + (2 : Nat) * (64 : Nat) + (4 : Nat))).ble 800000) (.br (((40001 : Nat) + ((193 : Nat) + (2 : Nat) * (64 : Nat) + (4 : Nat))).ble 800000) (.br (((Int.natAbs (0 : Int)).log2 + (1 : Nat) + ((40001 : Nat) + ((193 : Nat) + (2 : Nat) * (64 : Nat) + (4 : Nat))) + (1 : Nat)).ble 800000) (.br (((Int.natAbs (0 : Int)).log2 + (1 : Nat) + ((40001 : Nat) + ((193 : Nat) + (2 : Nat) * (64 : Nat) + (4 : Nat))) + (1 : Nat)).ble 800000) (.br (decide ((-9223372036854775808) ≤ (0 : Int) + (1 : Int)) && decide ((0 : Int) + (1 : Int) ≤ 9223372036854775807)) (.br (decide ((0 : Int) + (1 : Int) < (↑n : Int))) (.br (decide ((0 : Int) ≤ (0 : Int) + (1 : Int)) && decide ((0 : Int) + (1 : Int) < (↑n : Int))) (.br (decide ((0 : Int) ≤ (0 : Int) + (1 : Int)) && decide ((0 : Int) + (1 : Int) < (↑qs.length : Int))) (.br (decide ((0 : Int) ≤ (0 : Int) + (1 : Int)) && decide ((0 : Int) + (1 : Int) < (↑vs.length : Int))) (.br (((193 : Nat) + (2 : Nat) * (64 : Nat) + (4 : Nat)).ble 400000) (.br (((40001 : Nat) + ((193 : Nat) + (2 : Nat) * (64 : Nat) + (4 : Nat))).ble 800000) (.br (((40001 : Nat) + ((193 : Nat) + (2 : Nat) * (64 : Nat) + (4 : Nat))).ble 800000) (.br (((Int.natAbs (0 : Int)).log2 + (1 : Nat) + ((40001 : Nat) + ((193 : Nat) + (2 : Nat) * (64 : Nat) + (4 : Nat))) + (1 : Nat) + ((40001 : Nat) + ((193 : Nat) + (2 : Nat) * (64 : Nat) + (4 : Nat))) + (1 : Nat)).ble 800000) (.br (((Int.natAbs (0 : Int)).log2 + (1 : Nat) + ((40001 : Nat) + ((193 : Nat) + (2 : Nat) * (64 : Nat) + (4 : Nat))) + (1 : Nat) + ((40001 : Nat) + ((193 : Nat) + (2 : Nat) * (64 : Nat) + (4 : Nat))) + (1 : Nat)).ble 800000) (.br (decide ((-9223372036854775808) ≤ (0 : Int) + (1 : Int) + (1 : Int)) && decide ((0 : Int) + (1 : Int) + (1 : Int) ≤ 9223372036854775807)) (.br (decide ((0 : Int) + (1 : Int) + (1 : Int) < (↑n : Int))) (.br (decide ((0 : Int) ≤ (0 : Int) + (1 : Int) + (1 : Int)) && decide ((0 : Int) + (1 : Int) + (1 : Int) < (↑n : Int))) (.br (decide ((0 : Int) ≤ (0 : Int) + (1 : Int) + (1 : Int)) && decide ((0 : Int) + (1 : Int) + (1 : Int) < (↑qs.length : Int))) (.br (decide ((0 : Int) ≤ (0 : Int) + (1 : Int) + (1 : Int)) && decide ((0 : Int) + (1 : Int) + (1 : Int) < (↑vs.length : Int))) (.br (((193 : Nat) + (2 : Nat) * (64 : Nat) + (4 : Nat)).ble 400000) (.br (((40001 : Nat) + ((193 : Nat) + (2 : Nat) * (64 : Nat) + (4 : Nat))).ble 800000) (.br (((40001 : Nat) + ((193 : Nat) + (2 : Nat) * (64 : Nat) + (4 : Nat))).ble 800000) (.br (((Int.natAbs (0 : Int)).log2 + (1 : Nat) + ((40001 : Nat) + ((193 : Nat) + (2 : Nat) * (64 : Nat) + (4 : Nat))) + (1 : Nat) + ((40001 : Nat) + ((193 : Nat) + (2 : Nat) * (64 : Nat) + (4 : Nat))) + (1 : Nat) + ((40001 : Nat) + ((193 : Nat) + (2 : Nat) * (64 : Nat) + (4 : Nat))) + (1 : Nat)).ble 800000) (.br (((Int.natAbs (0 : Int)).log2 + (1 : Nat) + ((40001 : Nat) + ((193 : Nat) + (2 : Nat) * (64 : Nat) + (4 : Nat))) + (1 : Nat) + ((40001 : Nat) + ((193 : Nat) + (2 : Nat) * (64 : Nat) + (4 : Nat))) + (1 : Nat) + ((40001 : Nat) + ((193 : Nat) + (2 : Nat) * (64 : Nat) + (4 : Nat))) + (1 : Nat)).ble 800000) (.br (decide ((-9223372036854775808) ≤ (0 : Int) + (1 : Int) + (1 : Int) + (1 : Int)) && decide ((0 : Int) + (1 : Int) + (1 : Int) + (1 : Int) ≤ 9223372036854775807)) (.br (decide ((0 : Int) + (1 : Int) + (1 : Int) + (1 : Int) < (↑n : Int))) (.br (decide ((0 : Int) ≤ (0 : Int) + (1 : Int) + (1 : Int) + (1 : Int)) && decide ((0 : Int) + (1 : Int) + (1 : Int) + (1 : Int) < (↑n : Int))) (.br (decide ((0 : Int) ≤ (0 : Int) + (1 : Int) + (1 : Int) + (1 : Int)) && decide ((0 : Int) + (1 : Int) + (1 : Int) + (1 : Int) < (↑qs.length : Int))) (.br (decide ((0 : Int) ≤ (0 : Int) + (1 : Int) + (1 : Int) + (1 : Int)) && decide ((0 : Int) + (1 : Int) + (1 : Int) + (1 : Int) < (↑vs.length : Int))) (.br (((193 : Nat) + (2 : Nat) * (64 : Nat) + (4 : Nat)).ble 400000) (.br (((40001 : Nat) + ((193 : Nat) + (2 : Nat) * (64 : Nat) + (4 : Nat))).ble 800000) (.br (((40001 : Nat) + ((193 : Nat) + (2 : Nat) * (64 : Nat) + (4 : Nat))).ble 800000) (.br (((Int.natAbs (0 : Int)).log2 + (1 : Nat) + ((40001 : Nat) + ((193 : Nat) + (2 : Nat) * (64 : Nat) + (4 : Nat))) + (1 : Nat) + ((40001 : Nat) + ((193 : Nat) + (2 : Nat) * (64 : Nat) + (4 : Nat))) + (1 : Nat) + ((40001 : Nat) + ((193 : Nat) + (2 : Nat) * (64 : Nat) + (4 : Nat))) + (1 : Nat) + ((40001 : Nat) + ((193 : Nat) + (2 : Nat) * (64 : Nat) + (4 : Nat))) + (1 : Nat)).ble 800000) (.br (((Int.natAbs (0 : Int)).log2 + (1 : Nat) + ((40001 : Nat) + ((193 : Nat) + (2 : Nat) * (64 : Nat) + (4 : Nat))) + (1 : Nat) + ((40001 : Nat) + ((193 : Nat) + (2 : Nat) * (64 : Nat) + (4 : Nat))) + (1 : Nat) + ((40001 : Nat) + ((193 : Nat) + (2 : Nat) * (64 : Nat) + (4 : Nat))) + (1 : Nat) + ((40001 : Nat) + ((193 : Nat) + (2 : Nat) * (64 : Nat) + (4 : Nat))) + (1 : Nat)).ble 800000) (.br (decide ((-9223372036854775808) ≤ (0 : Int) + (1 : Int) + (1 : Int) + (1 : Int) + (1 : Int)) && decide ((0 : Int) + (1 : Int) + (1 : Int) + (1 : Int) + (1 : Int) ≤ 9223372036854775807)) (.no 16) (.no 12002)) (.no 1)) (.no 1)) (.no 1)) (.no 1)) (.no 1)) (.no 11006)) (.no 11010)) (.no 11014)) (.ok (.ret (PV.tup [PV.agg [PV.q ((↑(0 : Int) : Rat) + cx (Int.toNat 0 + (0 : Nat)) * rtQ (qs.getD (Int.toNat 0) (0 : Rat)) (vs.getD (Int.toNat 0) (0 : Rat)) + cx (((0 : Int) + (1 : Int)).toNat + (0 : Nat)) * rtQ (qs.getD ((0 : Int) + (1 : Int)).toNat (0 : Rat)) (vs.getD ((0 : Int) + (1 : Int)).toNat (0 : Rat)) + cx (((0 : Int) + (1 : Int) + (1 : Int)).toNat + (0 : Nat)) * rtQ (qs.getD ((0 : Int) + (1 : Int) + (1 : Int)).toNat (0 : Rat)) (vs.getD ((0 : Int) + (1 : Int) + (1 : Int)).toNat (0 : Rat))) 120982, PV.q ((↑(0 : Int) : Rat) + cy (Int.toNat 0 + (0 : Nat)) * rtQ (qs.getD (Int.toNat 0) (0 : Rat)) (vs.getD (Int.toNat 0) (0 : Rat)) + cy (((0 : Int) + (1 : Int)).toNat + (0 : Nat)) * rtQ (qs.getD ((0 : Int) + (1 : Int)).toNat (0 : Rat)) (vs.getD ((0 : Int) + (1 : Int)).toNat (0 : Rat)) + cy (((0 : Int) + (1 : Int) + (1 : Int)).toNat + (0 : Nat)) * rtQ (qs.getD ((0 : Int) + (1 : Int) + (1 : Int)).toNat (0 : Rat)) (vs.getD ((0 : Int) + (1 : Int) + (1 : Int)).toNat (0 : Rat))) 120982], PV.i .i64 (0 : Int)]) []))) (.no 12002)) (.no 1)) (.no 1)) (.no 1)) (.no 1)) (.no 1)) (.no 11006)) (.no 11010)) (.no 11014)) (.ok (.ret (PV.tup [PV.agg [PV.q ((↑(0 : Int) : Rat) + cx (Int.toNat 0 + (0 : Nat)) * rtQ (qs.getD (Int.toNat 0) (0 : Rat)) (vs.getD (Int.toNat 0) (0 : Rat)) + cx (((0 : Int) + (1 : Int)).toNat + (0 : Nat)) * rtQ (qs.getD ((0 : Int) + (1 : Int)).toNat (0 : Rat)) (vs.getD ((0 : Int) + (1 : Int)).toNat (0 : Rat))) 80655, PV.q ((↑(0 : Int) : Rat) + cy (Int.toNat 0 + (0 : Nat)) * rtQ (qs.getD (Int.toNat 0) (0 : Rat)) (vs.getD (Int.toNat 0) (0 : Rat)) + cy (((0 : Int) + (1 : Int)).toNat + (0 : Nat)) * rtQ (qs.getD ((0 : Int) + (1 : Int)).toNat (0 : Rat)) (vs.getD ((0 : Int) + (1 : Int)).toNat (0 : Rat))) 80655], PV.i .i64 (0 : Int)]) []))) (.no 12002)) (.no 1)) (.no 1)) (.no 1)) (.no 1)) (.no 1)) (.no 11006)) (.no 11010)) (.no 11014)) (.ok (.ret (PV.tup [PV.agg [PV.q ((↑(0 : Int) : Rat) + cx (Int.toNat 0 + (0 : Nat)) * rtQ (qs.getD (Int.toNat 0) (0 : Rat)) (vs.getD (Int.toNat 0) (0 : Rat))) 40328, PV.q ((↑(0 : Int) : Rat) + cy (Int.toNat 0 + (0 : Nat)) * rtQ (qs.getD (Int.toNat 0) (0 : Rat)) (vs.getD (Int.toNat 0) (0 : Rat))) 40328], PV.i .i64 (0 : Int)]) []))) (.no 12002)) (.no 1)) (.no 1)) (.no 1)) (.no 1)) (.no 1)) (.no 11006)) (.no 11010)) (.no 11014)) (.ok (.ret (PV.tup [PV.agg [PV.q (↑(0 : Int) : Rat) 1, PV.q (↑(0 : Int) : Rat) 1], PV.i .i64 (0 : Int)]) []))) (.no 1)) (.no 1)))) (.br (!decide ((0 : Int) = (0 : Int))) (.ok (.ret (PV.tup [PV.agg [PV.agg [PV.bl false, PV.s (ByteArray.mk #[]), PV.s (ByteArray.mk #[])], PV.agg [PV.bl false, PV.s (ByteArray.mk #[]), PV.s (ByteArray.mk #[])]], PV.i .i64 (0 : Int)]) [])) (.br (decide ((-72057594037927936 : Int) < (0 : Int)) && decide ((0 : Int) ≤ 9223372036854775807)) (.br (decide ((-72057594037927936 : Int) < (0 : Int)) && decide ((0 : Int) ≤ 9223372036854775807)) (.br (decide ((0 : Int) < (↑n : Int))) (.br (decide ((0 : Int) ≤ (0 : Int)) && decide ((0 : Int) < (↑n : Int))) (.br (decide ((0 : Int) ≤ (0 : Int)) && decide ((0 : Int) < (↑qs.length : Int))) (.br (decide ((0 : Int) ≤ (0 : Int)) && decide ((0 : Int) < (↑vs.length : Int))) (.br (((193 : Nat) + (2 : Nat) * (64 : Nat) + (4 : Nat)).ble 400000) (.br (((40001 : Nat) + ((193 : Nat) + (2 : Nat) * (64 : Nat) + (4 : Nat))).ble 800000) (.br (((40001 : Nat) + ((193 : Nat) + (2 : Nat) * (64 : Nat) + (4 : Nat))).ble 800000) (.br (((Int.natAbs (0 : Int)).log2 + (1 : Nat) + ((40001 : Nat) + ((193 : Nat) + (2 : Nat) * (64 : Nat) + (4 : Nat))) + (1 : Nat)).ble 800000) (.br (((Int.natAbs (0 : Int)).log2 + (1 : Nat) + ((40001 : Nat) + ((193 : Nat) + (2 : Nat) * (64 : Nat) + (4 : Nat))) + (1 : Nat)).ble 800000) (.br (decide ((-9223372036854775808) ≤ (0 : Int) + (1 : Int)) && decide ((0 : Int) + (1 : Int) ≤ 9223372036854775807)) (.br (decide ((0 : Int) + (1 : Int) < (↑n : Int))) (.br (decide ((0 : Int) ≤ (0 : Int) + (1 : Int)) && decide ((0 : Int) + (1 : Int) < (↑n : Int))) (.br (decide ((0 : Int) ≤ (0 : Int) + (1 : Int)) && decide ((0 : Int) + (1 : Int) < (↑qs.length : Int))) (.br (decide ((0 : Int) ≤ (0 : Int) + (1 : Int)) && decide ((0 : Int) + (1 : Int) < (↑vs.length : Int))) (.br (((193 : Nat) + (2 : Nat) * (64 : Nat) + (4 : Nat)).ble 400000) (.br (((40001 : Nat) + ((193 : Nat) + (2 : Nat) * (64 : Nat) + (4 : Nat))).ble 800000) (.br (((40001 : Nat) + ((193 : Nat) + (2 : Nat) * (64 : Nat) + (4 : Nat))).ble 800000) (.br (((Int.natAbs (0 : Int)).log2 + (1 : Nat) + ((40001 : Nat) + ((193 : Nat) + (2 : Nat) * (64 : Nat) + (4 : Nat))) + (1 : Nat) + ((40001 : Nat) + ((193 : Nat) + (2 : Nat) * (64 : Nat) + (4 : Nat))) + (1 : Nat)).ble 800000) (.br (((Int.natAbs (0 : Int)).log2 + (1 : Nat) + ((40001 : Nat) + ((193 : Nat) + (2 : Nat) * (64 : Nat) + (4 : Nat))) + (1 : Nat) + ((40001 : Nat) + ((193 : Nat) + (2 : Nat) * (64 : Nat) + (4 : Nat))) + (1 : Nat)).ble 800000) (.br (decide ((-9223372036854775808) ≤ (0 : Int) + (1 : Int) + (1 : Int)) && decide ((0 : Int) + (1 : Int) + (1 : Int) ≤ 9223372036854775807)) (.br (decide ((0 : Int) + (1 : Int) + (1 : Int) < (↑n : Int))) (.br (decide ((0 : Int) ≤ (0 : Int) + (1 : Int) + (1 : Int)) && decide ((0 : Int) + (1 : Int) + (1 : Int) < (↑n : Int))) (.br (decide ((0 : Int) ≤ (0 : Int) + (1 : Int) + (1 : Int)) && decide ((0 : Int) + (1 : Int) + (1 : Int) < (↑qs.length : Int))) (.br (decide ((0 : Int) ≤ (0 : Int) + (1 : Int) + (1 : Int)) && decide ((0 : Int) + (1 : Int) + (1 : Int) < (↑vs.length : Int))) (.br (((193 : Nat) + (2 : Nat) * (64 : Nat) + (4 : Nat)).ble 400000) (.br (((40001 : Nat) + ((193 : Nat) + (2 : Nat) * (64 : Nat) + (4 : Nat))).ble 800000) (.br (((40001 : Nat) + ((193 : Nat) + (2 : Nat) * (64 : Nat) + (4 : Nat))).ble 800000) (.br (((Int.natAbs (0 : Int)).log2 + (1 : Nat) + ((40001 : Nat) + ((193 : Nat) + (2 : Nat) * (64 : Nat) + (4 : Nat))) + (1 : Nat) + ((40001 : Nat) + ((193 : Nat) + (2 : Nat) * (64 : Nat) + (4 : Nat))) + (1 : Nat) + ((40001 : Nat) + ((193 : Nat) + (2 : Nat) * (64 : Nat) + (4 : Nat))) + (1 : Nat)).ble 800000) (.br (((Int.natAbs (0 : Int)).log2 + (1 : Nat) + ((40001 : Nat) + ((193 : Nat) + (2 : Nat) * (64 : Nat) + (4 : Nat))) + (1 : Nat) + ((40001 : Nat) + ((193 : Nat) + (2 : Nat) * (64 : Nat) + (4 : Nat))) + (1 : Nat) + ((40001 : Nat) + ((193 : Nat) + (2 : Nat) * (64 : Nat) + (4 : Nat))) + (1 : Nat)).ble 800000) (.br (decide ((-9223372036854775808) ≤ (0 : Int) + (1 : Int) + (1 : Int) + (1 : Int)) && decide ((0 : Int) + (1 : Int) + (1 : Int) + (1 : Int) ≤ 9223372036854775807)) (.br (decide ((0 : Int) + (1 : Int) + (1 : Int) + (1 : Int) < (↑n : Int))) (.br (decide ((0 : Int) ≤ (0 : Int) + (1 : Int) + (1 : Int) + (1 : Int)) && decide ((0 : Int) + (1 : Int) + (1 : Int) + (1 : Int) < (↑n : Int))) (.br (decide ((0 : Int) ≤ (0 : Int) + (1 : Int) + (1 : Int) + (1 : Int)) && decide ((0 : Int) + (1 : Int) + (1 : Int) + (1 : Int) < (↑qs.length : Int))) (.br (decide ((0 : Int) ≤ (0 : Int) + (1 : Int) + (1 : Int) + (1 : Int)) && decide ((0 : Int) + (1 : Int) + (1 : Int) + (1 : Int) < (↑vs.length : Int))) (.br (((193 : Nat) + (2 : Nat) * (64 : Nat) + (4 : Nat)).ble 400000) (.br (((40001 : Nat) + ((193 : Nat) + (2 : Nat) * (64 : Nat) + (4 : Nat))).ble 800000) (.br (((40001 : Nat) + ((193 : Nat) + (2 : Nat) * (64 : Nat) + (4 : Nat))).ble 800000) (.br (((Int.natAbs (0 : Int)).log2 + (1 : Nat) + ((40001 : Nat) + ((193 : Nat) + (2 : Nat) * (64 : Nat) + (4 : Nat))) + (1 : Nat) + ((40001 : Nat) + ((193 : Nat) + (2 : Nat) * (64 : Nat) + (4 : Nat))) + (1 : Nat) + ((40001 : Nat) + ((193 : Nat) + (2 : Nat) * (64 : Nat) + (4 : Nat))) + (1 : Nat) + ((40001 : Nat) + ((193 : Nat) + (2 : Nat) * (64 : Nat) + (4 : Nat))) + (1 : Nat)).ble 800000) (.br (((Int.natAbs (0 : Int)).log2 + (1 : Nat) + ((40001 : Nat) + ((193 : Nat) + (2 : Nat) * (64 : Nat) + (4 : Nat))) + (1 : Nat) + ((40001 : Nat) + ((193 : Nat) + (2 : Nat) * (64 : Nat) + (4 : Nat))) + (1 : Nat) + ((40001 : Nat) + ((193 : Nat) + (2 : Nat) * (64 : Nat) + (4 : Nat))) + (1 : Nat) + ((40001 : Nat) + ((193 : Nat) + (2 : Nat) * (64 : Nat) + (4 : Nat))) + (1 : Nat)).ble 800000) (.br (decide ((-9223372036854775808) ≤ (0 : Int) + (1 : Int) + (1 : Int) + (1 : Int) + (1 : Int)) && decide ((0 : Int) + (1 : Int) + (1 : Int) + (1 : Int) + (1 : Int) ≤ 9223372036854775807)) (.no 16) (.no 12002)) (.no 1)) (.no 1)) (.no 1)) (.no 1)) (.no 1)) (.no 11006)) (.no 11010)) (.no 11014)) (.ok (.ret (PV.tup [PV.agg [PV.q ((↑(0 : Int) : Rat) + cx (Int.toNat 0 + (0 : Nat)) * rtQ (qs.getD (Int.toNat 0) (0 : Rat)) (vs.getD (Int.toNat 0) (0 : Rat)) + cx (((0 : Int) + (1 : Int)).toNat + (0 : Nat)) * rtQ (qs.getD ((0 : Int) + (1 : Int)).toNat (0 : Rat)) (vs.getD ((0 : Int) + (1 : Int)).toNat (0 : Rat)) + cx (((0 : Int) + (1 : Int) + (1 : Int)).toNat + (0 : Nat)) * rtQ (qs.getD ((0 : Int) + (1 : Int) + (1 : Int)).toNat (0 : Rat)) (vs.getD ((0 : Int) + (1 : Int) + (1 : Int)).toNat (0 : Rat))) 120982, PV.q ((↑(0 : Int) : Rat) + cy (Int.toNat 0 + (0 : Nat)) * rtQ (qs.getD (Int.toNat 0) (0 : Rat)) (vs.getD (Int.toNat 0) (0 : Rat)) + cy (((0 : Int) + (1 : Int)).toNat + (0 : Nat)) * rtQ (qs.getD ((0 : Int) + (1 : Int)).toNat (0 : Rat)) (vs.getD ((0 : Int) + (1 : Int)).toNat (0 : Rat)) + cy (((0 : Int) + (1 : Int) + (1 : Int)).toNat + (0 : Nat)) * rtQ (qs.getD ((0 : Int) + (1 : Int) + (1 : Int)).toNat (0 : Rat)) (vs.getD ((0 : Int) + (1 : Int) + (1 : Int)).toNat (0 : Rat))) 120982], PV.i .i64 (0 : Int)]) []))) (.no 12002)) (.no 1)) (.no 1)) (.no 1)) (.no 1)) (.no 1)) (.no 11006)) (.no 11010)) (.no 11014)) (.ok (.ret (PV.tup [PV.agg [PV.q ((↑(0 : Int) : Rat) + cx (Int.toNat 0 + (0 : Nat)) * rtQ (qs.getD (Int.toNat 0) (0 : Rat)) (vs.getD (Int.toNat 0) (0 : Rat)) + cx (((0 : Int) + (1 : Int)).toNat + (0 : Nat)) * rtQ (qs.getD ((0 : Int) + (1 : Int)).toNat (0 : Rat)) (vs.getD ((0 : Int) + (1 : Int)).toNat (0 : Rat))) 80655, PV.q ((↑(0 : Int) : Rat) + cy (Int.toNat 0 + (0 : Nat)) * rtQ (qs.getD (Int.toNat 0) (0 : Rat)) (vs.getD (Int.toNat 0) (0 : Rat)) + cy (((0 : Int) + (1 : Int)).toNat + (0 : Nat)) * rtQ (qs.getD ((0 : Int) + (1 : Int)).toNat (0 : Rat)) (vs.getD ((0 : Int) + (1 : Int)).toNat (0 : Rat))) 80655], PV.i .i64 (0 : Int)]) []))) (.no 12002)) (.no 1)) (.no 1)) (.no 1)) (.no 1)) (.no 1)) (.no 11006)) (.no 11010)) (.no 11014)) (.ok (.ret (PV.tup [PV.agg [PV.q ((↑(0 : Int) : Rat) + cx (Int.toNat 0 + (0 : Nat)) * rtQ (qs.getD (Int.toNat 0) (0 : Rat)) (vs.getD (Int.toNat 0) (0 : Rat))) 40328, PV.q ((↑(0 : Int) : Rat) + cy (Int.toNat 0 + (0 : Nat)) * rtQ (qs.getD (Int.toNat 0) (0 : Rat)) (vs.getD (Int.toNat 0) (0 : Rat))) 40328], PV.i .i64 (0 : Int)]) []))) (.no 12002)) (.no 1)) (.no 1)) (.no 1)) (.no 1)) (.no 1)) (.no 11006)) (.no 11010)) (.no 11014)) (.ok (.ret (PV.tup [PV.agg [PV.q (↑(0 : Int) : Rat) 1, PV.q (↑(0 : Int) : Rat) 1], PV.i .i64 (0 : Int)]) []))) (.no 1)) (.no 1)))) (.no 2006)) (.no 1) := by kernel_rfl
include hG in
theorem orcg103 (hT : TabG G) : OrcOK Tryd.prog G O103 := .cons (gk21 hG hT) (.cons (gk43 hG hT) (.cons (gk71 hG) (.cons (gk72 hG hT) .nil)))
theorem lg2 : (Int.natAbs (2 : Int)).log2 = 1 := by decide
include hG in
theorem gk103 (hT : TabG G) : SpecOK Tryd.prog G 103 g103 := by
  refine spec_of hG (orcg103 hG hT) mix enter103 (L := []) (pol := {}) fun args hs K x h => ?_
  unfold g103 at h
  split at h
  case h_2 => cases h
  rename_i t n v m
  obtain ⟨hc, hr⟩ := Tr.of_br h
  rw [Nat.ble_eq] at hc
  refine ⟨LpsOK.none (by kernel_rfl), ?_⟩
  rw [k103]
  simp only [lg1, lg2, int1]
  rw [Tr.run_t (by decide), Tr.run_t (by rw [Nat.ble_eq]; omega), Tr.run_t (by decide), Tr.run_t (by rw [Nat.ble_eq]; omega), Tr.run_t (by rw [Nat.ble_eq]; omega), Tr.run_t (by rw [Nat.ble_eq]; omega), Tr.run_f (decide_eq_false (sq_pos1 t))]
  refine ⟨_, _, _, rfl, q_rle ?_ (by omega), hr⟩
  rw [rtQ, hide_eq]
  rfl
noncomputable def colX (ff : Nat → Fr) (n i : Nat) : Rat := -((ff n).y - (ff i).y)
noncomputable def colY (ff : Nat → Fr) (n i : Nat) : Rat := (ff n).x - (ff i).x
include hG in
theorem pc102 (hT : TabG G) (A : Am) (hA : armB A = true) (qs : List Rat) (hq : qs.length = A.n) :
    PC Tryd.prog G 102 [armPV A, .lst 3 (.rats 64 qs)] [] (.tup [.fr 6 (.fn A.n (fun i => .agg [.q (colX (allF (bsF A) (qf qs) (fun j => (A.lk j).len) A.n) A.n i) 40001, .q (colY (allF (bsF A) (qf qs) (fun j => (A.lk j).len) A.n) A.n i) 40001])), .i .i64 0]) [] := by
  have h5 := (armB_c hA).2.2.2.2.1
  have h6 := (armB_c hA).2.2.2.2.2.1
  have p39 := pc39 hG hT A hA qs hq
  generalize allF (bsF A) (qf qs) (fun j => (A.lk j).len) A.n = ff at *
  have key : ∃ vs : List PV, (evF Tryd.prog (O102 A qs ff A.n) [(7, l102)] pol102 Tryd.f102 [armPV A, .lst 3 (.rats 64 qs)] [] retK).run = some (.ret (.tup [.fr 6 (.vals vs), .i .i64 0]) []) ∧ vs.length = A.n ∧ ∀ (i : Nat) (v : PV), vs[i]? = some v → noRef 8 v = true ∧ VLe v (.agg [.q (colX ff A.n i) 40001, .q (colY ff A.n i) 40001]) := by
    have e1 : (((A.n + 1 : Nat) : Int) - 1).toNat + 0 = A.n := by omega
    have hcs : A.n = 1 ∨ A.n = 2 ∨ A.n = 3 := by omega
    rw [e102]
    rcases hcs with hn | hn | hn
    · simp only [hn]
      rw [Tr.run_t (decP_iff.2 ⟨rfl, trivial⟩), Tr.run_t (by decide), Tr.run_f (by decide)]
      repeat rw [Tr.run_t (by first | decide | rfl)]
      rw [Tr.run_f (by decide)]
      refine ⟨_, rfl, rfl, fun i v hi => ?_⟩
      match i, hi with
      | 0, hi => simp at hi; subst hi; exact ⟨rfl, .refl _⟩
      | i + 1, hi => simp at hi
    · simp only [hn]
      rw [Tr.run_t (decP_iff.2 ⟨rfl, trivial⟩), Tr.run_t (by decide), Tr.run_f (by decide)]
      repeat rw [Tr.run_t (by first | decide | rfl)]
      rw [Tr.run_f (by decide)]
      refine ⟨_, rfl, rfl, fun i v hi => ?_⟩
      match i, hi with
      | 0, hi => simp at hi; subst hi; exact ⟨rfl, .refl _⟩
      | 1, hi => simp at hi; subst hi; exact ⟨rfl, .refl _⟩
      | i + 2, hi => simp at hi
    · simp only [hn]
      rw [Tr.run_t (decP_iff.2 ⟨rfl, trivial⟩), Tr.run_t (by decide), Tr.run_f (by decide)]
      repeat rw [Tr.run_t (by first | decide | rfl)]
      rw [Tr.run_f (by decide)]
      refine ⟨_, rfl, rfl, fun i v hi => ?_⟩
      match i, hi with
      | 0, hi => simp at hi; subst hi; exact ⟨rfl, .refl _⟩
      | 1, hi => simp at hi; subst hi; exact ⟨rfl, .refl _⟩
      | 2, hi => simp at hi; subst hi; exact ⟨rfl, .refl _⟩
      | i + 3, hi => simp at hi
  obtain ⟨vs, k1, k2, k3⟩ := key
  exact (evF_pc hG (.cons (cst_t p39) (.cons (gk41 hG hT) (.cons (gk83 hG hT) .nil))) mix enter102 (pol := pol102) (L := [(7, l102)]) (lps1 (b := b102) (live := [8, 9, 33, 34, 35]) (sp := l102) (m := 0) (by kernel_rfl) (by kernel_rfl) (by kernel_rfl) (unr_ok hG (.cons (gk41 hG hT) (.cons (gk83 hG hT) .nil)) mix (LpsOK.none (by kernel_rfl)) 4)) k1).le (frs_le0 _ _ _ vs k2 k3) (.refl _)
theorem vle_tup {u v c : PV} (h : VLe u v) : VLe (.tup [u, c]) (.tup [v, c]) := by
  refine ⟨rfl, fun w S μ => ⟨fun cs hc => (by cases hc), fun x hx => ?_⟩⟩
  cases hx with
  | cell _ _ _ _ hc => cases hc
  | agg _ _ _ hv _ => cases hv
  | tup _ _ xs hl =>
    cases hl with
    | cons _ _ _ a l h1 h2 => exact .tup _ _ _ (.cons _ _ _ _ _ ((h.2 w S μ).2 _ h1) h2)
def sumR (f : Nat → Rat) : Nat → Rat
  | 0 => 0
  | n + 1 => sumR f n + f n
noncomputable def velX (cx : Nat → Rat) (qs vs : List Rat) (i : Nat) : Rat := cx i * rtQ (qs.getD i 0) (vs.getD i 0)
include hG in
theorem pc66 (hT : TabG G) (A : Am) (hA : armB A = true) (qs vs : List Rat) (hq : qs.length = A.n) (hv : vs.length = A.n) (w : Nat) (hw : w ≤ 193) :
    PC Tryd.prog G 66 [armPV A, .lst 3 (.rats 64 qs), .lst 3 (.rats w vs)] [] (.tup [.agg [.q (sumR (velX (colX (allF (bsF A) (qf qs) (fun j => (A.lk j).len) A.n) A.n) qs vs) A.n) 150000, .q (sumR (velX (colY (allF (bsF A) (qf qs) (fun j => (A.lk j).len) A.n) A.n) qs vs) A.n) 150000], .i .i64 0]) [] := by
  have h5 := (armB_c hA).2.2.2.2.1
  have h6 := (armB_c hA).2.2.2.2.2.1
  have p102 := pc102 hG hT A hA qs hq
  generalize colX (allF (bsF A) (qf qs) (fun j => (A.lk j).len) A.n) A.n = cx at *
  generalize colY (allF (bsF A) (qf qs) (fun j => (A.lk j).len) A.n) A.n = cy at *
  have hvv : VLe (.lst 3 (.rats w vs)) (.lst 3 (.rats 193 vs)) := VLe.lst rfl fun i hi => vle_qm hw
  refine PC.args (.cons (.refl _) (.cons (.refl _) (.cons hvv .nil))) ?_
  have key : ∃ (x y : Nat), x ≤ 150000 ∧ y ≤ 150000 ∧ (evF Tryd.prog (O66 A qs cx cy A.n) [(8, l66)] pol66 Tryd.f66 [armPV A, .lst 3 (.rats 64 qs), .lst 3 (.rats 193 vs)] [] retK).run = some (.ret (.tup [.agg [.q (sumR (velX cx qs vs) A.n) x, .q (sumR (velX cy qs vs) A.n) y], .i .i64 0]) []) := by
    have hcs : A.n = 1 ∨ A.n = 2 ∨ A.n = 3 := by omega
    rw [e66]
    rcases hcs with hn | hn | hn
    · rw [hn] at hq hv
      simp only [hn, hq, hv]
      rw [Tr.run_t (decP_iff.2 ⟨rfl, trivial⟩), Tr.run_t (by decide), Tr.run_t (by decide), Tr.run_f (by decide), Tr.run_f (by decide)]
      repeat rw [Tr.run_t (by decide)]
      rw [Tr.run_f (by decide)]
      refine ⟨_, _, ?_, ?_, rfl⟩ <;> decide
    · rw [hn] at hq hv
      simp only [hn, hq, hv]
      rw [Tr.run_t (decP_iff.2 ⟨rfl, trivial⟩), Tr.run_t (by decide), Tr.run_t (by decide), Tr.run_f (by decide), Tr.run_f (by decide)]
      repeat rw [Tr.run_t (by decide)]
      rw [Tr.run_f (by decide)]
      refine ⟨_, _, ?_, ?_, rfl⟩ <;> decide
    · rw [hn] at hq hv
      simp only [hn, hq, hv]
      rw [Tr.run_t (decP_iff.2 ⟨rfl, trivial⟩), Tr.run_t (by decide), Tr.run_t (by decide), Tr.run_f (by decide), Tr.run_f (by decide)]
      repeat rw [Tr.run_t (by decide)]
      rw [Tr.run_f (by decide)]
      refine ⟨_, _, ?_, ?_, rfl⟩ <;> decide
  obtain ⟨x, y, hx, hy, k1⟩ := key
  have hl : RLe (.tup [.agg [.q (sumR (velX cx qs vs) A.n) x, .q (sumR (velX cy qs vs) A.n) y], .i .i64 0]) (.tup [.agg [.q (sumR (velX cx qs vs) A.n) 150000, .q (sumR (velX cy qs vs) A.n) 150000], .i .i64 0]) :=
    rle_of_vle (fun _ => rfl) (fun _ => rfl) (vle_tup (VLe.agg (vllc (vle_qm hx) (vllc (vle_qm hy) vll0))))
  exact (evF_pc hG (.cons (gk57 hG hT) (.cons (gk67 hG hT) (.cons (gk71 hG) (.cons (cst_t p102) (.cons (gk103 hG hT) .nil))))) mix enter66 (pol := pol66) (L := [(8, l66)]) (lps1 (b := b66) (live := [1, 2, 6, 8, 10, 35, 36]) (sp := l66) (m := 0) (by kernel_rfl) (by kernel_rfl) (by kernel_rfl) (unr_ok hG (.cons (gk57 hG hT) (.cons (gk67 hG hT) (.cons (gk103 hG hT) .nil))) mix (LpsOK.none (by kernel_rfl)) 4)) k1).le hl (.refl _)
end Go.Proofs.YtejfdhcigkgbmaaDoor.PE
namespace Go.Proofs.YtejfdhcigkgbmaaDoor.PE
open Go
set_option maxRecDepth 100000
variable {G : World → (Nat → Prop) → Prop} (hG : GOk G)
noncomputable def b13 : Code := (loopsOf (bodyC Tryd.f13)).getD 0 .skip
def pol13 : Pol := { live := [(7, [4, 11, 12, 13, 14, 15, 37, 38])] }
theorem enter13 : Enters Tryd.prog 13 Tryd.f13 (bodyC Tryd.f13) := ⟨Tryd.func13, by kernel_rfl, rfl⟩
theorem enter65 : Enters Tryd.prog 65 Tryd.f65 (bodyC Tryd.f65) := ⟨Tryd.func65, by kernel_rfl, rfl⟩
def V13 (A : Am) (qs : List Rat) (a : PV) (q vs : List Rat) (w : Nat) : Prop := a = armPV A ∧ q = qs ∧ vs.length = A.n ∧ w ≤ 193
noncomputable def v66 (A : Am) (qs : List Rat) (VX VY : List Rat → Rat) : Spec := fun args hs K => match args, hs with
  | [a, .lst 3 (.rats 64 q), .lst 3 (.rats w vs)], [] => .br (decP (V13 A qs a q vs w)) (K (.tup [.agg [.q (VX vs) 150000, .q (VY vs) 150000], .i .i64 0]) []) (.no 1)
  | _, _ => .no 1
def V33 (A : Am) (a m : PV) : Prop := a = armPV A ∧ okW m = true
noncomputable def v33 (A : Am) (CF : PV → List Rat) : Spec := fun args hs K => match args, hs with
  | [a, .w m], [] => .br (decP (V33 A a m)) (K (.fr 3 (.rats 64 (CF m))) []) (.no 1)
  | _, _ => .no 1
noncomputable def O13 (l : PV) (A : Am) (qs : List Rat) (CF : PV → List Rat) (VX VY : List Rat → Rat) : Orc :=
  [(15, cst [.w l] True (armFr A)), (21, g21), (33, v33 A CF), (36, s36), (40, g40), (43, g43), (57, g57), (65, cst [] True (.bl true)), (66, v66 A qs VX VY), (67, g67)]
def n13 (x : Int) (A : Am) (qs v w : List Rat) (i : Int) : LS := ⟨[.i .i64 x, .ptr 0 12 0 0 [], .lst 3 (.rats 64 qs), .lst 3 (.rats 64 v), .lst 3 (.rats 64 w), .nil, .i .i64 v.length, .i .i64 i], [some ⟨12, .vals [armPV A]⟩]⟩
def x13 (x : Int) (A : Am) (qs v w ys : List Rat) (i : Int) : LS := ⟨[.i .i64 x, .ptr 0 12 0 0 [], .lst 3 (.rats 64 qs), .lst 3 (.rats 64 v), .lst 3 (.rats 64 w), .sl 1 3 0 ys.length, .i .i64 v.length, .i .i64 i], [some ⟨12, .vals [armPV A]⟩, some ⟨3, .rats 193 ys⟩]⟩
noncomputable def R13 : Orc := [(21, g21), (36, s36), (43, g43)]
theorem t13n (x : Int) (A : Am) (qs v w : List Rat) (i : Int) : evRound Tryd.prog R13 [] pol13 Tryd.f13.ntmps 0 [4, 11, 12, 13, 14, 15, 37, 38] b13 (n13 x A qs v w i) =
  Tr.br (decide (i < (↑v.length : Int))) (.br (inI x) (.br (decide ((0 : Int) ≤ i) && decide (i < (↑v.length : Int))) (.br (((64 : Nat) + (64 : Nat)).ble 800000) (.br (decide ((0 : Int) ≤ i) && decide (i < (↑w.length : Int))) (.br (((64 : Nat) + (64 : Nat) + (64 : Nat) + (1 : Nat)).ble 800000) (.br (Nat.blt (0 : Nat) [rtV x * v.getD i.toNat 0 + w.getD i.toNat 0].length && [rtV x * v.getD i.toNat 0 + w.getD i.toNat 0].length.ble 4294967296) (.br (decide ((-9223372036854775808) ≤ i + (1 : Int)) && decide (i + (1 : Int) ≤ 9223372036854775807)) (.ok (.out .normal (LS.mk [.i .i64 x, .ptr 0 12 0 0 [], .lst 3 (.rats 64 qs), .lst 3 (.rats 64 v), .lst 3 (.rats 64 w), .sl 1 3 0 1, .i .i64 (↑v.length : Int), .i .i64 (i + (1 : Int))] [some (.mk 12 (.vals [.agg [.s A.name, .agg [.agg [.q A.bx 64, .q A.by_ 64], .agg [.bl false, .q A.t 64]], .lst 16 (.fn A.n fun (j : Nat) => .agg [.q (A.lk j).len 64, .q (A.lk j).low 64, .q (A.lk j).high 64, .q (A.lk j).spd 64, .q (A.lk j).brk 64, .lst 6 (.fn (A.lk j).np fun (a : Nat) => .agg [.q ((A.lk j).px a) 64, .q ((A.lk j).py a) 64])])]])), some (.mk 3 (.rats 193 [rtV x * v.getD i.toNat 0 + w.getD i.toNat 0]))]))) (.no 11002)) (.no 10002)) (.no 1)) (.no 10006)) (.no 1)) (.no 10011)) (.no 1)) (.ok (.out (.exit 0) (LS.mk [.i .i64 x, .ptr 0 12 0 0 [], .lst 3 (.rats 64 qs), .lst 3 (.rats 64 v), .lst 3 (.rats 64 w), .nil, .i .i64 (↑v.length : Int), .i .i64 i] [some (.mk 12 (.vals [.agg [.s A.name, .agg [.agg [.q A.bx 64, .q A.by_ 64], .agg [.bl false, .q A.t 64]], .lst 16 (.fn A.n fun (j : Nat) => .agg [.q (A.lk j).len 64, .q (A.lk j).low 64, .q (A.lk j).high 64, .q (A.lk j).spd 64, .q (A.lk j).brk 64, .lst 6 (.fn (A.lk j).np fun (a : Nat) => .agg [.q ((A.lk j).px a) 64, .q ((A.lk j).py a) 64])])]]))]))) := by kernel_rfl
theorem t13x (x : Int) (A : Am) (qs v w ys : List Rat) (i : Int) : evRound Tryd.prog R13 [] pol13 Tryd.f13.ntmps 0 [4, 11, 12, 13, 14, 15, 37, 38] b13 (x13 x A qs v w ys i) =
  Tr.br (decide (i < (↑v.length : Int))) (.br (inI x) (.br (decide ((0 : Int) ≤ i) && decide (i < (↑v.length : Int))) (.br (((64 : Nat) + (64 : Nat)).ble 800000) (.br (decide ((0 : Int) ≤ i) && decide (i < (↑w.length : Int))) (.br (((64 : Nat) + (64 : Nat) + (64 : Nat) + (1 : Nat)).ble 800000) (.br (ys.length.ble ys.length && (ys.length + [rtV x * v.getD i.toNat 0 + w.getD i.toNat 0].length).ble 4294967296) (.br (decide ((-9223372036854775808) ≤ i + (1 : Int)) && decide (i + (1 : Int) ≤ 9223372036854775807)) (.ok (.out .normal (LS.mk [.i .i64 x, .ptr 0 12 0 0 [], .lst 3 (.rats 64 qs), .lst 3 (.rats 64 v), .lst 3 (.rats 64 w), .sl 1 3 0 (ys.length + [rtV x * v.getD i.toNat 0 + w.getD i.toNat 0].length), .i .i64 (↑v.length : Int), .i .i64 (i + (1 : Int))] [some (.mk 12 (.vals [.agg [.s A.name, .agg [.agg [.q A.bx 64, .q A.by_ 64], .agg [.bl false, .q A.t 64]], .lst 16 (.fn A.n fun (j : Nat) => .agg [.q (A.lk j).len 64, .q (A.lk j).low 64, .q (A.lk j).high 64, .q (A.lk j).spd 64, .q (A.lk j).brk 64, .lst 6 (.fn (A.lk j).np fun (a : Nat) => .agg [.q ((A.lk j).px a) 64, .q ((A.lk j).py a) 64])])]])), some (.mk 3 (.rats 193 (List.take ys.length (List.drop (0 : Nat) ys) ++ [rtV x * v.getD i.toNat 0 + w.getD i.toNat 0])))]))) (.no 11002)) (.no 10002)) (.no 1)) (.no 10006)) (.no 1)) (.no 10011)) (.no 1)) (.ok (.out (.exit 0) (LS.mk [.i .i64 x, .ptr 0 12 0 0 [], .lst 3 (.rats 64 qs), .lst 3 (.rats 64 v), .lst 3 (.rats 64 w), .sl 1 3 0 ys.length, .i .i64 (↑v.length : Int), .i .i64 i] [some (.mk 12 (.vals [.agg [.s A.name, .agg [.agg [.q A.bx 64, .q A.by_ 64], .agg [.bl false, .q A.t 64]], .lst 16 (.fn A.n fun (j : Nat) => .agg [.q (A.lk j).len 64, .q (A.lk j).low 64, .q (A.lk j).high 64, .q (A.lk j).spd 64, .q (A.lk j).brk 64, .lst 6 (.fn (A.lk j).np fun (a : Nat) => .agg [.q ((A.lk j).px a) 64, .q ((A.lk j).py a) 64])])]])), some (.mk 3 (.rats 193 ys))]))) := by kernel_rfl
theorem e13 (l m k n : PV) (x : Int) (A : Am) (qs : List Rat) (CF : PV → List Rat) (VX VY : List Rat → Rat) (v w ys : List Rat) (i : Int) : evF Tryd.prog (O13 l A qs CF VX VY) [(7, lcst (n13 x A qs v w 0) (.exit 0) (x13 x A qs v w ys i))] pol13 Tryd.f13 [.w l, .w m, .w k, .w n, .i .i64 x] [] retK =
  Tr.br (decP (isA [] True [])) (.br (decP (isA [l.w] True [l.w])) (.br (((0 : Nat) + A.n).ble A.n) (.br (decP (V33 A (.agg [.s A.name, .agg [.agg [.q A.bx 64, .q A.by_ 64], .agg [.bl false, .q A.t 64]], .lst 16 (.fn A.n fun (j : Nat) => .agg [.q (A.lk (j + (0 : Nat))).len 64, .q (A.lk (j + (0 : Nat))).low 64, .q (A.lk (j + (0 : Nat))).high 64, .q (A.lk (j + (0 : Nat))).spd 64, .q (A.lk (j + (0 : Nat))).brk 64, .lst 6 (.fn (A.lk (j + (0 : Nat))).np fun (a : Nat) => .agg [.q ((A.lk (j + (0 : Nat))).px a) 64, .q ((A.lk (j + (0 : Nat))).py a) 64])])]) m)) (.br (((0 : Nat) + (CF m).length).ble (CF m).length) (.br (decP (V33 A (.agg [.s A.name, .agg [.agg [.q A.bx 64, .q A.by_ 64], .agg [.bl false, .q A.t 64]], .lst 16 (.fn A.n fun (j : Nat) => .agg [.q (A.lk (j + (0 : Nat))).len 64, .q (A.lk (j + (0 : Nat))).low 64, .q (A.lk (j + (0 : Nat))).high 64, .q (A.lk (j + (0 : Nat))).spd 64, .q (A.lk (j + (0 : Nat))).brk 64, .lst 6 (.fn (A.lk (j + (0 : Nat))).np fun (a : Nat) => .agg [.q ((A.lk (j + (0 : Nat))).px a) 64, .q ((A.lk (j + (0 : Nat))).py a) 64])])]) k)) (.br (((0 : Nat) + (CF k).length).ble (CF k).length) (.br (decP (V33 A (.agg [.s A.name, .agg [.agg [.q A.bx 64, .q A.by_ 64], .agg [.bl false, .q A.t 64]], .lst 16 (.fn A.n fun (j : Nat) => .agg [.q (A.lk (j + (0 : Nat))).len 64, .q (A.lk (j + (0 : Nat))).low 64, .q (A.lk (j + (0 : Nat))).high 64, .q (A.lk (j + (0 : Nat))).spd 64, .q (A.lk (j + (0 : Nat))).brk 64, .lst 6 (.fn (A.lk (j + (0 : Nat))).np fun (a : Nat) => .agg [.q ((A.lk (j + (0 : Nat))).px a) 64, .q ((A.lk (j + (0 : Nat))).py a) 64])])]) n)) (.br (((0 : Nat) + (CF n).length).ble (CF n).length) (.br (decP (isLS (LS.mk [.i .i64 x, .ptr 0 12 0 0 [], .lst 3 (.rats 64 qs), .lst 3 (.rats 64 v), .lst 3 (.rats 64 w), .nil, .i .i64 (↑v.length : Int), .i .i64 (0 : Int)] [some (.mk 12 (.vals [.agg [.s A.name, .agg [.agg [.q A.bx 64, .q A.by_ 64], .agg [.bl false, .q A.t 64]], .lst 16 (.fn A.n fun (j : Nat) => .agg [.q (A.lk j).len 64, .q (A.lk j).low 64, .q (A.lk j).high 64, .q (A.lk j).spd 64, .q (A.lk j).brk 64, .lst 6 (.fn (A.lk j).np fun (a : Nat) => .agg [.q ((A.lk j).px a) 64, .q ((A.lk j).py a) 64])])]]))]) (LS.mk [.i .i64 x, .ptr 0 12 0 0 [], .lst 3 (.rats 64 (List.take (CF m).length (List.drop (0 : Nat) (CF m)))), .lst 3 (.rats 64 (List.take (CF k).length (List.drop (0 : Nat) (CF k)))), .lst 3 (.rats 64 (List.take (CF n).length (List.drop (0 : Nat) (CF n)))), .nil, .i .i64 (↑(List.take (CF k).length (List.drop (0 : Nat) (CF k))).length : Int), .i .i64 (0 : Int)] [some (.mk 12 (.vals [.agg [.s A.name, .agg [.agg [.q A.bx 64, .q A.by_ 64], .agg [.bl false, .q A.t 64]], .lst 16 (.fn A.n fun (j : Nat) => .agg [.q (A.lk (j + (0 : Nat))).len 64, .q (A.lk (j + (0 : Nat))).low 64, .q (A.lk (j + (0 : Nat))).high 64, .q (A.lk (j + (0 : Nat))).spd 64, .q (A.lk (j + (0 : Nat))).brk 64, .lst 6 (.fn (A.lk (j + (0 : Nat))).np fun (a : Nat) => .agg [.q ((A.lk (j + (0 : Nat))).px a) 64, .q ((A.lk (j + (0 : Nat))).py a) 64])])]]))]))) (.br (decP (V13 A qs (.agg [.s A.name, .agg [.agg [.q A.bx 64, .q A.by_ 64], .agg [.bl false, .q A.t 64]], .lst 16 (.fn A.n fun (j : Nat) => .agg [.q (A.lk j).len 64, .q (A.lk j).low 64, .q (A.lk j).high 64, .q (A.lk j).spd 64, .q (A.lk j).brk 64, .lst 6 (.fn (A.lk j).np fun (a : Nat) => .agg [.q ((A.lk j).px a) 64, .q ((A.lk j).py a) 64])])]) qs v (64 : Nat))) (.br (decP (V13 A qs (.agg [.s A.name, .agg [.agg [.q A.bx 64, .q A.by_ 64], .agg [.bl false, .q A.t 64]], .lst 16 (.fn A.n fun (j : Nat) => .agg [.q (A.lk j).len 64, .q (A.lk j).low 64, .q (A.lk j).high 64, .q (A.lk j).spd 64, .q (A.lk j).brk 64, .lst 6 (.fn (A.lk j).np fun (a : Nat) => .agg [.q ((A.lk j).px a) 64, .q ((A.lk j).py a) 64])])]) qs w (64 : Nat))) (.br (((0 : Nat) + ys.length).ble ys.length) (.br (decP (V13 A qs (.agg [.s A.name, .agg [.agg [.q A.bx 64, .q A.by_ 64], .agg [.bl false, .q A.t 64]], .lst 16 (.fn A.n fun (j : Nat) => .agg [.q (A.lk j).len 64, .q (A.lk j).low 64, .q (A.lk j).high 64, .q (A.lk j).spd 64, .q (A.lk j).brk 64, .lst 6 (.fn (A.lk j).np fun (a : Nat) => .agg [.q ((A.lk j).px a) 64, .q ((A.lk j).py a) 64])])]) qs (List.take ys.length (List.drop (0 : Nat) ys)) (193 : Nat))) (.br (decide ((0 : Int) = (0 : Int))) (.br (decide ((0 : Int) = (0 : Int))) (.br (decide ((0 : Int) = (0 : Int))) (.br (inI x) (.br (((150000 : Nat) + (64 : Nat)).ble 800000) (.br (((150000 : Nat) + (64 : Nat)).ble 800000) (.br (((150000 : Nat) + (64 : Nat) + (150000 : Nat) + (1 : Nat)).ble 800000) (.br (((150000 : Nat) + (64 : Nat) + (150000 : Nat) + (1 : Nat)).ble 800000) (.br (((150000 : Nat) + ((150000 : Nat) + (64 : Nat) + (150000 : Nat) + (1 : Nat))).ble 800000) (.br (decide (rcmp (VX (List.take ys.length (List.drop (0 : Nat) ys))) (VX v * rtV x + VX w) = (0 : Int))) (.br (((150000 : Nat) + ((150000 : Nat) + (64 : Nat) + (150000 : Nat) + (1 : Nat))).ble 800000) (.ok (.ret (.b (decide (rcmp (VY (List.take ys.length (List.drop (0 : Nat) ys))) (VY v * rtV x + VY w) = (0 : Int)))) [])) (.no 1)) (.ok (.ret (.bl false) []))) (.no 1)) (.no 1)) (.no 1)) (.no 1)) (.no 1)) (.no 1)) (.ok (.ret (.bl false) []))) (.ok (.ret (.bl false) []))) (.ok (.ret (.bl false) []))) (.no 1)) (.no 14007)) (.no 1)) (.no 1)) (.no 1)) (.no 5004)) (.no 1)) (.no 5007)) (.no 1)) (.no 5010)) (.no 1)) (.no 4003)) (.no 1)) (.no 1) := by kernel_rfl
noncomputable def q10 : List Rat := [mkRat (1 : Int) (Int.toNat (1 : Int)), mkRat (0 : Int) (Int.toNat (1 : Int))]
theorem k65 (S : Am) (a b : Rat) : evF Tryd.prog [(23, s23), (32, cst [.lst 1 (.ints .i64 [3, 2])] True (armFr S)), (66, cst [armPV S, .lst 3 (.rats 64 q00), .lst 3 (.rats 64 q10)] True (.tup [.agg [.q a 150000, .q b 150000], .i .i64 0])), (84, s84)] [] {} Tryd.f65 [] [] retK =
  Tr.br (decP (isA [.lst 1 (.ints .i64 [(3 : Int), (2 : Int)])] True [.lst 1 (.ints .i64 [(3 : Int), (2 : Int)])])) (.br (((0 : Nat) + S.n).ble S.n) (.br (decide ((0 : Int) < (1 : Int)) && decide ((1 : Int) < (4611686018427387904 : Int)) && decide ((-4611686018427387904 : Int) < (0 : Int)) && decide ((0 : Int) < (4611686018427387904 : Int))) (.br (decide ((0 : Int) < (1 : Int)) && decide ((1 : Int) < (4611686018427387904 : Int)) && decide ((-4611686018427387904 : Int) < (0 : Int)) && decide ((0 : Int) < (4611686018427387904 : Int))) (.br (decide ((0 : Int) < (1 : Int)) && decide ((1 : Int) < (4611686018427387904 : Int)) && decide ((-4611686018427387904 : Int) < (1 : Int)) && decide ((1 : Int) < (4611686018427387904 : Int))) (.br (decide ((0 : Int) < (1 : Int)) && decide ((1 : Int) < (4611686018427387904 : Int)) && decide ((-4611686018427387904 : Int) < (0 : Int)) && decide ((0 : Int) < (4611686018427387904 : Int))) (.br (decP (isA [.agg [.s S.name, .agg [.agg [.q S.bx 64, .q S.by_ 64], .agg [.bl false, .q S.t 64]], .lst 16 (.fn S.n fun (j : Nat) => .agg [.q (S.lk j).len 64, .q (S.lk j).low 64, .q (S.lk j).high 64, .q (S.lk j).spd 64, .q (S.lk j).brk 64, .lst 6 (.fn (S.lk j).np fun (a : Nat) => .agg [.q ((S.lk j).px a) 64, .q ((S.lk j).py a) 64])])], .lst 3 (.rats 64 [mkRat (0 : Int) (Int.toNat (1 : Int)), mkRat (0 : Int) (Int.toNat (1 : Int))]), .lst 3 (.rats 64 [mkRat (1 : Int) (Int.toNat (1 : Int)), mkRat (0 : Int) (Int.toNat (1 : Int))])] True [.agg [.s S.name, .agg [.agg [.q S.bx 64, .q S.by_ 64], .agg [.bl false, .q S.t 64]], .lst 16 (.fn S.n fun (j : Nat) => .agg [.q (S.lk (j + (0 : Nat))).len 64, .q (S.lk (j + (0 : Nat))).low 64, .q (S.lk (j + (0 : Nat))).high 64, .q (S.lk (j + (0 : Nat))).spd 64, .q (S.lk (j + (0 : Nat))).brk 64, .lst 6 (.fn (S.lk (j + (0 : Nat))).np fun (a : Nat) => .agg [.q ((S.lk (j + (0 : Nat))).px a) 64, .q ((S.lk (j + (0 : Nat))).py a) 64])])], .lst 3 (.rats 64 [mkRat (0 : Int) (Int.toNat (1 : Int)), mkRat (0 : Int) (Int.toNat (1 : Int))]), .lst 3 (.rats 64 [mkRat (1 : Int) (Int.toNat (1 : Int)), mkRat (0 : Int) (Int.toNat (1 : Int))])])) (.br (decide ((0 : Int) = (0 : Int))) (.br (decide ((0 : Int) < (1 : Int)) && decide ((1 : Int) < (4611686018427387904 : Int)) && decide ((-4611686018427387904 : Int) < (0 : Int)) && decide ((0 : Int) < (4611686018427387904 : Int))) (.br (decide ((0 : Int) < (1 : Int)) && decide ((1 : Int) < (4611686018427387904 : Int)) && decide ((-4611686018427387904 : Int) < (10 : Int)) && decide ((10 : Int) < (4611686018427387904 : Int))) (.ok (.ret (.b (decide (a = mkRat (0 : Int) (Int.toNat (1 : Int))) && (decide (b = mkRat (10 : Int) (Int.toNat (1 : Int))) && true))) [])) (.no 1)) (.no 1)) (.ok (.ret (.bl false) []))) (.no 1)) (.no 1)) (.no 1)) (.no 1)) (.no 1)) (.no 2014)) (.no 1) := by kernel_rfl
theorem rtQ_lin (t x v w : Rat) : rtQ t (x * v + w) = rtQ t v * x + rtQ t w := by
  rw [rtQ, rtQ, rtQ, hide_eq, hide_eq, hide_eq, Rat.div_def, Rat.div_def, Rat.div_def]
  generalize (1 + t * t)⁻¹ = d
  grind
theorem vel_lin (c : Nat → Rat) (qs v w ys : List Rat) (x : Rat) (n : Nat) (h : ∀ i, i < n → ys.getD i 0 = x * v.getD i 0 + w.getD i 0) : ∀ k, k ≤ n → sumR (velX c qs ys) k = sumR (velX c qs v) k * x + sumR (velX c qs w) k
  | 0, _ => by
    show (0 : Rat) = 0 * x + 0
    grind
  | k + 1, hk => by
    have ih := vel_lin c qs v w ys x n h k (by omega)
    show sumR (velX c qs ys) k + velX c qs ys k = (sumR (velX c qs v) k + velX c qs v k) * x + (sumR (velX c qs w) k + velX c qs w k)
    rw [ih]
    unfold velX
    rw [h k (by omega), rtQ_lin]
    grind
include hG in
theorem orcR13 (hT : TabG G) : OrcOK Tryd.prog G R13 := .cons (gk21 hG hT) (.cons (ok36 hG) (.cons (gk43 hG hT) .nil))
include hG in
theorem goes13 (hT : TabG G) (x : Int) (hx : inI x = true) (A : Am) (qs v w : List Rat) (h1 : 1 ≤ v.length) (h3 : v.length ≤ 3) (hw : w.length = v.length) :
    Goes (Rnd Tryd.prog G Tryd.f13.ntmps 0 [4, 11, 12, 13, 14, 15, 37, 38] b13) (n13 x A qs v w 0) (.exit 0) (x13 x A qs v w ((List.range v.length).map fun i => rtV x * v.getD i 0 + w.getD i 0) v.length) := by
  refine Goes.build (xst := fun ys (j : Nat) => x13 x A qs v w ys ((j : Nat) : Int)) (fun i => rtV x * v.getD i 0 + w.getD i 0) (by simp) v.length h1 ?_ ?_ ?_
  · refine round_ok hG (orcR13 hG hT) mix (L := []) (pol := pol13) (O := R13) (LpsOK.none (by kernel_rfl)) (Nat.zero_le _) ?_
    rw [t13n, Tr.run_t (decide_eq_true (by omega)), Tr.run_t hx, Tr.run_t (by simp only [Bool.and_eq_true, decide_eq_true_eq]; omega), Tr.run_t (by decide), Tr.run_t (by simp only [Bool.and_eq_true, decide_eq_true_eq]; omega), Tr.run_t (by decide), Tr.run_t (by simp), Tr.run_t (by decide), Tr.run_ok]
    rfl
  · intro ys j hj hj1 hjm
    refine round_ok hG (orcR13 hG hT) mix (L := []) (pol := pol13) (O := R13) (LpsOK.none (by kernel_rfl)) (Nat.zero_le _) ?_
    rw [t13x, Int.toNat_natCast, Tr.run_t (decide_eq_true (by omega)), Tr.run_t hx, Tr.run_t (by simp only [Bool.and_eq_true, decide_eq_true_eq]; omega), Tr.run_t (by decide), Tr.run_t (by simp only [Bool.and_eq_true, decide_eq_true_eq]; omega), Tr.run_t (by decide), Tr.run_t (by simp only [Bool.and_eq_true, Nat.ble_eq, List.length_cons, List.length_nil]; omega), Tr.run_t (by simp only [Bool.and_eq_true, decide_eq_true_eq]; omega), Tr.run_ok, List.drop_zero, List.take_length]
    unfold x13
    rw [List.length_append]
    rfl
  · refine round_ok hG (orcR13 hG hT) mix (L := []) (pol := pol13) (O := R13) (LpsOK.none (by kernel_rfl)) (Nat.zero_le _) ?_
    rw [t13x, Tr.run_f (decide_eq_false (by omega)), Tr.run_ok]
    rfl
include hG in
theorem vk66 (hT : TabG G) (A : Am) (hA : armB A = true) (qs : List Rat) (hq : qs.length = A.n) : SpecOK Tryd.prog G 66 (v66 A qs (fun vs => sumR (velX (colX (allF (bsF A) (qf qs) (fun j => (A.lk j).len) A.n) A.n) qs vs) A.n) (fun vs => sumR (velX (colY (allF (bsF A) (qf qs) (fun j => (A.lk j).len) A.n) A.n) qs vs) A.n)) := by
  intro args hs K x h
  unfold v66 at h
  split at h
  case h_2 => cases h
  rename_i a q w vs
  obtain ⟨hc, hr⟩ := Tr.of_br h
  obtain ⟨rfl, rfl, hv, hw⟩ := decP_iff.1 hc
  exact ⟨_, _, pc66 hG hT A hA q vs hq hv w hw, hr⟩
include hG in
theorem vk33 (A : Am) (hA : armB A = true) (hX : limX A = true) : SpecOK Tryd.prog G 33 (v33 A (fun m => cfL A.lk m A.n)) := by
  intro args hs K x h
  unfold v33 at h
  split at h
  case h_2 => cases h
  rename_i a m
  obtain ⟨hc, hr⟩ := Tr.of_br h
  obtain ⟨rfl, hm⟩ := decP_iff.1 hc
  obtain ⟨r, hs', p, e⟩ := ok33 hG [armPV A, .w m] [] (fun r hs' => .ok (.ret r hs')) (.ret (.fr 3 (.rats 64 (cfL A.lk m A.n))) []) (by
    show (Tr.br _ _ _).run = _
    rw [Tr.run_t (decP_iff.2 ⟨okA_arm hA, hX, hm⟩)]; rfl)
  cases e
  exact ⟨_, _, p, hr⟩
theorem move_x : sumR (velX (colX (allF (bsF A32) (qf q00) (fun j => (A32.lk j).len) 2) 2) q00 q10) 2 = mkRat (0 : Int) (Int.toNat (1 : Int)) := by
  have h0 := (all_at (b := bsF A32) (q := qf q00) (L := fun j => (A32.lk j).len) (n := 2) (i := 0) (by omega))
  have h1 := (all_at (b := bsF A32) (q := qf q00) (L := fun j => (A32.lk j).len) (n := 2) (i := 1) (by omega))
  have h2 := (all_at (b := bsF A32) (q := qf q00) (L := fun j => (A32.lk j).len) (n := 2) (i := 2) (by omega))
  show (0 : Rat) + velX _ _ _ 0 + velX _ _ _ 1 = _
  unfold velX colX
  rw [h0.2, h1.2, h2.2]
  simp only [endR, estep, fstep, thH, thT, cosR, sinR, ftT, rtQ, hide_eq]
  kernel_rfl
theorem move_y : sumR (velX (colY (allF (bsF A32) (qf q00) (fun j => (A32.lk j).len) 2) 2) q00 q10) 2 = mkRat (10 : Int) (Int.toNat (1 : Int)) := by
  have h0 := (all_at (b := bsF A32) (q := qf q00) (L := fun j => (A32.lk j).len) (n := 2) (i := 0) (by omega))
  have h1 := (all_at (b := bsF A32) (q := qf q00) (L := fun j => (A32.lk j).len) (n := 2) (i := 1) (by omega))
  have h2 := (all_at (b := bsF A32) (q := qf q00) (L := fun j => (A32.lk j).len) (n := 2) (i := 2) (by omega))
  show (0 : Rat) + velX _ _ _ 0 + velX _ _ _ 1 = _
  unfold velX colY
  rw [h0.1, h1.1, h2.1]
  simp only [endR, estep, fstep, thH, thT, cosR, sinR, ftT, rtQ, hide_eq]
  kernel_rfl
include hG in
theorem pc65 (hT : TabG G) : PC Tryd.prog G 65 [] [] (.bl true) [] := by
  have p32 : PC Tryd.prog G 32 [.lst 1 (.ints .i64 [3, 2])] [] (armFr A32) [] := by
    obtain ⟨r, hs', p, e⟩ := ok32s hG [.lst 1 (.ints .i64 [3, 2])] [] (fun r hs' => .ok (.ret r hs')) (.ret (armFr A32) []) (by rfl)
    cases e
    exact p
  have p66 := pc66 hG hT A32 armB_32 q00 q10 rfl rfl 64 (by omega)
  rw [show A32.n = 2 from rfl, move_x, move_y] at p66
  refine (evF_pc hG (.cons (ok23 hG) (.cons (cst_t p32) (.cons (cst_t p66) (.cons (ok84 hG) .nil)))) mix enter65 (L := []) (pol := {}) (LpsOK.none (by kernel_rfl)) (r := .b true) (hs' := []) ?_).le (rle_b rfl) (.refl _)
  refine (congrArg Tr.run (k65 A32 _ _)).trans ?_
  rw [Tr.run_t (decP_iff.2 ⟨rfl, trivial⟩), Tr.run_t (by rw [Nat.ble_eq]; omega)]
  repeat rw [Tr.run_t (by first | decide | exact decP_iff.2 ⟨rfl, trivial⟩)]
  rw [Tr.run_ok]
  show some (Res.ret (.b (decide (mkRat (0 : Int) (Int.toNat (1 : Int)) = mkRat (0 : Int) (Int.toNat (1 : Int))) && (decide (mkRat (10 : Int) (Int.toNat (1 : Int)) = mkRat (10 : Int) (Int.toNat (1 : Int))) && true))) []) = _
  rw [decide_eq_true rfl, decide_eq_true rfl]
  rfl
include hG in
theorem law13 (hT : TabG G) (l m k n : PV) (x : Int) (hl : okW l = true) (hm : okW m = true) (hk : okW k = true) (hn : okW n = true) (hx : inI x = true) : PC Tryd.prog G 13 [.w l, .w m, .w k, .w n, .i .i64 x] [] (.bl true) [] := by
  have hA := armB_V l
  have hX := limX_V l
  have p15 : PC Tryd.prog G 15 [.w l] [] (armFr (armD l)) [] := by
    obtain ⟨r, hs', p, e⟩ := ok15 hG [.w l] [] (fun r hs' => .ok (.ret r hs')) (.ret (armFr (armD l)) []) (by show (Tr.br _ _ _).run = _; rw [Tr.run_t hl]; rfl)
    cases e
    exact p
  generalize armD l = A at *
  have p33 := vk33 hG A hA hX
  obtain ⟨h1, h2, h3, h4, h5, h6, h7⟩ := armB_c hA
  have cl : ∀ m, (cfL A.lk m A.n).length = A.n := fun m => cfL_len _ _ _
  generalize hCF : (fun m => cfL A.lk m A.n) = CF at *
  have cl' : ∀ m, (CF m).length = A.n := fun m => by rw [← hCF]; exact cl m
  have p66 := vk66 hG hT A hA (CF m) (cl' m)
  generalize colX (allF (bsF A) (qf (CF m)) (fun j => (A.lk j).len) A.n) A.n = cx at *
  generalize colY (allF (bsF A) (qf (CF m)) (fun j => (A.lk j).len) A.n) A.n = cy at *
  have hks := cl' k
  have hns := cl' n
  have hms := cl' m
  have g := goes13 hG hT x hx A (CF m) (CF k) (CF n) (by omega) (by omega) (by omega)
  have hy : ∀ i, i < A.n → ((List.range (CF k).length).map fun i => rtV x * (CF k).getD i 0 + (CF n).getD i 0).getD i 0 = rtV x * (CF k).getD i 0 + (CF n).getD i 0 := fun i hi => getD_map_range _ (by omega)
  have hyl : ((List.range (CF k).length).map fun i => rtV x * (CF k).getD i 0 + (CF n).getD i 0).length = A.n := by rw [List.length_map, List.length_range]; exact hks
  generalize ((List.range (CF k).length).map fun i => rtV x * (CF k).getD i 0 + (CF n).getD i 0) = ys at *
  have lx := vel_lin cx (CF m) (CF k) (CF n) ys (rtV x) A.n hy A.n (Nat.le_refl _)
  have ly := vel_lin cy (CF m) (CF k) (CF n) ys (rtV x) A.n hy A.n (Nat.le_refl _)
  refine (evF_pc hG (.cons (cst_t p15) (.cons (gk21 hG hT) (.cons p33 (.cons (ok36 hG) (.cons (gk40 hG hT) (.cons (gk43 hG hT) (.cons (gk57 hG hT) (.cons (cst_t (pc65 hG hT)) (.cons p66 (.cons (gk67 hG hT) .nil)))))))))) mix enter13 (pol := pol13)
    (lps1 (b := b13) (live := [4, 11, 12, 13, 14, 15, 37, 38]) (m := 0) (L := [(7, lcst (n13 x A (CF m) (CF k) (CF n) 0) (.exit 0) (x13 x A (CF m) (CF k) (CF n) ys (CF k).length))]) (by kernel_rfl) (by kernel_rfl) (by kernel_rfl) (lcst_ok g)) (r := .b true) (hs' := []) ?_).le (rle_b rfl) (.refl _)
  refine (congrArg Tr.run (e13 l m k n x A (CF m) CF _ _ (CF k) (CF n) ys _)).trans ?_
  simp only [List.drop_zero, List.take_length, Nat.add_zero]
  rw [lx, ly, rcmp_refl0, rcmp_refl0]
  rw [Tr.run_t (decP_iff.2 ⟨rfl, trivial⟩), Tr.run_t (decP_iff.2 ⟨rfl, trivial⟩), Tr.run_t (bleZ _), Tr.run_t (decP_iff.2 ⟨rfl, hm⟩), Tr.run_t (bleZ _), Tr.run_t (decP_iff.2 ⟨rfl, hk⟩), Tr.run_t (bleZ _), Tr.run_t (decP_iff.2 ⟨rfl, hn⟩), Tr.run_t (bleZ _), Tr.run_t isLS_t,
    Tr.run_t (decP_iff.2 ⟨rfl, rfl, hks, by decide⟩), Tr.run_t (decP_iff.2 ⟨rfl, rfl, hns, by decide⟩), Tr.run_t (bleZ _), Tr.run_t (decP_iff.2 ⟨rfl, rfl, hyl, by decide⟩), Tr.run_t (by decide), Tr.run_t (by decide), Tr.run_t (by decide), Tr.run_t hx]
  repeat rw [Tr.run_t (by decide)]
  rw [Tr.run_ok]
  rfl
end Go.Proofs.YtejfdhcigkgbmaaDoor.PE
namespace Go.Proofs.YtejfdhcigkgbmaaDoor.PE
open Go
theorem calls_of_does {P : Program} {g : Nat} {fn : Func} {c : Code} (hg : Enters P g fn c) {vs : Array Value} {w : World} {R : Value → World → Prop} (h : Does P g vs w R) : Calls P g vs w fun e w' => ∃ v, e = .returned v ∧ R v w' := by
  have h1 := h { dst := some 0, op := .move (.const undef), type := 0, pos := "", after := #[], guard := none } ⟨#[undef], []⟩ (fun a w' => ∃ v, a.tmps[0]? = some v ∧ R v w') (fun _ _ _ => False) (fun v w' hv => ⟨v, by simp [Act.put], hv⟩)
  have : (callFunc g vs).run P w = .ok (.enter g vs) w := by
    have hname : fn.name ≠ "runtime.NumGoroutine" := by simpa using hg.name
    simp [callFunc, hg.at_, hname, hg.body]
  rw [this, Oper.upon_enter] at h1
  refine h1.mono fun e w' he => ?_
  cases e with
  | returned v =>
    obtain ⟨v', hv, hr⟩ := he
    simp [Act.put] at hv
    subst hv
    exact ⟨v, rfl, hr⟩
  | panicked chain => exact absurd he (by simp)
  | outgrown => exact absurd he (by simp [LetsOut])
theorem HRel.none (w : World) : HRel w (fun _ => False) noMu (hget (([] : List Blk).map some)) :=
  ⟨fun b k h => by simp [hget] at h, fun b k a z h => by simp [hget] at h, fun b b' k k' a z z' h => by simp [hget] at h, fun a h => h.elim⟩
theorem keptBut_of_old {w w' : World} (h1 : w'.os = w.os) (h2 : w'.output = w.output) (h3 : ∀ n, n < w.heap.size → w'.heap[n]? = w.heap[n]?) (may : MemPlace → Prop) : w.keptBut w' may := by
  refine ⟨h1, h2, fun i hi => ?_⟩
  rw [h3 i hi]
  split
  · rename_i e1 e2
    rw [e1] at e2
    cases e2
    exact ⟨rfl, rfl, rfl, fun _ _ => rfl⟩
  · rename_i e1 e2
    rw [e1] at e2
    cases e2
    exact .inr ⟨rfl, rfl⟩
  · rfl
end Go.Proofs.YtejfdhcigkgbmaaDoor.PE
namespace Go.Proofs.YtejfdhcigkgbmaaDoor.PE
open Go Go.ChangeShapes Go.WideShapes
set_option maxRecDepth 100000
def blkOf : Value → Nat → Prop
  | .slice (some a) _ _, b => b = a.block
  | _, _ => False
section
variable {H : Type} {enc : TypeId × Value → H} {P : Program} {w : World} {t e : TypeId} {base : Nat} {v : Value} {d : DataW H} {p : List MemPlace}
theorem arg_ints (ht : P.underlying t = some (.slice e)) (he : P.underlying e = some (.int .i64)) (hc : P.cellsOf e = 1)
    (hval : Value.okWide P w .any base t v) (h : DataW.Trod enc P w 0 (fun _ => true) true t v d p) :
    ∃ u : PV, okW u = true ∧ (∀ n ∈ intsW u, -9223372036854775808 ≤ n ∧ n ≤ 9223372036854775807) ∧ (∀ b, blkOf v b → b < w.heap.size) ∧ (∀ S : Nat → Prop, (∀ b, blkOf v b → S b) → RepV w S noMu (.w u) v) ∧
      (∀ w' : World, (∀ n, n < w.heap.size → w'.heap[n]? = w.heap[n]?) → ∃ p', DataW.Trod enc P w' 0 (fun b => decide (b < w.heap.size)) true t v d p') ∧
      ((intsW u = [] ∧ d = .nil) ∨ ∃ sp, d = .slice (lits .i64 (intsW u)) sp) := by
  have hval' := hval
  obtain ⟨a0, len, cap, rfl⟩ := okWide_slice ht hval
  obtain ⟨fuel, hf⟩ := h
  rcases open_ints ht he hc hf with ⟨hcs, hx⟩ | ⟨a, len', cap', zs, hcs, _, hl, hm, hz, hx, hcell, hwz⟩
  · simp [Value.cells] at hcs
    obtain ⟨rfl, rfl, rfl⟩ := hcs
    simp only [Prod.mk.injEq] at hx
    obtain ⟨rfl, rfl⟩ := hx
    refine ⟨.nil, rfl, fun n hn => (nomatch hn), fun b hb => hb.elim, fun S _ => .cell _ _ _ rfl (.w _ _ _ (.nil _)), fun w' _ => ⟨[], RowKit.shut_slice_nil ht⟩, .inl ⟨rfl, rfl⟩⟩
  · simp [Value.cells] at hcs
    obtain ⟨rfl, rfl, rfl⟩ := hcs
    simp only [Prod.mk.injEq] at hx
    obtain ⟨rfl, rfl⟩ := hx
    simp only [if_true] at hz
    unfold Value.okWide at hval'
    rw [ht] at hval'
    simp only [Cell.okWide, Cell.ok, ht] at hval'
    obtain ⟨_, _, _, hsp, row, cells, hsh, _⟩ := hval'
    obtain ⟨b, off, spot⟩ := a
    simp only at hsp
    subst hsp
    have hb : b < w.heap.size := by
      unfold World.shape? at hsh
      split at hsh
      · rename_i hh; exact (Array.getElem?_eq_some_iff.1 hh).1
      · cases hsh
    have hcell' : ∀ j, j < zs.length → w.cell? ⟨b, off + j, none⟩ = some (.int .i64 (zs.getD j 0)) := fun j hj => by rw [← add_plain]; exact hcell j hj
    have hlen : (zs.take len).length = len := by rw [List.length_take]; omega
    refine ⟨.lst 1 (.ints .i64 (zs.take len)), rfl, fun n hn => bounds_i64 (hwz n (List.mem_of_mem_take hn)), fun c hc => (by rw [show c = b from hc]; exact hb), fun S hS => ?_, fun w' hw' => ?_, .inr ⟨_, rfl⟩⟩
    · refine .cell _ _ _ rfl (.w _ _ _ ?_)
      have := RepC.lst (w := w) (S := S) noMu 1 (.ints .i64 (zs.take len)) b off cap (fun j => [.int .i64 ((zs.take len).getD j 0)]) (by show (zs.take len).length ≤ cap; omega) (hS b rfl)
        (fun i hi => .i _ _ _) (fun _ _ => rfl) (fun i j hi hj => by
          have hi' : i < len := by rw [← hlen]; exact hi
          obtain rfl : j = 0 := by omega
          show w.cell? ⟨b, off + (i * 1 + 0), none⟩ = _
          rw [Nat.mul_one, Nat.add_zero, hcell' i (by omega)]
          simp [List.getD_eq_getElem?_getD, hi'])
      rw [show (Cont.ints .i64 (zs.take len)).len = len from hlen] at this
      exact this
    · have hd : decide (b < w.heap.size) = true := decide_eq_true hb
      exact ⟨_, 2, shut_ints' (enc := enc) (w := w') (base := 0) (spare := fun b => decide (b < w.heap.size)) (held := true) (len := len) (cap := cap) (zs := zs) 0 ht he hc
        (Nat.zero_le b) hl hm (by simp only [hd, if_true]; exact hz) (fun i hi => by rw [cell_block (hw' b hb)]; exact hcell' i hi) hwz⟩
end
end Go.Proofs.YtejfdhcigkgbmaaDoor.PE
namespace Go.Proofs.YtejfdhcigkgbmaaDoor.PE
open Go
set_option maxRecDepth 100000
theorem calls_trueG {P : Program} {G : World → (Nat → Prop) → Prop} {g : Nat} {fn : Func} {c : Code} (hg : Enters P g fn c) {args : List PV} (h : PC P G g args [] (.bl true) []) {w : World} {S : Nat → Prop} {vs : List Value} (hw : G w S) (hS : ∀ a, S a → a < w.heap.size)
    (hv : RepVL w S noMu args vs) (may : MemPlace → Prop) :
    Calls P g vs.toArray w fun e w' => e = .returned (.bool true) ∧ w.keptBut w' may ∧ ∀ n, n < w.heap.size → w'.heap[n]? = w.heap[n]? := by
  refine (calls_of_does hg (h w S noMu vs hw hv ⟨fun b k h => by simp [hget] at h, fun b k a z h => by simp [hget] at h, fun b b' k k' a z z' h => by simp [hget] at h, hS⟩ (fun _ _ => rfl))).mono fun e w' he => ?_
  obtain ⟨v, rfl, S', μ', c⟩ := he
  have hr := c.rep
  have : v = .bool true := by
    cases hr with
    | cell _ _ _ _ h => cases h; rfl
    | agg _ _ _ hv h => simp [isAgg, unfr, unfrA, unfr1] at hv
  subst this
  have old : ∀ n, n < w.heap.size → w'.heap[n]? = w.heap[n]? := fun n hn => c.old n hn (fun b z hb => by simp at hb)
  exact ⟨rfl, keptBut_of_old c.os c.output old may, old⟩
def TG (w : World) (S : Nat → Prop) : Prop := S 1 ∧ Go.Proofs.TabAt 1 Go.Lib.deBruijn64tab w
theorem tg_ok : GOk TG := fun _ _ _ _ m h => ⟨m.sub 1 h.1, fun j hj => (m.cell 1 h.1 j).trans (h.2 j hj)⟩
theorem tg_tab : TabG TG := fun _ _ h => h.2
theorem tab_block {w : World} (h : Go.Proofs.TabAt 1 Go.Lib.deBruijn64tab w) : 1 < w.heap.size := by
  have h0 := h 0 (by decide)
  rcases Nat.lt_or_ge 1 w.heap.size with h1 | h1
  · exact h1
  · unfold World.cell? at h0
    rw [show w.heap[(⟨1, 0, none⟩ : Addr).block]? = none from Array.getElem?_eq_none h1] at h0
    cases h0
theorem tab_of_laid {laid : List (String × DataW Unit)} {W : World} (hl : laid = [("math/bits.deBruijn64tab", Go.Lib.tabData .u8 (Go.Lib.deBruijn64tab.map fun n : Nat => (n : Int)))]) (h : laidMetH Tryd.prog laid W) : Go.Proofs.TabAt 1 Go.Lib.deBruijn64tab W := by
  subst hl
  have h1 : laidMet Tryd.prog [("math/bits.deBruijn64tab", Go.Lib.tabData .u8 (Go.Lib.deBruijn64tab.map fun n : Nat => (n : Int)))] W := h
  have h2 := Go.Lib.tabIs_of_head (g := 1) (t := 190) (e := 5) (n := 64) (by kernel_rfl) (by kernel_rfl) (by kernel_rfl) (by kernel_rfl) (by kernel_rfl) (by kernel_rfl) h1
  intro j hj
  have h3 := h2.cell (g := 1) (by kernel_rfl) j (by rw [List.length_map]; exact hj)
  rw [h3, List.getD_eq_getElem?_getD, List.getD_eq_getElem?_getD, List.getElem?_map, List.getElem?_eq_getElem hj]
  rfl
end Go.Proofs.YtejfdhcigkgbmaaDoor.PE
