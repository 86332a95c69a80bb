/-
  Part 6 of the proof: contracts of the program's functions. Conditions: those of the theorems below.
-/
import Derived.Test.YtnenjkgffapplaaDoorSs5
import Derived.Test.YtnenjkgffapplaaDoorSs2
import Derived.RowKit3
import GoSem.ClaimChange
import Derived.ChangeSlices
import Derived.WideShapes
import Derived.OpenShut
import Derived.Test.YtnenjkgffapplaaDoorSs3
import Derived.Lib.LaidTab
set_option linter.all false
namespace Go.Proofs.YtnenjkgffapplaaDoor.PE
open Go
set_option maxRecDepth 100000
variable {G : World → (Nat → Prop) → Prop} (hG : GOk G)
theorem enterNul : Enters Tryd.prog 86 Tryd.f86 (bodyC Tryd.f86) := ⟨Tryd.func86, by kernel_rfl, rfl⟩
noncomputable def bNul : Code := (loopsOf (bodyC Tryd.f86)).getD 0 .skip
def polNul : Pol := { live := [(3, [0, 2, 3, 4, 12, 13, 14])], own := [32, 86, 114] }
noncomputable def RNul : Orc := [(31, g26)]
noncomputable def ONul : Orc := [(31, g26), (63, c71), (64, g72), (84, g97), (99, g83)]
def i0 : Rat := ((0 : Int) : Rat)
def i1 : Rat := ((1 : Int) : Rat)
def stN (n : Nat) (cx cy : Nat → Rat) (i : Int) : LS := ⟨[.lst 6 (colC n cx cy), .nil, .ptr 0 3 0 0 [], .ptr 1 3 0 0 [], .lst 6 (colC n cx cy), .i .i64 n, .i .i64 i], [some ⟨3, .vals [.q ((0 : Int) : Rat) 64]⟩, some ⟨3, .vals [.q ((1 : Int) : Rat) 64]⟩]⟩
def bdN (n : Nat) (cx cy : Nat → Rat) (i : Nat) : LS := ⟨[.lst 6 (colC n cx cy), .sl 0 3 0 n, .ptr 1 3 0 0 [], .ptr 2 3 0 0 [], .lst 6 (colC n cx cy), .i .i64 n, .i .i64 i], [some ⟨3, .rats 64 ([((0 : Int) : Rat), ((0 : Int) : Rat), ((0 : Int) : Rat)].set i ((1 : Int) : Rat))⟩, some ⟨3, .vals [.q ((0 : Int) : Rat) 64]⟩, some ⟨3, .vals [.q ((1 : Int) : Rat) 64]⟩]⟩
theorem tNul (n : Nat) (cx cy : Nat → Rat) (i : Int) : (evRound Tryd.prog RNul [] polNul Tryd.f86.ntmps 0 [0, 2, 3, 4, 12, 13, 14] bNul (stN n cx cy i)).run =
  (Tr.br (decide (i < (↑n : Int))) (.br (ix (i) ((↑n : Int))) (.br (decide (rcmp (cx i.toNat) (0 : Rat) = (0 : Int))) (.br (decide (rcmp (cy i.toNat) (0 : Rat) = (0 : Int))) (.br (decide ((0 : Int) ≤ (↑n : Int)) && decide ((↑n : Int) ≤ (3 : Int))) (.br (ix (i) ((↑((↑n : Int).toNat - (0 : Nat)) : Int))) (.br (((0 : Nat) + i.toNat + (1 : Nat)).ble 3) (.ok (.out .ret (LS.mk [.lst 6 (.fn n fun (i : Nat) => .agg [.q (cx i) 40001, .q (cy i) 40001]), .sl 0 3 0 ((↑n : Int).toNat - (0 : Nat)), .ptr 1 3 0 0 [], .ptr 2 3 0 0 [], .lst 6 (.fn n fun (i : Nat) => .agg [.q (cx i) 40001, .q (cy i) 40001]), .i .i64 (↑n : Int), .i .i64 i] [some (.mk 3 (.rats 64 ([(↑(0 : Int) : Rat), (↑(0 : Int) : Rat), (↑(0 : Int) : Rat)].set ((0 : Nat) + i.toNat) (↑(1 : Int) : Rat)))), some (.mk 3 (.vals [.q (↑(0 : Int) : Rat) 64])), some (.mk 3 (.vals [.q (↑(1 : Int) : Rat) 64]))]))) (.no 8001)) (.no 8002)) (.no 7002)) (.br (ib (i + (1 : Int))) (.ok (.out .normal (LS.mk [.lst 6 (.fn n fun (i : Nat) => .agg [.q (cx i) 40001, .q (cy i) 40001]), .nil, .ptr 0 3 0 0 [], .ptr 1 3 0 0 [], .lst 6 (.fn n fun (i : Nat) => .agg [.q (cx i) 40001, .q (cy i) 40001]), .i .i64 (↑n : Int), .i .i64 (i + (1 : Int))] [some (.mk 3 (.vals [.q (↑(0 : Int) : Rat) 64])), some (.mk 3 (.vals [.q (↑(1 : Int) : Rat) 64]))]))) (.no 10002))) (.br (ib (i + (1 : Int))) (.ok (.out .normal (LS.mk [.lst 6 (.fn n fun (i : Nat) => .agg [.q (cx i) 40001, .q (cy i) 40001]), .nil, .ptr 0 3 0 0 [], .ptr 1 3 0 0 [], .lst 6 (.fn n fun (i : Nat) => .agg [.q (cx i) 40001, .q (cy i) 40001]), .i .i64 (↑n : Int), .i .i64 (i + (1 : Int))] [some (.mk 3 (.vals [.q (↑(0 : Int) : Rat) 64])), some (.mk 3 (.vals [.q (↑(1 : Int) : Rat) 64]))]))) (.no 10002))) (.no 5005)) (.ok (.out (.exit 0) (LS.mk [.lst 6 (.fn n fun (i : Nat) => .agg [.q (cx i) 40001, .q (cy i) 40001]), .nil, .ptr 0 3 0 0 [], .ptr 1 3 0 0 [], .lst 6 (.fn n fun (i : Nat) => .agg [.q (cx i) 40001, .q (cy i) 40001]), .i .i64 (↑n : Int), .i .i64 i] [some (.mk 3 (.vals [.q (↑(0 : Int) : Rat) 64])), some (.mk 3 (.vals [.q (↑(1 : Int) : Rat) 64]))])))).run := by kernel_rfl
theorem eNulZ (n : Nat) (cx cy : Nat → Rat) (i : Nat) : (evF Tryd.prog ONul [(3, lcst (stN n cx cy 0) .ret (bdN n cx cy i))] polNul Tryd.f86 [.lst 6 (colC n cx cy)] [] retK).run =
  (Tr.br (decP (isLS (LS.mk [.lst 6 (.fn n fun (i : Nat) => .agg [.q (cx i) 40001, .q (cy i) 40001]), .nil, .ptr 0 3 0 0 [], .ptr 1 3 0 0 [], .lst 6 (.fn n fun (i : Nat) => .agg [.q (cx i) 40001, .q (cy i) 40001]), .i .i64 (↑n : Int), .i .i64 (0 : Int)] [some (.mk 3 (.vals [.q (↑(0 : Int) : Rat) 64])), some (.mk 3 (.vals [.q (↑(1 : Int) : Rat) 64]))]) (LS.mk [.lst 6 (.fn n fun (i : Nat) => .agg [.q (cx i) 40001, .q (cy i) 40001]), .nil, .ptr 0 3 0 0 [], .ptr 1 3 0 0 [], .lst 6 (.fn n fun (i : Nat) => .agg [.q (cx i) 40001, .q (cy i) 40001]), .i .i64 (↑n : Int), .i .i64 (0 : Int)] [some (.mk 3 (.vals [.q (↑(0 : Int) : Rat) 64])), some (.mk 3 (.vals [.q (↑(1 : Int) : Rat) 64]))]))) (.br (n.ble ([(↑(0 : Int) : Rat), (↑(0 : Int) : Rat), (↑(0 : Int) : Rat)].set i (↑(1 : Int) : Rat)).length) (.ok (.ret (.fr 3 (.rats 64 (List.take n (List.drop (0 : Nat) ([(↑(0 : Int) : Rat), (↑(0 : Int) : Rat), (↑(0 : Int) : Rat)].set i (↑(1 : Int) : Rat)))))) [])) (.no 15)) (.no 1)).run := by kernel_rfl
theorem eNulN (n : Nat) (cx cy : Nat → Rat) : (evF Tryd.prog ONul [(3, lcst (stN n cx cy 0) (.exit 0) (stN n cx cy n))] polNul Tryd.f86 [.lst 6 (colC n cx cy)] [] retK).run =
  (Tr.br (decP (isLS (LS.mk [.lst 6 (.fn n fun (i : Nat) => .agg [.q (cx i) 40001, .q (cy i) 40001]), .nil, .ptr 0 3 0 0 [], .ptr 1 3 0 0 [], .lst 6 (.fn n fun (i : Nat) => .agg [.q (cx i) 40001, .q (cy i) 40001]), .i .i64 (↑n : Int), .i .i64 (0 : Int)] [some (.mk 3 (.vals [.q (↑(0 : Int) : Rat) 64])), some (.mk 3 (.vals [.q (↑(1 : Int) : Rat) 64]))]) (LS.mk [.lst 6 (.fn n fun (i : Nat) => .agg [.q (cx i) 40001, .q (cy i) 40001]), .nil, .ptr 0 3 0 0 [], .ptr 1 3 0 0 [], .lst 6 (.fn n fun (i : Nat) => .agg [.q (cx i) 40001, .q (cy i) 40001]), .i .i64 (↑n : Int), .i .i64 (0 : Int)] [some (.mk 3 (.vals [.q (↑(0 : Int) : Rat) 64])), some (.mk 3 (.vals [.q (↑(1 : Int) : Rat) 64]))]))) (.br (decide ((2 : Int) ≤ (↑n : Int))) (.br (ix ((0 : Int)) ((↑n : Int))) (.br (ix ((1 : Int)) ((↑n : Int))) (.br (decide (rcmp (cx (0 : Nat) * cy (1 : Nat) - cy (0 : Nat) * cx (1 : Nat)) (0 : Rat) = (0 : Int))) (.br (ix ((0 : Int)) ((↑n : Int))) (.br (ix ((1 : Int)) ((↑n : Int))) (.br (decide (cx (1 : Nat) = (0 : Rat))) (.br (ix ((0 : Int)) ((↑n : Int))) (.br (ix ((1 : Int)) ((↑n : Int))) (.br (decide (cy (1 : Nat) = (0 : Rat))) (.no 1) (.br (decide ((0 : Int) ≤ (↑n : Int)) && decide ((↑n : Int) ≤ (3 : Int))) (.br (((↑n : Int).toNat - (0 : Nat)).ble [(↑(1 : Int) : Rat), -(cy (0 : Nat) / cy (1 : Nat)), (↑(0 : Int) : Rat)].length) (.ok (.ret (.fr 3 (.rats 80002 (List.take ((↑n : Int).toNat - (0 : Nat)) (List.drop (0 : Nat) [(↑(1 : Int) : Rat), -(cy (0 : Nat) / cy (1 : Nat)), (↑(0 : Int) : Rat)])))) [])) (.no 15)) (.no 15002))) (.no 14008)) (.no 14012)) (.br (decide ((0 : Int) ≤ (↑n : Int)) && decide ((↑n : Int) ≤ (3 : Int))) (.br (((↑n : Int).toNat - (0 : Nat)).ble [(↑(1 : Int) : Rat), -(cx (0 : Nat) / cx (1 : Nat)), (↑(0 : Int) : Rat)].length) (.ok (.ret (.fr 3 (.rats 80002 (List.take ((↑n : Int).toNat - (0 : Nat)) (List.drop (0 : Nat) [(↑(1 : Int) : Rat), -(cx (0 : Nat) / cx (1 : Nat)), (↑(0 : Int) : Rat)])))) [])) (.no 15)) (.no 15002))) (.no 12010)) (.no 12014)) (.br (decide ((↑n : Int) = (3 : Int))) (.br (ix ((1 : Int)) ((↑n : Int))) (.br (ix ((2 : Int)) ((↑n : Int))) (.br (ix ((2 : Int)) ((↑n : Int))) (.br (ix ((0 : Int)) ((↑n : Int))) (.br (ix ((0 : Int)) ((↑n : Int))) (.br (ix ((1 : Int)) ((↑n : Int))) (.br (Nat.ble 3 [cx (1 : Nat) * cy (2 : Nat) - cy (1 : Nat) * cx (2 : Nat), cx (2 : Nat) * cy (0 : Nat) - cy (2 : Nat) * cx (0 : Nat), cx (0 : Nat) * cy (1 : Nat) - cy (0 : Nat) * cx (1 : Nat)].length) (.ok (.ret (.fr 3 (.rats 160005 [cx (1 : Nat) * cy (2 : Nat) - cy (1 : Nat) * cx (2 : Nat), cx (2 : Nat) * cy (0 : Nat) - cy (2 : Nat) * cx (0 : Nat), cx (0 : Nat) * cy (1 : Nat) - cy (0 : Nat) * cx (1 : Nat)])) [])) (.no 15)) (.no 17005)) (.no 17008)) (.no 17012)) (.no 17015)) (.no 17019)) (.no 17022)) (.ok (.ret .nil [])))) (.no 11006)) (.no 11009)) (.br (decide ((↑n : Int) = (3 : Int))) (.br (ix ((1 : Int)) ((↑n : Int))) (.br (ix ((2 : Int)) ((↑n : Int))) (.br (ix ((2 : Int)) ((↑n : Int))) (.br (ix ((0 : Int)) ((↑n : Int))) (.br (ix ((0 : Int)) ((↑n : Int))) (.br (ix ((1 : Int)) ((↑n : Int))) (.br (Nat.ble 3 [cx (1 : Nat) * cy (2 : Nat) - cy (1 : Nat) * cx (2 : Nat), cx (2 : Nat) * cy (0 : Nat) - cy (2 : Nat) * cx (0 : Nat), cx (0 : Nat) * cy (1 : Nat) - cy (0 : Nat) * cx (1 : Nat)].length) (.ok (.ret (.fr 3 (.rats 160005 [cx (1 : Nat) * cy (2 : Nat) - cy (1 : Nat) * cx (2 : Nat), cx (2 : Nat) * cy (0 : Nat) - cy (2 : Nat) * cx (0 : Nat), cx (0 : Nat) * cy (1 : Nat) - cy (0 : Nat) * cx (1 : Nat)])) [])) (.no 15)) (.no 17005)) (.no 17008)) (.no 17012)) (.no 17015)) (.no 17019)) (.no 17022)) (.ok (.ret .nil [])))) (.no 1)).run := by kernel_rfl
theorem enterStl : Enters Tryd.prog 41 Tryd.f41 (bodyC Tryd.f41) := ⟨Tryd.func41, by kernel_rfl, rfl⟩
noncomputable def bStl : Code := (loopsOf (bodyC Tryd.f41)).getD 0 .skip
def polStl : Pol := { live := [(9, [1, 8, 9, 27, 28])] }
noncomputable def RStl : Orc := [(63, c71), (64, c72), (87, g103)]
def nStl (qs ws : List Rat) (i : Int) : LS := ⟨[.lst 3 (.rats 64 qs), .lst 3 (.rats 160005 ws), .nil, .i .i64 ws.length, .i .i64 i], []⟩
def xStl (qs ws ys : List Rat) (i : Int) : LS := ⟨[.lst 3 (.rats 64 qs), .lst 3 (.rats 160005 ws), .sl 0 3 0 ys.length, .i .i64 ws.length, .i .i64 i], [some ⟨3, .rats 160201 ys⟩]⟩
theorem tStlN (qs ws : List Rat) (i : Int) : (evRound Tryd.prog RStl [] polStl Tryd.f41.ntmps 0 [1, 8, 9, 27, 28] bStl (nStl qs ws i)).run =
  (Tr.br (decide (i < (↑ws.length : Int))) (.br (ix (i) ((↑ws.length : Int))) (.br (ix (i) ((↑qs.length : Int))) (.br (decP (nz72 (rtQ (qs.getD i.toNat 0) (↑(1 : Int) : Rat)))) (.br (Nat.blt (0 : Nat) [ws.getD i.toNat 0 / rtQ (qs.getD i.toNat 0) (↑(1 : Int) : Rat)].length && [ws.getD i.toNat 0 / rtQ (qs.getD i.toNat 0) (↑(1 : Int) : Rat)].length.ble 4294967296) (.br (ib (i + (1 : Int))) (.ok (.out .normal (LS.mk [.lst 3 (.rats 64 qs), .lst 3 (.rats 160005 ws), .sl 0 3 0 1, .i .i64 (↑ws.length : Int), .i .i64 (i + (1 : Int))] [some (.mk 3 (.rats 160201 [ws.getD i.toNat 0 / rtQ (qs.getD i.toNat 0) (↑(1 : Int) : Rat)]))]))) (.no 14002)) (.no 13002)) (.no 1)) (.no 12011)) (.no 12015)) (.ok (.out (.exit 0) (LS.mk [.lst 3 (.rats 64 qs), .lst 3 (.rats 160005 ws), .nil, .i .i64 (↑ws.length : Int), .i .i64 i] [])))).run := by kernel_rfl
theorem tStlX (qs ws ys : List Rat) (i : Int) : (evRound Tryd.prog RStl [] polStl Tryd.f41.ntmps 0 [1, 8, 9, 27, 28] bStl (xStl qs ws ys i)).run =
  (Tr.br (decide (i < (↑ws.length : Int))) (.br (ix (i) ((↑ws.length : Int))) (.br (ix (i) ((↑qs.length : Int))) (.br (decP (nz72 (rtQ (qs.getD i.toNat 0) (↑(1 : Int) : Rat)))) (.br (ys.length.ble ys.length && (ys.length + [ws.getD i.toNat 0 / rtQ (qs.getD i.toNat 0) (↑(1 : Int) : Rat)].length).ble 4294967296) (.br (ib (i + (1 : Int))) (.ok (.out .normal (LS.mk [.lst 3 (.rats 64 qs), .lst 3 (.rats 160005 ws), .sl 0 3 0 (ys.length + [ws.getD i.toNat 0 / rtQ (qs.getD i.toNat 0) (↑(1 : Int) : Rat)].length), .i .i64 (↑ws.length : Int), .i .i64 (i + (1 : Int))] [some (.mk 3 (.rats 160201 (List.take ys.length (List.drop (0 : Nat) ys) ++ [ws.getD i.toNat 0 / rtQ (qs.getD i.toNat 0) (↑(1 : Int) : Rat)])))]))) (.no 14002)) (.no 13002)) (.no 1)) (.no 12011)) (.no 12015)) (.ok (.out (.exit 0) (LS.mk [.lst 3 (.rats 64 qs), .lst 3 (.rats 160005 ws), .sl 0 3 0 ys.length, .i .i64 (↑ws.length : Int), .i .i64 i] [some (.mk 3 (.rats 160201 ys))])))).run := by kernel_rfl
noncomputable def OStl (A : Am) (qs : List Rat) (n : Nat) (cx cy : Nat → Rat) (r : PV) : Orc := [(85, cst [armPV A, .lst 3 (.rats 64 qs)] True (.tup [.fr 6 (colC n cx cy), .i .i64 0])), (86, cst [.lst 6 (colC n cx cy)] True r)]
theorem eStl (A : Am) (qs : List Rat) (n : Nat) (cx cy : Nat → Rat) (ws ys : List Rat) (i : Int) : (evF Tryd.prog (OStl A qs n cx cy (.fr 3 (.rats 160005 ws))) [(9, lcst (nStl qs ws 0) (.exit 0) (xStl qs ws ys i))] polStl Tryd.f41 [armPV A, .lst 3 (.rats 64 qs)] [] retK).run =
  (Tr.br (decP (isA [armPV A, .lst 3 (.rats 64 qs)] True [armPV A, .lst 3 (.rats 64 qs)])) (.br (((0 : Nat) + n).ble n) (.br (decP (isA [.lst 6 (.fn n fun (i : Nat) => .agg [.q (cx i) 40001, .q (cy i) 40001])] True [.lst 6 (.fn n fun (j : Nat) => .agg [.q (cx (j + (0 : Nat))) 40001, .q (cy (j + (0 : Nat))) 40001])])) (.br (((0 : Nat) + ws.length).ble ws.length) (.br (decP (isLS (LS.mk [.lst 3 (.rats 64 qs), .lst 3 (.rats 160005 ws), .nil, .i .i64 (↑ws.length : Int), .i .i64 (0 : Int)] []) (LS.mk [.lst 3 (.rats 64 qs), .lst 3 (.rats 160005 (List.take ws.length (List.drop (0 : Nat) ws))), .nil, .i .i64 (↑(List.take ws.length (List.drop (0 : Nat) ws)).length : Int), .i .i64 (0 : Int)] []))) (.br (ys.length.ble ys.length) (.ok (.ret (.tup [.fr 3 (.rats 160201 (List.take ys.length (List.drop (0 : Nat) ys))), .i .i64 (0 : Int)]) [])) (.no 15)) (.no 1)) (.no 5002)) (.no 1)) (.no 2006)) (.no 1)).run := by kernel_rfl
theorem eStlZ (A : Am) (qs : List Rat) (n : Nat) (cx cy : Nat → Rat) : (evF Tryd.prog (OStl A qs n cx cy .nil) [] polStl Tryd.f41 [armPV A, .lst 3 (.rats 64 qs)] [] retK).run =
  (Tr.br (decP (isA [armPV A, .lst 3 (.rats 64 qs)] True [armPV A, .lst 3 (.rats 64 qs)])) (.br (((0 : Nat) + n).ble n) (.br (decP (isA [.lst 6 (.fn n fun (i : Nat) => .agg [.q (cx i) 40001, .q (cy i) 40001])] True [.lst 6 (.fn n fun (j : Nat) => .agg [.q (cx (j + (0 : Nat))) 40001, .q (cy (j + (0 : Nat))) 40001])])) (.ok (.ret (.tup [.nil, .i .i64 (4 : Int)]) [])) (.no 1)) (.no 2006)) (.no 1)).run := by kernel_rfl
noncomputable def bVel : Code := (loopsOf (bodyC Tryd.f43)).getD 0 .skip
def polVel : Pol := { live := [(8, [1, 2, 6, 8, 10, 35, 36])] }
theorem enterVel : Enters Tryd.prog 43 Tryd.f43 (bodyC Tryd.f43) := ⟨Tryd.func43, by kernel_rfl, rfl⟩
noncomputable def RVel : Orc := [(87, g103), (88, g57), (89, g67)]
def zVec : PV := .agg [.agg [.bl false, .s ⟨#[]⟩, .s ⟨#[]⟩], .agg [.bl false, .s ⟨#[]⟩, .s ⟨#[]⟩]]
def nVel (qs vs : List Rat) (n : Nat) (cx cy : Nat → Rat) (x y : Rat) (a : Nat) (i : Int) : LS := ⟨[.lst 3 (.rats 64 qs), .lst 3 (.rats 160201 vs), .ptr 0 6 0 0 [], .lst 6 (colC n cx cy), .ptr 1 6 0 0 [], .i .i64 n, .i .i64 i], [some ⟨6, .vals [zVec]⟩, some ⟨6, .vals [.agg [.q x a, .q y a]]⟩]⟩
theorem tVel0 (qs vs : List Rat) (n : Nat) (cx cy : Nat → Rat) (x y : Rat) (i : Int) : (evRound Tryd.prog RVel [] polVel Tryd.f43.ntmps 0 [1, 2, 6, 8, 10, 35, 36] bVel (nVel qs vs n cx cy x y 64 i)).run =
  (Tr.br (decide (i < (↑n : Int))) (.br (ix (i) ((↑n : Int))) (.br (ix (i) ((↑qs.length : Int))) (.br (ix (i) ((↑vs.length : Int))) (.br (ib (i + (1 : Int))) (.ok (.out .normal (LS.mk [.lst 3 (.rats 64 qs), .lst 3 (.rats 160201 vs), .ptr 0 6 0 0 [], .lst 6 (.fn n fun (i : Nat) => .agg [.q (cx i) 40001, .q (cy i) 40001]), .ptr 1 6 0 0 [], .i .i64 (↑n : Int), .i .i64 (i + (1 : Int))] [some (.mk 6 (.vals [.agg [.agg [.bl false, .s (ByteArray.mk #[]), .s (ByteArray.mk #[])], .agg [.bl false, .s (ByteArray.mk #[]), .s (ByteArray.mk #[])]]])), some (.mk 6 (.vals [.agg [.q (x + cx i.toNat * rtQ (qs.getD i.toNat 0) (vs.getD i.toNat 0)) 200399, .q (y + cy i.toNat * rtQ (qs.getD i.toNat 0) (vs.getD i.toNat 0)) 200399]]))]))) (.no 12002)) (.no 11006)) (.no 11010)) (.no 11014)) (.ok (.out (.exit 0) (LS.mk [.lst 3 (.rats 64 qs), .lst 3 (.rats 160201 vs), .ptr 0 6 0 0 [], .lst 6 (.fn n fun (i : Nat) => .agg [.q (cx i) 40001, .q (cy i) 40001]), .ptr 1 6 0 0 [], .i .i64 (↑n : Int), .i .i64 i] [some (.mk 6 (.vals [.agg [.agg [.bl false, .s (ByteArray.mk #[]), .s (ByteArray.mk #[])], .agg [.bl false, .s (ByteArray.mk #[]), .s (ByteArray.mk #[])]]])), some (.mk 6 (.vals [.agg [.q x 64, .q y 64]]))])))).run := by kernel_rfl
theorem tVel1 (qs vs : List Rat) (n : Nat) (cx cy : Nat → Rat) (x y : Rat) (i : Int) : (evRound Tryd.prog RVel [] polVel Tryd.f43.ntmps 0 [1, 2, 6, 8, 10, 35, 36] bVel (nVel qs vs n cx cy x y 200399 i)).run =
  (Tr.br (decide (i < (↑n : Int))) (.br (ix (i) ((↑n : Int))) (.br (ix (i) ((↑qs.length : Int))) (.br (ix (i) ((↑vs.length : Int))) (.br (ib (i + (1 : Int))) (.ok (.out .normal (LS.mk [.lst 3 (.rats 64 qs), .lst 3 (.rats 160201 vs), .ptr 0 6 0 0 [], .lst 6 (.fn n fun (i : Nat) => .agg [.q (cx i) 40001, .q (cy i) 40001]), .ptr 1 6 0 0 [], .i .i64 (↑n : Int), .i .i64 (i + (1 : Int))] [some (.mk 6 (.vals [.agg [.agg [.bl false, .s (ByteArray.mk #[]), .s (ByteArray.mk #[])], .agg [.bl false, .s (ByteArray.mk #[]), .s (ByteArray.mk #[])]]])), some (.mk 6 (.vals [.agg [.q (x + cx i.toNat * rtQ (qs.getD i.toNat 0) (vs.getD i.toNat 0)) 400734, .q (y + cy i.toNat * rtQ (qs.getD i.toNat 0) (vs.getD i.toNat 0)) 400734]]))]))) (.no 12002)) (.no 11006)) (.no 11010)) (.no 11014)) (.ok (.out (.exit 0) (LS.mk [.lst 3 (.rats 64 qs), .lst 3 (.rats 160201 vs), .ptr 0 6 0 0 [], .lst 6 (.fn n fun (i : Nat) => .agg [.q (cx i) 40001, .q (cy i) 40001]), .ptr 1 6 0 0 [], .i .i64 (↑n : Int), .i .i64 i] [some (.mk 6 (.vals [.agg [.agg [.bl false, .s (ByteArray.mk #[]), .s (ByteArray.mk #[])], .agg [.bl false, .s (ByteArray.mk #[]), .s (ByteArray.mk #[])]]])), some (.mk 6 (.vals [.agg [.q x 200399, .q y 200399]]))])))).run := by kernel_rfl
theorem tVel2 (qs vs : List Rat) (n : Nat) (cx cy : Nat → Rat) (x y : Rat) (i : Int) : (evRound Tryd.prog RVel [] polVel Tryd.f43.ntmps 0 [1, 2, 6, 8, 10, 35, 36] bVel (nVel qs vs n cx cy x y 400734 i)).run =
  (Tr.br (decide (i < (↑n : Int))) (.br (ix (i) ((↑n : Int))) (.br (ix (i) ((↑qs.length : Int))) (.br (ix (i) ((↑vs.length : Int))) (.br (ib (i + (1 : Int))) (.ok (.out .normal (LS.mk [.lst 3 (.rats 64 qs), .lst 3 (.rats 160201 vs), .ptr 0 6 0 0 [], .lst 6 (.fn n fun (i : Nat) => .agg [.q (cx i) 40001, .q (cy i) 40001]), .ptr 1 6 0 0 [], .i .i64 (↑n : Int), .i .i64 (i + (1 : Int))] [some (.mk 6 (.vals [.agg [.agg [.bl false, .s (ByteArray.mk #[]), .s (ByteArray.mk #[])], .agg [.bl false, .s (ByteArray.mk #[]), .s (ByteArray.mk #[])]]])), some (.mk 6 (.vals [.agg [.q (x + cx i.toNat * rtQ (qs.getD i.toNat 0) (vs.getD i.toNat 0)) 601069, .q (y + cy i.toNat * rtQ (qs.getD i.toNat 0) (vs.getD i.toNat 0)) 601069]]))]))) (.no 12002)) (.no 11006)) (.no 11010)) (.no 11014)) (.ok (.out (.exit 0) (LS.mk [.lst 3 (.rats 64 qs), .lst 3 (.rats 160201 vs), .ptr 0 6 0 0 [], .lst 6 (.fn n fun (i : Nat) => .agg [.q (cx i) 40001, .q (cy i) 40001]), .ptr 1 6 0 0 [], .i .i64 (↑n : Int), .i .i64 i] [some (.mk 6 (.vals [.agg [.agg [.bl false, .s (ByteArray.mk #[]), .s (ByteArray.mk #[])], .agg [.bl false, .s (ByteArray.mk #[]), .s (ByteArray.mk #[])]]])), some (.mk 6 (.vals [.agg [.q x 400734, .q y 400734]]))])))).run := by kernel_rfl
theorem tVel3 (qs vs : List Rat) (n : Nat) (cx cy : Nat → Rat) (x y : Rat) (i : Int) : (evRound Tryd.prog RVel [] polVel Tryd.f43.ntmps 0 [1, 2, 6, 8, 10, 35, 36] bVel (nVel qs vs n cx cy x y 601069 i)).run =
  (Tr.br (decide (i < (↑n : Int))) (.br (ix (i) ((↑n : Int))) (.br (ix (i) ((↑qs.length : Int))) (.br (ix (i) ((↑vs.length : Int))) (.no 1) (.no 11006)) (.no 11010)) (.no 11014)) (.ok (.out (.exit 0) (LS.mk [.lst 3 (.rats 64 qs), .lst 3 (.rats 160201 vs), .ptr 0 6 0 0 [], .lst 6 (.fn n fun (i : Nat) => .agg [.q (cx i) 40001, .q (cy i) 40001]), .ptr 1 6 0 0 [], .i .i64 (↑n : Int), .i .i64 i] [some (.mk 6 (.vals [.agg [.agg [.bl false, .s (ByteArray.mk #[]), .s (ByteArray.mk #[])], .agg [.bl false, .s (ByteArray.mk #[]), .s (ByteArray.mk #[])]]])), some (.mk 6 (.vals [.agg [.q x 601069, .q y 601069]]))])))).run := by kernel_rfl
noncomputable def OVel (A : Am) (qs : List Rat) (n : Nat) (cx cy : Nat → Rat) : Orc := [(63, c71), (85, cst [armPV A, .lst 3 (.rats 64 qs)] True (.tup [.fr 6 (colC n cx cy), .i .i64 0]))]
theorem eVel1 (A : Am) (qs vs : List Rat) (n : Nat) (cx cy : Nat → Rat) (x y : Rat) : (evF Tryd.prog (OVel A qs n cx cy) [(8, lcst (nVel qs vs n cx cy ((0 : Int) : Rat) ((0 : Int) : Rat) 64 0) (.exit 0) (nVel qs vs n cx cy x y 200399 n))] polVel Tryd.f43 [armPV A, .lst 3 (.rats 64 qs), .lst 3 (.rats 160201 vs)] [] retK).run =
  (Tr.br (decP (isA [armPV A, .lst 3 (.rats 64 qs)] True [armPV A, .lst 3 (.rats 64 qs)])) (.br (((0 : Nat) + n).ble n) (.br (!decide ((↑vs.length : Int) = (↑qs.length : Int))) (.ok (.ret (.tup [.agg [.agg [.bl false, .s (ByteArray.mk #[]), .s (ByteArray.mk #[])], .agg [.bl false, .s (ByteArray.mk #[]), .s (ByteArray.mk #[])]], .i .i64 (1 : Int)]) [])) (.br (decP (isLS (LS.mk [.lst 3 (.rats 64 qs), .lst 3 (.rats 160201 vs), .ptr 0 6 0 0 [], .lst 6 (.fn n fun (i : Nat) => .agg [.q (cx i) 40001, .q (cy i) 40001]), .ptr 1 6 0 0 [], .i .i64 (↑n : Int), .i .i64 (0 : Int)] [some (.mk 6 (.vals [.agg [.agg [.bl false, .s (ByteArray.mk #[]), .s (ByteArray.mk #[])], .agg [.bl false, .s (ByteArray.mk #[]), .s (ByteArray.mk #[])]]])), some (.mk 6 (.vals [.agg [.q (↑(0 : Int) : Rat) 64, .q (↑(0 : Int) : Rat) 64]]))]) (LS.mk [.lst 3 (.rats 64 qs), .lst 3 (.rats 160201 vs), .ptr 0 6 0 0 [], .lst 6 (.fn n fun (j : Nat) => .agg [.q (cx (j + (0 : Nat))) 40001, .q (cy (j + (0 : Nat))) 40001]), .ptr 1 6 0 0 [], .i .i64 (↑n : Int), .i .i64 (0 : Int)] [some (.mk 6 (.vals [.agg [.agg [.bl false, .s (ByteArray.mk #[]), .s (ByteArray.mk #[])], .agg [.bl false, .s (ByteArray.mk #[]), .s (ByteArray.mk #[])]]])), some (.mk 6 (.vals [.agg [.q (↑(0 : Int) : Rat) 64, .q (↑(0 : Int) : Rat) 64]]))]))) (.ok (.ret (.tup [.agg [.q x 200399, .q y 200399], .i .i64 (0 : Int)]) [])) (.no 1))) (.no 2006)) (.no 1)).run := by kernel_rfl
theorem eVel2 (A : Am) (qs vs : List Rat) (n : Nat) (cx cy : Nat → Rat) (x y : Rat) : (evF Tryd.prog (OVel A qs n cx cy) [(8, lcst (nVel qs vs n cx cy ((0 : Int) : Rat) ((0 : Int) : Rat) 64 0) (.exit 0) (nVel qs vs n cx cy x y 400734 n))] polVel Tryd.f43 [armPV A, .lst 3 (.rats 64 qs), .lst 3 (.rats 160201 vs)] [] retK).run =
  (Tr.br (decP (isA [armPV A, .lst 3 (.rats 64 qs)] True [armPV A, .lst 3 (.rats 64 qs)])) (.br (((0 : Nat) + n).ble n) (.br (!decide ((↑vs.length : Int) = (↑qs.length : Int))) (.ok (.ret (.tup [.agg [.agg [.bl false, .s (ByteArray.mk #[]), .s (ByteArray.mk #[])], .agg [.bl false, .s (ByteArray.mk #[]), .s (ByteArray.mk #[])]], .i .i64 (1 : Int)]) [])) (.br (decP (isLS (LS.mk [.lst 3 (.rats 64 qs), .lst 3 (.rats 160201 vs), .ptr 0 6 0 0 [], .lst 6 (.fn n fun (i : Nat) => .agg [.q (cx i) 40001, .q (cy i) 40001]), .ptr 1 6 0 0 [], .i .i64 (↑n : Int), .i .i64 (0 : Int)] [some (.mk 6 (.vals [.agg [.agg [.bl false, .s (ByteArray.mk #[]), .s (ByteArray.mk #[])], .agg [.bl false, .s (ByteArray.mk #[]), .s (ByteArray.mk #[])]]])), some (.mk 6 (.vals [.agg [.q (↑(0 : Int) : Rat) 64, .q (↑(0 : Int) : Rat) 64]]))]) (LS.mk [.lst 3 (.rats 64 qs), .lst 3 (.rats 160201 vs), .ptr 0 6 0 0 [], .lst 6 (.fn n fun (j : Nat) => .agg [.q (cx (j + (0 : Nat))) 40001, .q (cy (j + (0 : Nat))) 40001]), .ptr 1 6 0 0 [], .i .i64 (↑n : Int), .i .i64 (0 : Int)] [some (.mk 6 (.vals [.agg [.agg [.bl false, .s (ByteArray.mk #[]), .s (ByteArray.mk #[])], .agg [.bl false, .s (ByteArray.mk #[]), .s (ByteArray.mk #[])]]])), some (.mk 6 (.vals [.agg [.q (↑(0 : Int) : Rat) 64, .q (↑(0 : Int) : Rat) 64]]))]))) (.ok (.ret (.tup [.agg [.q x 400734, .q y 400734], .i .i64 (0 : Int)]) [])) (.no 1))) (.no 2006)) (.no 1)).run := by kernel_rfl
theorem eVel3 (A : Am) (qs vs : List Rat) (n : Nat) (cx cy : Nat → Rat) (x y : Rat) : (evF Tryd.prog (OVel A qs n cx cy) [(8, lcst (nVel qs vs n cx cy ((0 : Int) : Rat) ((0 : Int) : Rat) 64 0) (.exit 0) (nVel qs vs n cx cy x y 601069 n))] polVel Tryd.f43 [armPV A, .lst 3 (.rats 64 qs), .lst 3 (.rats 160201 vs)] [] retK).run =
  (Tr.br (decP (isA [armPV A, .lst 3 (.rats 64 qs)] True [armPV A, .lst 3 (.rats 64 qs)])) (.br (((0 : Nat) + n).ble n) (.br (!decide ((↑vs.length : Int) = (↑qs.length : Int))) (.ok (.ret (.tup [.agg [.agg [.bl false, .s (ByteArray.mk #[]), .s (ByteArray.mk #[])], .agg [.bl false, .s (ByteArray.mk #[]), .s (ByteArray.mk #[])]], .i .i64 (1 : Int)]) [])) (.br (decP (isLS (LS.mk [.lst 3 (.rats 64 qs), .lst 3 (.rats 160201 vs), .ptr 0 6 0 0 [], .lst 6 (.fn n fun (i : Nat) => .agg [.q (cx i) 40001, .q (cy i) 40001]), .ptr 1 6 0 0 [], .i .i64 (↑n : Int), .i .i64 (0 : Int)] [some (.mk 6 (.vals [.agg [.agg [.bl false, .s (ByteArray.mk #[]), .s (ByteArray.mk #[])], .agg [.bl false, .s (ByteArray.mk #[]), .s (ByteArray.mk #[])]]])), some (.mk 6 (.vals [.agg [.q (↑(0 : Int) : Rat) 64, .q (↑(0 : Int) : Rat) 64]]))]) (LS.mk [.lst 3 (.rats 64 qs), .lst 3 (.rats 160201 vs), .ptr 0 6 0 0 [], .lst 6 (.fn n fun (j : Nat) => .agg [.q (cx (j + (0 : Nat))) 40001, .q (cy (j + (0 : Nat))) 40001]), .ptr 1 6 0 0 [], .i .i64 (↑n : Int), .i .i64 (0 : Int)] [some (.mk 6 (.vals [.agg [.agg [.bl false, .s (ByteArray.mk #[]), .s (ByteArray.mk #[])], .agg [.bl false, .s (ByteArray.mk #[]), .s (ByteArray.mk #[])]]])), some (.mk 6 (.vals [.agg [.q (↑(0 : Int) : Rat) 64, .q (↑(0 : Int) : Rat) 64]]))]))) (.ok (.ret (.tup [.agg [.q x 601069, .q y 601069], .i .i64 (0 : Int)]) [])) (.no 1))) (.no 2006)) (.no 1)).run := by kernel_rfl
theorem enterCo : Enters Tryd.prog 45 Tryd.f45 (bodyC Tryd.f45) := ⟨Tryd.func45, by kernel_rfl, rfl⟩
theorem enterIx : Enters Tryd.prog 90 Tryd.f90 (bodyC Tryd.f90) := ⟨Tryd.func90, by kernel_rfl, rfl⟩
theorem enterCl : Enters Tryd.prog 46 Tryd.f46 (bodyC Tryd.f46) := ⟨Tryd.func46, by kernel_rfl, rfl⟩
noncomputable def gCl : Spec := evF Tryd.prog [(31, g26)] [] {} Tryd.f46
noncomputable def bIx : Code := (loopsOf (bodyC Tryd.f90)).getD 0 .skip
def polIx : Pol := { live := [(2, [0, 1, 4, 7, 8])] }
def stIx (vs : List Rat) (r i : Int) : LS := ⟨[.lst 3 (.rats 160201 vs), .clo 46 [], .i .i64 r, .i .i64 vs.length, .i .i64 i], []⟩
theorem tIx (vs : List Rat) (i : Int) : (evRound Tryd.prog [(46, gCl)] [] polIx Tryd.f90.ntmps 0 [0, 1, 4, 7, 8] bIx (stIx vs 0 i)).run =
  (Tr.br (decide (i < (↑vs.length : Int))) (.br (ix (i) ((↑vs.length : Int))) (.br (!decide (rcmp (vs.getD i.toNat 0) (0 : Rat) = (0 : Int))) (.ok (.out .ret (LS.mk [.lst 3 (.rats 160201 vs), .clo 46 [], .i .i64 i, .i .i64 (↑vs.length : Int), .i .i64 i] []))) (.br (ib (i + (1 : Int))) (.ok (.out .normal (LS.mk [.lst 3 (.rats 160201 vs), .clo 46 [], .i .i64 (0 : Int), .i .i64 (↑vs.length : Int), .i .i64 (i + (1 : Int))] []))) (.no 7002))) (.no 5003)) (.ok (.out (.exit 0) (LS.mk [.lst 3 (.rats 160201 vs), .clo 46 [], .i .i64 (0 : Int), .i .i64 (↑vs.length : Int), .i .i64 i] [])))).run := by kernel_rfl
theorem eIxZ (vs : List Rat) (i : Int) : (evF Tryd.prog [] [(2, lcst (stIx vs 0 0) .ret (stIx vs i i))] polIx Tryd.f90 [.lst 3 (.rats 160201 vs), .clo 46 []] [] retK).run =
  (Tr.br (decP (isLS (LS.mk [.lst 3 (.rats 160201 vs), .clo 46 [], .i .i64 (0 : Int), .i .i64 (↑vs.length : Int), .i .i64 (0 : Int)] []) (LS.mk [.lst 3 (.rats 160201 vs), .clo 46 [], .i .i64 (0 : Int), .i .i64 (↑vs.length : Int), .i .i64 (0 : Int)] []))) (.ok (.ret (.i .i64 i) [])) (.no 1)).run := by kernel_rfl
theorem eCo (vs : List Rat) (i : Int) : (evF Tryd.prog [(90, cst [.lst 3 (.rats 160201 vs), .clo 46 []] True (.i .i64 i))] [] {} Tryd.f45 [.lst 3 (.rats 160201 vs), .clo 46 []] [] retK).run =
  (Tr.br (decP (isA [.lst 3 (.rats 160201 vs), .clo 46 []] True [.lst 3 (.rats 160201 vs), .clo 46 []])) (.ok (.ret (.b (decide ((0 : Int) ≤ i))) [])) (.no 1)).run := by kernel_rfl
theorem enterSS : Enters Tryd.prog 8 Tryd.f8 (bodyC Tryd.f8) := ⟨Tryd.func8, by kernel_rfl, rfl⟩
noncomputable def OSS (l m : PV) (A : Am) (qs : List Rat) (k : Int) (r : PV) (vs : List Rat) (x y : Rat) (b : PV) : Orc :=
  [(13, cst [.w l] True (armFr A)), (30, cst [armPV A, .w m] True (.fr 3 (.rats 64 qs))), (33, s84), (40, cst [] True (.bl true)), (41, cst [armPV A, .lst 3 (.rats 64 qs)] True r), (42, cst [armPV A, .lst 3 (.rats 64 qs)] True (.tup [.i .i64 k, .i .i64 0])),
   (43, cst [armPV A, .lst 3 (.rats 64 qs), .lst 3 (.rats 160201 vs)] True (.tup [.agg [.q x 700000, .q y 700000], .i .i64 0])), (44, g40), (45, cst [.lst 3 (.rats 160201 vs), .clo 46 []] True b)]
theorem eSS (l m : PV) (A : Am) (qs : List Rat) (k : Int) (vs : List Rat) (x y : Rat) (b : Bool) : (evF Tryd.prog (OSS l m A qs k (.tup [.fr 3 (.rats 160201 vs), .i .i64 0]) vs x y (.b b)) [] {} Tryd.f8 [.w l, .w m] [] retK).run =
  (Tr.br (decP (isA [] True [])) (.br (decP (isA [l.w] True [l.w])) (.br (((0 : Nat) + A.n).ble A.n) (.br (decP (isA [armPV A, m.w] True [armPV A, m.w])) (.br (((0 : Nat) + qs.length).ble qs.length) (.br (decP (isA [armPV A, .lst 3 (.rats 64 qs)] True [armPV A, .lst 3 (.rats 64 (List.take qs.length (List.drop (0 : Nat) qs)))])) (.br (((0 : Nat) + vs.length).ble vs.length) (.br (decP (isA [armPV A, .lst 3 (.rats 64 qs)] True [armPV A, .lst 3 (.rats 64 (List.take qs.length (List.drop (0 : Nat) qs)))])) (.br (decP (isA [armPV A, .lst 3 (.rats 64 qs), .lst 3 (.rats 160201 vs)] True [armPV A, .lst 3 (.rats 64 (List.take qs.length (List.drop (0 : Nat) qs))), .lst 3 (.rats 160201 (List.take vs.length (List.drop (0 : Nat) vs)))])) (.br (decide (rcmp x (mkRat (0 : Int) (1 : Nat)) = (0 : Int))) (.br (decide (rcmp y (mkRat (0 : Int) (1 : Nat)) = (0 : Int))) (.br (decide (k < (↑A.n : Int))) (.br (decP (isA [.lst 3 (.rats 160201 vs), .clo 46 []] True [.lst 3 (.rats 160201 (List.take vs.length (List.drop (0 : Nat) vs))), .clo 46 []])) (.ok (.ret (.b b) [])) (.no 1)) (.ok (.ret (.bl false) []))) (.ok (.ret (.bl false) []))) (.ok (.ret (.bl false) []))) (.no 1)) (.no 1)) (.no 6006)) (.no 1)) (.no 5002)) (.no 1)) (.no 4003)) (.no 1)) (.no 1)).run := by kernel_rfl
noncomputable def OSZ (l m : PV) (A : Am) (qs : List Rat) (k : Int) : Orc :=
  [(13, cst [.w l] True (armFr A)), (30, cst [armPV A, .w m] True (.fr 3 (.rats 64 qs))), (40, cst [] True (.bl true)), (41, cst [armPV A, .lst 3 (.rats 64 qs)] True (.tup [.nil, .i .i64 4])), (42, cst [armPV A, .lst 3 (.rats 64 qs)] True (.tup [.i .i64 k, .i .i64 0]))]
theorem eSSZ (l m : PV) (A : Am) (qs : List Rat) (k : Int) : (evF Tryd.prog (OSZ l m A qs k) [] {} Tryd.f8 [.w l, .w m] [] retK).run =
  (Tr.br (decP (isA [] True [])) (.br (decP (isA [l.w] True [l.w])) (.br (((0 : Nat) + A.n).ble A.n) (.br (decP (isA [armPV A, m.w] True [armPV A, m.w])) (.br (((0 : Nat) + qs.length).ble qs.length) (.br (decP (isA [armPV A, .lst 3 (.rats 64 qs)] True [armPV A, .lst 3 (.rats 64 (List.take qs.length (List.drop (0 : Nat) qs)))])) (.br (decP (isA [armPV A, .lst 3 (.rats 64 qs)] True [armPV A, .lst 3 (.rats 64 (List.take qs.length (List.drop (0 : Nat) qs)))])) (.ok (.ret (.b (decide (k = (↑A.n : Int)))) [])) (.no 1)) (.no 1)) (.no 5002)) (.no 1)) (.no 4003)) (.no 1)) (.no 1)).run := by kernel_rfl

theorem enterMv : Enters Tryd.prog 40 Tryd.f40 (bodyC Tryd.f40) := ⟨Tryd.func40, by kernel_rfl, rfl⟩
theorem kMv (S : Am) (a b : Rat) : evF Tryd.prog [(28, s23), (27, cst [.lst 1 (.ints .i64 [3, 2])] True (armFr S)), (43, cst [armPV S, .lst 3 (.rats 64 q00), .lst 3 (.rats 64 q10)] True (.tup [.agg [.q a 700000, .q b 700000], .i .i64 0])), (33, s84)] [] {} Tryd.f40 [] [] retK =
  Tr.br (decP (isA [.lst 1 (.ints .i64 [(3 : Int), (2 : Int)])] True [.lst 1 (.ints .i64 [(3 : Int), (2 : Int)])])) (.br (((0 : Nat) + S.n).ble S.n) (.br (decide ((0 : Int) < (1 : Int)) && decide ((1 : Int) < (4611686018427387904 : Int)) && decide ((-4611686018427387904 : Int) < (0 : Int)) && decide ((0 : Int) < (4611686018427387904 : Int))) (.br (decide ((0 : Int) < (1 : Int)) && decide ((1 : Int) < (4611686018427387904 : Int)) && decide ((-4611686018427387904 : Int) < (0 : Int)) && decide ((0 : Int) < (4611686018427387904 : Int))) (.br (decide ((0 : Int) < (1 : Int)) && decide ((1 : Int) < (4611686018427387904 : Int)) && decide ((-4611686018427387904 : Int) < (1 : Int)) && decide ((1 : Int) < (4611686018427387904 : Int))) (.br (decide ((0 : Int) < (1 : Int)) && decide ((1 : Int) < (4611686018427387904 : Int)) && decide ((-4611686018427387904 : Int) < (0 : Int)) && decide ((0 : Int) < (4611686018427387904 : Int))) (.br (decP (isA [armPV S, .lst 3 (.rats 64 [mkRat (0 : Int) (Int.toNat (1 : Int)), mkRat (0 : Int) (Int.toNat (1 : Int))]), .lst 3 (.rats 64 [mkRat (1 : Int) (Int.toNat (1 : Int)), mkRat (0 : Int) (Int.toNat (1 : Int))])] True [armPV S, .lst 3 (.rats 64 [mkRat (0 : Int) (Int.toNat (1 : Int)), mkRat (0 : Int) (Int.toNat (1 : Int))]), .lst 3 (.rats 64 [mkRat (1 : Int) (Int.toNat (1 : Int)), mkRat (0 : Int) (Int.toNat (1 : Int))])])) (.br (decide ((0 : Int) = (0 : Int))) (.br (decide ((0 : Int) < (1 : Int)) && decide ((1 : Int) < (4611686018427387904 : Int)) && decide ((-4611686018427387904 : Int) < (0 : Int)) && decide ((0 : Int) < (4611686018427387904 : Int))) (.br (decide ((0 : Int) < (1 : Int)) && decide ((1 : Int) < (4611686018427387904 : Int)) && decide ((-4611686018427387904 : Int) < (10 : Int)) && decide ((10 : Int) < (4611686018427387904 : Int))) (.ok (.ret (.b (decide (a = mkRat (0 : Int) (Int.toNat (1 : Int))) && (decide (b = mkRat (10 : Int) (Int.toNat (1 : Int))) && true))) [])) (.no 1)) (.no 1)) (.ok (.ret (.bl false) []))) (.no 1)) (.no 1)) (.no 1)) (.no 1)) (.no 1)) (.no 2014)) (.no 1) := by kernel_rfl
include hG in
theorem orcNul (hT : TabG G) : OrcOK Tryd.prog G ONul := .cons (gk26 hG hT) (.cons (ck71 hG) (.cons (gk72 hG hT) (.cons (gk97 hG hT) (.cons (gk83 hG hT) .nil))))
include hG in
theorem orcRNul (hT : TabG G) : OrcOK Tryd.prog G RNul := .cons (gk26 hG hT) .nil
def okN (cx cy : Nat → Rat) (j : Nat) : Bool := !(decide (cx j = 0) && decide (cy j = 0))
theorem rc_t {x : Rat} (h : x = 0) : decide (rcmp x 0 = 0) = true := decide_eq_true (rcmp_eq.2 h)
theorem rc_f {x : Rat} (h : ¬ x = 0) : decide (rcmp x 0 = 0) = false := decide_eq_false fun g => h (rcmp_eq.1 g)
include hG in
theorem goesNul (hT : TabG G) (n : Nat) (hn : n ≤ 3) (cx cy : Nat → Rat) :
    ((∀ j, j < n → okN cx cy j = true) → Goes (Rnd Tryd.prog G Tryd.f86.ntmps 0 [0, 2, 3, 4, 12, 13, 14] bNul) (stN n cx cy 0) (.exit 0) (stN n cx cy n)) ∧
    (¬ (∀ j, j < n → okN cx cy j = true) → Goes (Rnd Tryd.prog G Tryd.f86.ntmps 0 [0, 2, 3, 4, 12, 13, 14] bNul) (stN n cx cy 0) .ret (bdN n cx cy (fbad (okN cx cy) n 0))) := by
  have key := Goes.search (R := Rnd Tryd.prog G Tryd.f86.ntmps 0 [0, 2, 3, 4, 12, 13, 14] bNul) (fun j => stN n cx cy ((j : Nat) : Int)) (fun j => bdN n cx cy j) (okN cx cy) n (e0 := .exit 0) (e1 := .ret) (fin := stN n cx cy n) (by simp) (by simp)
    (fun j hj hok => by
      refine round_ok hG (orcRNul hG hT) mix (L := []) (pol := polNul) (O := RNul) (LpsOK.none (by kernel_rfl)) (Nat.zero_le _) ?_
      rw [tNul, Int.toNat_natCast]
      by_cases hx : cx j = 0
      · have hy : ¬ cy j = 0 := fun hy => by simp [okN, hx, hy] at hok
        repeat first | rw [Tr.run_t (by first | (simp only [Bool.and_eq_true, Bool.or_eq_true, decide_eq_true_eq, Nat.ble_eq, Nat.blt_eq, List.length_cons, List.length_nil, Bool.not_eq_true', decide_eq_false_iff_not]; omega) | exact rc_t hx | exact rc_f hy | exact decP_iff.2 ⟨rfl, trivial⟩ | exact decP_iff.2 rfl | exact decide_eq_true rfl | decide)] | rw [Tr.run_f (by first | (simp only [Bool.and_eq_false_iff, Bool.not_eq_false', decide_eq_true_eq, decide_eq_false_iff_not]; omega) | exact rc_t hx | exact rc_f hy | exact congrArg (!·) (decide_eq_true rfl) | decide)]
        rw [Tr.run_ok]
        rfl
      · repeat first | rw [Tr.run_t (by first | (simp only [Bool.and_eq_true, Bool.or_eq_true, decide_eq_true_eq, Nat.ble_eq, Nat.blt_eq, List.length_cons, List.length_nil, Bool.not_eq_true', decide_eq_false_iff_not]; omega) | exact rc_f hx | exact decP_iff.2 ⟨rfl, trivial⟩ | exact decP_iff.2 rfl | exact decide_eq_true rfl | decide)] | rw [Tr.run_f (by first | (simp only [Bool.and_eq_false_iff, Bool.not_eq_false', decide_eq_true_eq, decide_eq_false_iff_not]; omega) | exact rc_f hx | exact congrArg (!·) (decide_eq_true rfl) | decide)]
        rw [Tr.run_ok]
        rfl)
    (fun j hj hok => by
      refine round_ok hG (orcRNul hG hT) mix (L := []) (pol := polNul) (O := RNul) (LpsOK.none (by kernel_rfl)) (Nat.zero_le _) ?_
      have hxy : cx j = 0 ∧ cy j = 0 := by simpa [okN] using hok
      rw [tNul, Int.toNat_natCast]
      simp only [Int.toNat_natCast, Nat.sub_zero, Nat.zero_add]
      repeat first | rw [Tr.run_t (by first | (simp only [Bool.and_eq_true, Bool.or_eq_true, decide_eq_true_eq, Nat.ble_eq, Nat.blt_eq, List.length_cons, List.length_nil, Bool.not_eq_true', decide_eq_false_iff_not]; omega) | exact rc_t hxy.1 | exact rc_t hxy.2 | exact decP_iff.2 ⟨rfl, trivial⟩ | exact decP_iff.2 rfl | exact decide_eq_true rfl | decide)] | rw [Tr.run_f (by first | (simp only [Bool.and_eq_false_iff, Bool.not_eq_false', decide_eq_true_eq, decide_eq_false_iff_not]; omega) | exact rc_t hxy.1 | exact rc_t hxy.2 | exact congrArg (!·) (decide_eq_true rfl) | decide)]
      rw [Tr.run_ok]
      rfl)
    (by
      refine round_ok hG (orcRNul hG hT) mix (L := []) (pol := polNul) (O := RNul) (LpsOK.none (by kernel_rfl)) (Nat.zero_le _) ?_
      rw [tNul, Tr.run_f (decide_eq_false (by omega)), Tr.run_ok]
      rfl) n 0 (by omega)
  exact ⟨fun h => key.1 fun j _ hj => h j hj, fun h => key.2 fun g => h fun j hj => g j (Nat.zero_le _) hj⟩
theorem fbad_lt {ok : Nat → Bool} : ∀ (f i : Nat), ¬ (∀ j, i ≤ j → j < i + f → ok j = true) → i ≤ fbad ok f i ∧ fbad ok f i < i + f ∧ ok (fbad ok f i) = false
  | 0, i, h => absurd (fun j a b => by omega) h
  | f + 1, i, h => by
    unfold fbad
    cases hk : ok i with
    | false => simp only; exact ⟨Nat.le_refl _, by omega, hk⟩
    | true =>
      simp only
      obtain ⟨a, b, c⟩ := fbad_lt (ok := ok) f (i + 1) (fun g => h fun j h1 h2 => by
        rcases Nat.lt_or_ge i j with k | k
        · exact g j k (by omega)
        · obtain rfl : j = i := by omega
          exact hk)
      exact ⟨by omega, by omega, c⟩
theorem nulZ_list {n i : Nat} (h1 : 1 ≤ n) (h3 : n ≤ 3) (hi : i < n) : List.take n (List.drop 0 ([((0 : Int) : Rat), ((0 : Int) : Rat), ((0 : Int) : Rat)].set i ((1 : Int) : Rat))) = (List.replicate n (0 : Rat)).set i 1 := by
  have hn : n = 1 ∨ n = 2 ∨ n = 3 := by omega
  have hi3 : i = 0 ∨ i = 1 ∨ i = 2 := by omega
  rcases hn with rfl | rfl | rfl <;> rcases hi3 with rfl | rfl | rfl <;> first | rfl | omega
include hG in
theorem pcNul (hT : TabG G) (n : Nat) (h1 : 1 ≤ n) (h3 : n ≤ 3) (cx cy : Nat → Rat) :
    (∃ ws, NulP cx cy n ws ∧ PC Tryd.prog G 86 [.lst 6 (colC n cx cy)] [] (.fr 3 (.rats 160005 ws)) []) ∨ (rkI cx cy n = n ∧ PC Tryd.prog G 86 [.lst 6 (colC n cx cy)] [] .nil []) := by
  obtain ⟨g1, g2⟩ := goesNul hG hT n h3 cx cy
  by_cases hall : ∀ j, j < n → okN cx cy j = true
  · have g := g1 hall
    have nz : ∀ j, j < n → ¬ (cx j = 0 ∧ cy j = 0) := fun j hj h => by have := hall j hj; simp [okN, h.1, h.2] at this
    have run : ∀ r, (evF Tryd.prog ONul [(3, lcst (stN n cx cy 0) (.exit 0) (stN n cx cy n))] polNul Tryd.f86 [.lst 6 (colC n cx cy)] [] retK).run = some (.ret r []) → PC Tryd.prog G 86 [.lst 6 (colC n cx cy)] [] r [] := fun r hr =>
      evF_pc hG (orcNul hG hT) mix enterNul (pol := polNul) (L := [(3, lcst (stN n cx cy 0) (.exit 0) (stN n cx cy n))]) (lps1 (b := bNul) (live := [0, 2, 3, 4, 12, 13, 14]) (m := 0) (by kernel_rfl) (by kernel_rfl) (by kernel_rfl) (lcst_ok g)) hr
    have hn : n = 1 ∨ n = 2 ∨ n = 3 := by omega
    rcases hn with rfl | rfl | rfl
    · refine .inr ⟨full_1 (nz 0 (by omega)), run _ ?_⟩
      rw [eNulN]
      repeat first | rw [Tr.run_t (by first | (simp only [Bool.and_eq_true, Bool.or_eq_true, decide_eq_true_eq, Nat.ble_eq, Nat.blt_eq, List.length_cons, List.length_nil, Bool.not_eq_true', decide_eq_false_iff_not]; omega) | exact isLS_t | exact decP_iff.2 ⟨rfl, trivial⟩ | exact decP_iff.2 rfl | exact decide_eq_true rfl | decide)] | rw [Tr.run_f (by first | (simp only [Bool.and_eq_false_iff, Bool.not_eq_false', decide_eq_true_eq, decide_eq_false_iff_not]; omega) | exact isLS_t | exact congrArg (!·) (decide_eq_true rfl) | decide)]
      rw [Tr.run_ok]
    · by_cases hc : crR cx cy 0 1 = 0
      · by_cases hx : cx 1 = 0
        · have hy : ¬ cy 1 = 0 := fun hy => nz 1 (by omega) ⟨hx, hy⟩
          refine .inl ⟨_, nul_p2 hc (.inr ⟨hx, hy, rfl⟩), (run (.fr 3 (.rats 80002 [1, -(cy 0 / cy 1)])) ?_).le (frrats_le 3 _ (by omega)) (.refl _)⟩
          rw [eNulN]
          repeat first | rw [Tr.run_t (by first | (simp only [Bool.and_eq_true, Bool.or_eq_true, decide_eq_true_eq, Nat.ble_eq, Nat.blt_eq, List.length_cons, List.length_nil, Bool.not_eq_true', decide_eq_false_iff_not]; omega) | exact isLS_t | exact rc_t hc | exact decide_eq_true hx | exact decide_eq_false hy | exact decP_iff.2 ⟨rfl, trivial⟩ | exact decP_iff.2 rfl | exact decide_eq_true rfl | decide)] | rw [Tr.run_f (by first | (simp only [Bool.and_eq_false_iff, Bool.not_eq_false', decide_eq_true_eq, decide_eq_false_iff_not]; omega) | exact isLS_t | exact rc_t hc | exact decide_eq_true hx | exact decide_eq_false hy | exact congrArg (!·) (decide_eq_true rfl) | decide)]
          rw [Tr.run_ok]
          rfl
        · refine .inl ⟨_, nul_p2 hc (.inl ⟨hx, rfl⟩), (run (.fr 3 (.rats 80002 [1, -(cx 0 / cx 1)])) ?_).le (frrats_le 3 _ (by omega)) (.refl _)⟩
          rw [eNulN]
          repeat first | rw [Tr.run_t (by first | (simp only [Bool.and_eq_true, Bool.or_eq_true, decide_eq_true_eq, Nat.ble_eq, Nat.blt_eq, List.length_cons, List.length_nil, Bool.not_eq_true', decide_eq_false_iff_not]; omega) | exact isLS_t | exact rc_t hc | exact decide_eq_false hx | exact decP_iff.2 ⟨rfl, trivial⟩ | exact decP_iff.2 rfl | exact decide_eq_true rfl | decide)] | rw [Tr.run_f (by first | (simp only [Bool.and_eq_false_iff, Bool.not_eq_false', decide_eq_true_eq, decide_eq_false_iff_not]; omega) | exact isLS_t | exact rc_t hc | exact decide_eq_false hx | exact congrArg (!·) (decide_eq_true rfl) | decide)]
          rw [Tr.run_ok]
          rfl
      · refine .inr ⟨full_2 hc, run _ ?_⟩
        rw [eNulN]
        repeat first | rw [Tr.run_t (by first | (simp only [Bool.and_eq_true, Bool.or_eq_true, decide_eq_true_eq, Nat.ble_eq, Nat.blt_eq, List.length_cons, List.length_nil, Bool.not_eq_true', decide_eq_false_iff_not]; omega) | exact isLS_t | exact rc_f hc | exact decP_iff.2 ⟨rfl, trivial⟩ | exact decP_iff.2 rfl | exact decide_eq_true rfl | decide)] | rw [Tr.run_f (by first | (simp only [Bool.and_eq_false_iff, Bool.not_eq_false', decide_eq_true_eq, decide_eq_false_iff_not]; omega) | exact isLS_t | exact rc_f hc | exact congrArg (!·) (decide_eq_true rfl) | decide)]
        rw [Tr.run_ok]
    · by_cases hc : crR cx cy 0 1 = 0
      · by_cases hx : cx 1 = 0
        · have hy : ¬ cy 1 = 0 := fun hy => nz 1 (by omega) ⟨hx, hy⟩
          refine .inl ⟨_, nul_p3 hc (.inr ⟨hx, hy, rfl⟩), (run (.fr 3 (.rats 80002 [1, -(cy 0 / cy 1), 0])) ?_).le (frrats_le 3 _ (by omega)) (.refl _)⟩
          rw [eNulN]
          repeat first | rw [Tr.run_t (by first | (simp only [Bool.and_eq_true, Bool.or_eq_true, decide_eq_true_eq, Nat.ble_eq, Nat.blt_eq, List.length_cons, List.length_nil, Bool.not_eq_true', decide_eq_false_iff_not]; omega) | exact isLS_t | exact rc_t hc | exact decide_eq_true hx | exact decide_eq_false hy | exact decP_iff.2 ⟨rfl, trivial⟩ | exact decP_iff.2 rfl | exact decide_eq_true rfl | decide)] | rw [Tr.run_f (by first | (simp only [Bool.and_eq_false_iff, Bool.not_eq_false', decide_eq_true_eq, decide_eq_false_iff_not]; omega) | exact isLS_t | exact rc_t hc | exact decide_eq_true hx | exact decide_eq_false hy | exact congrArg (!·) (decide_eq_true rfl) | decide)]
          rw [Tr.run_ok]
          rfl
        · refine .inl ⟨_, nul_p3 hc (.inl ⟨hx, rfl⟩), (run (.fr 3 (.rats 80002 [1, -(cx 0 / cx 1), 0])) ?_).le (frrats_le 3 _ (by omega)) (.refl _)⟩
          rw [eNulN]
          repeat first | rw [Tr.run_t (by first | (simp only [Bool.and_eq_true, Bool.or_eq_true, decide_eq_true_eq, Nat.ble_eq, Nat.blt_eq, List.length_cons, List.length_nil, Bool.not_eq_true', decide_eq_false_iff_not]; omega) | exact isLS_t | exact rc_t hc | exact decide_eq_false hx | exact decP_iff.2 ⟨rfl, trivial⟩ | exact decP_iff.2 rfl | exact decide_eq_true rfl | decide)] | rw [Tr.run_f (by first | (simp only [Bool.and_eq_false_iff, Bool.not_eq_false', decide_eq_true_eq, decide_eq_false_iff_not]; omega) | exact isLS_t | exact rc_t hc | exact decide_eq_false hx | exact congrArg (!·) (decide_eq_true rfl) | decide)]
          rw [Tr.run_ok]
          rfl
      · refine .inl ⟨_, nul_3 hc, run _ ?_⟩
        rw [eNulN]
        repeat first | rw [Tr.run_t (by first | (simp only [Bool.and_eq_true, Bool.or_eq_true, decide_eq_true_eq, Nat.ble_eq, Nat.blt_eq, List.length_cons, List.length_nil, Bool.not_eq_true', decide_eq_false_iff_not]; omega) | exact isLS_t | exact rc_f hc | exact decP_iff.2 ⟨rfl, trivial⟩ | exact decP_iff.2 rfl | exact decide_eq_true rfl | decide)] | rw [Tr.run_f (by first | (simp only [Bool.and_eq_false_iff, Bool.not_eq_false', decide_eq_true_eq, decide_eq_false_iff_not]; omega) | exact isLS_t | exact rc_f hc | exact congrArg (!·) (decide_eq_true rfl) | decide)]
        rw [Tr.run_ok]
        rfl
  · have g := g2 hall
    obtain ⟨f0, f1, f2⟩ := fbad_lt (ok := okN cx cy) n 0 (fun h => hall fun j hj => h j (Nat.zero_le _) (by omega))
    rw [Nat.zero_add] at f1
    generalize fbad (okN cx cy) n 0 = i at *
    have hz : cx i = 0 ∧ cy i = 0 := by simpa [okN] using f2
    refine .inl ⟨_, nul_z h1 h3 f1 hz.1 hz.2, (evF_pc hG (orcNul hG hT) mix enterNul (pol := polNul) (L := [(3, lcst (stN n cx cy 0) .ret (bdN n cx cy i))]) (lps1 (b := bNul) (live := [0, 2, 3, 4, 12, 13, 14]) (m := 0) (by kernel_rfl) (by kernel_rfl) (by kernel_rfl) (lcst_ok g)) (r := .fr 3 (.rats 64 ((List.replicate n (0 : Rat)).set i 1))) (hs' := []) ?_).le (frrats_le 3 _ (by omega)) (.refl _)⟩
    rw [eNulZ, ← nulZ_list h1 h3 f1]
    rw [Tr.run_t isLS_t, Tr.run_t (by rw [Nat.ble_eq]; simp; omega), Tr.run_ok]
include hG in
theorem pcStl0 (A : Am) (qs : List Rat) (n : Nat) (cx cy : Nat → Rat) (hc : PC Tryd.prog G 85 [armPV A, .lst 3 (.rats 64 qs)] [] (.tup [.fr 6 (colC n cx cy), .i .i64 0]) []) (hn : PC Tryd.prog G 86 [.lst 6 (colC n cx cy)] [] .nil []) :
    PC Tryd.prog G 41 [armPV A, .lst 3 (.rats 64 qs)] [] (.tup [.nil, .i .i64 4]) [] := by
  refine evF_pc hG (.cons (cst_t hc) (.cons (cst_t hn) .nil)) mix enterStl (pol := polStl) (L := []) (LpsOK.of (l := [bStl]) (by kernel_rfl) (fun a ha live sp h1 h2 => by simp [Lps.look] at h2)) ?_
  refine (eStlZ A qs n cx cy).trans ?_
  rw [Tr.run_t (isA_t trivial), Tr.run_t (by rw [Nat.ble_eq]; omega), Tr.run_t (decP_iff.2 ⟨rfl, trivial⟩), Tr.run_ok]
include hG in
theorem orcStl (hT : TabG G) : OrcOK Tryd.prog G RStl := .cons (ck71 hG) (.cons (ck72 hG hT) (.cons (gk103 hG hT) .nil))
theorem stV_i (qs ws : List Rat) (i : Nat) : stV qs ws i = ws.getD i 0 / rtQ (qs.getD i 0) ((1 : Int) : Rat) := by rw [stV, hide_eq]; rfl
include hG in
theorem goesStl (hT : TabG G) (qs ws : List Rat) (h1 : 1 ≤ ws.length) (h3 : ws.length ≤ 3) (hq : qs.length = ws.length) :
    Goes (Rnd Tryd.prog G Tryd.f41.ntmps 0 [1, 8, 9, 27, 28] bStl) (nStl qs ws 0) (.exit 0) (xStl qs ws ((List.range ws.length).map (stV qs ws)) ws.length) := by
  have nz : ∀ t : Rat, decP (nz72 (rtQ t ((1 : Int) : Rat))) = true := fun t => decP_iff.2 (rt_ne t)
  refine Goes.build (xst := fun ys (j : Nat) => xStl qs ws ys ((j : Nat) : Int)) (stV qs ws) (by simp) ws.length h1 ?_ ?_ ?_
  · refine round_ok hG (orcStl hG hT) mix (L := []) (pol := polStl) (O := RStl) (LpsOK.none (by kernel_rfl)) (Nat.zero_le _) ?_
    rw [tStlN]
    repeat first | rw [Tr.run_t (by first | (simp only [Bool.and_eq_true, Bool.or_eq_true, decide_eq_true_eq, Nat.ble_eq, Nat.blt_eq, List.length_cons, List.length_nil, Bool.not_eq_true', decide_eq_false_iff_not]; omega) | exact nz _ | exact decP_iff.2 ⟨rfl, trivial⟩ | exact decP_iff.2 rfl | exact decide_eq_true rfl | decide)] | rw [Tr.run_f (by first | (simp only [Bool.and_eq_false_iff, Bool.not_eq_false', decide_eq_true_eq, decide_eq_false_iff_not]; omega) | exact nz _ | exact congrArg (!·) (decide_eq_true rfl) | decide)]
    rw [Tr.run_ok, stV_i]
    rfl
  · intro ys j hj hj1 hjm
    refine round_ok hG (orcStl hG hT) mix (L := []) (pol := polStl) (O := RStl) (LpsOK.none (by kernel_rfl)) (Nat.zero_le _) ?_
    rw [tStlX, Int.toNat_natCast]
    repeat first | rw [Tr.run_t (by first | (simp only [Bool.and_eq_true, Bool.or_eq_true, decide_eq_true_eq, Nat.ble_eq, Nat.blt_eq, List.length_cons, List.length_nil, Bool.not_eq_true', decide_eq_false_iff_not]; omega) | exact nz _ | exact decP_iff.2 ⟨rfl, trivial⟩ | exact decP_iff.2 rfl | exact decide_eq_true rfl | decide)] | rw [Tr.run_f (by first | (simp only [Bool.and_eq_false_iff, Bool.not_eq_false', decide_eq_true_eq, decide_eq_false_iff_not]; omega) | exact nz _ | exact congrArg (!·) (decide_eq_true rfl) | decide)]
    rw [Tr.run_ok, stV_i, List.drop_zero, List.take_length]
    unfold xStl
    rw [List.length_append]
    rfl
  · refine round_ok hG (orcStl hG hT) mix (L := []) (pol := polStl) (O := RStl) (LpsOK.none (by kernel_rfl)) (Nat.zero_le _) ?_
    rw [tStlX, Tr.run_f (decide_eq_false (by omega)), Tr.run_ok]
    rfl
include hG in
theorem pcStl (hT : TabG G) (A : Am) (qs : List Rat) (n : Nat) (cx cy : Nat → Rat) (ws : List Rat) (h1 : 1 ≤ n) (h3 : n ≤ 3) (hq : qs.length = n) (hw : ws.length = n) (hc : PC Tryd.prog G 85 [armPV A, .lst 3 (.rats 64 qs)] [] (.tup [.fr 6 (colC n cx cy), .i .i64 0]) [])
    (hn : PC Tryd.prog G 86 [.lst 6 (colC n cx cy)] [] (.fr 3 (.rats 160005 ws)) []) :
    PC Tryd.prog G 41 [armPV A, .lst 3 (.rats 64 qs)] [] (.tup [.fr 3 (.rats 160201 ((List.range n).map (stV qs ws))), .i .i64 0]) [] := by
  have g := goesStl hG hT qs ws (by omega) (by omega) (by omega)
  rw [hw] at g
  refine evF_pc hG (.cons (cst_t hc) (.cons (cst_t hn) .nil)) mix enterStl (pol := polStl) (L := [(9, lcst (nStl qs ws 0) (.exit 0) (xStl qs ws ((List.range n).map (stV qs ws)) n))]) (lps1 (b := bStl) (live := [1, 8, 9, 27, 28]) (m := 0) (by kernel_rfl) (by kernel_rfl) (by kernel_rfl) (lcst_ok g)) ?_
  refine (eStl A qs n cx cy ws _ _).trans ?_
  simp only [List.drop_zero, List.take_length]
  rw [Tr.run_t (isA_t trivial), Tr.run_t (by rw [Nat.ble_eq]; omega), Tr.run_t (decP_iff.2 ⟨rfl, trivial⟩), Tr.run_t (by rw [Nat.ble_eq]; omega)]
  simp only [hw]
  rw [Tr.run_t isLS_t, Tr.run_t (by rw [Nat.ble_eq]; omega), Tr.run_ok]
include hG in
theorem orcVel (hT : TabG G) : OrcOK Tryd.prog G RVel := .cons (gk103 hG hT) (.cons (gk57 hG hT) (.cons (gk67 hG hT) .nil))
def aVel : Nat → Nat
  | 0 => 64
  | 1 => 200399
  | 2 => 400734
  | _ => 601069
include hG in
theorem goesVel (hT : TabG G) (qs vs : List Rat) (n : Nat) (cx cy : Nat → Rat) (h3 : n ≤ 3) (hq : qs.length = n) (hv : vs.length = n) :
    Goes (Rnd Tryd.prog G Tryd.f43.ntmps 0 [1, 2, 6, 8, 10, 35, 36] bVel) (nVel qs vs n cx cy ((0 : Int) : Rat) ((0 : Int) : Rat) 64 0) (.exit 0) (nVel qs vs n cx cy (sumR (velX cx qs vs) n) (sumR (velX cy qs vs) n) (aVel n) n) := by
  have w := Goes.count (R := Rnd Tryd.prog G Tryd.f43.ntmps 0 [1, 2, 6, 8, 10, 35, 36] bVel) (fun i => nVel qs vs n cx cy (sumR (velX cx qs vs) i) (sumR (velX cy qs vs) i) (aVel i) ((i : Nat) : Int)) (e := .exit 0) (ls' := nVel qs vs n cx cy (sumR (velX cx qs vs) n) (sumR (velX cy qs vs) n) (aVel n) n) (by simp) n 0
    (fun i _ hi => by
      refine round_ok hG (orcVel hG hT) mix (L := []) (pol := polVel) (O := RVel) (LpsOK.none (by kernel_rfl)) (Nat.zero_le _) ?_
      have hi3 : i = 0 ∨ i = 1 ∨ i = 2 := by omega
      rcases hi3 with rfl | rfl | rfl
      · refine (tVel0 qs vs n cx cy _ _ _).trans ?_
        repeat first | rw [Tr.run_t (by first | (simp only [Bool.and_eq_true, Bool.or_eq_true, decide_eq_true_eq, Nat.ble_eq, Nat.blt_eq, List.length_cons, List.length_nil, Bool.not_eq_true', decide_eq_false_iff_not]; omega) | exact decP_iff.2 ⟨rfl, trivial⟩ | exact decP_iff.2 rfl | exact decide_eq_true rfl | decide)] | rw [Tr.run_f (by first | (simp only [Bool.and_eq_false_iff, Bool.not_eq_false', decide_eq_true_eq, decide_eq_false_iff_not]; omega) | exact congrArg (!·) (decide_eq_true rfl) | decide)]
        rw [Tr.run_ok]; rfl
      · refine (tVel1 qs vs n cx cy _ _ _).trans ?_
        repeat first | rw [Tr.run_t (by first | (simp only [Bool.and_eq_true, Bool.or_eq_true, decide_eq_true_eq, Nat.ble_eq, Nat.blt_eq, List.length_cons, List.length_nil, Bool.not_eq_true', decide_eq_false_iff_not]; omega) | exact decP_iff.2 ⟨rfl, trivial⟩ | exact decP_iff.2 rfl | exact decide_eq_true rfl | decide)] | rw [Tr.run_f (by first | (simp only [Bool.and_eq_false_iff, Bool.not_eq_false', decide_eq_true_eq, decide_eq_false_iff_not]; omega) | exact congrArg (!·) (decide_eq_true rfl) | decide)]
        rw [Tr.run_ok]; rfl
      · refine (tVel2 qs vs n cx cy _ _ _).trans ?_
        repeat first | rw [Tr.run_t (by first | (simp only [Bool.and_eq_true, Bool.or_eq_true, decide_eq_true_eq, Nat.ble_eq, Nat.blt_eq, List.length_cons, List.length_nil, Bool.not_eq_true', decide_eq_false_iff_not]; omega) | exact decP_iff.2 ⟨rfl, trivial⟩ | exact decP_iff.2 rfl | exact decide_eq_true rfl | decide)] | rw [Tr.run_f (by first | (simp only [Bool.and_eq_false_iff, Bool.not_eq_false', decide_eq_true_eq, decide_eq_false_iff_not]; omega) | exact congrArg (!·) (decide_eq_true rfl) | decide)]
        rw [Tr.run_ok]; rfl)
    (by
      refine round_ok hG (orcVel hG hT) mix (L := []) (pol := polVel) (O := RVel) (LpsOK.none (by kernel_rfl)) (Nat.zero_le _) ?_
      rw [Nat.zero_add]
      have hi3 : n = 0 ∨ n = 1 ∨ n = 2 ∨ n = 3 := by omega
      rcases hi3 with rfl | rfl | rfl | rfl
      · refine (tVel0 qs vs _ cx cy _ _ _).trans ?_
        rw [Tr.run_f (decide_eq_false (by omega)), Tr.run_ok]; rfl
      · refine (tVel1 qs vs _ cx cy _ _ _).trans ?_
        rw [Tr.run_f (decide_eq_false (by omega)), Tr.run_ok]; rfl
      · refine (tVel2 qs vs _ cx cy _ _ _).trans ?_
        rw [Tr.run_f (decide_eq_false (by omega)), Tr.run_ok]; rfl
      · refine (tVel3 qs vs _ cx cy _ _ _).trans ?_
        rw [Tr.run_f (decide_eq_false (by omega)), Tr.run_ok]; rfl)
  exact w
include hG in
theorem pcVelW (hT : TabG G) (A : Am) (qs vs : List Rat) (n : Nat) (cx cy : Nat → Rat) (h1 : 1 ≤ n) (h3 : n ≤ 3) (hq : qs.length = n) (hv : vs.length = n) (hc : PC Tryd.prog G 85 [armPV A, .lst 3 (.rats 64 qs)] [] (.tup [.fr 6 (colC n cx cy), .i .i64 0]) []) :
    PC Tryd.prog G 43 [armPV A, .lst 3 (.rats 64 qs), .lst 3 (.rats 160201 vs)] [] (.tup [.agg [.q (sumR (velX cx qs vs) n) 700000, .q (sumR (velX cy qs vs) n) 700000], .i .i64 0]) [] := by
  have g := goesVel hG hT qs vs n cx cy h3 hq hv
  have hb : aVel n ≤ 700000 := by
    have hn : n = 1 ∨ n = 2 ∨ n = 3 := by omega
    rcases hn with rfl | rfl | rfl <;> decide
  have hl : RLe (.tup [.agg [.q (sumR (velX cx qs vs) n) (aVel n), .q (sumR (velX cy qs vs) n) (aVel n)], .i .i64 0]) (.tup [.agg [.q (sumR (velX cx qs vs) n) 700000, .q (sumR (velX cy qs vs) n) 700000], .i .i64 0]) :=
    rle_of_vle (fun _ => rfl) (fun _ => rfl) (vle_tup (VLe.agg (vllc (vle_qm hb) (vllc (vle_qm hb) vll0))))
  refine (evF_pc hG (O := OVel A qs n cx cy) (.cons (ck71 hG) (.cons (cst_t hc) .nil)) mix enterVel (pol := polVel) (L := [(8, lcst (nVel qs vs n cx cy ((0 : Int) : Rat) ((0 : Int) : Rat) 64 0) (.exit 0) (nVel qs vs n cx cy (sumR (velX cx qs vs) n) (sumR (velX cy qs vs) n) (aVel n) n))]) (lps1 (b := bVel) (live := [1, 2, 6, 8, 10, 35, 36]) (m := 0) (by kernel_rfl) (by kernel_rfl) (by kernel_rfl) (lcst_ok g)) ?_).le hl (.refl _)
  have hn : n = 1 ∨ n = 2 ∨ n = 3 := by omega
  rcases hn with rfl | rfl | rfl
  · refine (eVel1 A qs vs _ cx cy _ _).trans ?_
    rw [Tr.run_t (isA_t trivial), Tr.run_t (by decide), Tr.run_f (by rw [hq, hv]; rfl)]
    refine Eq.trans (Tr.run_t ?_) ?_
    · exact decP_iff.2 rfl
    · rw [Tr.run_ok]; rfl
  · refine (eVel2 A qs vs _ cx cy _ _).trans ?_
    rw [Tr.run_t (isA_t trivial), Tr.run_t (by decide), Tr.run_f (by rw [hq, hv]; rfl)]
    refine Eq.trans (Tr.run_t ?_) ?_
    · exact decP_iff.2 rfl
    · rw [Tr.run_ok]; rfl
  · refine (eVel3 A qs vs _ cx cy _ _).trans ?_
    rw [Tr.run_t (isA_t trivial), Tr.run_t (by decide), Tr.run_f (by rw [hq, hv]; rfl)]
    refine Eq.trans (Tr.run_t ?_) ?_
    · exact decP_iff.2 rfl
    · rw [Tr.run_ok]; rfl
end Go.Proofs.YtnenjkgffapplaaDoor.PE
namespace Go.Proofs.YtnenjkgffapplaaDoor.PE
open Go
set_option maxRecDepth 100000
variable {G : World → (Nat → Prop) → Prop} (hG : GOk G)
include hG in
theorem pArm (l : PV) (hl : okW l = true) : PC Tryd.prog G 13 [.w l] [] (armFr (armD l)) [] := by
  obtain ⟨r, hs', p, e⟩ := ok15 hG [.w l] [] (fun r hs' => .ok (.ret r hs')) (.ret (armFr (armD l)) []) (by show (Tr.br _ _ _).run = _; rw [Tr.run_t hl]; rfl)
  cases e
  exact p
include hG in
theorem pConf (A : Am) (hA : armB A = true) (hX : limX A = true) (m : PV) (hm : okW m = true) : PC Tryd.prog G 30 [armPV A, .w m] [] (.fr 3 (.rats 64 (cfL A.lk m A.n))) [] := by
  obtain ⟨r, hs', p, e⟩ := ok33 hG [armPV A, .w m] [] (fun r hs' => .ok (.ret r hs')) (.ret (.fr 3 (.rats 64 (cfL A.lk m A.n))) []) (by
    show (Tr.br _ _ _).run = _
    rw [Tr.run_t (decP_iff.2 ⟨okA_arm hA, hX, hm⟩)]; rfl)
  cases e
  exact p
include hG in
theorem okCl (hT : TabG G) : SpecOK Tryd.prog G 46 gCl := spec_ev hG (.cons (gk26 hG hT) .nil) mix enterCl (fun _ => LpsOK.none (by kernel_rfl))
include hG in
theorem pcIx (hT : TabG G) (vs : List Rat) (h3 : vs.length ≤ 3) (hz : ∃ i, i < vs.length ∧ vs.getD i 0 ≠ 0) : ∃ i : Nat, PC Tryd.prog G 90 [.lst 3 (.rats 160201 vs), .clo 46 []] [] (.i .i64 (i : Nat)) [] := by
  have key := Goes.search (R := Rnd Tryd.prog G Tryd.f90.ntmps 0 [0, 1, 4, 7, 8] bIx) (fun j => stIx vs 0 ((j : Nat) : Int)) (fun j => stIx vs ((j : Nat) : Int) ((j : Nat) : Int)) (fun j => decide (vs.getD j 0 = 0)) vs.length (e0 := .exit 0) (e1 := .ret) (fin := stIx vs 0 vs.length) (by simp) (by simp)
    (fun j hj hok => by
      refine round_ok hG (.cons (okCl hG hT) .nil) mix (L := []) (pol := polIx) (O := [(46, gCl)]) (LpsOK.none (by kernel_rfl)) (Nat.zero_le _) ?_
      have h0 : (!decide (rcmp (vs.getD j 0) (0 : Rat) = (0 : Int))) = false := by rw [rc_t (of_decide_eq_true hok)]; rfl
      rw [tIx, Int.toNat_natCast]
      rw [Tr.run_t (decide_eq_true (by omega)), Tr.run_t (by simp only [Bool.and_eq_true, decide_eq_true_eq]; omega), Tr.run_f h0, Tr.run_t (by simp only [Bool.and_eq_true, decide_eq_true_eq]; omega), Tr.run_ok]
      rfl)
    (fun j hj hok => by
      refine round_ok hG (.cons (okCl hG hT) .nil) mix (L := []) (pol := polIx) (O := [(46, gCl)]) (LpsOK.none (by kernel_rfl)) (Nat.zero_le _) ?_
      have h0 : (!decide (rcmp (vs.getD j 0) (0 : Rat) = (0 : Int))) = true := by rw [rc_f (of_decide_eq_false hok)]; rfl
      rw [tIx, Int.toNat_natCast]
      rw [Tr.run_t (decide_eq_true (by omega)), Tr.run_t (by simp only [Bool.and_eq_true, decide_eq_true_eq]; omega), Tr.run_t h0, Tr.run_ok]
      rfl)
    (by
      refine round_ok hG (.cons (okCl hG hT) .nil) mix (L := []) (pol := polIx) (O := [(46, gCl)]) (LpsOK.none (by kernel_rfl)) (Nat.zero_le _) ?_
      rw [tIx, Tr.run_f (decide_eq_false (by omega)), Tr.run_ok]
      rfl) vs.length 0 (by omega)
  obtain ⟨i, hi, hv⟩ := hz
  have g := key.2 (fun h => hv (of_decide_eq_true (h i (Nat.zero_le _) hi)))
  generalize fbad (fun j => decide (vs.getD j 0 = 0)) vs.length 0 = k at g
  refine ⟨k, evF_pc hG .nil mix enterIx (pol := polIx) (L := [(2, lcst (stIx vs 0 0) .ret (stIx vs k k))]) (lps1 (b := bIx) (live := [0, 1, 4, 7, 8]) (m := 0) (by kernel_rfl) (by kernel_rfl) (by kernel_rfl) (lcst_ok g)) ?_⟩
  refine (eIxZ vs k).trans ?_
  refine Eq.trans (Tr.run_t ?_) ?_
  · exact decP_iff.2 rfl
  · rw [Tr.run_ok]
include hG in
theorem pcCo (hT : TabG G) (vs : List Rat) (h3 : vs.length ≤ 3) (hz : ∃ i, i < vs.length ∧ vs.getD i 0 ≠ 0) : PC Tryd.prog G 45 [.lst 3 (.rats 160201 vs), .clo 46 []] [] (.b true) [] := by
  obtain ⟨i, p⟩ := pcIx hG hT vs h3 hz
  refine evF_pc hG (.cons (cst_t p) .nil) mix enterCo (pol := {}) (L := []) (LpsOK.none (by kernel_rfl)) ?_
  refine (eCo vs i).trans ?_
  rw [Tr.run_t (decP_iff.2 ⟨rfl, trivial⟩), Tr.run_ok, decide_eq_true (by omega)]
include hG in
theorem pcMv (hT : TabG G) : PC Tryd.prog G 40 [] [] (.bl true) [] := by
  have p32 : PC Tryd.prog G 27 [.lst 1 (.ints .i64 [3, 2])] [] (armFr A32) [] := by
    obtain ⟨r, hs', p, e⟩ := ok32s hG [.lst 1 (.ints .i64 [3, 2])] [] (fun r hs' => .ok (.ret r hs')) (.ret (armFr A32) []) (by rfl)
    cases e
    exact p
  have p66 := PC.args (.cons (.refl _) (.cons (.refl _) (.cons (rats_le 3 q10 (show 64 ≤ 160201 by omega)) .nil))) (pcVelW hG hT A32 q00 q10 2 _ _ (by omega) (by omega) rfl rfl (pc102 hG hT A32 armB_32 q00 rfl))
  rw [show A32.n = 2 from rfl, move_x, move_y] at p66
  refine (evF_pc hG (.cons (ok23 hG) (.cons (cst_t p32) (.cons (cst_t p66) (.cons (ok84 hG) .nil)))) mix enterMv (L := []) (pol := {}) (LpsOK.none (by kernel_rfl)) (r := .b true) (hs' := []) ?_).le (rle_b rfl) (.refl _)
  refine (congrArg Tr.run (kMv A32 _ _)).trans ?_
  rw [Tr.run_t (decP_iff.2 ⟨rfl, trivial⟩), Tr.run_t (by rw [Nat.ble_eq]; omega)]
  repeat rw [Tr.run_t (by first | decide | exact decP_iff.2 ⟨rfl, trivial⟩)]
  rw [Tr.run_ok]
  show some (Res.ret (.b (decide (mkRat (0 : Int) (Int.toNat (1 : Int)) = mkRat (0 : Int) (Int.toNat (1 : Int))) && (decide (mkRat (10 : Int) (Int.toNat (1 : Int)) = mkRat (10 : Int) (Int.toNat (1 : Int))) && true))) []) = _
  rw [decide_eq_true rfl, decide_eq_true rfl]
  rfl
theorem bleR {n : Nat} : n.ble n = true := by rw [Nat.ble_eq]; omega
theorem rc_m0 : decide (rcmp 0 (mkRat (0 : Int) 1) = 0) = true := by kernel_rfl
include hG in
theorem lawSS (hT : TabG G) (l m : PV) (hl : okW l = true) (hm : okW m = true) : PC Tryd.prog G 8 [.w l, .w m] [] (.bl true) [] := by
  have hA := armB_V l
  have hX := limX_V l
  have p13 := pArm hG l hl
  generalize armD l = A at *
  have p30 := pConf hG A hA hX m hm
  obtain ⟨a1, a2, a3, a4, h1, h3, a7⟩ := armB_c hA
  have hq : (cfL A.lk m A.n).length = A.n := cfL_len _ _ _
  generalize cfL A.lk m A.n = qs at *
  have p85 := pc102 hG hT A hA qs hq
  have p42 := pcRank hG hT A hA qs hq
  generalize colX (allF (bsF A) (qf qs) (fun j => (A.lk j).len) A.n) A.n = cx at *
  generalize colY (allF (bsF A) (qf qs) (fun j => (A.lk j).len) A.n) A.n = cy at *
  rcases pcNul hG hT A.n h1 h3 cx cy with ⟨ws, hw, p86⟩ | ⟨hk, p86⟩
  · have p41 := pcStl hG hT A qs A.n cx cy ws h1 h3 hq hw.len p85 p86
    have hg : ∀ i, i < A.n → ((List.range A.n).map (stV qs ws)).getD i 0 = stV qs ws i := fun i hi => getD_map_range _ hi
    have hvl : ((List.range A.n).map (stV qs ws)).length = A.n := by simp
    generalize (List.range A.n).map (stV qs ws) = vs at *
    have p43 := pcVelW hG hT A qs vs A.n cx cy h1 h3 hq hvl p85
    have e1 := st_vel (c := cx) (qs := qs) (ws := ws) (vs := vs) (n := A.n) hg A.n (Nat.le_refl _)
    have e2 := st_vel (c := cy) (qs := qs) (ws := ws) (vs := vs) (n := A.n) hg A.n (Nat.le_refl _)
    rw [hw.sx] at e1
    rw [hw.sy] at e2
    rw [e1, e2] at p43
    have p45 := pcCo hG hT vs (by omega) (by
      obtain ⟨i, hi, hz⟩ := hw.nz
      exact ⟨i, by omega, by rw [hg i hi]; exact st_nz hz⟩)
    have hrk := hw.rk
    generalize rkI cx cy A.n = k at *
    refine (evF_pc hG (O := OSS l m A qs k (.tup [.fr 3 (.rats 160201 vs), .i .i64 0]) vs 0 0 (.b true)) (.cons (cst_t p13) (.cons (cst_t p30) (.cons (ok84 hG) (.cons (cst_t (pcMv hG hT)) (.cons (cst_t p41) (.cons (cst_t p42) (.cons (cst_t p43) (.cons (gk40 hG hT) (.cons (cst_t p45) .nil))))))))) mix enterSS (pol := {}) (L := []) (r := .b true) (hs' := []) (LpsOK.none (by kernel_rfl)) ?_).le (rle_b rfl) (.refl _)
    refine (eSS l m A qs k vs 0 0 true).trans ?_
    simp only [List.drop_zero, List.take_length, Nat.zero_add]
    have m0 : decide (rcmp 0 (mkRat (0 : Int) 1) = 0) = true := rc_m0
    rw [Tr.run_t (isA_t trivial), Tr.run_t (isA_t trivial), Tr.run_t bleR, Tr.run_t (isA_t trivial), Tr.run_t bleR, Tr.run_t (isA_t trivial), Tr.run_t bleR, Tr.run_t (isA_t trivial), Tr.run_t (isA_t trivial), Tr.run_t m0, Tr.run_t m0, Tr.run_t (decide_eq_true hrk), Tr.run_t (isA_t trivial), Tr.run_ok]
  · have p41 := pcStl0 hG A qs A.n cx cy p85 p86
    rw [hk] at p42
    refine (evF_pc hG (O := OSZ l m A qs A.n) (.cons (cst_t p13) (.cons (cst_t p30) (.cons (cst_t (pcMv hG hT)) (.cons (cst_t p41) (.cons (cst_t p42) .nil))))) mix enterSS (pol := {}) (L := []) (r := .b true) (hs' := []) (LpsOK.none (by kernel_rfl)) ?_).le (rle_b rfl) (.refl _)
    refine (eSSZ l m A qs A.n).trans ?_
    simp only [List.drop_zero, List.take_length, Nat.zero_add]
    rw [Tr.run_t (isA_t trivial), Tr.run_t (isA_t trivial), Tr.run_t bleR, Tr.run_t (isA_t trivial), Tr.run_t bleR, Tr.run_t (isA_t trivial), Tr.run_t (isA_t trivial), Tr.run_ok]
    simp
end Go.Proofs.YtnenjkgffapplaaDoor.PE
namespace Go.Proofs.YtnenjkgffapplaaDoor.PE
open Go
theorem calls_of_does {P : Program} {g : Nat} {fn : Func} {c : Code} (hg : Enters P g fn c) {vs : Array Value} {w : World} {R : Value → World → Prop} (h : Does P g vs w R) : Calls P g vs w fun e w' => ∃ v, e = .returned v ∧ R v w' := by
  have h1 := h { dst := some 0, op := .move (.const undef), type := 0, pos := "", after := #[], guard := none } ⟨#[undef], []⟩ (fun a w' => ∃ v, a.tmps[0]? = some v ∧ R v w') (fun _ _ _ => False) (fun v w' hv => ⟨v, by simp [Act.put], hv⟩)
  have : (callFunc g vs).run P w = .ok (.enter g vs) w := by
    have hname : fn.name ≠ "runtime.NumGoroutine" := by simpa using hg.name
    simp [callFunc, hg.at_, hname, hg.body]
  rw [this, Oper.upon_enter] at h1
  refine h1.mono fun e w' he => ?_
  cases e with
  | returned v =>
    obtain ⟨v', hv, hr⟩ := he
    simp [Act.put] at hv
    subst hv
    exact ⟨v, rfl, hr⟩
  | panicked chain => exact absurd he (by simp)
  | outgrown => exact absurd he (by simp [LetsOut])
theorem HRel.none (w : World) : HRel w (fun _ => False) noMu (hget (([] : List Blk).map some)) :=
  ⟨fun b k h => by simp [hget] at h, fun b k a z h => by simp [hget] at h, fun b b' k k' a z z' h => by simp [hget] at h, fun a h => h.elim⟩
theorem keptBut_of_old {w w' : World} (h1 : w'.os = w.os) (h2 : w'.output = w.output) (h3 : ∀ n, n < w.heap.size → w'.heap[n]? = w.heap[n]?) (may : MemPlace → Prop) : w.keptBut w' may := by
  refine ⟨h1, h2, fun i hi => ?_⟩
  rw [h3 i hi]
  split
  · rename_i e1 e2
    rw [e1] at e2
    cases e2
    exact ⟨rfl, rfl, rfl, fun _ _ => rfl⟩
  · rename_i e1 e2
    rw [e1] at e2
    cases e2
    exact .inr ⟨rfl, rfl⟩
  · rfl
end Go.Proofs.YtnenjkgffapplaaDoor.PE
namespace Go.Proofs.YtnenjkgffapplaaDoor.PE
open Go Go.ChangeShapes Go.WideShapes
set_option maxRecDepth 100000
def blkOf : Value → Nat → Prop
  | .slice (some a) _ _, b => b = a.block
  | _, _ => False
section
variable {H : Type} {enc : TypeId × Value → H} {P : Program} {w : World} {t e : TypeId} {base : Nat} {v : Value} {d : DataW H} {p : List MemPlace}
theorem arg_ints (ht : P.underlying t = some (.slice e)) (he : P.underlying e = some (.int .i64)) (hc : P.cellsOf e = 1)
    (hval : Value.okWide P w .any base t v) (h : DataW.Trod enc P w 0 (fun _ => true) true t v d p) :
    ∃ u : PV, okW u = true ∧ (∀ n ∈ intsW u, -9223372036854775808 ≤ n ∧ n ≤ 9223372036854775807) ∧ (∀ b, blkOf v b → b < w.heap.size) ∧ (∀ S : Nat → Prop, (∀ b, blkOf v b → S b) → RepV w S noMu (.w u) v) ∧
      (∀ w' : World, (∀ n, n < w.heap.size → w'.heap[n]? = w.heap[n]?) → ∃ p', DataW.Trod enc P w' 0 (fun b => decide (b < w.heap.size)) true t v d p') ∧
      ((intsW u = [] ∧ d = .nil) ∨ ∃ sp, d = .slice (lits .i64 (intsW u)) sp) := by
  have hval' := hval
  obtain ⟨a0, len, cap, rfl⟩ := okWide_slice ht hval
  obtain ⟨fuel, hf⟩ := h
  rcases open_ints ht he hc hf with ⟨hcs, hx⟩ | ⟨a, len', cap', zs, hcs, _, hl, hm, hz, hx, hcell, hwz⟩
  · simp [Value.cells] at hcs
    obtain ⟨rfl, rfl, rfl⟩ := hcs
    simp only [Prod.mk.injEq] at hx
    obtain ⟨rfl, rfl⟩ := hx
    refine ⟨.nil, rfl, fun n hn => (nomatch hn), fun b hb => hb.elim, fun S _ => .cell _ _ _ rfl (.w _ _ _ (.nil _)), fun w' _ => ⟨[], RowKit.shut_slice_nil ht⟩, .inl ⟨rfl, rfl⟩⟩
  · simp [Value.cells] at hcs
    obtain ⟨rfl, rfl, rfl⟩ := hcs
    simp only [Prod.mk.injEq] at hx
    obtain ⟨rfl, rfl⟩ := hx
    simp only [if_true] at hz
    unfold Value.okWide at hval'
    rw [ht] at hval'
    simp only [Cell.okWide, Cell.ok, ht] at hval'
    obtain ⟨_, _, _, hsp, row, cells, hsh, _⟩ := hval'
    obtain ⟨b, off, spot⟩ := a
    simp only at hsp
    subst hsp
    have hb : b < w.heap.size := by
      unfold World.shape? at hsh
      split at hsh
      · rename_i hh; exact (Array.getElem?_eq_some_iff.1 hh).1
      · cases hsh
    have hcell' : ∀ j, j < zs.length → w.cell? ⟨b, off + j, none⟩ = some (.int .i64 (zs.getD j 0)) := fun j hj => by rw [← add_plain]; exact hcell j hj
    have hlen : (zs.take len).length = len := by rw [List.length_take]; omega
    refine ⟨.lst 1 (.ints .i64 (zs.take len)), rfl, fun n hn => bounds_i64 (hwz n (List.mem_of_mem_take hn)), fun c hc => (by rw [show c = b from hc]; exact hb), fun S hS => ?_, fun w' hw' => ?_, .inr ⟨_, rfl⟩⟩
    · refine .cell _ _ _ rfl (.w _ _ _ ?_)
      have := RepC.lst (w := w) (S := S) noMu 1 (.ints .i64 (zs.take len)) b off cap (fun j => [.int .i64 ((zs.take len).getD j 0)]) (by show (zs.take len).length ≤ cap; omega) (hS b rfl)
        (fun i hi => .i _ _ _) (fun _ _ => rfl) (fun i j hi hj => by
          have hi' : i < len := by rw [← hlen]; exact hi
          obtain rfl : j = 0 := by omega
          show w.cell? ⟨b, off + (i * 1 + 0), none⟩ = _
          rw [Nat.mul_one, Nat.add_zero, hcell' i (by omega)]
          simp [List.getD_eq_getElem?_getD, hi'])
      rw [show (Cont.ints .i64 (zs.take len)).len = len from hlen] at this
      exact this
    · have hd : decide (b < w.heap.size) = true := decide_eq_true hb
      exact ⟨_, 2, shut_ints' (enc := enc) (w := w') (base := 0) (spare := fun b => decide (b < w.heap.size)) (held := true) (len := len) (cap := cap) (zs := zs) 0 ht he hc
        (Nat.zero_le b) hl hm (by simp only [hd, if_true]; exact hz) (fun i hi => by rw [cell_block (hw' b hb)]; exact hcell' i hi) hwz⟩
end
end Go.Proofs.YtnenjkgffapplaaDoor.PE
namespace Go.Proofs.YtnenjkgffapplaaDoor.PE
open Go
set_option maxRecDepth 100000
theorem calls_trueG {P : Program} {G : World → (Nat → Prop) → Prop} {g : Nat} {fn : Func} {c : Code} (hg : Enters P g fn c) {args : List PV} (h : PC P G g args [] (.bl true) []) {w : World} {S : Nat → Prop} {vs : List Value} (hw : G w S) (hS : ∀ a, S a → a < w.heap.size)
    (hv : RepVL w S noMu args vs) (may : MemPlace → Prop) :
    Calls P g vs.toArray w fun e w' => e = .returned (.bool true) ∧ w.keptBut w' may ∧ ∀ n, n < w.heap.size → w'.heap[n]? = w.heap[n]? := by
  refine (calls_of_does hg (h w S noMu vs hw hv ⟨fun b k h => by simp [hget] at h, fun b k a z h => by simp [hget] at h, fun b b' k k' a z z' h => by simp [hget] at h, hS⟩ (fun _ _ => rfl))).mono fun e w' he => ?_
  obtain ⟨v, rfl, S', μ', c⟩ := he
  have hr := c.rep
  have : v = .bool true := by
    cases hr with
    | cell _ _ _ _ h => cases h; rfl
    | agg _ _ _ hv h => simp [isAgg, unfr, unfrA, unfr1] at hv
  subst this
  have old : ∀ n, n < w.heap.size → w'.heap[n]? = w.heap[n]? := fun n hn => c.old n hn (fun b z hb => by simp at hb)
  exact ⟨rfl, keptBut_of_old c.os c.output old may, old⟩
def TG (w : World) (S : Nat → Prop) : Prop := S 1 ∧ Go.Proofs.TabAt 1 Go.Lib.deBruijn64tab w
theorem tg_ok : GOk TG := fun _ _ _ _ m h => ⟨m.sub 1 h.1, fun j hj => (m.cell 1 h.1 j).trans (h.2 j hj)⟩
theorem tg_tab : TabG TG := fun _ _ h => h.2
theorem tab_block {w : World} (h : Go.Proofs.TabAt 1 Go.Lib.deBruijn64tab w) : 1 < w.heap.size := by
  have h0 := h 0 (by decide)
  rcases Nat.lt_or_ge 1 w.heap.size with h1 | h1
  · exact h1
  · unfold World.cell? at h0
    rw [show w.heap[(⟨1, 0, none⟩ : Addr).block]? = none from Array.getElem?_eq_none h1] at h0
    cases h0
theorem tab_of_laid {laid : List (String × DataW Unit)} {W : World} (hl : laid = [("math/bits.deBruijn64tab", Go.Lib.tabData .u8 (Go.Lib.deBruijn64tab.map fun n : Nat => (n : Int)))]) (h : laidMetH Tryd.prog laid W) : Go.Proofs.TabAt 1 Go.Lib.deBruijn64tab W := by
  subst hl
  have h1 : laidMet Tryd.prog [("math/bits.deBruijn64tab", Go.Lib.tabData .u8 (Go.Lib.deBruijn64tab.map fun n : Nat => (n : Int)))] W := h
  have h2 := Go.Lib.tabIs_of_head (g := 1) (t := 199) (e := 5) (n := 64) (by kernel_rfl) (by kernel_rfl) (by kernel_rfl) (by kernel_rfl) (by kernel_rfl) (by kernel_rfl) h1
  intro j hj
  have h3 := h2.cell (g := 1) (by kernel_rfl) j (by rw [List.length_map]; exact hj)
  rw [h3, List.getD_eq_getElem?_getD, List.getD_eq_getElem?_getD, List.getElem?_map, List.getElem?_eq_getElem hj]
  rfl
end Go.Proofs.YtnenjkgffapplaaDoor.PE
