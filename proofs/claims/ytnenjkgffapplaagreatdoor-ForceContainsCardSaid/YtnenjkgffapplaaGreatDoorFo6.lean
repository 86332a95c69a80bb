/-
  Part 6 of the proof: contracts of the program's functions. Conditions: those of the theorems below.
-/
import Derived.Test.YtnenjkgffapplaaGreatDoorFo5
import Derived.Test.YtnenjkgffapplaaGreatDoorFo2
import Derived.RowKit3
import GoSem.ClaimChange
import Derived.ChangeSlices
import Derived.WideShapes
import Derived.OpenShut
import Derived.Test.YtnenjkgffapplaaGreatDoorFo3
import Derived.Lib.LaidTab
set_option linter.all false
noncomputable section
namespace Go.Proofs.YtnenjkgffapplaaGreatDoor.PE
section
open Go Tryz
set_option maxRecDepth 100000
variable {G : World -> (Nat -> Prop) -> Prop} (hG : GOk G)
theorem enBd : Enters prog 23 f23 (qg f23) := ⟨func23, by kernel_rfl, rfl⟩
def bBd : Code := (qj (qg f23)).getD 0 .skip
def polBd : Pol := { live := [(8, [3, 8, 10, 11, 12, 13, 14])] }
def nowL (c s : Nat) (l : Lz) : PV := .agg [spR l.X.lo l.X.hi 1500, spR l.Y.lo l.Y.hi 1500, spR l.C.lo l.C.hi c, spR l.S.lo l.S.hi s]
def nowI : Nat -> Lz -> PV
 | 0, l => nowL 310 320 l
 | 1, l => nowL 311 321 l
 | _, l => nowL 312 322 l
def armN (A : Am) (n : Nat) : PV := .agg [.s A.name, .agg [.agg [.q A.bx 64, .q A.by_ 64], .agg [.bl false, .q A.t 64]], .lst 16 (.fn n (fun j => lkPV (A.lk j)))]
def RBd (m k d w s : Nat -> Sp) : Orc :=
 [(41, gOf), (45, vB subS (tb 400 410 (d 0) 830 (tb 401 411 (d 1) 831 (tb 402 412 (d 2) 832 tn)))),
  (46, vB qw (tb 310 65 (m 0) 400 (tb 311 65 (m 1) 401 (tb 312 65 (m 2) 402 (tb 320 64 (k 0) 410 (tb 321 64 (k 1) 411 (tb 322 64 (k 2) 412 (tb 64 830 (w 0) 900 (tb 64 831 (w 1) 901 (tb 64 832 (w 2) 902 tn)))))))))),
  (47, vB addS (tb 1 902 (s 2) 2002 (tb 1 901 (s 1) 2002 (tb 1 900 (s 0) 2002 (tb 2002 901 (s 1) 3001 (tb 2002 900 (s 0) 3001 (tb 3001 900 (s 0) 4000 tn))))))), (49, g71)]
def lBd (m k d w s : Nat -> Sp) : qB := unr prog (RBd m k d w s) [] polBd f23.ntmps 0 [3, 8, 10, 11, 12, 13, 14] bBd 5
def OBd (A : Am) (n N : Nat) (Q : Nat -> Sp) (lz : Nat -> Lz) (m k d w s : Nat -> Sp) : Orc := (11, cst [armN A n, .lst 6 (spsC n Q)] True (.tup [.fr 24 (.fn N (fun i => nowI i (lz i))), .i .i64 0])) :: RBd m k d w s
theorem eBd1 (A : Am) (Q : Nat -> Sp) (lz : Nat -> Lz) (fx fy : Rat) (m k d w s : Nat -> Sp) : (evF prog (OBd A 1 2 Q lz m k d w s) [(8, lBd m k d w s)] polBd f23 [armN A 1, .lst 6 (spsC 1 Q), .agg [.q fx 64, .q fy 65]] [] qm).run =
 (Tr.br (qd (isA [.agg [.s A.name, .agg [.agg [.q A.bx 64, .q A.by_ 64], .agg [.bl false, .q A.t 64]], .lst 16 (.fn 1 fun (j : Nat) => .agg [.q (A.lk j).len 64, .q (A.lk j).low 64, .q (A.lk j).high 64, .q (A.lk j).spd 64, .q (A.lk j).brk 64, .lst 6 (.fn (A.lk j).np fun (a : Nat) => .agg [.q ((A.lk j).px a) 64, .q ((A.lk j).py a) 64])])], .lst 6 (.fn 1 fun (j : Nat) => .agg [.q (Q j).lo 260, .q (Q j).hi 260])] True [.agg [.s A.name, .agg [.agg [.q A.bx 64, .q A.by_ 64], .agg [.bl false, .q A.t 64]], .lst 16 (.fn 1 fun (j : Nat) => .agg [.q (A.lk j).len 64, .q (A.lk j).low 64, .q (A.lk j).high 64, .q (A.lk j).spd 64, .q (A.lk j).brk 64, .lst 6 (.fn (A.lk j).np fun (a : Nat) => .agg [.q ((A.lk j).px a) 64, .q ((A.lk j).py a) 64])])], .lst 6 (.fn 1 fun (j : Nat) => .agg [.q (Q j).lo 260, .q (Q j).hi 260])])) (.br (qd (isB qw [.agg [.q (lz (0 : Nat)).C.lo 310, .q (lz (0 : Nat)).C.hi 310], .agg [.q fy 65, .q fy 65]] (310 : Nat) (65 : Nat) (m (0 : Nat)) (400 : Nat))) (.br (qd (isB qw [.agg [.q (lz (0 : Nat)).S.lo 320, .q (lz (0 : Nat)).S.hi 320], .agg [.q fx 64, .q fx 64]] (320 : Nat) (64 : Nat) (k (0 : Nat)) (410 : Nat))) (.br (qd (isB subS [.agg [.q (m (0 : Nat)).lo 400, .q (m (0 : Nat)).hi 400], .agg [.q (k (0 : Nat)).lo 410, .q (k (0 : Nat)).hi 410]] (400 : Nat) (410 : Nat) (d (0 : Nat)) (830 : Nat))) (.br (qd (isB qw [.agg [.q (A.lk (0 : Nat)).len 64, .q (A.lk (0 : Nat)).len 64], .agg [.q (d (0 : Nat)).lo 830, .q (d (0 : Nat)).hi 830]] (64 : Nat) (830 : Nat) (w (0 : Nat)) (900 : Nat))) (.br (qd (isB addS [.agg [.q (↑(0 : Int) : Rat) 1, .q (↑(0 : Int) : Rat) 1], .agg [.q (w (0 : Nat)).lo 900, .q (w (0 : Nat)).hi 900]] (1 : Nat) (900 : Nat) (s (0 : Nat)) (2002 : Nat))) (.ok (.ret (.tup [.fr 6 (.fn 1 fun (j : Nat) => bif (j + 0).beq (0 : Nat) then .agg [.q (s (0 : Nat)).lo 2002, .q (s (0 : Nat)).hi 2002] else .agg [.agg [.bl false, .s (ByteArray.mk #[]), .s (ByteArray.mk #[])], .agg [.bl false, .s (ByteArray.mk #[]), .s (ByteArray.mk #[])]]), .i .i64 0]) [])) (.no 1)) (.no 1)) (.no 1)) (.no 1)) (.no 1)) (.no 1)).run := by kernel_rfl
theorem eBd2 (A : Am) (Q : Nat -> Sp) (lz : Nat -> Lz) (fx fy : Rat) (m k d w s : Nat -> Sp) : (evF prog (OBd A 2 3 Q lz m k d w s) [(8, lBd m k d w s)] polBd f23 [armN A 2, .lst 6 (spsC 2 Q), .agg [.q fx 64, .q fy 65]] [] qm).run =
 (Tr.br (qd (isA [.agg [.s A.name, .agg [.agg [.q A.bx 64, .q A.by_ 64], .agg [.bl false, .q A.t 64]], .lst 16 (.fn 2 fun (j : Nat) => .agg [.q (A.lk j).len 64, .q (A.lk j).low 64, .q (A.lk j).high 64, .q (A.lk j).spd 64, .q (A.lk j).brk 64, .lst 6 (.fn (A.lk j).np fun (a : Nat) => .agg [.q ((A.lk j).px a) 64, .q ((A.lk j).py a) 64])])], .lst 6 (.fn 2 fun (j : Nat) => .agg [.q (Q j).lo 260, .q (Q j).hi 260])] True [.agg [.s A.name, .agg [.agg [.q A.bx 64, .q A.by_ 64], .agg [.bl false, .q A.t 64]], .lst 16 (.fn 2 fun (j : Nat) => .agg [.q (A.lk j).len 64, .q (A.lk j).low 64, .q (A.lk j).high 64, .q (A.lk j).spd 64, .q (A.lk j).brk 64, .lst 6 (.fn (A.lk j).np fun (a : Nat) => .agg [.q ((A.lk j).px a) 64, .q ((A.lk j).py a) 64])])], .lst 6 (.fn 2 fun (j : Nat) => .agg [.q (Q j).lo 260, .q (Q j).hi 260])])) (.br (qd (isB qw [.agg [.q (lz (1 : Nat)).C.lo 311, .q (lz (1 : Nat)).C.hi 311], .agg [.q fy 65, .q fy 65]] (311 : Nat) (65 : Nat) (m (1 : Nat)) (401 : Nat))) (.br (qd (isB qw [.agg [.q (lz (1 : Nat)).S.lo 321, .q (lz (1 : Nat)).S.hi 321], .agg [.q fx 64, .q fx 64]] (321 : Nat) (64 : Nat) (k (1 : Nat)) (411 : Nat))) (.br (qd (isB subS [.agg [.q (m (1 : Nat)).lo 401, .q (m (1 : Nat)).hi 401], .agg [.q (k (1 : Nat)).lo 411, .q (k (1 : Nat)).hi 411]] (401 : Nat) (411 : Nat) (d (1 : Nat)) (831 : Nat))) (.br (qd (isB qw [.agg [.q (A.lk (1 : Nat)).len 64, .q (A.lk (1 : Nat)).len 64], .agg [.q (d (1 : Nat)).lo 831, .q (d (1 : Nat)).hi 831]] (64 : Nat) (831 : Nat) (w (1 : Nat)) (901 : Nat))) (.br (qd (isB addS [.agg [.q (↑(0 : Int) : Rat) 1, .q (↑(0 : Int) : Rat) 1], .agg [.q (w (1 : Nat)).lo 901, .q (w (1 : Nat)).hi 901]] (1 : Nat) (901 : Nat) (s (1 : Nat)) (2002 : Nat))) (.br (qd (isB qw [.agg [.q (lz (0 : Nat)).C.lo 310, .q (lz (0 : Nat)).C.hi 310], .agg [.q fy 65, .q fy 65]] (310 : Nat) (65 : Nat) (m (0 : Nat)) (400 : Nat))) (.br (qd (isB qw [.agg [.q (lz (0 : Nat)).S.lo 320, .q (lz (0 : Nat)).S.hi 320], .agg [.q fx 64, .q fx 64]] (320 : Nat) (64 : Nat) (k (0 : Nat)) (410 : Nat))) (.br (qd (isB subS [.agg [.q (m (0 : Nat)).lo 400, .q (m (0 : Nat)).hi 400], .agg [.q (k (0 : Nat)).lo 410, .q (k (0 : Nat)).hi 410]] (400 : Nat) (410 : Nat) (d (0 : Nat)) (830 : Nat))) (.br (qd (isB qw [.agg [.q (A.lk (0 : Nat)).len 64, .q (A.lk (0 : Nat)).len 64], .agg [.q (d (0 : Nat)).lo 830, .q (d (0 : Nat)).hi 830]] (64 : Nat) (830 : Nat) (w (0 : Nat)) (900 : Nat))) (.br (qd (isB addS [.agg [.q (s (1 : Nat)).lo 2002, .q (s (1 : Nat)).hi 2002], .agg [.q (w (0 : Nat)).lo 900, .q (w (0 : Nat)).hi 900]] (2002 : Nat) (900 : Nat) (s (0 : Nat)) (3001 : Nat))) (.ok (.ret (.tup [.fr 6 (.fn 2 fun (j : Nat) => bif (j + 0).beq (0 : Nat) then .agg [.q (s (0 : Nat)).lo 3001, .q (s (0 : Nat)).hi 3001] else bif (j + 0).beq (1 : Nat) then .agg [.q (s (1 : Nat)).lo 2002, .q (s (1 : Nat)).hi 2002] else .agg [.agg [.bl false, .s (ByteArray.mk #[]), .s (ByteArray.mk #[])], .agg [.bl false, .s (ByteArray.mk #[]), .s (ByteArray.mk #[])]]), .i .i64 0]) [])) (.no 1)) (.no 1)) (.no 1)) (.no 1)) (.no 1)) (.no 1)) (.no 1)) (.no 1)) (.no 1)) (.no 1)) (.no 1)).run := by kernel_rfl
theorem eBd3 (A : Am) (Q : Nat -> Sp) (lz : Nat -> Lz) (fx fy : Rat) (m k d w s : Nat -> Sp) : (evF prog (OBd A 3 4 Q lz m k d w s) [(8, lBd m k d w s)] polBd f23 [armN A 3, .lst 6 (spsC 3 Q), .agg [.q fx 64, .q fy 65]] [] qm).run =
 (Tr.br (qd (isA [.agg [.s A.name, .agg [.agg [.q A.bx 64, .q A.by_ 64], .agg [.bl false, .q A.t 64]], .lst 16 (.fn 3 fun (j : Nat) => .agg [.q (A.lk j).len 64, .q (A.lk j).low 64, .q (A.lk j).high 64, .q (A.lk j).spd 64, .q (A.lk j).brk 64, .lst 6 (.fn (A.lk j).np fun (a : Nat) => .agg [.q ((A.lk j).px a) 64, .q ((A.lk j).py a) 64])])], .lst 6 (.fn 3 fun (j : Nat) => .agg [.q (Q j).lo 260, .q (Q j).hi 260])] True [.agg [.s A.name, .agg [.agg [.q A.bx 64, .q A.by_ 64], .agg [.bl false, .q A.t 64]], .lst 16 (.fn 3 fun (j : Nat) => .agg [.q (A.lk j).len 64, .q (A.lk j).low 64, .q (A.lk j).high 64, .q (A.lk j).spd 64, .q (A.lk j).brk 64, .lst 6 (.fn (A.lk j).np fun (a : Nat) => .agg [.q ((A.lk j).px a) 64, .q ((A.lk j).py a) 64])])], .lst 6 (.fn 3 fun (j : Nat) => .agg [.q (Q j).lo 260, .q (Q j).hi 260])])) (.br (qd (isB qw [.agg [.q (lz (2 : Nat)).C.lo 312, .q (lz (2 : Nat)).C.hi 312], .agg [.q fy 65, .q fy 65]] (312 : Nat) (65 : Nat) (m (2 : Nat)) (402 : Nat))) (.br (qd (isB qw [.agg [.q (lz (2 : Nat)).S.lo 322, .q (lz (2 : Nat)).S.hi 322], .agg [.q fx 64, .q fx 64]] (322 : Nat) (64 : Nat) (k (2 : Nat)) (412 : Nat))) (.br (qd (isB subS [.agg [.q (m (2 : Nat)).lo 402, .q (m (2 : Nat)).hi 402], .agg [.q (k (2 : Nat)).lo 412, .q (k (2 : Nat)).hi 412]] (402 : Nat) (412 : Nat) (d (2 : Nat)) (832 : Nat))) (.br (qd (isB qw [.agg [.q (A.lk (2 : Nat)).len 64, .q (A.lk (2 : Nat)).len 64], .agg [.q (d (2 : Nat)).lo 832, .q (d (2 : Nat)).hi 832]] (64 : Nat) (832 : Nat) (w (2 : Nat)) (902 : Nat))) (.br (qd (isB addS [.agg [.q (↑(0 : Int) : Rat) 1, .q (↑(0 : Int) : Rat) 1], .agg [.q (w (2 : Nat)).lo 902, .q (w (2 : Nat)).hi 902]] (1 : Nat) (902 : Nat) (s (2 : Nat)) (2002 : Nat))) (.br (qd (isB qw [.agg [.q (lz (1 : Nat)).C.lo 311, .q (lz (1 : Nat)).C.hi 311], .agg [.q fy 65, .q fy 65]] (311 : Nat) (65 : Nat) (m (1 : Nat)) (401 : Nat))) (.br (qd (isB qw [.agg [.q (lz (1 : Nat)).S.lo 321, .q (lz (1 : Nat)).S.hi 321], .agg [.q fx 64, .q fx 64]] (321 : Nat) (64 : Nat) (k (1 : Nat)) (411 : Nat))) (.br (qd (isB subS [.agg [.q (m (1 : Nat)).lo 401, .q (m (1 : Nat)).hi 401], .agg [.q (k (1 : Nat)).lo 411, .q (k (1 : Nat)).hi 411]] (401 : Nat) (411 : Nat) (d (1 : Nat)) (831 : Nat))) (.br (qd (isB qw [.agg [.q (A.lk (1 : Nat)).len 64, .q (A.lk (1 : Nat)).len 64], .agg [.q (d (1 : Nat)).lo 831, .q (d (1 : Nat)).hi 831]] (64 : Nat) (831 : Nat) (w (1 : Nat)) (901 : Nat))) (.br (qd (isB addS [.agg [.q (s (2 : Nat)).lo 2002, .q (s (2 : Nat)).hi 2002], .agg [.q (w (1 : Nat)).lo 901, .q (w (1 : Nat)).hi 901]] (2002 : Nat) (901 : Nat) (s (1 : Nat)) (3001 : Nat))) (.br (qd (isB qw [.agg [.q (lz (0 : Nat)).C.lo 310, .q (lz (0 : Nat)).C.hi 310], .agg [.q fy 65, .q fy 65]] (310 : Nat) (65 : Nat) (m (0 : Nat)) (400 : Nat))) (.br (qd (isB qw [.agg [.q (lz (0 : Nat)).S.lo 320, .q (lz (0 : Nat)).S.hi 320], .agg [.q fx 64, .q fx 64]] (320 : Nat) (64 : Nat) (k (0 : Nat)) (410 : Nat))) (.br (qd (isB subS [.agg [.q (m (0 : Nat)).lo 400, .q (m (0 : Nat)).hi 400], .agg [.q (k (0 : Nat)).lo 410, .q (k (0 : Nat)).hi 410]] (400 : Nat) (410 : Nat) (d (0 : Nat)) (830 : Nat))) (.br (qd (isB qw [.agg [.q (A.lk (0 : Nat)).len 64, .q (A.lk (0 : Nat)).len 64], .agg [.q (d (0 : Nat)).lo 830, .q (d (0 : Nat)).hi 830]] (64 : Nat) (830 : Nat) (w (0 : Nat)) (900 : Nat))) (.br (qd (isB addS [.agg [.q (s (1 : Nat)).lo 3001, .q (s (1 : Nat)).hi 3001], .agg [.q (w (0 : Nat)).lo 900, .q (w (0 : Nat)).hi 900]] (3001 : Nat) (900 : Nat) (s (0 : Nat)) (4000 : Nat))) (.ok (.ret (.tup [.fr 6 (.fn 3 fun (j : Nat) => bif (j + 0).beq (0 : Nat) then .agg [.q (s (0 : Nat)).lo 4000, .q (s (0 : Nat)).hi 4000] else bif (j + 0).beq (1 : Nat) then .agg [.q (s (1 : Nat)).lo 3001, .q (s (1 : Nat)).hi 3001] else bif (j + 0).beq (2 : Nat) then .agg [.q (s (2 : Nat)).lo 2002, .q (s (2 : Nat)).hi 2002] else .agg [.agg [.bl false, .s (ByteArray.mk #[]), .s (ByteArray.mk #[])], .agg [.bl false, .s (ByteArray.mk #[]), .s (ByteArray.mk #[])]]), .i .i64 0]) [])) (.no 1)) (.no 1)) (.no 1)) (.no 1)) (.no 1)) (.no 1)) (.no 1)) (.no 1)) (.no 1)) (.no 1)) (.no 1)) (.no 1)) (.no 1)) (.no 1)) (.no 1)) (.no 1)).run := by kernel_rfl
theorem enHo : Enters prog 26 f26 (qg f26) := ⟨func26, by kernel_rfl, rfl⟩
def bHo : Code := (qj (qg f26)).getD 0 .skip
def polHo : Pol := { live := [(7, [3, 8, 9, 33, 34, 35])] }
def RHo : Orc := [(57, g27), (65, g83)]
def lHo : qB := unr prog RHo [] polHo f26.ntmps 0 [3, 8, 9, 33, 34, 35] bHo 5
def OHo (A : Am) (n : Nat) (Q B : Nat -> Sp) (fx fy : Rat) : Orc := (23, cst [armN A n, .lst 6 (spsC n Q), .agg [.q fx 64, .q fy 64]] True (.tup [.fr 6 (.fn n (fun j => spR (B j).lo (B j).hi 4000)), .i .i64 0])) :: RHo
theorem eHo1 (A : Am) (Q B : Nat -> Sp) (fx fy : Rat) (u : Nat) (a : Rat) : (evF prog (OHo A 1 Q B fx fy) [(7, lHo)] polHo f26 [armN A 1, .lst 6 (spsC 1 Q), .agg [.q fx 64, .q fy 64], .lst 3 (.rats 160005 [a])] [] qm).run =
 (Tr.br (qd (isA [.agg [.s A.name, .agg [.agg [.q A.bx 64, .q A.by_ 64], .agg [.bl false, .q A.t 64]], .lst 16 (.fn 1 fun (j : Nat) => .agg [.q (A.lk j).len 64, .q (A.lk j).low 64, .q (A.lk j).high 64, .q (A.lk j).spd 64, .q (A.lk j).brk 64, .lst 6 (.fn (A.lk j).np fun (a : Nat) => .agg [.q ((A.lk j).px a) 64, .q ((A.lk j).py a) 64])])], .lst 6 (.fn 1 fun (j : Nat) => .agg [.q (Q j).lo 260, .q (Q j).hi 260]), .agg [.q fx 64, .q fy 64]] True [.agg [.s A.name, .agg [.agg [.q A.bx 64, .q A.by_ 64], .agg [.bl false, .q A.t 64]], .lst 16 (.fn 1 fun (j : Nat) => .agg [.q (A.lk j).len 64, .q (A.lk j).low 64, .q (A.lk j).high 64, .q (A.lk j).spd 64, .q (A.lk j).brk 64, .lst 6 (.fn (A.lk j).np fun (a : Nat) => .agg [.q ((A.lk j).px a) 64, .q ((A.lk j).py a) 64])])], .lst 6 (.fn 1 fun (j : Nat) => .agg [.q (Q j).lo 260, .q (Q j).hi 260]), .agg [.q fx 64, .q fy 64]])) (.br (!decide ((↑[a].length : Int) = 1)) (.ok (.ret (.tup [.bl false, .i .i64 1]) [])) (.br (ix ((0 : Int)) ((↑[a].length : Int))) (.br (decide ((0 : Int) < rcmp (B (0 : Nat)).hi ([a].getD (0 : Nat) (0 : Rat)))) (.ok (.ret (.tup [.bl false, .i .i64 0]) [])) (.br (ix ((0 : Int)) ((↑[a].length : Int))) (.br (decide ((0 : Int) < rcmp (-(B (0 : Nat)).lo) ([a].getD (0 : Nat) (0 : Rat)))) (.ok (.ret (.tup [.bl false, .i .i64 0]) [])) (.ok (.ret (.tup [.bl true, .i .i64 0]) []))) (.no 10005))) (.no 10015))) (.no 1)).run := by kernel_rfl
theorem eHo2 (A : Am) (Q B : Nat -> Sp) (fx fy : Rat) (u : Nat) (a b : Rat) : (evF prog (OHo A 2 Q B fx fy) [(7, lHo)] polHo f26 [armN A 2, .lst 6 (spsC 2 Q), .agg [.q fx 64, .q fy 64], .lst 3 (.rats 160005 [a, b])] [] qm).run =
 (Tr.br (qd (isA [.agg [.s A.name, .agg [.agg [.q A.bx 64, .q A.by_ 64], .agg [.bl false, .q A.t 64]], .lst 16 (.fn 2 fun (j : Nat) => .agg [.q (A.lk j).len 64, .q (A.lk j).low 64, .q (A.lk j).high 64, .q (A.lk j).spd 64, .q (A.lk j).brk 64, .lst 6 (.fn (A.lk j).np fun (a : Nat) => .agg [.q ((A.lk j).px a) 64, .q ((A.lk j).py a) 64])])], .lst 6 (.fn 2 fun (j : Nat) => .agg [.q (Q j).lo 260, .q (Q j).hi 260]), .agg [.q fx 64, .q fy 64]] True [.agg [.s A.name, .agg [.agg [.q A.bx 64, .q A.by_ 64], .agg [.bl false, .q A.t 64]], .lst 16 (.fn 2 fun (j : Nat) => .agg [.q (A.lk j).len 64, .q (A.lk j).low 64, .q (A.lk j).high 64, .q (A.lk j).spd 64, .q (A.lk j).brk 64, .lst 6 (.fn (A.lk j).np fun (a : Nat) => .agg [.q ((A.lk j).px a) 64, .q ((A.lk j).py a) 64])])], .lst 6 (.fn 2 fun (j : Nat) => .agg [.q (Q j).lo 260, .q (Q j).hi 260]), .agg [.q fx 64, .q fy 64]])) (.br (!decide ((↑[a, b].length : Int) = 2)) (.ok (.ret (.tup [.bl false, .i .i64 1]) [])) (.br (ix ((0 : Int)) ((↑[a, b].length : Int))) (.br (decide ((0 : Int) < rcmp (B (0 : Nat)).hi ([a, b].getD (0 : Nat) (0 : Rat)))) (.ok (.ret (.tup [.bl false, .i .i64 0]) [])) (.br (ix ((0 : Int)) ((↑[a, b].length : Int))) (.br (decide ((0 : Int) < rcmp (-(B (0 : Nat)).lo) ([a, b].getD (0 : Nat) (0 : Rat)))) (.ok (.ret (.tup [.bl false, .i .i64 0]) [])) (.br (ix ((1 : Int)) ((↑[a, b].length : Int))) (.br (decide ((0 : Int) < rcmp (B (1 : Nat)).hi ([a, b].getD (1 : Nat) (0 : Rat)))) (.ok (.ret (.tup [.bl false, .i .i64 0]) [])) (.br (ix ((1 : Int)) ((↑[a, b].length : Int))) (.br (decide ((0 : Int) < rcmp (-(B (1 : Nat)).lo) ([a, b].getD (1 : Nat) (0 : Rat)))) (.ok (.ret (.tup [.bl false, .i .i64 0]) [])) (.ok (.ret (.tup [.bl true, .i .i64 0]) []))) (.no 10005))) (.no 10015))) (.no 10005))) (.no 10015))) (.no 1)).run := by kernel_rfl
theorem eHo3 (A : Am) (Q B : Nat -> Sp) (fx fy : Rat) (u : Nat) (a b c : Rat) : (evF prog (OHo A 3 Q B fx fy) [(7, lHo)] polHo f26 [armN A 3, .lst 6 (spsC 3 Q), .agg [.q fx 64, .q fy 64], .lst 3 (.rats 160005 [a, b, c])] [] qm).run =
 (Tr.br (qd (isA [.agg [.s A.name, .agg [.agg [.q A.bx 64, .q A.by_ 64], .agg [.bl false, .q A.t 64]], .lst 16 (.fn 3 fun (j : Nat) => .agg [.q (A.lk j).len 64, .q (A.lk j).low 64, .q (A.lk j).high 64, .q (A.lk j).spd 64, .q (A.lk j).brk 64, .lst 6 (.fn (A.lk j).np fun (a : Nat) => .agg [.q ((A.lk j).px a) 64, .q ((A.lk j).py a) 64])])], .lst 6 (.fn 3 fun (j : Nat) => .agg [.q (Q j).lo 260, .q (Q j).hi 260]), .agg [.q fx 64, .q fy 64]] True [.agg [.s A.name, .agg [.agg [.q A.bx 64, .q A.by_ 64], .agg [.bl false, .q A.t 64]], .lst 16 (.fn 3 fun (j : Nat) => .agg [.q (A.lk j).len 64, .q (A.lk j).low 64, .q (A.lk j).high 64, .q (A.lk j).spd 64, .q (A.lk j).brk 64, .lst 6 (.fn (A.lk j).np fun (a : Nat) => .agg [.q ((A.lk j).px a) 64, .q ((A.lk j).py a) 64])])], .lst 6 (.fn 3 fun (j : Nat) => .agg [.q (Q j).lo 260, .q (Q j).hi 260]), .agg [.q fx 64, .q fy 64]])) (.br (!decide ((↑[a, b, c].length : Int) = 3)) (.ok (.ret (.tup [.bl false, .i .i64 1]) [])) (.br (ix ((0 : Int)) ((↑[a, b, c].length : Int))) (.br (decide ((0 : Int) < rcmp (B (0 : Nat)).hi ([a, b, c].getD (0 : Nat) (0 : Rat)))) (.ok (.ret (.tup [.bl false, .i .i64 0]) [])) (.br (ix ((0 : Int)) ((↑[a, b, c].length : Int))) (.br (decide ((0 : Int) < rcmp (-(B (0 : Nat)).lo) ([a, b, c].getD (0 : Nat) (0 : Rat)))) (.ok (.ret (.tup [.bl false, .i .i64 0]) [])) (.br (ix ((1 : Int)) ((↑[a, b, c].length : Int))) (.br (decide ((0 : Int) < rcmp (B (1 : Nat)).hi ([a, b, c].getD (1 : Nat) (0 : Rat)))) (.ok (.ret (.tup [.bl false, .i .i64 0]) [])) (.br (ix ((1 : Int)) ((↑[a, b, c].length : Int))) (.br (decide ((0 : Int) < rcmp (-(B (1 : Nat)).lo) ([a, b, c].getD (1 : Nat) (0 : Rat)))) (.ok (.ret (.tup [.bl false, .i .i64 0]) [])) (.br (ix ((2 : Int)) ((↑[a, b, c].length : Int))) (.br (decide ((0 : Int) < rcmp (B (2 : Nat)).hi ([a, b, c].getD (2 : Nat) (0 : Rat)))) (.ok (.ret (.tup [.bl false, .i .i64 0]) [])) (.br (ix ((2 : Int)) ((↑[a, b, c].length : Int))) (.br (decide ((0 : Int) < rcmp (-(B (2 : Nat)).lo) ([a, b, c].getD (2 : Nat) (0 : Rat)))) (.ok (.ret (.tup [.bl false, .i .i64 0]) [])) (.ok (.ret (.tup [.bl true, .i .i64 0]) []))) (.no 10005))) (.no 10015))) (.no 10005))) (.no 10015))) (.no 10005))) (.no 10015))) (.no 1)).run := by kernel_rfl
theorem KLe.ff {e n : Nat} {f g : Nat -> PV} (h : ∀ i, i < n -> noRef 8 (f i) = true /\ VLe (f i) (g i)) : KLe ⟨e, .fn n f⟩ ⟨e, .fn n g⟩ := by
 intro w S μ a z hb
 obtain ⟨c, T, cs, h1, h2, h3, h4, h5, h6⟩ := hb
 refine ⟨c, T, cs, h1, h2, h3, fun i hi => ?_, h5, h6⟩
 have h7 := h4 i hi
 simp only [Cont.get, qA] at h7 ⊢
 exact ((h i hi).2.2 w S qJ).1 _ h7
theorem frs_ff (e n : Nat) {f g : Nat -> PV} (h : ∀ i, i < n -> noRef 8 (f i) = true /\ VLe (f i) (g i)) : RLe (.tup [.fr e (.fn n f), .i .i64 0]) (.tup [.fr e (.fn n g), .i .i64 0]) :=
 ⟨fun m => .refl _, fun m => KsLe.one (KLe.ff h)⟩
theorem nowI_le (l : Lz) : ∀ i, VLe (nowW l) (nowI i l)
 | 0 => VLe.agg (vllc (sp_vle (by omega)) (vllc (sp_vle (by omega)) (vllc (sp_vle (by omega)) (vllc (sp_vle (by omega)) vll0))))
 | 1 => VLe.agg (vllc (sp_vle (by omega)) (vllc (sp_vle (by omega)) (vllc (sp_vle (by omega)) (vllc (sp_vle (by omega)) vll0))))
 | _ + 2 => VLe.agg (vllc (sp_vle (by omega)) (vllc (sp_vle (by omega)) (vllc (sp_vle (by omega)) (vllc (sp_vle (by omega)) vll0))))
include hG in
theorem orcRBd (hT : qt G) (m k d w s : Nat -> Sp) : OrcOK prog G (RBd m k d w s) := by
 refine .cons (gkOf hG hT) (.cons (vB_ok (gkSb hG hT) fun A B n m h1 h2 h3 => ?_) (.cons (vB_ok (gkMu hG hT) fun A B n m h1 h2 h3 => ?_) (.cons (vB_ok (gkAd hG hT) fun A B n m h1 h2 h3 => ?_) (.cons (gk71 hG) .nil))))
 ·refine ⟨_, Nat.le_refl _, (k5 (decP_iff.2 ⟨⟨_, _, _, _, rfl⟩, h1, h2, h3⟩)).trans ?_⟩
  rw [qF, qF]; rfl
 ·refine ⟨n + m, by omega, (k5 (decP_iff.2 ⟨⟨_, _, _, _, rfl⟩, h1, h2, h3⟩)).trans ?_⟩
  rw [qF, qF]; rfl
 ·refine ⟨_, Nat.le_refl _, (k5 (decP_iff.2 ⟨⟨_, _, _, _, rfl⟩, h1, h2, h3⟩)).trans ?_⟩
  rw [qF, qF]; rfl
def dBd (lz : Nat -> Lz) (fx fy : Rat) (i : Nat) : Sp := subS (qw (lz i).C (ofS fy)) (qw (lz i).S (ofS fx))
def wBd (L : Nat -> Rat) (lz : Nat -> Lz) (fx fy : Rat) (i : Nat) : Sp := qw (ofS (L i)) (dBd lz fx fy i)
def bsS (w : Nat -> Sp) : Nat -> Nat -> Sp
 | 0, _ => ofS ((0 : Int) : Rat)
 | k + 1, j => addS (bsS w k (j + 1)) (w j)
def bnd (n : Nat) (L : Nat -> Rat) (lz : Nat -> Lz) (fx fy : Rat) (j : Nat) : Sp := bsS (wBd L lz fx fy) (n - j) j
def zsp : PV := .agg [.agg [.bl false, .s (ByteArray.mk #[]), .s (ByteArray.mk #[])], .agg [.bl false, .s (ByteArray.mk #[]), .s (ByteArray.mk #[])]]
def bndP (S : Sp) : PV := spR S.lo S.hi 4000
include hG in
theorem pcBd (hT : qt G) (A : Am) (hA : armB A = true) (Q : Nat -> Sp) (fx fy : Rat) :
  PC prog G 23 [qp A, .lst 6 (spsC A.n Q), .agg [.q fx 64, .q fy 64]] [] (.tup [.fr 6 (.fn A.n (fun j => bndP (bnd A.n (fun j => (A.lk j).len) (lzs A Q) fx fy j))), .i .i64 0]) [] := by
 refine PC.args (.cons (.refl _) (.cons (.refl _) (.cons (VLe.agg (vllc (.refl _) (vllc (vle_qm (show 64 <= 65 by omega)) vll0))) .nil))) ?_
 obtain ⟨a1, a2, a3, a4, h1, h3, a7⟩ := armB_c hA
 have p11 := (pcSp hG hT A hA Q).le (frs_ff 24 (A.n + 1) (g := fun i => nowI i (lzs A Q i)) fun i hi => ⟨rfl, nowI_le _ i⟩) (.refl _)
 generalize lzs A Q = lz at *
 have hl := fun m k d w s => lps1 (P := prog) (G := G) (pol := polBd) (n := f23.ntmps) (m := 0) (L := [(8, lBd m k d w s)]) (c := qg f23) (b := bBd) (live := [3, 8, 10, 11, 12, 13, 14]) (sp := lBd m k d w s) (by kernel_rfl) (by kernel_rfl) (by kernel_rfl) (unr_ok hG (orcRBd hG hT m k d w s) mix (k9 (by kernel_rfl)) 5)
 have ha : qp A = armN A A.n := rfl
 rw [ha] at p11 ⊢
 rcases (show A.n = 1 \/ A.n = 2 \/ A.n = 3 by omega) with hn | hn | hn
 ·rw [hn] at p11 ⊢
  refine (ql hG (.cons (cst_t p11) (orcRBd hG hT (fun i => qw (lz i).C (ofS fy)) (fun i => qw (lz i).S (ofS fx)) (dBd lz fx fy) (wBd (fun j => (A.lk j).len) lz fx fy) (bnd 1 (fun j => (A.lk j).len) lz fx fy))) mix enBd (hs := []) (pol := polBd) (L := [(8, lBd (fun i => qw (lz i).C (ofS fy)) (fun i => qw (lz i).S (ofS fx)) (dBd lz fx fy) (wBd (fun j => (A.lk j).len) lz fx fy) (bnd 1 (fun j => (A.lk j).len) lz fx fy))]) (hl (fun i => qw (lz i).C (ofS fy)) (fun i => qw (lz i).S (ofS fx)) (dBd lz fx fy) (wBd (fun j => (A.lk j).len) lz fx fy) (bnd 1 (fun j => (A.lk j).len) lz fx fy)) (r := .tup [.fr 6 (.fn 1 (fun j => bif (j + 0).beq 0 then .agg [.q (bnd 1 (fun j => (A.lk j).len) lz fx fy 0).lo 2002, .q (bnd 1 (fun j => (A.lk j).len) lz fx fy 0).hi 2002] else zsp)), .i .i64 0]) (hs' := []) ?_).le (frs_ff 6 1 fun i hi => ?_) (.refl _)
  ·refine (eBd1 A Q lz fx fy _ _ _ _ _).trans ?_
   repeat (refine Eq.trans (k5 ?_) ?_; first | exact decP_iff.2 ⟨rfl, trivial⟩ | exact decP_iff.2 ⟨⟨_, _, rfl, rfl⟩, by decide, by decide, by decide, by decide⟩ | exact decP_iff.2 ⟨⟨_, ofS _, rfl, rfl⟩, by decide, by decide, by decide, by decide⟩ | exact decP_iff.2 ⟨⟨ofS _, _, rfl, rfl⟩, by decide, by decide, by decide, by decide⟩)
   rw [k7]; rfl
  ·match i, hi with
   | 0, _ => exact ⟨rfl, sp_vle (by omega)⟩
   | i + 1, hi => exact absurd hi (by omega)
 ·rw [hn] at p11 ⊢
  refine (ql hG (.cons (cst_t p11) (orcRBd hG hT (fun i => qw (lz i).C (ofS fy)) (fun i => qw (lz i).S (ofS fx)) (dBd lz fx fy) (wBd (fun j => (A.lk j).len) lz fx fy) (bnd 2 (fun j => (A.lk j).len) lz fx fy))) mix enBd (hs := []) (pol := polBd) (L := [(8, lBd (fun i => qw (lz i).C (ofS fy)) (fun i => qw (lz i).S (ofS fx)) (dBd lz fx fy) (wBd (fun j => (A.lk j).len) lz fx fy) (bnd 2 (fun j => (A.lk j).len) lz fx fy))]) (hl (fun i => qw (lz i).C (ofS fy)) (fun i => qw (lz i).S (ofS fx)) (dBd lz fx fy) (wBd (fun j => (A.lk j).len) lz fx fy) (bnd 2 (fun j => (A.lk j).len) lz fx fy)) (r := .tup [.fr 6 (.fn 2 (fun j => bif (j + 0).beq 0 then .agg [.q (bnd 2 (fun j => (A.lk j).len) lz fx fy 0).lo 3001, .q (bnd 2 (fun j => (A.lk j).len) lz fx fy 0).hi 3001] else bif (j + 0).beq 1 then .agg [.q (bnd 2 (fun j => (A.lk j).len) lz fx fy 1).lo 2002, .q (bnd 2 (fun j => (A.lk j).len) lz fx fy 1).hi 2002] else zsp)), .i .i64 0]) (hs' := []) ?_).le (frs_ff 6 2 fun i hi => ?_) (.refl _)
  ·refine (eBd2 A Q lz fx fy _ _ _ _ _).trans ?_
   repeat (refine Eq.trans (k5 ?_) ?_; first | exact decP_iff.2 ⟨rfl, trivial⟩ | exact decP_iff.2 ⟨⟨_, _, rfl, rfl⟩, by decide, by decide, by decide, by decide⟩ | exact decP_iff.2 ⟨⟨_, ofS _, rfl, rfl⟩, by decide, by decide, by decide, by decide⟩ | exact decP_iff.2 ⟨⟨ofS _, _, rfl, rfl⟩, by decide, by decide, by decide, by decide⟩)
   rw [k7]; rfl
  ·match i, hi with
   | 0, _ => exact ⟨rfl, sp_vle (by omega)⟩
   | 1, _ => exact ⟨rfl, sp_vle (by omega)⟩
   | i + 2, hi => exact absurd hi (by omega)
 ·rw [hn] at p11 ⊢
  refine (ql hG (.cons (cst_t p11) (orcRBd hG hT (fun i => qw (lz i).C (ofS fy)) (fun i => qw (lz i).S (ofS fx)) (dBd lz fx fy) (wBd (fun j => (A.lk j).len) lz fx fy) (bnd 3 (fun j => (A.lk j).len) lz fx fy))) mix enBd (hs := []) (pol := polBd) (L := [(8, lBd (fun i => qw (lz i).C (ofS fy)) (fun i => qw (lz i).S (ofS fx)) (dBd lz fx fy) (wBd (fun j => (A.lk j).len) lz fx fy) (bnd 3 (fun j => (A.lk j).len) lz fx fy))]) (hl (fun i => qw (lz i).C (ofS fy)) (fun i => qw (lz i).S (ofS fx)) (dBd lz fx fy) (wBd (fun j => (A.lk j).len) lz fx fy) (bnd 3 (fun j => (A.lk j).len) lz fx fy)) (r := .tup [.fr 6 (.fn 3 (fun j => bif (j + 0).beq 0 then .agg [.q (bnd 3 (fun j => (A.lk j).len) lz fx fy 0).lo 4000, .q (bnd 3 (fun j => (A.lk j).len) lz fx fy 0).hi 4000] else bif (j + 0).beq 1 then .agg [.q (bnd 3 (fun j => (A.lk j).len) lz fx fy 1).lo 3001, .q (bnd 3 (fun j => (A.lk j).len) lz fx fy 1).hi 3001] else bif (j + 0).beq 2 then .agg [.q (bnd 3 (fun j => (A.lk j).len) lz fx fy 2).lo 2002, .q (bnd 3 (fun j => (A.lk j).len) lz fx fy 2).hi 2002] else zsp)), .i .i64 0]) (hs' := []) ?_).le (frs_ff 6 3 fun i hi => ?_) (.refl _)
  ·refine (eBd3 A Q lz fx fy _ _ _ _ _).trans ?_
   repeat (refine Eq.trans (k5 ?_) ?_; first | exact decP_iff.2 ⟨rfl, trivial⟩ | exact decP_iff.2 ⟨⟨_, _, rfl, rfl⟩, by decide, by decide, by decide, by decide⟩ | exact decP_iff.2 ⟨⟨_, ofS _, rfl, rfl⟩, by decide, by decide, by decide, by decide⟩ | exact decP_iff.2 ⟨⟨ofS _, _, rfl, rfl⟩, by decide, by decide, by decide, by decide⟩)
   rw [k7]; rfl
  ·match i, hi with
   | 0, _ => exact ⟨rfl, sp_vle (by omega)⟩
   | 1, _ => exact ⟨rfl, sp_vle (by omega)⟩
   | 2, _ => exact ⟨rfl, sp_vle (by omega)⟩
   | i + 3, hi => exact absurd hi (by omega)
theorem hoT {c : Bool} {x : Tr} {n : Nat} {H : Prop} (hc : c = true) (h : ∃ b, x.run = some (.ret (.tup [.bl b, .i .i64 0]) []) /\ (H -> b = true)) : ∃ b, (Tr.br c x (.no n)).run = some (.ret (.tup [.bl b, .i .i64 0]) []) /\ (H -> b = true) := by
 rw [k5 hc]; exact h
theorem hoF {c : Bool} {x y : Tr} {H : Prop} (hc : c = false) (h : ∃ b, y.run = some (.ret (.tup [.bl b, .i .i64 0]) []) /\ (H -> b = true)) : ∃ b, (Tr.br c x y).run = some (.ret (.tup [.bl b, .i .i64 0]) []) /\ (H -> b = true) := by
 rw [k6 hc]; exact h
theorem hoS {c : Bool} {x : Tr} {H : Prop} (hc : H -> c = false) (h : ∃ b, x.run = some (.ret (.tup [.bl b, .i .i64 0]) []) /\ (H -> b = true)) : ∃ b, (Tr.br c (.ok (.ret (.tup [.bl false, .i .i64 0]) [])) x).run = some (.ret (.tup [.bl b, .i .i64 0]) []) /\ (H -> b = true) := by
 cases c with
 | false => exact h
 | true => exact ⟨false, rfl, fun hh => absurd (hc hh) (by decide)⟩
def hld (n : Nat) (B : Nat -> Sp) (ls : List Rat) : Prop := ∀ j, j < n -> (B j).hi <= ls.getD j 0 /\ -(B j).lo <= ls.getD j 0
theorem rc_f {x y : Rat} (h : x <= y) : decide ((0 : Int) < rcmp x y) = false := kF (by have := rcmp_le.2 h; omega)
include hG in
theorem pcHo (hT : qt G) (A : Am) (hA : armB A = true) (Q : Nat -> Sp) (fx fy : Rat) (ls : List Rat) (hls : ls.length = A.n) :
  ∃ b, PC prog G 26 [qp A, .lst 6 (spsC A.n Q), .agg [.q fx 64, .q fy 64], .lst 3 (.rats 160005 ls)] [] (.tup [.bl b, .i .i64 0]) [] /\ (hld A.n (bnd A.n (fun j => (A.lk j).len) (lzs A Q) fx fy) ls -> b = true) := by
 have p23 := pcBd hG hT A hA Q fx fy
 obtain ⟨a1, a2, a3, a4, h1, h3, a7⟩ := armB_c hA
 generalize bnd A.n (fun j => (A.lk j).len) (lzs A Q) fx fy = B at *
 have orc : OrcOK prog G RHo := .cons (gk27 hG hT) (.cons (gk83 hG hT) .nil)
 have hl := lps1 (P := prog) (G := G) (pol := polHo) (n := f26.ntmps) (m := 0) (L := [(7, lHo)]) (c := qg f26) (b := bHo) (live := [3, 8, 9, 33, 34, 35]) (sp := lHo) (by kernel_rfl) (by kernel_rfl) (by kernel_rfl) (unr_ok hG orc mix (k9 (by kernel_rfl)) 5)
 have ha : qp A = armN A A.n := rfl
 rw [ha] at p23 ⊢
 rcases (show A.n = 1 \/ A.n = 2 \/ A.n = 3 by omega) with hn | hn | hn
 ·rw [hn] at p23 hls ⊢
  match ls, hls with
  | [a], _ =>
   have key : ∃ v, (evF prog (OHo A 1 Q B fx fy) [(7, lHo)] polHo f26 [armN A 1, .lst 6 (spsC 1 Q), .agg [.q fx 64, .q fy 64], .lst 3 (.rats 160005 [a])] [] qm).run = some (.ret (.tup [.bl v, .i .i64 0]) []) /\ (hld 1 B [a] -> v = true) := by
    rw [eHo1 A Q B fx fy 0]
    exact hoT (decP_iff.2 ⟨rfl, trivial⟩) (hoF rfl (hoT rfl (hoS (fun h => rc_f (h 0 (by omega)).1) (hoT rfl (hoS (fun h => rc_f (h 0 (by omega)).2) (⟨true, rfl, fun _ => rfl⟩))))))
   obtain ⟨v, hb, hb'⟩ := key
   exact ⟨v, ql hG (.cons (cst_t p23) orc) mix enHo (hs := []) (pol := polHo) (L := [(7, lHo)]) hl hb, hb'⟩
 ·rw [hn] at p23 hls ⊢
  match ls, hls with
  | [a, b], _ =>
   have key : ∃ v, (evF prog (OHo A 2 Q B fx fy) [(7, lHo)] polHo f26 [armN A 2, .lst 6 (spsC 2 Q), .agg [.q fx 64, .q fy 64], .lst 3 (.rats 160005 [a, b])] [] qm).run = some (.ret (.tup [.bl v, .i .i64 0]) []) /\ (hld 2 B [a, b] -> v = true) := by
    rw [eHo2 A Q B fx fy 0]
    exact hoT (decP_iff.2 ⟨rfl, trivial⟩) (hoF rfl (hoT rfl (hoS (fun h => rc_f (h 0 (by omega)).1) (hoT rfl (hoS (fun h => rc_f (h 0 (by omega)).2) (hoT rfl (hoS (fun h => rc_f (h 1 (by omega)).1) (hoT rfl (hoS (fun h => rc_f (h 1 (by omega)).2) (⟨true, rfl, fun _ => rfl⟩))))))))))
   obtain ⟨v, hb, hb'⟩ := key
   exact ⟨v, ql hG (.cons (cst_t p23) orc) mix enHo (hs := []) (pol := polHo) (L := [(7, lHo)]) hl hb, hb'⟩
 ·rw [hn] at p23 hls ⊢
  match ls, hls with
  | [a, b, c], _ =>
   have key : ∃ v, (evF prog (OHo A 3 Q B fx fy) [(7, lHo)] polHo f26 [armN A 3, .lst 6 (spsC 3 Q), .agg [.q fx 64, .q fy 64], .lst 3 (.rats 160005 [a, b, c])] [] qm).run = some (.ret (.tup [.bl v, .i .i64 0]) []) /\ (hld 3 B [a, b, c] -> v = true) := by
    rw [eHo3 A Q B fx fy 0]
    exact hoT (decP_iff.2 ⟨rfl, trivial⟩) (hoF rfl (hoT rfl (hoS (fun h => rc_f (h 0 (by omega)).1) (hoT rfl (hoS (fun h => rc_f (h 0 (by omega)).2) (hoT rfl (hoS (fun h => rc_f (h 1 (by omega)).1) (hoT rfl (hoS (fun h => rc_f (h 1 (by omega)).2) (hoT rfl (hoS (fun h => rc_f (h 2 (by omega)).1) (hoT rfl (hoS (fun h => rc_f (h 2 (by omega)).2) (⟨true, rfl, fun _ => rfl⟩))))))))))))))
   obtain ⟨v, hb, hb'⟩ := key
   exact ⟨v, ql hG (.cons (cst_t p23) orc) mix enHo (hs := []) (pol := polHo) (L := [(7, lHo)]) hl hb, hb'⟩
theorem bs_has {b : Fr} {Q : Nat -> Sp} {q L : Nat -> Rat} {n : Nat} (h : ∀ j, j < n -> (Q j).has (q j)) (fx fy : Rat) : ∀ (k j : Nat), k + j = n ->
  (bsS (wBd L (lzA b Q L n) fx fy) k j).has (((endR b q L n).x - (endR b q L j).x) * fy - ((endR b q L n).y - (endR b q L j).y) * fx)
 | 0, j, e => by
  obtain rfl : j = n := by omega
  have : ((endR b q L j).x - (endR b q L j).x) * fy - ((endR b q L j).y - (endR b q L j).y) * fx = ((0 : Int) : Rat) := by
   have h0 : ((0 : Int) : Rat) = 0 := rfl
   rw [h0]; grind
  rw [this]
  exact ofS_has _
 | k + 1, j, e => by
  have ih := bs_has (b := b) (L := L) h fx fy k (j + 1) (by omega)
  have hj := lzA_has (b := b) (L := L) (i := j) (by omega) h
  obtain ⟨_, _, hc, hs⟩ := hj
  have ea : allF b q L n j = frmF b q L j := allF_lt (by omega)
  rw [ea] at hc hs
  have hw : (wBd L (lzA b Q L n) fx fy j).has (L j * (cosR (frmF b q L j).h (frmF b q L j).t * fy - qx (frmF b q L j).h (frmF b q L j).t * fx)) :=
   mul_has (ofS_has _) (sub_has (mul_has hc (ofS_has _)) (mul_has hs (ofS_has _)))
  have := add_has ih hw
  have ex : (endR b q L (j + 1)).x = (endR b q L j).x + L j * cosR (frmF b q L j).h (frmF b q L j).t := rfl
  have ey : (endR b q L (j + 1)).y = (endR b q L j).y + L j * qx (frmF b q L j).h (frmF b q L j).t := rfl
  rw [ex, ey] at this
  generalize cosR (frmF b q L j).h (frmF b q L j).t = c at *
  generalize qx (frmF b q L j).h (frmF b q L j).t = t at *
  have e2 : ((endR b q L n).x - (endR b q L j).x) * fy - ((endR b q L n).y - (endR b q L j).y) * fx = ((endR b q L n).x - ((endR b q L j).x + L j * c)) * fy - ((endR b q L n).y - ((endR b q L j).y + L j * t)) * fx + L j * (c * fy - t * fx) := by grind
  rw [e2]
  exact this
theorem bnd_has {A : Am} {Q : Nat -> Sp} {r : List Rat} (h : ∀ j, j < A.n -> (Q j).has (r.getD j 0)) (fx fy : Rat) {j : Nat} (hj : j < A.n) :
  (bnd A.n (fun j => (A.lk j).len) (lzs A Q) fx fy j).has (tqF (allF (bsF A) (qf r) (fun j => (A.lk j).len) A.n) A.n fx fy j) := by
 have g := bs_has (b := bsF A) (Q := Q) (q := qf r) (L := fun j => (A.lk j).len) (n := A.n) h fx fy (A.n - j) j (by omega)
 unfold tqF
 have e1 := all_at (b := bsF A) (q := qf r) (L := fun j => (A.lk j).len) (n := A.n) (i := A.n) (Nat.le_refl _)
 have e2 := all_at (b := bsF A) (q := qf r) (L := fun j => (A.lk j).len) (n := A.n) (i := j) (by omega)
 rw [e1.1, e1.2, e2.1, e2.2]
 exact g
theorem enFo : Enters prog 5 f5 (qg f5) := ⟨func5, by kernel_rfl, rfl⟩
def bFo1 : Code := (qj (qg f5)).getD 0 .skip
def bFo2 : Code := (qj (qg f5)).getD 1 .skip
def polFo : Pol := { live := [(11, [10, 11, 12, 13, 14, 15, 17, 19, 71, 72]), (19, [11, 12, 13, 14, 15, 19, 21, 22, 105, 106])] }
def isHo (A : Am) (Q : Nat -> Sp) (fx fy : Rat) (a : PV) (n : Nat) (f : Nat -> PV) (v : PV) (ls : List Rat) : Prop :=
 a = qp A /\ n = A.n /\ f = (fun j => .agg [.q (Q j).lo 260, .q (Q j).hi 260]) /\ v = .agg [.q fx 64, .q fy 64] /\ ls.length = A.n
def vHo (A : Am) (Q : Nat -> Sp) (fx fy : Rat) (HO : List Rat -> Bool) : Spec := fun args hs K => match args, hs with
 | [a, .lst 6 (.fn n f), v, .lst 3 (.rats 160005 ls)], [] => .br (qd (isHo A Q fx fy a n f v ls)) (.br (HO ls) (K (.tup [.bl true, .i .i64 0]) []) (K (.tup [.bl false, .i .i64 0]) [])) (.no 1)
 | _, _ => .no 1
def vHoT (A : Am) (Q : Nat -> Sp) (fx fy : Rat) (HO : List Rat -> Bool) : Spec := fun args hs K => match args, hs with
 | [a, .lst 6 (.fn n f), v, .lst 3 (.rats 160005 ls)], [] => .br (qd (isHo A Q fx fy a n f v ls /\ HO ls = true)) (K (.tup [.bl true, .i .i64 0]) []) (.no 1)
 | _, _ => .no 1
def RFo : Orc := [(15, gHs), (25, g28), (27, g86)]
def n1Fo (A : Am) (p q : List Rat) (fx fy : Rat) (B : Nat -> Sp) (n : Nat) (t : List Rat) (i : Int) : LS := ⟨[.bl false, .ptr 0 12 0 0 [], .lst 3 (.rats 64 p), .lst 3 (.rats 64 q), .ptr 1 6 0 0 [], .lst 6 (.fn n (fun j => bndP (B j))), .lst 3 (.rats 160005 t), .nil, .i .i64 t.length, .i .i64 i], [some ⟨12, .vals [qp A]⟩, some ⟨6, .vals [.agg [.q fx 64, .q fy 64]]⟩]⟩
def x1Fo (A : Am) (p q : List Rat) (fx fy : Rat) (B : Nat -> Sp) (n : Nat) (t ys : List Rat) (i : Int) : LS := ⟨[.bl false, .ptr 0 12 0 0 [], .lst 3 (.rats 64 p), .lst 3 (.rats 64 q), .ptr 1 6 0 0 [], .lst 6 (.fn n (fun j => bndP (B j))), .lst 3 (.rats 160005 t), .sl 2 3 0 ys.length, .i .i64 t.length, .i .i64 i], [some ⟨12, .vals [qp A]⟩, some ⟨6, .vals [.agg [.q fx 64, .q fy 64]]⟩, some ⟨3, .rats 160005 ys⟩]⟩
def s2Fo (A : Am) (p q : List Rat) (fx fy : Rat) (B : Nat -> Sp) (n L : Nat) (b : Bool) (ls : List Rat) (i : Int) : LS := ⟨[.ptr 0 12 0 0 [], .lst 3 (.rats 64 p), .lst 3 (.rats 64 q), .ptr 1 6 0 0 [], .lst 6 (.fn n (fun j => bndP (B j))), .sl 2 3 0 L, .bl b, .i .i64 0, .i .i64 n, .i .i64 i], [some ⟨12, .vals [qp A]⟩, some ⟨6, .vals [.agg [.q fx 64, .q fy 64]]⟩, some ⟨3, .rats 160005 ls⟩]⟩
theorem tF1n (A : Am) (p q : List Rat) (fx fy : Rat) (B : Nat -> Sp) (n : Nat) (t : List Rat) (i : Int) : (qh prog RFo [] polFo f5.ntmps 0 [10, 11, 12, 13, 14, 15, 17, 19, 71, 72] bFo1 (n1Fo A p q fx fy B n t i)).run =
 (Tr.br (decide (i < (t.length : Int))) (.br (ix (i) ((n : Int))) (.br (ix (i) ((t.length : Int))) (.br (!hasB (qi (B i.toNat).lo (B i.toNat).hi) (t.getD i.toNat 0)) (.ok (.out .ret (LS.mk [.bl false, .ptr 0 12 0 0 [], .lst 3 (.rats 64 p), .lst 3 (.rats 64 q), .ptr 1 6 0 0 [], .lst 6 (.fn n fun (j : Nat) => .agg [.q (B j).lo 4000, .q (B j).hi 4000]), .lst 3 (.rats 160005 t), .nil, .i .i64 (t.length : Int), .i .i64 i] [some (.mk 12 (.vals [qp A])), some (.mk 6 (.vals [.agg [.q fx 64, .q fy 64]]))]))) (.br (ix (i) ((t.length : Int))) (.br (Nat.blt (0 : Nat) [rabs (t.getD i.toNat 0)].length && [rabs (t.getD i.toNat 0)].length.ble 4294967296) (.br (ib (i + 1)) (.ok (.out .normal (LS.mk [.bl false, .ptr 0 12 0 0 [], .lst 3 (.rats 64 p), .lst 3 (.rats 64 q), .ptr 1 6 0 0 [], .lst 6 (.fn n fun (j : Nat) => .agg [.q (B j).lo 4000, .q (B j).hi 4000]), .lst 3 (.rats 160005 t), .sl 2 3 0 1, .i .i64 (t.length : Int), .i .i64 (i + 1)] [some (.mk 12 (.vals [qp A])), some (.mk 6 (.vals [.agg [.q fx 64, .q fy 64]])), some (.mk 3 (.rats 160005 [rabs (t.getD i.toNat 0)]))]))) (.no 17002)) (.no 16002)) (.no 16006))) (.no 14004)) (.no 14008)) (.ok (.out (.exit 0) (LS.mk [.bl false, .ptr 0 12 0 0 [], .lst 3 (.rats 64 p), .lst 3 (.rats 64 q), .ptr 1 6 0 0 [], .lst 6 (.fn n fun (j : Nat) => .agg [.q (B j).lo 4000, .q (B j).hi 4000]), .lst 3 (.rats 160005 t), .nil, .i .i64 (t.length : Int), .i .i64 i] [some (.mk 12 (.vals [qp A])), some (.mk 6 (.vals [.agg [.q fx 64, .q fy 64]]))])))).run := by kernel_rfl
theorem tF1x (A : Am) (p q : List Rat) (fx fy : Rat) (B : Nat -> Sp) (n : Nat) (t ys : List Rat) (i : Int) : (qh prog RFo [] polFo f5.ntmps 0 [10, 11, 12, 13, 14, 15, 17, 19, 71, 72] bFo1 (x1Fo A p q fx fy B n t ys i)).run =
 (Tr.br (decide (i < (t.length : Int))) (.br (ix (i) ((n : Int))) (.br (ix (i) ((t.length : Int))) (.br (!hasB (qi (B i.toNat).lo (B i.toNat).hi) (t.getD i.toNat 0)) (.ok (.out .ret (LS.mk [.bl false, .ptr 0 12 0 0 [], .lst 3 (.rats 64 p), .lst 3 (.rats 64 q), .ptr 1 6 0 0 [], .lst 6 (.fn n fun (j : Nat) => .agg [.q (B j).lo 4000, .q (B j).hi 4000]), .lst 3 (.rats 160005 t), .sl 2 3 0 ys.length, .i .i64 (t.length : Int), .i .i64 i] [some (.mk 12 (.vals [qp A])), some (.mk 6 (.vals [.agg [.q fx 64, .q fy 64]])), some (.mk 3 (.rats 160005 ys))]))) (.br (ix (i) ((t.length : Int))) (.br (ys.length.ble ys.length && (ys.length + [rabs (t.getD i.toNat 0)].length).ble 4294967296) (.br (ib (i + 1)) (.ok (.out .normal (LS.mk [.bl false, .ptr 0 12 0 0 [], .lst 3 (.rats 64 p), .lst 3 (.rats 64 q), .ptr 1 6 0 0 [], .lst 6 (.fn n fun (j : Nat) => .agg [.q (B j).lo 4000, .q (B j).hi 4000]), .lst 3 (.rats 160005 t), .sl 2 3 0 (ys.length + [rabs (t.getD i.toNat 0)].length), .i .i64 (t.length : Int), .i .i64 (i + 1)] [some (.mk 12 (.vals [qp A])), some (.mk 6 (.vals [.agg [.q fx 64, .q fy 64]])), some (.mk 3 (.rats 160005 (List.take ys.length (List.drop (0 : Nat) ys) ++ [rabs (t.getD i.toNat 0)])))]))) (.no 17002)) (.no 16002)) (.no 16006))) (.no 14004)) (.no 14008)) (.ok (.out (.exit 0) (LS.mk [.bl false, .ptr 0 12 0 0 [], .lst 3 (.rats 64 p), .lst 3 (.rats 64 q), .ptr 1 6 0 0 [], .lst 6 (.fn n fun (j : Nat) => .agg [.q (B j).lo 4000, .q (B j).hi 4000]), .lst 3 (.rats 160005 t), .sl 2 3 0 ys.length, .i .i64 (t.length : Int), .i .i64 i] [some (.mk 12 (.vals [qp A])), some (.mk 6 (.vals [.agg [.q fx 64, .q fy 64]])), some (.mk 3 (.rats 160005 ys))])))).run := by kernel_rfl
theorem tF2 (A : Am) (p q : List Rat) (fx fy : Rat) (B : Nat -> Sp) (n L : Nat) (b : Bool) (ls : List Rat) (i : Int) : (qh prog RFo [] polFo f5.ntmps 0 [11, 12, 13, 14, 15, 19, 21, 22, 105, 106] bFo2 (s2Fo A p q fx fy B n L b ls i)).run =
 (Tr.br (decide (i < (n : Int))) (.br (ix (i) ((n : Int))) (.br (ix (i) ((n : Int))) (.br (ix (i) ((L : Int))) (.br (((0 : Nat) + i.toNat + 1).ble ls.length) (.br (ib (i + 1)) (.ok (.out .normal (LS.mk [.ptr 0 12 0 0 [], .lst 3 (.rats 64 p), .lst 3 (.rats 64 q), .ptr 1 6 0 0 [], .lst 6 (.fn n fun (j : Nat) => .agg [.q (B j).lo 4000, .q (B j).hi 4000]), .sl 2 3 0 L, .bl b, .i .i64 0, .i .i64 (n : Int), .i .i64 (i + 1)] [some (.mk 12 (.vals [qp A])), some (.mk 6 (.vals [.agg [.q fx 64, .q fy 64]])), some (.mk 3 (.rats 160005 (ls.set ((0 : Nat) + i.toNat) (mxR (rabs (B i.toNat).lo) (rabs (B i.toNat).hi)))))]))) (.no 23002)) (.no 22001)) (.no 22002)) (.no 22007)) (.no 22013)) (.ok (.out (.exit 2) (LS.mk [.ptr 0 12 0 0 [], .lst 3 (.rats 64 p), .lst 3 (.rats 64 q), .ptr 1 6 0 0 [], .lst 6 (.fn n fun (j : Nat) => .agg [.q (B j).lo 4000, .q (B j).hi 4000]), .sl 2 3 0 L, .bl b, .i .i64 0, .i .i64 (n : Int), .i .i64 i] [some (.mk 12 (.vals [qp A])), some (.mk 6 (.vals [.agg [.q fx 64, .q fy 64]])), some (.mk 3 (.rats 160005 ls))])))).run := by kernel_rfl
def OFo (l n o : PV) (A : Am) (CF : PV -> List Rat) (p q r : List Rat) (Q B : Nat -> Sp) (k : Nat) (t : List Rat) (fx fy : Rat) (vh : Spec) : Orc :=
 [(21, cst [] True (.bl true)), (9, cst [.w l] True (armFr A)), (10, vCf A CF), (22, cst [.w o] True (.agg [.q fx 64, .q fy 64])), (12, cst [.lst 3 (.rats 64 p), .lst 3 (.rats 64 q)] True (.fr 6 (spsC A.n Q))),
  (23, cst [qp A, .lst 6 (spsC A.n Q), .agg [.q fx 64, .q fy 64]] True (.tup [.fr 6 (.fn k (fun j => bndP (B j))), .i .i64 0])),
  (14, cst [.lst 3 (.rats 64 p), .lst 3 (.rats 64 q), .w n] True (.fr 3 (.rats 64 r))), (24, cst [qp A, .lst 3 (.rats 64 r), .agg [.q fx 64, .q fy 64]] True (.tup [.fr 3 (.rats 160005 t), .i .i64 0])),
  (26, vh)] ++ RFo
def LFo (A : Am) (p q : List Rat) (fx fy : Rat) (B : Nat -> Sp) (n : Nat) (t ls ls' : List Rat) (b : Bool) : Lps :=
 [(11, lcst (n1Fo A p q fx fy B n t 0) (.exit 0) (x1Fo A p q fx fy B n t ls t.length)), (19, lcst (s2Fo A p q fx fy B n ls.length b ls 0) (.exit 2) (s2Fo A p q fx fy B n ls.length b ls' n))]
theorem eFoT (l m k n o : PV) (A : Am) (CF : PV -> List Rat) (r : List Rat) (Q B : Nat -> Sp) (N : Nat) (t ls ls' : List Rat) (fx fy : Rat) (HO : List Rat -> Bool) : (evF prog (OFo l n o A CF (CF m) (CF k) r Q B N t fx fy (vHoT A Q fx fy HO)) (LFo A (CF m) (CF k) fx fy B N t ls ls' true) polFo f5 [.w l, .w m, .w k, .w n, .w o] [] qm).run =
 (Tr.br (qd (isA [] True [])) (.br (qd (isA [l.w] True [l.w])) (.br (((0 : Nat) + A.n).ble A.n) (.br (qd (isCf A (qp A) m)) (.br (((0 : Nat) + (CF m).length).ble (CF m).length) (.br (qd (isCf A (qp A) k)) (.br (((0 : Nat) + (CF k).length).ble (CF k).length) (.br (qd (isA [o.w] True [o.w])) (.br (qd (isA [.lst 3 (.rats 64 (CF m)), .lst 3 (.rats 64 (CF k))] True [.lst 3 (.rats 64 (List.take (CF m).length (List.drop (0 : Nat) (CF m)))), .lst 3 (.rats 64 (List.take (CF k).length (List.drop (0 : Nat) (CF k))))])) (.br (((0 : Nat) + A.n).ble A.n) (.br (qd (isA [qp A, .lst 6 (.fn A.n fun (j : Nat) => .agg [.q (Q j).lo 260, .q (Q j).hi 260]), .agg [.q fx 64, .q fy 64]] True [qp A, .lst 6 (.fn A.n fun (j : Nat) => .agg [.q (Q (j + 0)).lo 260, .q (Q (j + 0)).hi 260]), .agg [.q fx 64, .q fy 64]])) (.br (((0 : Nat) + N).ble N) (.br (qd (isA [.lst 3 (.rats 64 (CF m)), .lst 3 (.rats 64 (CF k)), n.w] True [.lst 3 (.rats 64 (List.take (CF m).length (List.drop (0 : Nat) (CF m)))), .lst 3 (.rats 64 (List.take (CF k).length (List.drop (0 : Nat) (CF k)))), n.w])) (.br (((0 : Nat) + r.length).ble r.length) (.br (qd (isA [qp A, .lst 3 (.rats 64 r), .agg [.q fx 64, .q fy 64]] True [qp A, .lst 3 (.rats 64 (List.take r.length (List.drop (0 : Nat) r))), .agg [.q fx 64, .q fy 64]])) (.br (((0 : Nat) + t.length).ble t.length) (.br (!decide ((N : Int) = (↑(List.take t.length (List.drop (0 : Nat) t)).length : Int))) (.ok (.ret (.bl false) [])) (.br (qd (isLS (LS.mk [.bl false, .ptr 0 12 0 0 [], .lst 3 (.rats 64 (CF m)), .lst 3 (.rats 64 (CF k)), .ptr 1 6 0 0 [], .lst 6 (.fn N fun (j : Nat) => .agg [.q (B j).lo 4000, .q (B j).hi 4000]), .lst 3 (.rats 160005 t), .nil, .i .i64 (t.length : Int), .i .i64 0] [some (.mk 12 (.vals [qp A])), some (.mk 6 (.vals [.agg [.q fx 64, .q fy 64]]))]) (LS.mk [.bl false, .ptr 0 12 0 0 [], .lst 3 (.rats 64 (List.take (CF m).length (List.drop (0 : Nat) (CF m)))), .lst 3 (.rats 64 (List.take (CF k).length (List.drop (0 : Nat) (CF k)))), .ptr 1 6 0 0 [], .lst 6 (.fn N fun (j : Nat) => .agg [.q (B (j + 0)).lo 4000, .q (B (j + 0)).hi 4000]), .lst 3 (.rats 160005 (List.take t.length (List.drop (0 : Nat) t))), .nil, .i .i64 (↑(List.take t.length (List.drop (0 : Nat) t)).length : Int), .i .i64 0] [some (.mk 12 (.vals [qp A])), some (.mk 6 (.vals [.agg [.q fx 64, .q fy 64]]))]))) (.br (qd (isA [.lst 3 (.rats 64 (CF m)), .lst 3 (.rats 64 (CF k))] True [.lst 3 (.rats 64 (CF m)), .lst 3 (.rats 64 (CF k))])) (.br (((0 : Nat) + A.n).ble A.n) (.br (((0 : Nat) + ls.length).ble ls.length) (.br (qd (isHo A Q fx fy (qp A) A.n (fun (j : Nat) => .agg [.q (Q (j + 0)).lo (260 : Nat), .q (Q (j + 0)).hi (260 : Nat)]) (.agg [.q fx 64, .q fy 64]) (List.take ls.length (List.drop (0 : Nat) ls)) /\ HO (List.take ls.length (List.drop (0 : Nat) ls)) = true)) (.br (qd (isLS (LS.mk [.ptr 0 12 0 0 [], .lst 3 (.rats 64 (CF m)), .lst 3 (.rats 64 (CF k)), .ptr 1 6 0 0 [], .lst 6 (.fn N fun (j : Nat) => .agg [.q (B j).lo 4000, .q (B j).hi 4000]), .sl 2 3 0 ls.length, .bl true, .i .i64 0, .i .i64 (N : Int), .i .i64 0] [some (.mk 12 (.vals [qp A])), some (.mk 6 (.vals [.agg [.q fx 64, .q fy 64]])), some (.mk 3 (.rats 160005 ls))]) (LS.mk [.ptr 0 12 0 0 [], .lst 3 (.rats 64 (CF m)), .lst 3 (.rats 64 (CF k)), .ptr 1 6 0 0 [], .lst 6 (.fn N fun (j : Nat) => .agg [.q (B j).lo 4000, .q (B j).hi 4000]), .sl 2 3 0 ls.length, .bl true, .i .i64 0, .i .i64 (N : Int), .i .i64 0] [some (.mk 12 (.vals [qp A])), some (.mk 6 (.vals [.agg [.q fx 64, .q fy 64]])), some (.mk 3 (.rats 160005 ls))]))) (.br (qd (isA [.lst 3 (.rats 64 (CF m)), .lst 3 (.rats 64 (CF k))] True [.lst 3 (.rats 64 (CF m)), .lst 3 (.rats 64 (CF k))])) (.br (((0 : Nat) + A.n).ble A.n) (.br (((0 : Nat) + ls.length).ble ls'.length) (.br (qd (isHo A Q fx fy (qp A) A.n (fun (j : Nat) => .agg [.q (Q (j + 0)).lo (260 : Nat), .q (Q (j + 0)).hi (260 : Nat)]) (.agg [.q fx 64, .q fy 64]) (List.take ls.length (List.drop (0 : Nat) ls')) /\ HO (List.take ls.length (List.drop (0 : Nat) ls')) = true)) (.ok (.ret (.bl true) [])) (.no 1)) (.no 24006)) (.no 24009)) (.no 1)) (.no 1)) (.no 1)) (.no 18006)) (.no 18009)) (.no 1)) (.no 1))) (.no 7006)) (.no 1)) (.no 7008)) (.no 1)) (.no 6006)) (.no 1)) (.no 6008)) (.no 1)) (.no 1)) (.no 5007)) (.no 1)) (.no 5010)) (.no 1)) (.no 4003)) (.no 1)) (.no 1)).run := by kernel_rfl
theorem eFoF (l m k n o : PV) (A : Am) (CF : PV -> List Rat) (r : List Rat) (Q B : Nat -> Sp) (N : Nat) (t ls ls' : List Rat) (fx fy : Rat) (HO : List Rat -> Bool) : (evF prog (OFo l n o A CF (CF m) (CF k) r Q B N t fx fy (vHo A Q fx fy HO)) (LFo A (CF m) (CF k) fx fy B N t ls ls' false) polFo f5 [.w l, .w m, .w k, .w n, .w o] [] qm).run =
 (Tr.br (qd (isA [] True [])) (.br (qd (isA [l.w] True [l.w])) (.br (((0 : Nat) + A.n).ble A.n) (.br (qd (isCf A (qp A) m)) (.br (((0 : Nat) + (CF m).length).ble (CF m).length) (.br (qd (isCf A (qp A) k)) (.br (((0 : Nat) + (CF k).length).ble (CF k).length) (.br (qd (isA [o.w] True [o.w])) (.br (qd (isA [.lst 3 (.rats 64 (CF m)), .lst 3 (.rats 64 (CF k))] True [.lst 3 (.rats 64 (List.take (CF m).length (List.drop (0 : Nat) (CF m)))), .lst 3 (.rats 64 (List.take (CF k).length (List.drop (0 : Nat) (CF k))))])) (.br (((0 : Nat) + A.n).ble A.n) (.br (qd (isA [qp A, .lst 6 (.fn A.n fun (j : Nat) => .agg [.q (Q j).lo 260, .q (Q j).hi 260]), .agg [.q fx 64, .q fy 64]] True [qp A, .lst 6 (.fn A.n fun (j : Nat) => .agg [.q (Q (j + 0)).lo 260, .q (Q (j + 0)).hi 260]), .agg [.q fx 64, .q fy 64]])) (.br (((0 : Nat) + N).ble N) (.br (qd (isA [.lst 3 (.rats 64 (CF m)), .lst 3 (.rats 64 (CF k)), n.w] True [.lst 3 (.rats 64 (List.take (CF m).length (List.drop (0 : Nat) (CF m)))), .lst 3 (.rats 64 (List.take (CF k).length (List.drop (0 : Nat) (CF k)))), n.w])) (.br (((0 : Nat) + r.length).ble r.length) (.br (qd (isA [qp A, .lst 3 (.rats 64 r), .agg [.q fx 64, .q fy 64]] True [qp A, .lst 3 (.rats 64 (List.take r.length (List.drop (0 : Nat) r))), .agg [.q fx 64, .q fy 64]])) (.br (((0 : Nat) + t.length).ble t.length) (.br (!decide ((N : Int) = (↑(List.take t.length (List.drop (0 : Nat) t)).length : Int))) (.ok (.ret (.bl false) [])) (.br (qd (isLS (LS.mk [.bl false, .ptr 0 12 0 0 [], .lst 3 (.rats 64 (CF m)), .lst 3 (.rats 64 (CF k)), .ptr 1 6 0 0 [], .lst 6 (.fn N fun (j : Nat) => .agg [.q (B j).lo 4000, .q (B j).hi 4000]), .lst 3 (.rats 160005 t), .nil, .i .i64 (t.length : Int), .i .i64 0] [some (.mk 12 (.vals [qp A])), some (.mk 6 (.vals [.agg [.q fx 64, .q fy 64]]))]) (LS.mk [.bl false, .ptr 0 12 0 0 [], .lst 3 (.rats 64 (List.take (CF m).length (List.drop (0 : Nat) (CF m)))), .lst 3 (.rats 64 (List.take (CF k).length (List.drop (0 : Nat) (CF k)))), .ptr 1 6 0 0 [], .lst 6 (.fn N fun (j : Nat) => .agg [.q (B (j + 0)).lo 4000, .q (B (j + 0)).hi 4000]), .lst 3 (.rats 160005 (List.take t.length (List.drop (0 : Nat) t))), .nil, .i .i64 (↑(List.take t.length (List.drop (0 : Nat) t)).length : Int), .i .i64 0] [some (.mk 12 (.vals [qp A])), some (.mk 6 (.vals [.agg [.q fx 64, .q fy 64]]))]))) (.br (qd (isA [.lst 3 (.rats 64 (CF m)), .lst 3 (.rats 64 (CF k))] True [.lst 3 (.rats 64 (CF m)), .lst 3 (.rats 64 (CF k))])) (.br (((0 : Nat) + A.n).ble A.n) (.br (((0 : Nat) + ls.length).ble ls.length) (.br (qd (isHo A Q fx fy (qp A) A.n (fun (j : Nat) => .agg [.q (Q (j + 0)).lo (260 : Nat), .q (Q (j + 0)).hi (260 : Nat)]) (.agg [.q fx 64, .q fy 64]) (List.take ls.length (List.drop (0 : Nat) ls)))) (.br (HO (List.take ls.length (List.drop (0 : Nat) ls))) (.br (qd (isLS (LS.mk [.ptr 0 12 0 0 [], .lst 3 (.rats 64 (CF m)), .lst 3 (.rats 64 (CF k)), .ptr 1 6 0 0 [], .lst 6 (.fn N fun (j : Nat) => .agg [.q (B j).lo 4000, .q (B j).hi 4000]), .sl 2 3 0 ls.length, .bl false, .i .i64 0, .i .i64 (N : Int), .i .i64 0] [some (.mk 12 (.vals [qp A])), some (.mk 6 (.vals [.agg [.q fx 64, .q fy 64]])), some (.mk 3 (.rats 160005 ls))]) (LS.mk [.ptr 0 12 0 0 [], .lst 3 (.rats 64 (CF m)), .lst 3 (.rats 64 (CF k)), .ptr 1 6 0 0 [], .lst 6 (.fn N fun (j : Nat) => .agg [.q (B j).lo 4000, .q (B j).hi 4000]), .sl 2 3 0 ls.length, .bl true, .i .i64 0, .i .i64 (N : Int), .i .i64 0] [some (.mk 12 (.vals [qp A])), some (.mk 6 (.vals [.agg [.q fx 64, .q fy 64]])), some (.mk 3 (.rats 160005 ls))]))) (.br (qd (isA [.lst 3 (.rats 64 (CF m)), .lst 3 (.rats 64 (CF k))] True [.lst 3 (.rats 64 (CF m)), .lst 3 (.rats 64 (CF k))])) (.br (((0 : Nat) + A.n).ble A.n) (.br (((0 : Nat) + ls.length).ble ls'.length) (.br (qd (isHo A Q fx fy (qp A) A.n (fun (j : Nat) => .agg [.q (Q (j + 0)).lo (260 : Nat), .q (Q (j + 0)).hi (260 : Nat)]) (.agg [.q fx 64, .q fy 64]) (List.take ls.length (List.drop (0 : Nat) ls')))) (.br (HO (List.take ls.length (List.drop (0 : Nat) ls'))) (.ok (.ret (.bl true) [])) (.ok (.ret (.bl false) []))) (.no 1)) (.no 24006)) (.no 24009)) (.no 1)) (.no 1)) (.br (qd (isLS (LS.mk [.ptr 0 12 0 0 [], .lst 3 (.rats 64 (CF m)), .lst 3 (.rats 64 (CF k)), .ptr 1 6 0 0 [], .lst 6 (.fn N fun (j : Nat) => .agg [.q (B j).lo 4000, .q (B j).hi 4000]), .sl 2 3 0 ls.length, .bl false, .i .i64 0, .i .i64 (N : Int), .i .i64 0] [some (.mk 12 (.vals [qp A])), some (.mk 6 (.vals [.agg [.q fx 64, .q fy 64]])), some (.mk 3 (.rats 160005 ls))]) (LS.mk [.ptr 0 12 0 0 [], .lst 3 (.rats 64 (CF m)), .lst 3 (.rats 64 (CF k)), .ptr 1 6 0 0 [], .lst 6 (.fn N fun (j : Nat) => .agg [.q (B j).lo 4000, .q (B j).hi 4000]), .sl 2 3 0 ls.length, .bl false, .i .i64 0, .i .i64 (N : Int), .i .i64 0] [some (.mk 12 (.vals [qp A])), some (.mk 6 (.vals [.agg [.q fx 64, .q fy 64]])), some (.mk 3 (.rats 160005 ls))]))) (.br (qd (isA [.lst 3 (.rats 64 (CF m)), .lst 3 (.rats 64 (CF k))] True [.lst 3 (.rats 64 (CF m)), .lst 3 (.rats 64 (CF k))])) (.br (((0 : Nat) + A.n).ble A.n) (.br (((0 : Nat) + ls.length).ble ls'.length) (.br (qd (isHo A Q fx fy (qp A) A.n (fun (j : Nat) => .agg [.q (Q (j + 0)).lo (260 : Nat), .q (Q (j + 0)).hi (260 : Nat)]) (.agg [.q fx 64, .q fy 64]) (List.take ls.length (List.drop (0 : Nat) ls')))) (.br (HO (List.take ls.length (List.drop (0 : Nat) ls'))) (.ok (.ret (.bl true) [])) (.ok (.ret (.bl false) []))) (.no 1)) (.no 24006)) (.no 24009)) (.no 1)) (.no 1))) (.no 1)) (.no 18006)) (.no 18009)) (.no 1)) (.no 1))) (.no 7006)) (.no 1)) (.no 7008)) (.no 1)) (.no 6006)) (.no 1)) (.no 6008)) (.no 1)) (.no 1)) (.no 5007)) (.no 1)) (.no 5010)) (.no 1)) (.no 4003)) (.no 1)) (.no 1)).run := by kernel_rfl
include hG in
theorem orcFo (hT : qt G) : OrcOK prog G RFo := .cons (gkHs hG hT) (.cons (gk28 hG hT) (.cons (gk86 hG hT) .nil))
include hG in
theorem goesF1 (hT : qt G) (A : Am) (p q : List Rat) (fx fy : Rat) (B : Nat -> Sp) (t : List Rat) (h1 : 1 <= t.length) (h3 : t.length <= 3) (h : ∀ j, j < t.length -> (B j).has (t.getD j 0)) :
  Goes (Rnd prog G f5.ntmps 0 [10, 11, 12, 13, 14, 15, 17, 19, 71, 72] bFo1) (n1Fo A p q fx fy B t.length t 0) (.exit 0) (x1Fo A p q fx fy B t.length t ((List.range t.length).map fun j => rabs (t.getD j 0)) t.length) := by
 have nt : ∀ j, j < t.length -> (!hasB (B j) (t.getD j 0)) = false := fun j hj => by rw [hasB_iff.2 (h j hj)]; rfl
 refine Goes.build (xst := fun ys (j : Nat) => x1Fo A p q fx fy B t.length t ys ((j : Nat) : Int)) (fun j => rabs (t.getD j 0)) (by simp) t.length h1 ?_ ?_ ?_
 ·refine qb hG (orcFo hG hT) mix (L := []) (pol := polFo) (O := RFo) (k9 (by kernel_rfl)) (Nat.zero_le _) ?_
  rw [tF1n]
  simp only [qF, show (0 : Int).toNat = 0 from rfl]
  repeat (refine Eq.trans (k5 ?_) ?_; first | (simp only [kA, kD, kG, kH, kI]; omega) | decide | exact rfl)
  rw [k6 (nt 0 (by omega))]
  repeat (refine Eq.trans (k5 ?_) ?_; first | (simp only [kA, kD, kG, kH, kI]; omega) | decide | exact rfl)
  rw [k7]
  rfl
 ·intro ys j hj hj1 hjm
  refine qb hG (orcFo hG hT) mix (L := []) (pol := polFo) (O := RFo) (k9 (by kernel_rfl)) (Nat.zero_le _) ?_
  rw [tF1x, Int.toNat_natCast]
  simp only [qF]
  repeat (refine Eq.trans (k5 ?_) ?_; first | (simp only [kA, kD, kG, kH, kI]; omega) | decide | exact rfl)
  rw [k6 (nt j (by omega))]
  repeat (refine Eq.trans (k5 ?_) ?_; first | (simp only [kA, kD, kG, kH, kI]; omega) | decide | exact rfl)
  rw [k7, List.drop_zero, List.take_length]
  unfold x1Fo
  rw [List.length_append]
  rfl
 ·refine qb hG (orcFo hG hT) mix (L := []) (pol := polFo) (O := RFo) (k9 (by kernel_rfl)) (Nat.zero_le _) ?_
  rw [tF1x, k6 (kF (by omega)), k7]
  rfl
def lm2 (B : Nat -> Sp) (ls : List Rat) : Nat -> List Rat
 | 0 => ls
 | j + 1 => (lm2 B ls j).set j (mxR (rabs (B j).lo) (rabs (B j).hi))
theorem lm2_len (B : Nat -> Sp) (ls : List Rat) : ∀ j, (lm2 B ls j).length = ls.length
 | 0 => rfl
 | j + 1 => by unfold lm2; rw [List.length_set]; exact lm2_len B ls j
theorem lm2_get (B : Nat -> Sp) (ls : List Rat) : ∀ j i, i < j -> j <= ls.length -> (lm2 B ls j).getD i 0 = mxR (rabs (B i).lo) (rabs (B i).hi)
 | j + 1, i, hi, hj => by
  unfold lm2
  simp only [List.getD_eq_getElem?_getD, List.getElem?_set, lm2_len]
  by_cases e : j = i
  ·subst e; rw [if_pos rfl, if_pos (by omega)]; rfl
  ·rw [if_neg e]
   have := lm2_get B ls j i (by omega) (by omega)
   rw [List.getD_eq_getElem?_getD] at this
   exact this
include hG in
theorem goesF2 (hT : qt G) (A : Am) (p q : List Rat) (fx fy : Rat) (B : Nat -> Sp) (n : Nat) (h3 : n <= 3) (b : Bool) (ls : List Rat) (hl : ls.length = n) :
  Goes (Rnd prog G f5.ntmps 0 [11, 12, 13, 14, 15, 19, 21, 22, 105, 106] bFo2) (s2Fo A p q fx fy B n ls.length b ls 0) (.exit 2) (s2Fo A p q fx fy B n ls.length b (lm2 B ls n) n) :=
 Goes.count (R := Rnd prog G f5.ntmps 0 [11, 12, 13, 14, 15, 19, 21, 22, 105, 106] bFo2) (fun i => s2Fo A p q fx fy B n ls.length b (lm2 B ls i) ((i : Nat) : Int)) (e := .exit 2) (ls' := s2Fo A p q fx fy B n ls.length b (lm2 B ls n) n) (by simp) n 0
  (fun i _ hi => by
   refine qb hG (orcFo hG hT) mix (L := []) (pol := polFo) (O := RFo) (k9 (by kernel_rfl)) (Nat.zero_le _) ?_
   have hl2 := lm2_len B ls i
   rw [tF2, Int.toNat_natCast]
   repeat (refine Eq.trans (k5 ?_) ?_; first | (simp only [kA, kD, kG]; omega) | decide | exact rfl)
   rw [k7, Nat.zero_add]
   rfl)
  (by
   refine qb hG (orcFo hG hT) mix (L := []) (pol := polFo) (O := RFo) (k9 (by kernel_rfl)) (Nat.zero_le _) ?_
   rw [Nat.zero_add, tF2, k6 (kF (by omega)), k7]
   rfl)
theorem le_ra (x : Rat) : x <= rabs x /\ -x <= rabs x := by unfold rabs; split <;> constructor <;> grind
theorem lm2_hld (B : Nat -> Sp) (ls : List Rat) (n : Nat) (hl : ls.length = n) : hld n B (lm2 B ls n) := fun j hj => by
 rw [lm2_get B ls n j hj (by omega)]
 exact ⟨Rat.le_trans (le_ra _).1 (mxR_r _ _), Rat.le_trans (le_ra _).2 (mxR_l _ _)⟩
def HoOK (G : World -> (Nat -> Prop) -> Prop) (A : Am) (Q : Nat -> Sp) (fx fy : Rat) (HO : List Rat -> Bool) : Prop :=
 ∀ ls : List Rat, ls.length = A.n -> PC prog G 26 [qp A, .lst 6 (spsC A.n Q), .agg [.q fx 64, .q fy 64], .lst 3 (.rats 160005 ls)] [] (.tup [.bl (HO ls), .i .i64 0]) []
theorem vHo_ok {A : Am} {Q : Nat -> Sp} {fx fy : Rat} {HO : List Rat -> Bool} (h : HoOK G A Q fx fy HO) : qc prog G 26 (vHo A Q fx fy HO) := by
 intro args hs K x hh
 unfold vHo at hh
 split at hh
 case h_2 => cases hh
 obtain ⟨hc, hr⟩ := k8 hh
 obtain ⟨rfl, rfl, rfl, rfl, hl⟩ := decP_iff.1 hc
 refine ⟨_, _, h _ hl, ?_⟩
 cases e : HO _ with
 | true => rw [k5 e] at hr; exact hr
 | false => rw [k6 e] at hr; exact hr
theorem vHoT_ok {A : Am} {Q : Nat -> Sp} {fx fy : Rat} {HO : List Rat -> Bool} (h : HoOK G A Q fx fy HO) : qc prog G 26 (vHoT A Q fx fy HO) := by
 intro args hs K x hh
 unfold vHoT at hh
 split at hh
 case h_2 => cases hh
 obtain ⟨hc, hr⟩ := k8 hh
 obtain ⟨⟨rfl, rfl, rfl, rfl, hl⟩, e⟩ := decP_iff.1 hc
 have := h _ hl
 rw [e] at this
 exact ⟨_, _, this, hr⟩
include hG in
theorem lawFo (hT : qt G) (l m k n o : PV) (hl : okW l = true) (hm : okW m = true) (hk : okW k = true) (hn : okW n = true) (ho : okW o = true) : PC prog G 5 [.w l, .w m, .w k, .w n, .w o] [] (.bl true) [] := by
 have hA := armB_V l
 have hX := limX_V l
 have p9 := pArm hG l hl
 generalize armD l = A at *
 obtain ⟨a1, a2, a3, a4, h1, h3, a7⟩ := armB_c hA
 have p10 := vCf_ok hG A hA hX
 have cl : ∀ m, (cfL A.lk m A.n).length = A.n := fun m => cfL_len _ _ _
 have cb : ∀ m, BdL (cfL A.lk m A.n) := fun m => cf_BdL hX m
 generalize hCF : (fun m => cfL A.lk m A.n) = CF at *
 have cl' : ∀ m, (CF m).length = A.n := fun m => by rw [<- hCF]; exact cl m
 have cb' : ∀ m, BdL (CF m) := fun m => by rw [<- hCF]; exact cb m
 have p12 := pcSs hG hT 64 A.n (by omega) (CF m) (CF k) h1 h3 (cl' m) (cl' k)
 have p14 := pcBt hG hT n hn (CF m) (CF k) A.n h1 h3 (cl' m) (cl' k) (cb' m) (cb' k)
 have hr := btL_len n (CF m) (CF k) A.n
 have hb : ∀ j, j < A.n -> (spn (CF m) (CF k) j).has ((btL n (CF m) (CF k) A.n).getD j 0) := fun j hj => by rw [btL_get _ _ _ hj]; exact bt_has n _ _ j
 have p22 : PC prog G 22 [.w o] [] (.agg [.q (rtV (nx o 1048576)) 64, .q (rtV (nx (rs o) 1048576)) 64]) [] :=
  pc_spec (gk49 hG (fun v => rtV (nx v 1048576)) (fun v => rtV (nx (rs v) 1048576))) (args := [.w o]) (hs := []) (hs' := []) (k5 (decP_iff.2 ⟨ho, rfl, rfl⟩))
 generalize rtV (nx o 1048576) = fx at *
 generalize rtV (nx (rs o) 1048576) = fy at *
 generalize btL n (CF m) (CF k) A.n = r at *
 generalize spn (CF m) (CF k) = Q at *
 have p23 := pcBd hG hT A hA Q fx fy
 have p24 := pc56 hG hT A hA r hr fx fy 64 64 (by omega) (by omega)
 have hB : ∀ j, j < A.n -> (bnd A.n (fun j => (A.lk j).len) (lzs A Q) fx fy j).has ((tqL (allF (bsF A) (qf r) (fun j => (A.lk j).len) A.n) A.n fx fy).getD j 0) := fun j hj => by
  have e : (tqL (allF (bsF A) (qf r) (fun j => (A.lk j).len) A.n) A.n fx fy).getD j 0 = tqF (allF (bsF A) (qf r) (fun j => (A.lk j).len) A.n) A.n fx fy j := getD_map_range _ hj
  rw [e]
  exact bnd_has hb fx fy hj
 have ht : (tqL (allF (bsF A) (qf r) (fun j => (A.lk j).len) A.n) A.n fx fy).length = A.n := by simp [tqL]
 have hHO : ∃ HO : List Rat -> Bool, HoOK G A Q fx fy HO /\ ∀ ls, ls.length = A.n -> hld A.n (bnd A.n (fun j => (A.lk j).len) (lzs A Q) fx fy) ls -> HO ls = true := by
  have c := fun ls : List Rat => fun h : ls.length = A.n => pcHo hG hT A hA Q fx fy ls h
  refine ⟨fun ls => if h : ls.length = A.n then Classical.choose (c ls h) else false, fun ls h => ?_, fun ls h g => ?_⟩
  ·simp only [dif_pos h]; exact (Classical.choose_spec (c ls h)).1
  ·simp only [dif_pos h]; exact (Classical.choose_spec (c ls h)).2 g
 generalize bnd A.n (fun j => (A.lk j).len) (lzs A Q) fx fy = B at *
 generalize tqL (allF (bsF A) (qf r) (fun j => (A.lk j).len) A.n) A.n fx fy = t at *
 obtain ⟨HO, o1, o2⟩ := hHO
 have g1 := goesF1 hG hT A (CF m) (CF k) fx fy B t (by omega) (by omega) (fun j hj => hB j (by omega))
 have hl1 : ((List.range t.length).map fun j => rabs (t.getD j 0)).length = A.n := by simp [ht]
 generalize ((List.range t.length).map fun j => rabs (t.getD j 0)) = ls at *
 have hl2 : (lm2 B ls A.n).length = A.n := by rw [lm2_len]; exact hl1
 have ho2 := o2 _ hl2 (lm2_hld B ls A.n hl1)
 have g2 := fun b => goesF2 hG hT A (CF m) (CF k) fx fy B A.n (by omega) b ls hl1
 generalize lm2 B ls A.n = ls' at *
 have tk : ∀ x : List Rat, x.length = A.n -> List.take A.n x = x := fun x hx => by rw [<- hx]; exact List.take_length
 rw [ht] at g1
 have g1' : Goes (Rnd prog G f5.ntmps 0 [10, 11, 12, 13, 14, 15, 17, 19, 71, 72] bFo1) (n1Fo A (CF m) (CF k) fx fy B A.n t 0) (.exit 0) (x1Fo A (CF m) (CF k) fx fy B A.n t ls t.length) := by rw [ht]; exact g1
 have lp := fun b => lps2 (P := prog) (G := G) (pol := polFo) (n := f5.ntmps) (m := 0) (L := LFo A (CF m) (CF k) fx fy B A.n t ls ls' b) (c := qg f5) (b1 := bFo1) (b2 := bFo2) (live1 := [10, 11, 12, 13, 14, 15, 17, 19, 71, 72]) (live2 := [11, 12, 13, 14, 15, 19, 21, 22, 105, 106]) (by kernel_rfl) (by kernel_rfl) (by kernel_rfl) (by kernel_rfl) (by kernel_rfl) (lcst_ok g1') (lcst_ok (g2 b))
 have oc : ∀ vh, qc prog G 26 vh -> OrcOK prog G (OFo l n o A CF (CF m) (CF k) r Q B A.n t fx fy vh) := fun vh h =>
  .cons (cst_t (pc55 hG hT)) (.cons (cst_t p9) (.cons p10 (.cons (cst_t p22) (.cons (cst_t p12) (.cons (cst_t p23) (.cons (cst_t p14) (.cons (cst_t p24) (.cons h (orcFo hG hT)))))))))
 cases e : HO ls with
 | true =>
  refine ql hG (oc _ (vHoT_ok o1)) mix enFo (hs := []) (pol := polFo) (lp true) ?_
  refine (eFoT l m k n o A CF r Q B A.n t ls ls' fx fy HO).trans ?_
  simp only [List.drop_zero, List.take_length, Nat.add_zero, ht, hl1, tk _ hl1, tk _ hl2, tk _ ht]
  repeat first | rw [k5 (by first | (simp only [kA, Bool.or_eq_true, kD, kG, Nat.blt_eq, kH, kI, kJ, kK]; omega) | exact decP_iff.2 ⟨rfl, hm⟩ | exact decP_iff.2 ⟨rfl, hk⟩ | exact decP_iff.2 ⟨⟨rfl, rfl, rfl, rfl, hl1⟩, e⟩ | exact decP_iff.2 ⟨⟨rfl, rfl, rfl, rfl, hl2⟩, ho2⟩ | exact decP_iff.2 ⟨rfl, trivial⟩ | exact decP_iff.2 rfl | exact kE rfl | decide)] | rw [k6 (by first | (simp only [Bool.and_eq_false_iff, Bool.not_eq_false', kD, kK]; omega) | exact decP_iff.2 ⟨rfl, hm⟩ | exact decP_iff.2 ⟨rfl, hk⟩ | exact decP_iff.2 ⟨⟨rfl, rfl, rfl, rfl, hl1⟩, e⟩ | exact decP_iff.2 ⟨⟨rfl, rfl, rfl, rfl, hl2⟩, ho2⟩ | exact congrArg (!·) (kE rfl) | decide)]
  rw [k7]
 | false =>
  refine ql hG (oc _ (vHo_ok o1)) mix enFo (hs := []) (pol := polFo) (lp false) ?_
  refine (eFoF l m k n o A CF r Q B A.n t ls ls' fx fy HO).trans ?_
  simp only [List.drop_zero, List.take_length, Nat.add_zero, ht, hl1, tk _ hl1, tk _ hl2, tk _ ht]
  repeat first | rw [k5 (by first | (simp only [kA, Bool.or_eq_true, kD, kG, Nat.blt_eq, kH, kI, kJ, kK]; omega) | exact decP_iff.2 ⟨rfl, hm⟩ | exact decP_iff.2 ⟨rfl, hk⟩ | exact decP_iff.2 ⟨rfl, rfl, rfl, rfl, hl1⟩ | exact decP_iff.2 ⟨rfl, rfl, rfl, rfl, hl2⟩ | exact decP_iff.2 ⟨rfl, trivial⟩ | exact decP_iff.2 rfl | exact kE rfl | decide)] | rw [k6 (by first | (simp only [Bool.and_eq_false_iff, Bool.not_eq_false', kD, kK]; omega) | exact decP_iff.2 ⟨rfl, hm⟩ | exact decP_iff.2 ⟨rfl, hk⟩ | exact decP_iff.2 ⟨rfl, rfl, rfl, rfl, hl1⟩ | exact decP_iff.2 ⟨rfl, rfl, rfl, rfl, hl2⟩ | exact congrArg (!·) (kE rfl) | decide)]
  rw [k6 e]
  repeat first | rw [k5 (by first | (simp only [kA, Bool.or_eq_true, kD, kG, Nat.blt_eq, kH, kI, kJ, kK]; omega) | exact decP_iff.2 ⟨rfl, hm⟩ | exact decP_iff.2 ⟨rfl, hk⟩ | exact decP_iff.2 ⟨rfl, rfl, rfl, rfl, hl1⟩ | exact decP_iff.2 ⟨rfl, rfl, rfl, rfl, hl2⟩ | exact ho2 | exact decP_iff.2 ⟨rfl, trivial⟩ | exact decP_iff.2 rfl | exact kE rfl | decide)] | rw [k6 (by first | (simp only [Bool.and_eq_false_iff, Bool.not_eq_false', kD, kK]; omega) | exact decP_iff.2 ⟨rfl, hm⟩ | exact decP_iff.2 ⟨rfl, hk⟩ | exact decP_iff.2 ⟨rfl, rfl, rfl, rfl, hl1⟩ | exact decP_iff.2 ⟨rfl, rfl, rfl, rfl, hl2⟩ | exact ho2 | exact congrArg (!·) (kE rfl) | decide)]
  rw [k7]
end
section
open Go
theorem calls_of_does {P : Program} {g : Nat} {fn : Func} {c : Code} (hg : Enters P g fn c) {vs : Array Value} {w : World} {R : Value -> World -> Prop} (h : Does P g vs w R) : Calls P g vs w fun e w' => ∃ v, e = .returned v /\ R v w' := by
 have h1 := h { dst := some 0, op := .move (.const undef), type := 0, pos := "", after := #[], guard := none } ⟨#[undef], []⟩ (fun a w' => ∃ v, a.tmps[0]? = some v /\ R v w') (fun _ _ _ => False) (fun v w' hv => ⟨v, by simp [Act.put], hv⟩)
 have : (callFunc g vs).run P w = .ok (.enter g vs) w := by
  have hname : fn.name ≠ "runtime.NumGoroutine" := by simpa using hg.name
  simp [callFunc, hg.at_, hname, hg.body]
 rw [this, Oper.upon_enter] at h1
 refine h1.mono fun e w' he => ?_
 cases e with
 | returned v =>
  obtain ⟨v', hv, hr⟩ := he
  simp [Act.put] at hv
  subst hv
  exact ⟨v, rfl, hr⟩
 | panicked chain => exact absurd he (by simp)
 | outgrown => exact absurd he (by simp [LetsOut])
theorem HRel.none (w : World) : HRel w (fun _ => False) qJ (hget (([] : List Blk).map some)) :=
 ⟨fun b k h => by simp [hget] at h, fun b k a z h => by simp [hget] at h, fun b b' k k' a z z' h => by simp [hget] at h, fun a h => h.elim⟩
theorem keptBut_of_old {w w' : World} (h1 : w'.os = w.os) (h2 : w'.output = w.output) (h3 : ∀ n, n < w.heap.size -> w'.heap[n]? = w.heap[n]?) (may : MemPlace -> Prop) : w.keptBut w' may := by
 refine ⟨h1, h2, fun i hi => ?_⟩
 rw [h3 i hi]
 split
 ·rename_i e1 e2
  rw [e1] at e2
  cases e2
  exact ⟨rfl, rfl, rfl, fun _ _ => rfl⟩
 ·rename_i e1 e2
  rw [e1] at e2
  cases e2
  exact .inr ⟨rfl, rfl⟩
 ·rfl
end
section
open Go Go.ChangeShapes Go.WideShapes
set_option maxRecDepth 100000
def blkOf : Value -> Nat -> Prop
 | .slice (some a) _ _, b => b = a.block
 | _, _ => False
section
variable {H : Type} {enc : TypeId × Value -> H} {P : Program} {w : World} {t e : TypeId} {base : Nat} {v : Value} {d : DataW H} {p : List MemPlace}
theorem arg_ints (ht : P.underlying t = some (.slice e)) (he : P.underlying e = some (.int .i64)) (hc : P.cellsOf e = 1)
  (hval : Value.okWide P w .any base t v) (h : DataW.Trod enc P w 0 (fun _ => true) true t v d p) :
  ∃ u : PV, okW u = true /\ (∀ n ∈ intsW u, -9223372036854775808 <= n /\ n <= 9223372036854775807) /\ (∀ b, blkOf v b -> b < w.heap.size) /\ (∀ S : Nat -> Prop, (∀ b, blkOf v b -> S b) -> RepV w S qJ (.w u) v) /\
   (∀ w' : World, (∀ n, n < w.heap.size -> w'.heap[n]? = w.heap[n]?) -> ∃ p', DataW.Trod enc P w' 0 (fun b => decide (b < w.heap.size)) true t v d p') /\
   ((intsW u = [] /\ d = .nil) \/ ∃ sp, d = .slice (lits .i64 (intsW u)) sp) := by
 have hval' := hval
 obtain ⟨a0, len, cap, rfl⟩ := okWide_slice ht hval
 obtain ⟨fuel, hf⟩ := h
 rcases open_ints ht he hc hf with ⟨hcs, hx⟩ | ⟨a, len', cap', zs, hcs, _, hl, hm, hz, hx, hcell, hwz⟩
 ·simp [Value.cells] at hcs
  obtain ⟨rfl, rfl, rfl⟩ := hcs
  simp only [Prod.mk.injEq] at hx
  obtain ⟨rfl, rfl⟩ := hx
  refine ⟨.nil, rfl, fun n hn => (nomatch hn), fun b hb => hb.elim, fun S _ => .cell _ _ _ rfl (.w _ _ _ (.nil _)), fun w' _ => ⟨[], RowKit.shut_slice_nil ht⟩, .inl ⟨rfl, rfl⟩⟩
 ·simp [Value.cells] at hcs
  obtain ⟨rfl, rfl, rfl⟩ := hcs
  simp only [Prod.mk.injEq] at hx
  obtain ⟨rfl, rfl⟩ := hx
  simp only [if_true] at hz
  unfold Value.okWide at hval'
  rw [ht] at hval'
  simp only [Cell.okWide, Cell.ok, ht] at hval'
  obtain ⟨_, _, _, hsp, row, cells, hsh, _⟩ := hval'
  obtain ⟨b, off, spot⟩ := a
  simp only at hsp
  subst hsp
  have hb : b < w.heap.size := by
   unfold World.shape? at hsh
   split at hsh
   ·rename_i hh; exact (Array.getElem?_eq_some_iff.1 hh).1
   ·cases hsh
  have hcell' : ∀ j, j < zs.length -> w.cell? ⟨b, off + j, none⟩ = some (.int .i64 (zs.getD j 0)) := fun j hj => by rw [<- add_plain]; exact hcell j hj
  have hlen : (zs.take len).length = len := by rw [List.length_take]; omega
  refine ⟨.lst 1 (.ints .i64 (zs.take len)), rfl, fun n hn => bounds_i64 (hwz n (List.mem_of_mem_take hn)), fun c hc => (by rw [show c = b from hc]; exact hb), fun S hS => ?_, fun w' hw' => ?_, .inr ⟨_, rfl⟩⟩
  ·refine .cell _ _ _ rfl (.w _ _ _ ?_)
   have := RepC.lst (w := w) (S := S) qJ 1 (.ints .i64 (zs.take len)) b off cap (fun j => [.int .i64 ((zs.take len).getD j 0)]) (by show (zs.take len).length <= cap; omega) (hS b rfl)
    (fun i hi => .i _ _ _) (fun _ _ => rfl) (fun i j hi hj => by
     have hi' : i < len := by rw [<- hlen]; exact hi
     obtain rfl : j = 0 := by omega
     show w.cell? ⟨b, off + (i * 1 + 0), none⟩ = _
     rw [Nat.mul_one, Nat.add_zero, hcell' i (by omega)]
     simp [List.getD_eq_getElem?_getD, hi'])
   rw [show (Cont.ints .i64 (zs.take len)).len = len from hlen] at this
   exact this
  ·have hd : decide (b < w.heap.size) = true := kE hb
   exact ⟨_, 2, shut_ints' (enc := enc) (w := w') (base := 0) (spare := fun b => decide (b < w.heap.size)) (held := true) (len := len) (cap := cap) (zs := zs) 0 ht he hc
    (Nat.zero_le b) hl hm (by simp only [hd, if_true]; exact hz) (fun i hi => by rw [cell_block (hw' b hb)]; exact hcell' i hi) hwz⟩
end
end
section
open Go
set_option maxRecDepth 100000
theorem calls_trueG {P : Program} {G : World -> (Nat -> Prop) -> Prop} {g : Nat} {fn : Func} {c : Code} (hg : Enters P g fn c) {args : List PV} (h : PC P G g args [] (.bl true) []) {w : World} {S : Nat -> Prop} {vs : List Value} (hw : G w S) (hS : ∀ a, S a -> a < w.heap.size)
  (hv : RepVL w S qJ args vs) (may : MemPlace -> Prop) :
  Calls P g vs.toArray w fun e w' => e = .returned (.bool true) /\ w.keptBut w' may /\ ∀ n, n < w.heap.size -> w'.heap[n]? = w.heap[n]? := by
 refine (calls_of_does hg (h w S qJ vs hw hv ⟨fun b k h => by simp [hget] at h, fun b k a z h => by simp [hget] at h, fun b b' k k' a z z' h => by simp [hget] at h, hS⟩ (fun _ _ => rfl))).mono fun e w' he => ?_
 obtain ⟨v, rfl, S', μ', c⟩ := he
 have hr := c.rep
 have : v = .bool true := by
  cases hr with
  | cell _ _ _ _ h => cases h; rfl
  | agg _ _ _ hv h => simp [isAgg, unfr, unfrA, unfr1] at hv
 subst this
 have old : ∀ n, n < w.heap.size -> w'.heap[n]? = w.heap[n]? := fun n hn => c.old n hn (fun b z hb => by simp at hb)
 exact ⟨rfl, keptBut_of_old c.os c.output old may, old⟩
def TG (w : World) (S : Nat -> Prop) : Prop := S 1 /\ Go.Proofs.TabAt 1 Go.Lib.deBruijn64tab w
theorem tg_ok : GOk TG := fun _ _ _ _ m h => ⟨m.sub 1 h.1, fun j hj => (m.cell 1 h.1 j).trans (h.2 j hj)⟩
theorem tg_tab : qt TG := fun _ _ h => h.2
theorem tab_block {w : World} (h : Go.Proofs.TabAt 1 Go.Lib.deBruijn64tab w) : 1 < w.heap.size := by
 have h0 := h 0 (by decide)
 rcases Nat.lt_or_ge 1 w.heap.size with h1 | h1
 ·exact h1
 ·unfold World.cell? at h0
  rw [show w.heap[(⟨1, 0, none⟩ : Addr).block]? = none from Array.getElem?_eq_none h1] at h0
  cases h0
theorem tab_of_laid {laid : List (String × DataW Unit)} {W : World} (hl : laid = [("math/bits.deBruijn64tab", Go.Lib.tabData .u8 (Go.Lib.deBruijn64tab.map fun n : Nat => (n : Int)))]) (h : laidMetH Tryz.prog laid W) : Go.Proofs.TabAt 1 Go.Lib.deBruijn64tab W := by
 subst hl
 have h1 : laidMet Tryz.prog [("math/bits.deBruijn64tab", Go.Lib.tabData .u8 (Go.Lib.deBruijn64tab.map fun n : Nat => (n : Int)))] W := h
 have h2 := Go.Lib.tabIs_of_head (g := 1) (t := 182) (e := 5) (n := 64) (by kernel_rfl) (by kernel_rfl) (by kernel_rfl) (by kernel_rfl) (by kernel_rfl) (by kernel_rfl) h1
 intro j hj
 have h3 := h2.cell (g := 1) (by kernel_rfl) j (by rw [List.length_map]; exact hj)
 rw [h3, List.getD_eq_getElem?_getD, List.getD_eq_getElem?_getD, List.getElem?_map, List.getElem?_eq_getElem hj]
 rfl
end
end Go.Proofs.YtnenjkgffapplaaGreatDoor.PE
