/-
  Part 6 of the proof: contracts of the program's functions. Conditions: those of the theorems below.
-/
import Derived.Test.YtnenjkgffapplaaGreatDoorFn5
import Derived.Test.YtnenjkgffapplaaGreatDoorFn2
import Derived.RowKit3
import GoSem.ClaimChange
import Derived.ChangeSlices
import Derived.WideShapes
import Derived.OpenShut
import Derived.Test.YtnenjkgffapplaaGreatDoorFn3
import Derived.Lib.LaidTab
set_option linter.all false
noncomputable section
namespace Go.Proofs.YtnenjkgffapplaaGreatDoor.PE
section
open Go
set_option maxRecDepth 100000
variable {G : World -> (Nat -> Prop) -> Prop} (hG : GOk G)
def isB (F : Sp -> Sp -> Sp) (args : List PV) (n m : Nat) (r : Sp) (w : Nat) : Prop := (∃ A B : Sp, args = [spR A.lo A.hi n, spR B.lo B.hi m] /\ r = F A B) /\ 1 <= n /\ 1 <= m /\ n + m < w /\ w <= 50000
def isU (F : Sp -> Sp) (args : List PV) (n : Nat) (r : Sp) : Prop := ∃ A : Sp, args = [spR A.lo A.hi n] /\ r = F A
def isC (args : List PV) (n : Nat) (r : Sp) (w : Nat) : Prop := (∃ A : Sp, args = [spR A.lo A.hi n] /\ r = cutS A /\ cutL A <= cutH A) /\ 1 <= n /\ n <= 25000 /\ 300 <= w
abbrev Tab2 := Nat -> Nat -> Option (Sp × Nat)
abbrev Tab1 := Nat -> Option (Sp × Nat)
def vB (F : Sp -> Sp -> Sp) (tab : Tab2) : Spec := fun args hs K => match args, hs with
 | [.agg [.q a n, .q b n'], .agg [.q c m, .q d m']], [] => match tab n m with
  | some (r, w) => .br (qe (isB F [.agg [.q a n, .q b n'], .agg [.q c m, .q d m']] n m r w)) (K (.agg [.q r.lo w, .q r.hi w]) []) (.no 1)
  | none => .no 1
 | _, _ => .no 1
def vU (F : Sp -> Sp) (r : Sp) (w : Nat) : Spec := fun args hs K => match args, hs with
 | [.agg [.q a 260, .q b n']], [] => .br (qe (isU F [.agg [.q a 260, .q b n']] 260 r)) (K (.agg [.q r.lo w, .q r.hi w]) []) (.no 1)
 | _, _ => .no 1
def vCut (tab : Tab1) : Spec := fun args hs K => match args, hs with
 | [.agg [.q a n, .q b n']], [] => match tab n with
  | some (r, w) => .br (qe (isC [.agg [.q a n, .q b n']] n r w)) (K (.agg [.q r.lo w, .q r.hi w]) []) (.no 1)
  | none => .no 1
 | _, _ => .no 1
def tb (n m : Nat) (r : Sp) (w : Nat) (t : Tab2) : Tab2 := fun a b => match Nat.beq a n && Nat.beq b m with | true => some (r, w) | false => t a b
def tn : Tab2 := fun _ _ => none
def tc (n : Nat) (r : Sp) (w : Nat) (t : Tab1) : Tab1 := fun a => match Nat.beq a n with | true => some (r, w) | false => t a
theorem enSp : Enters Tryz.prog 11 Tryz.f11 (qg Tryz.f11) := ⟨Tryz.func11, by kernel_rfl, rfl⟩
def bSp : Code := (qj (qg Tryz.f11)).getD 0 .skip
def polSp : Pol := { live := [(8, [1, 8, 9, 43, 44, 45])] }
def nowP (l : Lz) (W : Nat) : PV := .agg [.agg [.q l.X.lo W, .q l.X.hi W], .agg [.q l.Y.lo W, .q l.Y.hi W], .agg [.q l.C.lo 300, .q l.C.hi 300], .agg [.q l.S.lo 301, .q l.S.hi 301]]
def spsC (n : Nat) (Q : Nat -> Sp) : Cont := .fn n (fun j => .agg [.q (Q j).lo 260, .q (Q j).hi 260])
def stSp (n : Nat) (Q : Nat -> Sp) (lk : Nat -> Lk) (l : Lz) (W : Nat) (o : PV) (bs : List (Option Blk)) (i : Int) : LS :=
 ⟨[.lst 6 (spsC n Q), .ptr 0 24 0 0 [], o, .lst 16 (.fn n (fun j => lkPV (lk j))), .i .i64 n, .i .i64 i], some ⟨24, .vals [nowP l W]⟩ :: bs⟩
def RSp (W : Nat) (c s m1 m2 d1 C m3 m4 d2 S m5 m6 x y : Sp) : Orc :=
 [(41, gOf), (42, vU cosS c 1044), (43, vU sinS s 1045), (44, vCut (tc 2901 C 300 (tc 2902 S 301 (fun _ => none)))), (45, vB subS (tb 1401 1402 d1 2901 tn)),
  (46, vB mulS (tb 300 1044 m1 1401 (tb 301 1045 m2 1402 (tb 301 1044 m3 1403 (tb 300 1045 m4 1404 (tb 64 300 m5 401 (tb 64 301 m6 402 tn))))))),
  (47, vB addS (tb 1403 1404 d2 2902 (tb W 401 x (W + 403) (tb W 402 y (W + 403) tn))))]
theorem tSp0 (n : Nat) (Q : Nat -> Sp) (lk : Nat -> Lk) (l : Lz) (i : Int) (c s m1 m2 d1 C m3 m4 d2 S m5 m6 x y : Sp) : (qh Tryz.prog (RSp 260 c s m1 m2 d1 C m3 m4 d2 S m5 m6 x y) [] polSp Tryz.f11.ntmps 0 [1, 8, 9, 43, 44, 45] bSp (stSp n Q lk l 260 .nil [] i)).run =
 (Tr.br (decide (i < (n : Int))) (.br (ix (i) ((n : Int))) (.br (ix (i) ((n : Int))) (.br (qe (isU cosS [.agg [.q (Q i.toNat).lo 260, .q (Q i.toNat).hi 260]] (260 : Nat) c)) (.br (ix (i) ((n : Int))) (.br (qe (isU sinS [.agg [.q (Q i.toNat).lo 260, .q (Q i.toNat).hi 260]] (260 : Nat) s)) (.br (qe (isB mulS [.agg [.q l.C.lo 300, .q l.C.hi 300], .agg [.q c.lo 1044, .q c.hi 1044]] (300 : Nat) (1044 : Nat) m1 (1401 : Nat))) (.br (qe (isB mulS [.agg [.q l.S.lo 301, .q l.S.hi 301], .agg [.q s.lo 1045, .q s.hi 1045]] (301 : Nat) (1045 : Nat) m2 (1402 : Nat))) (.br (qe (isB subS [.agg [.q m1.lo 1401, .q m1.hi 1401], .agg [.q m2.lo 1402, .q m2.hi 1402]] (1401 : Nat) (1402 : Nat) d1 (2901 : Nat))) (.br (qe (isC [.agg [.q d1.lo 2901, .q d1.hi 2901]] (2901 : Nat) C (300 : Nat))) (.br (qe (isB mulS [.agg [.q l.S.lo 301, .q l.S.hi 301], .agg [.q c.lo 1044, .q c.hi 1044]] (301 : Nat) (1044 : Nat) m3 (1403 : Nat))) (.br (qe (isB mulS [.agg [.q l.C.lo 300, .q l.C.hi 300], .agg [.q s.lo 1045, .q s.hi 1045]] (300 : Nat) (1045 : Nat) m4 (1404 : Nat))) (.br (qe (isB addS [.agg [.q m3.lo 1403, .q m3.hi 1403], .agg [.q m4.lo 1404, .q m4.hi 1404]] (1403 : Nat) (1404 : Nat) d2 (2902 : Nat))) (.br (qe (isC [.agg [.q d2.lo 2902, .q d2.hi 2902]] (2902 : Nat) S (301 : Nat))) (.br (qe (isB mulS [.agg [.q (lk i.toNat).len 64, .q (lk i.toNat).len 64], .agg [.q C.lo 300, .q C.hi 300]] (64 : Nat) (300 : Nat) m5 (401 : Nat))) (.br (qe (isB addS [.agg [.q l.X.lo 260, .q l.X.hi 260], .agg [.q m5.lo 401, .q m5.hi 401]] (260 : Nat) (401 : Nat) x (663 : Nat))) (.br (qe (isB mulS [.agg [.q (lk i.toNat).len 64, .q (lk i.toNat).len 64], .agg [.q S.lo 301, .q S.hi 301]] (64 : Nat) (301 : Nat) m6 (402 : Nat))) (.br (qe (isB addS [.agg [.q l.Y.lo 260, .q l.Y.hi 260], .agg [.q m6.lo 402, .q m6.hi 402]] (260 : Nat) (402 : Nat) y (663 : Nat))) (.br (ib (i + 1)) (.ok (.out .normal (LS.mk [.lst 6 (.fn n fun (j : Nat) => .agg [.q (Q j).lo 260, .q (Q j).hi 260]), .ptr 0 24 0 0 [], .sl 1 24 0 1, .lst 16 (.fn n fun (j : Nat) => .agg [.q (lk j).len 64, .q (lk j).low 64, .q (lk j).high 64, .q (lk j).spd 64, .q (lk j).brk 64, .lst 6 (.fn (lk j).np fun (a : Nat) => .agg [.q ((lk j).px a) 64, .q ((lk j).py a) 64])]), .i .i64 (n : Int), .i .i64 (i + 1)] [some (.mk 24 (.vals [.agg [.agg [.q x.lo 663, .q x.hi 663], .agg [.q y.lo 663, .q y.hi 663], .agg [.q C.lo 300, .q C.hi 300], .agg [.q S.lo 301, .q S.hi 301]]])), some (.mk 24 (.vals [.agg [.agg [.q l.X.lo 260, .q l.X.hi 260], .agg [.q l.Y.lo 260, .q l.Y.hi 260], .agg [.q C.lo 300, .q C.hi 300], .agg [.q S.lo 301, .q S.hi 301]]]))]))) (.no 20002)) (.no 1)) (.no 1)) (.no 1)) (.no 1)) (.no 1)) (.no 1)) (.no 1)) (.no 1)) (.no 1)) (.no 1)) (.no 1)) (.no 1)) (.no 1)) (.no 11007)) (.no 1)) (.no 11012)) (.no 10005)) (.ok (.out (.exit 0) (LS.mk [.lst 6 (.fn n fun (j : Nat) => .agg [.q (Q j).lo 260, .q (Q j).hi 260]), .ptr 0 24 0 0 [], .nil, .lst 16 (.fn n fun (j : Nat) => .agg [.q (lk j).len 64, .q (lk j).low 64, .q (lk j).high 64, .q (lk j).spd 64, .q (lk j).brk 64, .lst 6 (.fn (lk j).np fun (a : Nat) => .agg [.q ((lk j).px a) 64, .q ((lk j).py a) 64])]), .i .i64 (n : Int), .i .i64 i] [some (.mk 24 (.vals [.agg [.agg [.q l.X.lo 260, .q l.X.hi 260], .agg [.q l.Y.lo 260, .q l.Y.hi 260], .agg [.q l.C.lo 300, .q l.C.hi 300], .agg [.q l.S.lo 301, .q l.S.hi 301]]]))])))).run := by kernel_rfl
theorem tSp1 (n : Nat) (Q : Nat -> Sp) (lk : Nat -> Lk) (l : Lz) (i : Int) (p0 : Lz) (c s m1 m2 d1 C m3 m4 d2 S m5 m6 x y : Sp) : (qh Tryz.prog (RSp 663 c s m1 m2 d1 C m3 m4 d2 S m5 m6 x y) [] polSp Tryz.f11.ntmps 0 [1, 8, 9, 43, 44, 45] bSp (stSp n Q lk l 663 (.sl 1 24 0 1) [some ⟨24, .vals [nowP p0 260]⟩] i)).run =
 (Tr.br (decide (i < (n : Int))) (.br (ix (i) ((n : Int))) (.br (ix (i) ((n : Int))) (.br (qe (isU cosS [.agg [.q (Q i.toNat).lo 260, .q (Q i.toNat).hi 260]] (260 : Nat) c)) (.br (ix (i) ((n : Int))) (.br (qe (isU sinS [.agg [.q (Q i.toNat).lo 260, .q (Q i.toNat).hi 260]] (260 : Nat) s)) (.br (qe (isB mulS [.agg [.q l.C.lo 300, .q l.C.hi 300], .agg [.q c.lo 1044, .q c.hi 1044]] (300 : Nat) (1044 : Nat) m1 (1401 : Nat))) (.br (qe (isB mulS [.agg [.q l.S.lo 301, .q l.S.hi 301], .agg [.q s.lo 1045, .q s.hi 1045]] (301 : Nat) (1045 : Nat) m2 (1402 : Nat))) (.br (qe (isB subS [.agg [.q m1.lo 1401, .q m1.hi 1401], .agg [.q m2.lo 1402, .q m2.hi 1402]] (1401 : Nat) (1402 : Nat) d1 (2901 : Nat))) (.br (qe (isC [.agg [.q d1.lo 2901, .q d1.hi 2901]] (2901 : Nat) C (300 : Nat))) (.br (qe (isB mulS [.agg [.q l.S.lo 301, .q l.S.hi 301], .agg [.q c.lo 1044, .q c.hi 1044]] (301 : Nat) (1044 : Nat) m3 (1403 : Nat))) (.br (qe (isB mulS [.agg [.q l.C.lo 300, .q l.C.hi 300], .agg [.q s.lo 1045, .q s.hi 1045]] (300 : Nat) (1045 : Nat) m4 (1404 : Nat))) (.br (qe (isB addS [.agg [.q m3.lo 1403, .q m3.hi 1403], .agg [.q m4.lo 1404, .q m4.hi 1404]] (1403 : Nat) (1404 : Nat) d2 (2902 : Nat))) (.br (qe (isC [.agg [.q d2.lo 2902, .q d2.hi 2902]] (2902 : Nat) S (301 : Nat))) (.br (qe (isB mulS [.agg [.q (lk i.toNat).len 64, .q (lk i.toNat).len 64], .agg [.q C.lo 300, .q C.hi 300]] (64 : Nat) (300 : Nat) m5 (401 : Nat))) (.br (qe (isB addS [.agg [.q l.X.lo 663, .q l.X.hi 663], .agg [.q m5.lo 401, .q m5.hi 401]] (663 : Nat) (401 : Nat) x (1066 : Nat))) (.br (qe (isB mulS [.agg [.q (lk i.toNat).len 64, .q (lk i.toNat).len 64], .agg [.q S.lo 301, .q S.hi 301]] (64 : Nat) (301 : Nat) m6 (402 : Nat))) (.br (qe (isB addS [.agg [.q l.Y.lo 663, .q l.Y.hi 663], .agg [.q m6.lo 402, .q m6.hi 402]] (663 : Nat) (402 : Nat) y (1066 : Nat))) (.br (ib (i + 1)) (.ok (.out .normal (LS.mk [.lst 6 (.fn n fun (j : Nat) => .agg [.q (Q j).lo 260, .q (Q j).hi 260]), .ptr 0 24 0 0 [], .sl 1 24 0 2, .lst 16 (.fn n fun (j : Nat) => .agg [.q (lk j).len 64, .q (lk j).low 64, .q (lk j).high 64, .q (lk j).spd 64, .q (lk j).brk 64, .lst 6 (.fn (lk j).np fun (a : Nat) => .agg [.q ((lk j).px a) 64, .q ((lk j).py a) 64])]), .i .i64 (n : Int), .i .i64 (i + 1)] [some (.mk 24 (.vals [.agg [.agg [.q x.lo 1066, .q x.hi 1066], .agg [.q y.lo 1066, .q y.hi 1066], .agg [.q C.lo 300, .q C.hi 300], .agg [.q S.lo 301, .q S.hi 301]]])), some (.mk 24 (.vals [.agg [.agg [.q p0.X.lo 260, .q p0.X.hi 260], .agg [.q p0.Y.lo 260, .q p0.Y.hi 260], .agg [.q p0.C.lo 300, .q p0.C.hi 300], .agg [.q p0.S.lo 301, .q p0.S.hi 301]], .agg [.agg [.q l.X.lo 663, .q l.X.hi 663], .agg [.q l.Y.lo 663, .q l.Y.hi 663], .agg [.q C.lo 300, .q C.hi 300], .agg [.q S.lo 301, .q S.hi 301]]]))]))) (.no 20002)) (.no 1)) (.no 1)) (.no 1)) (.no 1)) (.no 1)) (.no 1)) (.no 1)) (.no 1)) (.no 1)) (.no 1)) (.no 1)) (.no 1)) (.no 1)) (.no 11007)) (.no 1)) (.no 11012)) (.no 10005)) (.ok (.out (.exit 0) (LS.mk [.lst 6 (.fn n fun (j : Nat) => .agg [.q (Q j).lo 260, .q (Q j).hi 260]), .ptr 0 24 0 0 [], .sl 1 24 0 1, .lst 16 (.fn n fun (j : Nat) => .agg [.q (lk j).len 64, .q (lk j).low 64, .q (lk j).high 64, .q (lk j).spd 64, .q (lk j).brk 64, .lst 6 (.fn (lk j).np fun (a : Nat) => .agg [.q ((lk j).px a) 64, .q ((lk j).py a) 64])]), .i .i64 (n : Int), .i .i64 i] [some (.mk 24 (.vals [.agg [.agg [.q l.X.lo 663, .q l.X.hi 663], .agg [.q l.Y.lo 663, .q l.Y.hi 663], .agg [.q l.C.lo 300, .q l.C.hi 300], .agg [.q l.S.lo 301, .q l.S.hi 301]]])), some (.mk 24 (.vals [.agg [.agg [.q p0.X.lo 260, .q p0.X.hi 260], .agg [.q p0.Y.lo 260, .q p0.Y.hi 260], .agg [.q p0.C.lo 300, .q p0.C.hi 300], .agg [.q p0.S.lo 301, .q p0.S.hi 301]]]))])))).run := by kernel_rfl
theorem tSp2 (n : Nat) (Q : Nat -> Sp) (lk : Nat -> Lk) (l : Lz) (i : Int) (p0 p1 : Lz) (c s m1 m2 d1 C m3 m4 d2 S m5 m6 x y : Sp) : (qh Tryz.prog (RSp 1066 c s m1 m2 d1 C m3 m4 d2 S m5 m6 x y) [] polSp Tryz.f11.ntmps 0 [1, 8, 9, 43, 44, 45] bSp (stSp n Q lk l 1066 (.sl 1 24 0 2) [some ⟨24, .vals [nowP p0 260, nowP p1 663]⟩] i)).run =
 (Tr.br (decide (i < (n : Int))) (.br (ix (i) ((n : Int))) (.br (ix (i) ((n : Int))) (.br (qe (isU cosS [.agg [.q (Q i.toNat).lo 260, .q (Q i.toNat).hi 260]] (260 : Nat) c)) (.br (ix (i) ((n : Int))) (.br (qe (isU sinS [.agg [.q (Q i.toNat).lo 260, .q (Q i.toNat).hi 260]] (260 : Nat) s)) (.br (qe (isB mulS [.agg [.q l.C.lo 300, .q l.C.hi 300], .agg [.q c.lo 1044, .q c.hi 1044]] (300 : Nat) (1044 : Nat) m1 (1401 : Nat))) (.br (qe (isB mulS [.agg [.q l.S.lo 301, .q l.S.hi 301], .agg [.q s.lo 1045, .q s.hi 1045]] (301 : Nat) (1045 : Nat) m2 (1402 : Nat))) (.br (qe (isB subS [.agg [.q m1.lo 1401, .q m1.hi 1401], .agg [.q m2.lo 1402, .q m2.hi 1402]] (1401 : Nat) (1402 : Nat) d1 (2901 : Nat))) (.br (qe (isC [.agg [.q d1.lo 2901, .q d1.hi 2901]] (2901 : Nat) C (300 : Nat))) (.br (qe (isB mulS [.agg [.q l.S.lo 301, .q l.S.hi 301], .agg [.q c.lo 1044, .q c.hi 1044]] (301 : Nat) (1044 : Nat) m3 (1403 : Nat))) (.br (qe (isB mulS [.agg [.q l.C.lo 300, .q l.C.hi 300], .agg [.q s.lo 1045, .q s.hi 1045]] (300 : Nat) (1045 : Nat) m4 (1404 : Nat))) (.br (qe (isB addS [.agg [.q m3.lo 1403, .q m3.hi 1403], .agg [.q m4.lo 1404, .q m4.hi 1404]] (1403 : Nat) (1404 : Nat) d2 (2902 : Nat))) (.br (qe (isC [.agg [.q d2.lo 2902, .q d2.hi 2902]] (2902 : Nat) S (301 : Nat))) (.br (qe (isB mulS [.agg [.q (lk i.toNat).len 64, .q (lk i.toNat).len 64], .agg [.q C.lo 300, .q C.hi 300]] (64 : Nat) (300 : Nat) m5 (401 : Nat))) (.br (qe (isB addS [.agg [.q l.X.lo 1066, .q l.X.hi 1066], .agg [.q m5.lo 401, .q m5.hi 401]] (1066 : Nat) (401 : Nat) x (1469 : Nat))) (.br (qe (isB mulS [.agg [.q (lk i.toNat).len 64, .q (lk i.toNat).len 64], .agg [.q S.lo 301, .q S.hi 301]] (64 : Nat) (301 : Nat) m6 (402 : Nat))) (.br (qe (isB addS [.agg [.q l.Y.lo 1066, .q l.Y.hi 1066], .agg [.q m6.lo 402, .q m6.hi 402]] (1066 : Nat) (402 : Nat) y (1469 : Nat))) (.br (ib (i + 1)) (.ok (.out .normal (LS.mk [.lst 6 (.fn n fun (j : Nat) => .agg [.q (Q j).lo 260, .q (Q j).hi 260]), .ptr 0 24 0 0 [], .sl 1 24 0 3, .lst 16 (.fn n fun (j : Nat) => .agg [.q (lk j).len 64, .q (lk j).low 64, .q (lk j).high 64, .q (lk j).spd 64, .q (lk j).brk 64, .lst 6 (.fn (lk j).np fun (a : Nat) => .agg [.q ((lk j).px a) 64, .q ((lk j).py a) 64])]), .i .i64 (n : Int), .i .i64 (i + 1)] [some (.mk 24 (.vals [.agg [.agg [.q x.lo 1469, .q x.hi 1469], .agg [.q y.lo 1469, .q y.hi 1469], .agg [.q C.lo 300, .q C.hi 300], .agg [.q S.lo 301, .q S.hi 301]]])), some (.mk 24 (.vals [.agg [.agg [.q p0.X.lo 260, .q p0.X.hi 260], .agg [.q p0.Y.lo 260, .q p0.Y.hi 260], .agg [.q p0.C.lo 300, .q p0.C.hi 300], .agg [.q p0.S.lo 301, .q p0.S.hi 301]], .agg [.agg [.q p1.X.lo 663, .q p1.X.hi 663], .agg [.q p1.Y.lo 663, .q p1.Y.hi 663], .agg [.q p1.C.lo 300, .q p1.C.hi 300], .agg [.q p1.S.lo 301, .q p1.S.hi 301]], .agg [.agg [.q l.X.lo 1066, .q l.X.hi 1066], .agg [.q l.Y.lo 1066, .q l.Y.hi 1066], .agg [.q C.lo 300, .q C.hi 300], .agg [.q S.lo 301, .q S.hi 301]]]))]))) (.no 20002)) (.no 1)) (.no 1)) (.no 1)) (.no 1)) (.no 1)) (.no 1)) (.no 1)) (.no 1)) (.no 1)) (.no 1)) (.no 1)) (.no 1)) (.no 1)) (.no 11007)) (.no 1)) (.no 11012)) (.no 10005)) (.ok (.out (.exit 0) (LS.mk [.lst 6 (.fn n fun (j : Nat) => .agg [.q (Q j).lo 260, .q (Q j).hi 260]), .ptr 0 24 0 0 [], .sl 1 24 0 2, .lst 16 (.fn n fun (j : Nat) => .agg [.q (lk j).len 64, .q (lk j).low 64, .q (lk j).high 64, .q (lk j).spd 64, .q (lk j).brk 64, .lst 6 (.fn (lk j).np fun (a : Nat) => .agg [.q ((lk j).px a) 64, .q ((lk j).py a) 64])]), .i .i64 (n : Int), .i .i64 i] [some (.mk 24 (.vals [.agg [.agg [.q l.X.lo 1066, .q l.X.hi 1066], .agg [.q l.Y.lo 1066, .q l.Y.hi 1066], .agg [.q l.C.lo 300, .q l.C.hi 300], .agg [.q l.S.lo 301, .q l.S.hi 301]]])), some (.mk 24 (.vals [.agg [.agg [.q p0.X.lo 260, .q p0.X.hi 260], .agg [.q p0.Y.lo 260, .q p0.Y.hi 260], .agg [.q p0.C.lo 300, .q p0.C.hi 300], .agg [.q p0.S.lo 301, .q p0.S.hi 301]], .agg [.agg [.q p1.X.lo 663, .q p1.X.hi 663], .agg [.q p1.Y.lo 663, .q p1.Y.hi 663], .agg [.q p1.C.lo 300, .q p1.C.hi 300], .agg [.q p1.S.lo 301, .q p1.S.hi 301]]]))])))).run := by kernel_rfl
theorem tSp3 (n : Nat) (Q : Nat -> Sp) (lk : Nat -> Lk) (l : Lz) (i : Int) (p0 p1 p2 : Lz) : (qh Tryz.prog [] [] polSp Tryz.f11.ntmps 0 [1, 8, 9, 43, 44, 45] bSp (stSp n Q lk l 1469 (.sl 1 24 0 3) [some ⟨24, .vals [nowP p0 260, nowP p1 663, nowP p2 1066]⟩] i)).run =
 (Tr.br (decide (i < (n : Int))) (.br (ix (i) ((n : Int))) (.br (ix (i) ((n : Int))) (.no 11010) (.no 11012)) (.no 10005)) (.ok (.out (.exit 0) (LS.mk [.lst 6 (.fn n fun (j : Nat) => .agg [.q (Q j).lo 260, .q (Q j).hi 260]), .ptr 0 24 0 0 [], .sl 1 24 0 3, .lst 16 (.fn n fun (j : Nat) => .agg [.q (lk j).len 64, .q (lk j).low 64, .q (lk j).high 64, .q (lk j).spd 64, .q (lk j).brk 64, .lst 6 (.fn (lk j).np fun (a : Nat) => .agg [.q ((lk j).px a) 64, .q ((lk j).py a) 64])]), .i .i64 (n : Int), .i .i64 i] [some (.mk 24 (.vals [.agg [.agg [.q l.X.lo 1469, .q l.X.hi 1469], .agg [.q l.Y.lo 1469, .q l.Y.hi 1469], .agg [.q l.C.lo 300, .q l.C.hi 300], .agg [.q l.S.lo 301, .q l.S.hi 301]]])), some (.mk 24 (.vals [.agg [.agg [.q p0.X.lo 260, .q p0.X.hi 260], .agg [.q p0.Y.lo 260, .q p0.Y.hi 260], .agg [.q p0.C.lo 300, .q p0.C.hi 300], .agg [.q p0.S.lo 301, .q p0.S.hi 301]], .agg [.agg [.q p1.X.lo 663, .q p1.X.hi 663], .agg [.q p1.Y.lo 663, .q p1.Y.hi 663], .agg [.q p1.C.lo 300, .q p1.C.hi 300], .agg [.q p1.S.lo 301, .q p1.S.hi 301]], .agg [.agg [.q p2.X.lo 1066, .q p2.X.hi 1066], .agg [.q p2.Y.lo 1066, .q p2.Y.hi 1066], .agg [.q p2.C.lo 300, .q p2.C.hi 300], .agg [.q p2.S.lo 301, .q p2.S.hi 301]]]))])))).run := by kernel_rfl
def gC0 (F : Rat -> Rat) (w : Nat) : Spec := fun args hs K => match args, hs with
 | [.agg [.bl false, .q t 64]], [] => K (.q (F t) w) []
 | _, _ => .no 1
def gO0 : Spec := fun args hs K => match args, hs with
 | [.q z 64], [] => K (.agg [.q z 260, .q z 260]) []
 | [.q z 300], [] => K (.agg [.q z 300, .q z 300]) []
 | [.q z 301], [] => K (.agg [.q z 301, .q z 301]) []
 | _, _ => .no 1
def OSp (A : Am) (k : Int) : Orc := [(16, gC0 (cosR false) 300), (17, gC0 (qx false) 301), (40, cst [qw A, .i .i64 k] True (.i .i64 0)), (41, gO0)]
theorem eSp1 (A : Am) (Q : Nat -> Sp) (l p0 : Lz) : (evF Tryz.prog (OSp A A.n) [(8, lcst (stSp A.n Q A.lk (lz0 ⟨A.bx, A.by_, false, A.t⟩) 260 .nil [] 0) (.exit 0) (stSp A.n Q A.lk l 663 (.sl 1 24 0 1) [some ⟨24, .vals [nowP p0 260]⟩] 1))] polSp Tryz.f11 [qw A, .lst 6 (spsC A.n Q)] [] qm).run =
 (Tr.br (qe (isA [qw A, .i .i64 (A.n : Int)] True [qw A, .i .i64 (A.n : Int)])) (.br (qe (isLS (LS.mk [.lst 6 (.fn A.n fun (j : Nat) => .agg [.q (Q j).lo 260, .q (Q j).hi 260]), .ptr 0 24 0 0 [], .nil, .lst 16 (.fn A.n fun (j : Nat) => .agg [.q (A.lk j).len 64, .q (A.lk j).low 64, .q (A.lk j).high 64, .q (A.lk j).spd 64, .q (A.lk j).brk 64, .lst 6 (.fn (A.lk j).np fun (a : Nat) => .agg [.q ((A.lk j).px a) 64, .q ((A.lk j).py a) 64])]), .i .i64 (A.n : Int), .i .i64 0] [some (.mk 24 (.vals [.agg [.agg [.q (lz0 (Fr.mk A.bx A.by_ false A.t)).X.lo 260, .q (lz0 (Fr.mk A.bx A.by_ false A.t)).X.hi 260], .agg [.q (lz0 (Fr.mk A.bx A.by_ false A.t)).Y.lo 260, .q (lz0 (Fr.mk A.bx A.by_ false A.t)).Y.hi 260], .agg [.q (lz0 (Fr.mk A.bx A.by_ false A.t)).C.lo 300, .q (lz0 (Fr.mk A.bx A.by_ false A.t)).C.hi 300], .agg [.q (lz0 (Fr.mk A.bx A.by_ false A.t)).S.lo 301, .q (lz0 (Fr.mk A.bx A.by_ false A.t)).S.hi 301]]]))]) (LS.mk [.lst 6 (.fn A.n fun (j : Nat) => .agg [.q (Q j).lo 260, .q (Q j).hi 260]), .ptr 0 24 0 0 [], .nil, .lst 16 (.fn A.n fun (j : Nat) => .agg [.q (A.lk j).len 64, .q (A.lk j).low 64, .q (A.lk j).high 64, .q (A.lk j).spd 64, .q (A.lk j).brk 64, .lst 6 (.fn (A.lk j).np fun (a : Nat) => .agg [.q ((A.lk j).px a) 64, .q ((A.lk j).py a) 64])]), .i .i64 (A.n : Int), .i .i64 0] [some (.mk 24 (.vals [.agg [.agg [.q A.bx 260, .q A.bx 260], .agg [.q A.by_ 260, .q A.by_ 260], .agg [.q (cosR false A.t) 300, .q (cosR false A.t) 300], .agg [.q (qx false A.t) 301, .q (qx false A.t) 301]]]))]))) (.ok (.ret (.tup [.fr 24 (.vals [.agg [.agg [.q p0.X.lo 260, .q p0.X.hi 260], .agg [.q p0.Y.lo 260, .q p0.Y.hi 260], .agg [.q p0.C.lo 300, .q p0.C.hi 300], .agg [.q p0.S.lo 301, .q p0.S.hi 301]], .agg [.agg [.q l.X.lo 663, .q l.X.hi 663], .agg [.q l.Y.lo 663, .q l.Y.hi 663], .agg [.q l.C.lo 300, .q l.C.hi 300], .agg [.q l.S.lo 301, .q l.S.hi 301]]]), .i .i64 0]) [])) (.no 1)) (.no 1)).run := by kernel_rfl
theorem eSp2 (A : Am) (Q : Nat -> Sp) (l p0 p1 : Lz) : (evF Tryz.prog (OSp A A.n) [(8, lcst (stSp A.n Q A.lk (lz0 ⟨A.bx, A.by_, false, A.t⟩) 260 .nil [] 0) (.exit 0) (stSp A.n Q A.lk l 1066 (.sl 1 24 0 2) [some ⟨24, .vals [nowP p0 260, nowP p1 663]⟩] 2))] polSp Tryz.f11 [qw A, .lst 6 (spsC A.n Q)] [] qm).run =
 (Tr.br (qe (isA [qw A, .i .i64 (A.n : Int)] True [qw A, .i .i64 (A.n : Int)])) (.br (qe (isLS (LS.mk [.lst 6 (.fn A.n fun (j : Nat) => .agg [.q (Q j).lo 260, .q (Q j).hi 260]), .ptr 0 24 0 0 [], .nil, .lst 16 (.fn A.n fun (j : Nat) => .agg [.q (A.lk j).len 64, .q (A.lk j).low 64, .q (A.lk j).high 64, .q (A.lk j).spd 64, .q (A.lk j).brk 64, .lst 6 (.fn (A.lk j).np fun (a : Nat) => .agg [.q ((A.lk j).px a) 64, .q ((A.lk j).py a) 64])]), .i .i64 (A.n : Int), .i .i64 0] [some (.mk 24 (.vals [.agg [.agg [.q (lz0 (Fr.mk A.bx A.by_ false A.t)).X.lo 260, .q (lz0 (Fr.mk A.bx A.by_ false A.t)).X.hi 260], .agg [.q (lz0 (Fr.mk A.bx A.by_ false A.t)).Y.lo 260, .q (lz0 (Fr.mk A.bx A.by_ false A.t)).Y.hi 260], .agg [.q (lz0 (Fr.mk A.bx A.by_ false A.t)).C.lo 300, .q (lz0 (Fr.mk A.bx A.by_ false A.t)).C.hi 300], .agg [.q (lz0 (Fr.mk A.bx A.by_ false A.t)).S.lo 301, .q (lz0 (Fr.mk A.bx A.by_ false A.t)).S.hi 301]]]))]) (LS.mk [.lst 6 (.fn A.n fun (j : Nat) => .agg [.q (Q j).lo 260, .q (Q j).hi 260]), .ptr 0 24 0 0 [], .nil, .lst 16 (.fn A.n fun (j : Nat) => .agg [.q (A.lk j).len 64, .q (A.lk j).low 64, .q (A.lk j).high 64, .q (A.lk j).spd 64, .q (A.lk j).brk 64, .lst 6 (.fn (A.lk j).np fun (a : Nat) => .agg [.q ((A.lk j).px a) 64, .q ((A.lk j).py a) 64])]), .i .i64 (A.n : Int), .i .i64 0] [some (.mk 24 (.vals [.agg [.agg [.q A.bx 260, .q A.bx 260], .agg [.q A.by_ 260, .q A.by_ 260], .agg [.q (cosR false A.t) 300, .q (cosR false A.t) 300], .agg [.q (qx false A.t) 301, .q (qx false A.t) 301]]]))]))) (.ok (.ret (.tup [.fr 24 (.vals [.agg [.agg [.q p0.X.lo 260, .q p0.X.hi 260], .agg [.q p0.Y.lo 260, .q p0.Y.hi 260], .agg [.q p0.C.lo 300, .q p0.C.hi 300], .agg [.q p0.S.lo 301, .q p0.S.hi 301]], .agg [.agg [.q p1.X.lo 663, .q p1.X.hi 663], .agg [.q p1.Y.lo 663, .q p1.Y.hi 663], .agg [.q p1.C.lo 300, .q p1.C.hi 300], .agg [.q p1.S.lo 301, .q p1.S.hi 301]], .agg [.agg [.q l.X.lo 1066, .q l.X.hi 1066], .agg [.q l.Y.lo 1066, .q l.Y.hi 1066], .agg [.q l.C.lo 300, .q l.C.hi 300], .agg [.q l.S.lo 301, .q l.S.hi 301]]]), .i .i64 0]) [])) (.no 1)) (.no 1)).run := by kernel_rfl
theorem eSp3 (A : Am) (Q : Nat -> Sp) (l p0 p1 p2 : Lz) : (evF Tryz.prog (OSp A A.n) [(8, lcst (stSp A.n Q A.lk (lz0 ⟨A.bx, A.by_, false, A.t⟩) 260 .nil [] 0) (.exit 0) (stSp A.n Q A.lk l 1469 (.sl 1 24 0 3) [some ⟨24, .vals [nowP p0 260, nowP p1 663, nowP p2 1066]⟩] 3))] polSp Tryz.f11 [qw A, .lst 6 (spsC A.n Q)] [] qm).run =
 (Tr.br (qe (isA [qw A, .i .i64 (A.n : Int)] True [qw A, .i .i64 (A.n : Int)])) (.br (qe (isLS (LS.mk [.lst 6 (.fn A.n fun (j : Nat) => .agg [.q (Q j).lo 260, .q (Q j).hi 260]), .ptr 0 24 0 0 [], .nil, .lst 16 (.fn A.n fun (j : Nat) => .agg [.q (A.lk j).len 64, .q (A.lk j).low 64, .q (A.lk j).high 64, .q (A.lk j).spd 64, .q (A.lk j).brk 64, .lst 6 (.fn (A.lk j).np fun (a : Nat) => .agg [.q ((A.lk j).px a) 64, .q ((A.lk j).py a) 64])]), .i .i64 (A.n : Int), .i .i64 0] [some (.mk 24 (.vals [.agg [.agg [.q (lz0 (Fr.mk A.bx A.by_ false A.t)).X.lo 260, .q (lz0 (Fr.mk A.bx A.by_ false A.t)).X.hi 260], .agg [.q (lz0 (Fr.mk A.bx A.by_ false A.t)).Y.lo 260, .q (lz0 (Fr.mk A.bx A.by_ false A.t)).Y.hi 260], .agg [.q (lz0 (Fr.mk A.bx A.by_ false A.t)).C.lo 300, .q (lz0 (Fr.mk A.bx A.by_ false A.t)).C.hi 300], .agg [.q (lz0 (Fr.mk A.bx A.by_ false A.t)).S.lo 301, .q (lz0 (Fr.mk A.bx A.by_ false A.t)).S.hi 301]]]))]) (LS.mk [.lst 6 (.fn A.n fun (j : Nat) => .agg [.q (Q j).lo 260, .q (Q j).hi 260]), .ptr 0 24 0 0 [], .nil, .lst 16 (.fn A.n fun (j : Nat) => .agg [.q (A.lk j).len 64, .q (A.lk j).low 64, .q (A.lk j).high 64, .q (A.lk j).spd 64, .q (A.lk j).brk 64, .lst 6 (.fn (A.lk j).np fun (a : Nat) => .agg [.q ((A.lk j).px a) 64, .q ((A.lk j).py a) 64])]), .i .i64 (A.n : Int), .i .i64 0] [some (.mk 24 (.vals [.agg [.agg [.q A.bx 260, .q A.bx 260], .agg [.q A.by_ 260, .q A.by_ 260], .agg [.q (cosR false A.t) 300, .q (cosR false A.t) 300], .agg [.q (qx false A.t) 301, .q (qx false A.t) 301]]]))]))) (.ok (.ret (.tup [.fr 24 (.vals [.agg [.agg [.q p0.X.lo 260, .q p0.X.hi 260], .agg [.q p0.Y.lo 260, .q p0.Y.hi 260], .agg [.q p0.C.lo 300, .q p0.C.hi 300], .agg [.q p0.S.lo 301, .q p0.S.hi 301]], .agg [.agg [.q p1.X.lo 663, .q p1.X.hi 663], .agg [.q p1.Y.lo 663, .q p1.Y.hi 663], .agg [.q p1.C.lo 300, .q p1.C.hi 300], .agg [.q p1.S.lo 301, .q p1.S.hi 301]], .agg [.agg [.q p2.X.lo 1066, .q p2.X.hi 1066], .agg [.q p2.Y.lo 1066, .q p2.Y.hi 1066], .agg [.q p2.C.lo 300, .q p2.C.hi 300], .agg [.q p2.S.lo 301, .q p2.S.hi 301]], .agg [.agg [.q l.X.lo 1469, .q l.X.hi 1469], .agg [.q l.Y.lo 1469, .q l.Y.hi 1469], .agg [.q l.C.lo 300, .q l.C.hi 300], .agg [.q l.S.lo 301, .q l.S.hi 301]]]), .i .i64 0]) [])) (.no 1)) (.no 1)).run := by kernel_rfl
theorem sp_rle {r : Sp} {n w : Nat} (h : n <= w) : RLe (.agg [.q r.lo n, .q r.hi n]) (.agg [.q r.lo w, .q r.hi w]) := rle_of_vle (fun _ => rfl) (fun _ => rfl) (VLe.agg (vllc (vle_qm h) (vllc (vle_qm h) vll0)))
theorem vB_ok {g : Nat} {F : Sp -> Sp -> Sp} {tab : Tab2} {sp : Spec} (h : qc Tryz.prog G g sp) (e : ∀ (A B : Sp) (n m : Nat), 1 <= n -> 1 <= m -> n + m <= 50000 -> ∃ w0, w0 <= n + m + 1 /\ (sp [spR A.lo A.hi n, spR B.lo B.hi m] [] qm).run = some (.ret (.agg [.q (F A B).lo w0, .q (F A B).hi w0]) [])) :
  qc Tryz.prog G g (vB F tab) := by
 intro args hs K y hh
 unfold vB at hh
 split at hh
 case h_2 => cases hh
 rename_i a n b n' c m d m'
 split at hh
 case h_2 => cases hh
 rename_i r w ht
 obtain ⟨hc, hr⟩ := Tr.of_br hh
 obtain ⟨⟨A, B, he, rfl⟩, h1, h2, h3, h4⟩ := decP_iff.1 hc
 obtain ⟨w0, hw, hrun⟩ := e A B n m h1 h2 (by omega)
 exact ⟨_, _, by rw [he]; exact (pc_spec h hrun).le (sp_rle (by omega)) (.refl _), hr⟩
theorem vU_ok {g : Nat} {F : Sp -> Sp} {r : Sp} {w : Nat} {sp : Spec} (hw : 1044 <= w) (h : qc Tryz.prog G g sp) (e : ∀ (A : Sp), (sp [spR A.lo A.hi 260] [] qm).run = some (.ret (.agg [.q (F A).lo 1044, .q (F A).hi 1044]) [])) : qc Tryz.prog G g (vU F r w) := by
 intro args hs K y hh
 unfold vU at hh
 split at hh
 case h_2 => cases hh
 rename_i a b n'
 obtain ⟨hc, hr⟩ := Tr.of_br hh
 obtain ⟨A, he, rfl⟩ := decP_iff.1 hc
 exact ⟨_, _, by rw [he]; exact (pc_spec h (e A)).le (sp_rle hw) (.refl _), hr⟩
include hG in
theorem vCut_ok (hT : qu G) {tab : Tab1} : qc Tryz.prog G 44 (vCut tab) := by
 intro args hs K y hh
 unfold vCut at hh
 split at hh
 case h_2 => cases hh
 rename_i a n b n'
 split at hh
 case h_2 => cases hh
 rename_i r w ht
 obtain ⟨hc, hr⟩ := Tr.of_br hh
 obtain ⟨⟨A, he, rfl, ho⟩, h1, h2, h3⟩ := decP_iff.1 hc
 have p := pc_spec (gkCu hG hT) (args := [spR A.lo A.hi n]) (r := .agg [.q (cutL A) 300, .q (cutH A) 300]) (hs := []) (hs' := []) (by
  show (Tr.br _ _ _).run = _
  rw [Tr.run_t (decP_iff.2 ⟨⟨rfl, h1, h2⟩, by rw [fitS_eta]; exact ho⟩), fitS_eta]; rfl)
 refine ⟨_, _, ?_, hr⟩
 rw [he]
 refine p.le ?_ (.refl _)
 have e1 : (cutS A).lo = cutL A := fitS_lo ho
 have e2 : (cutS A).hi = cutH A := fitS_hi ho
 rw [<- e1, <- e2]
 exact sp_rle h3
include hG in
theorem orcRSp (hT : qu G) (W : Nat) (c s m1 m2 d1 C m3 m4 d2 S m5 m6 x y : Sp) : OrcOK Tryz.prog G (RSp W c s m1 m2 d1 C m3 m4 d2 S m5 m6 x y) := by
 refine .cons (gkOf hG hT) (.cons (vU_ok (by omega) (gkCs hG hT) fun A => ?_) (.cons (vU_ok (by omega) (gkSn hG hT) fun A => ?_) (.cons (vCut_ok hG hT) (.cons (vB_ok (gkSb hG hT) fun A B n m h1 h2 h3 => ?_) (.cons (vB_ok (gkMu hG hT) fun A B n m h1 h2 h3 => ?_) (.cons (vB_ok (gkAd hG hT) fun A B n m h1 h2 h3 => ?_) .nil))))))
 ·refine (Tr.run_t (decP_iff.2 ⟨rfl, by omega, by omega⟩)).trans ?_
  rw [fitS_eta]; rfl
 ·show some (Res.ret (.agg [.q (sinS (qi A.lo A.hi)).lo 1044, .q (sinS (qi A.lo A.hi)).hi 1044]) []) = _
  rw [fitS_eta]
 ·refine ⟨_, Nat.le_refl _, (Tr.run_t (decP_iff.2 ⟨⟨_, _, _, _, rfl⟩, h1, h2, h3⟩)).trans ?_⟩
  rw [fitS_eta, fitS_eta]; rfl
 ·refine ⟨n + m, by omega, (Tr.run_t (decP_iff.2 ⟨⟨_, _, _, _, rfl⟩, h1, h2, h3⟩)).trans ?_⟩
  rw [fitS_eta, fitS_eta]; rfl
 ·refine ⟨_, Nat.le_refl _, (Tr.run_t (decP_iff.2 ⟨⟨_, _, _, _, rfl⟩, h1, h2, h3⟩)).trans ?_⟩
  rw [fitS_eta, fitS_eta]; rfl
section
variable (n : Nat) (Q : Nat -> Sp) (lk : Nat -> Lk) (l : Lz)
def okL (l : Lz) (Q : Sp) : Prop := cutL (lcC Q l) <= cutH (lcC Q l) /\ cutL (lcS Q l) <= cutH (lcS Q l)
def nx_ (L : Rat) (Q : Sp) (l : Lz) : Lz := lstep L (lturn Q l)
include hG in
theorem rSp0 (hT : qu G) (i : Nat) (hi : i < n) (hn : n <= 3) (ho : okL l (Q i)) : Rnd Tryz.prog G Tryz.f11.ntmps 0 [1, 8, 9, 43, 44, 45] bSp (stSp n Q lk l 260 .nil [] (i : Nat)) .normal
  (stSp n Q lk (nx_ (lk i).len (Q i) l) 663 (.sl 1 24 0 1) [some ⟨24, .vals [nowP (lturn (Q i) l) 260]⟩] ((i + 1 : Nat) : Int)) := by
 refine qb hG (orcRSp hG hT 260 (cosS (Q i)) (sinS (Q i)) (mulS l.C (cosS (Q i))) (mulS l.S (sinS (Q i))) (lcC (Q i) l) (cutS (lcC (Q i) l)) (mulS l.S (cosS (Q i))) (mulS l.C (sinS (Q i))) (lcS (Q i) l) (cutS (lcS (Q i) l)) (mulS (ofS (lk i).len) (cutS (lcC (Q i) l))) (mulS (ofS (lk i).len) (cutS (lcS (Q i) l))) (addS l.X (mulS (ofS (lk i).len) (cutS (lcC (Q i) l)))) (addS l.Y (mulS (ofS (lk i).len) (cutS (lcS (Q i) l))))) mix (L := []) (pol := polSp) (LpsOK.none (by kernel_rfl)) (Nat.zero_le _) ?_
 rw [tSp0, Int.toNat_natCast]
 repeat (refine Eq.trans (Tr.run_t ?_) ?_; first | (simp only [Bool.and_eq_true, decide_eq_true_eq]; omega) | exact decP_iff.2 ⟨⟨_, _, rfl, rfl⟩, by decide, by decide, by decide, by decide⟩ | exact decP_iff.2 ⟨⟨ofS _, _, rfl, rfl⟩, by decide, by decide, by decide, by decide⟩ | exact decP_iff.2 ⟨_, rfl, rfl⟩ | exact decP_iff.2 ⟨⟨_, rfl, rfl, ho.1⟩, by decide, by decide, by decide⟩ | exact decP_iff.2 ⟨⟨_, rfl, rfl, ho.2⟩, by decide, by decide, by decide⟩)
 rw [Tr.run_ok]
 rfl
include hG in
theorem rSp1 (hT : qu G) (p0 : Lz) (i : Nat) (hi : i < n) (hn : n <= 3) (ho : okL l (Q i)) : Rnd Tryz.prog G Tryz.f11.ntmps 0 [1, 8, 9, 43, 44, 45] bSp (stSp n Q lk l 663 (.sl 1 24 0 1) [some ⟨24, .vals [nowP p0 260]⟩] (i : Nat)) .normal
  (stSp n Q lk (nx_ (lk i).len (Q i) l) 1066 (.sl 1 24 0 2) [some ⟨24, .vals [nowP p0 260, nowP (lturn (Q i) l) 663]⟩] ((i + 1 : Nat) : Int)) := by
 refine qb hG (orcRSp hG hT 663 (cosS (Q i)) (sinS (Q i)) (mulS l.C (cosS (Q i))) (mulS l.S (sinS (Q i))) (lcC (Q i) l) (cutS (lcC (Q i) l)) (mulS l.S (cosS (Q i))) (mulS l.C (sinS (Q i))) (lcS (Q i) l) (cutS (lcS (Q i) l)) (mulS (ofS (lk i).len) (cutS (lcC (Q i) l))) (mulS (ofS (lk i).len) (cutS (lcS (Q i) l))) (addS l.X (mulS (ofS (lk i).len) (cutS (lcC (Q i) l)))) (addS l.Y (mulS (ofS (lk i).len) (cutS (lcS (Q i) l))))) mix (L := []) (pol := polSp) (LpsOK.none (by kernel_rfl)) (Nat.zero_le _) ?_
 rw [tSp1, Int.toNat_natCast]
 repeat (refine Eq.trans (Tr.run_t ?_) ?_; first | (simp only [Bool.and_eq_true, decide_eq_true_eq]; omega) | exact decP_iff.2 ⟨⟨_, _, rfl, rfl⟩, by decide, by decide, by decide, by decide⟩ | exact decP_iff.2 ⟨⟨ofS _, _, rfl, rfl⟩, by decide, by decide, by decide, by decide⟩ | exact decP_iff.2 ⟨_, rfl, rfl⟩ | exact decP_iff.2 ⟨⟨_, rfl, rfl, ho.1⟩, by decide, by decide, by decide⟩ | exact decP_iff.2 ⟨⟨_, rfl, rfl, ho.2⟩, by decide, by decide, by decide⟩ | decide)
 rw [Tr.run_ok]
 rfl
include hG in
theorem rSp2 (hT : qu G) (p0 p1 : Lz) (i : Nat) (hi : i < n) (hn : n <= 3) (ho : okL l (Q i)) : Rnd Tryz.prog G Tryz.f11.ntmps 0 [1, 8, 9, 43, 44, 45] bSp (stSp n Q lk l 1066 (.sl 1 24 0 2) [some ⟨24, .vals [nowP p0 260, nowP p1 663]⟩] (i : Nat)) .normal
  (stSp n Q lk (nx_ (lk i).len (Q i) l) 1469 (.sl 1 24 0 3) [some ⟨24, .vals [nowP p0 260, nowP p1 663, nowP (lturn (Q i) l) 1066]⟩] ((i + 1 : Nat) : Int)) := by
 refine qb hG (orcRSp hG hT 1066 (cosS (Q i)) (sinS (Q i)) (mulS l.C (cosS (Q i))) (mulS l.S (sinS (Q i))) (lcC (Q i) l) (cutS (lcC (Q i) l)) (mulS l.S (cosS (Q i))) (mulS l.C (sinS (Q i))) (lcS (Q i) l) (cutS (lcS (Q i) l)) (mulS (ofS (lk i).len) (cutS (lcC (Q i) l))) (mulS (ofS (lk i).len) (cutS (lcS (Q i) l))) (addS l.X (mulS (ofS (lk i).len) (cutS (lcC (Q i) l)))) (addS l.Y (mulS (ofS (lk i).len) (cutS (lcS (Q i) l))))) mix (L := []) (pol := polSp) (LpsOK.none (by kernel_rfl)) (Nat.zero_le _) ?_
 rw [tSp2, Int.toNat_natCast]
 repeat (refine Eq.trans (Tr.run_t ?_) ?_; first | (simp only [Bool.and_eq_true, decide_eq_true_eq]; omega) | exact decP_iff.2 ⟨⟨_, _, rfl, rfl⟩, by decide, by decide, by decide, by decide⟩ | exact decP_iff.2 ⟨⟨ofS _, _, rfl, rfl⟩, by decide, by decide, by decide, by decide⟩ | exact decP_iff.2 ⟨_, rfl, rfl⟩ | exact decP_iff.2 ⟨⟨_, rfl, rfl, ho.1⟩, by decide, by decide, by decide⟩ | exact decP_iff.2 ⟨⟨_, rfl, rfl, ho.2⟩, by decide, by decide, by decide⟩ | decide)
 rw [Tr.run_ok]
 rfl
end
theorem okL_of {b : Fr} {Q : Nat -> Sp} {L : Nat -> Rat} (i : Nat) : okL (lzE b Q L i) (Q i) := by
 have h := lzE_has (b := b) (Q := Q) (q := fun j => (Q j).lo) (L := L) i fun j _ => (Q j).has_lo
 obtain ⟨c, s⟩ := lc_has h (Q i).has_lo
 have bd := cs_bd (thH (endR b (fun j => (Q j).lo) L i).h (endR b (fun j => (Q j).lo) L i).t false (Q i).lo) (thT (endR b (fun j => (Q j).lo) L i).h (endR b (fun j => (Q j).lo) L i).t false (Q i).lo)
 exact ⟨cut_ok c bd.1.1 bd.1.2, cut_ok s bd.2.1 bd.2.2⟩
include hG in
theorem gC0_c (hT : qu G) : qc Tryz.prog G 16 (gC0 (cosR false) 300) := by
 intro args hs K y h
 unfold gC0 at h
 split at h
 case h_2 => cases h
 exact ⟨_, _, (pc_spec (gk133 hG hT) (args := [.agg [.bl false, .q _ 64]]) (hs := []) (r := .q (cosR false _) (4 * 64 + 4)) (hs' := []) rfl).le (q_rle rfl (by omega)) (.refl _), h⟩
include hG in
theorem gC0_s (hT : qu G) : qc Tryz.prog G 17 (gC0 (qx false) 301) := by
 intro args hs K y h
 unfold gC0 at h
 split at h
 case h_2 => cases h
 exact ⟨_, _, (pc_spec (gk134 hG hT) (args := [.agg [.bl false, .q _ 64]]) (hs := []) (r := .q (qx false _) (4 * 64 + 4)) (hs' := []) rfl).le (q_rle rfl (by omega)) (.refl _), h⟩
include hG in
theorem gO0_ok (hT : qu G) : qc Tryz.prog G 41 gO0 := by
 intro args hs K y h
 unfold gO0 at h
 split at h
 case h_4 => cases h
 ·exact ⟨_, _, (pc_spec (gkOf hG hT) (args := [.q _ 64]) (hs := []) (r := .agg [.q _ 64, .q _ 64]) (hs' := []) rfl).le (rle_of_vle (fun _ => rfl) (fun _ => rfl) (VLe.agg (vllc (vle_qm (by omega)) (vllc (vle_qm (by omega)) vll0)))) (.refl _), h⟩
 ·exact ⟨_, _, pc_spec (gkOf hG hT) (args := [.q _ 300]) (hs := []) (hs' := []) rfl, h⟩
 ·exact ⟨_, _, pc_spec (gkOf hG hT) (args := [.q _ 301]) (hs := []) (hs' := []) rfl, h⟩
include hG in
theorem pcHas (A : Am) (hA : armB A = true) : PC Tryz.prog G 40 [qw A, .i .i64 A.n] [] (.i .i64 0) [] :=
 pc_spec (ok85 hG) (Tr.run_t (decP_iff.2 ⟨qw A, A, rfl, .refl _, hA⟩))
def nowW (l : Lz) : PV := .agg [.agg [.q l.X.lo 1500, .q l.X.hi 1500], .agg [.q l.Y.lo 1500, .q l.Y.hi 1500], .agg [.q l.C.lo 301, .q l.C.hi 301], .agg [.q l.S.lo 301, .q l.S.hi 301]]
theorem sp_vle {r : Sp} {n w : Nat} (h : n <= w) : VLe (.agg [.q r.lo n, .q r.hi n]) (.agg [.q r.lo w, .q r.hi w]) := VLe.agg (vllc (vle_qm h) (vllc (vle_qm h) vll0))
theorem now_le {l : Lz} {W : Nat} (h : W <= 1500) : VLe (nowP l W) (nowW l) := VLe.agg (vllc (sp_vle h) (vllc (sp_vle h) (vllc (sp_vle (by omega)) (vllc (sp_vle (by omega)) vll0))))
def lzs (A : Am) (Q : Nat -> Sp) (i : Nat) : Lz := lzA (bsF A) Q (fun j => (A.lk j).len) A.n i
include hG in
theorem pcSp (hT : qu G) (A : Am) (hA : armB A = true) (Q : Nat -> Sp) :
  PC Tryz.prog G 11 [qw A, .lst 6 (spsC A.n Q)] [] (.tup [.fr 24 (.fn (A.n + 1) (fun i => nowW (lzs A Q i))), .i .i64 0]) [] := by
 obtain ⟨a1, a2, a3, a4, h1, h3, a7⟩ := armB_c hA
 have orc : OrcOK Tryz.prog G (OSp A A.n) := .cons (gC0_c hG hT) (.cons (gC0_s hG hT) (.cons (cst_t (pcHas hG A hA)) (.cons (gO0_ok hG hT) .nil)))
 have E := fun i => okL_of (b := bsF A) (Q := Q) (L := fun j => (A.lk j).len) i
 have x1 := rSp0 hG A.n Q A.lk (lzE (bsF A) Q (fun j => (A.lk j).len) 0) hT 0 (by omega) h3 (E 0)
 have hcs : A.n = 1 \/ A.n = 2 \/ A.n = 3 := by omega
 have ex1 : A.n = 1 -> Goes (Rnd Tryz.prog G Tryz.f11.ntmps 0 [1, 8, 9, 43, 44, 45] bSp) (stSp A.n Q A.lk (lz0 (bsF A)) 260 .nil [] 0) (.exit 0) (stSp A.n Q A.lk (lzE (bsF A) Q (fun j => (A.lk j).len) 1) 663 (.sl 1 24 0 1) [some ⟨24, .vals [nowP (lzF (bsF A) Q (fun j => (A.lk j).len) 0) 260]⟩] 1) := fun hn => by
  refine .more _ _ _ _ x1 (.last _ _ _ ?_ (by simp))
  refine qb hG (orcRSp hG hT 663 (ofS 0) (ofS 0) (ofS 0) (ofS 0) (ofS 0) (ofS 0) (ofS 0) (ofS 0) (ofS 0) (ofS 0) (ofS 0) (ofS 0) (ofS 0) (ofS 0)) mix (L := []) (pol := polSp) (LpsOK.none (by kernel_rfl)) (Nat.zero_le _) ?_
  rw [tSp1, Tr.run_f (decide_eq_false (by omega)), Tr.run_ok]
  rfl
 rcases hcs with hn | hn | hn
 ·refine (ql hG orc mix enSp (hs := []) (pol := polSp) (L := [(8, lcst (stSp A.n Q A.lk (lz0 (bsF A)) 260 .nil [] 0) (.exit 0) (stSp A.n Q A.lk (lzE (bsF A) Q (fun j => (A.lk j).len) 1) 663 (.sl 1 24 0 1) [some ⟨24, .vals [nowP (lzF (bsF A) Q (fun j => (A.lk j).len) 0) 260]⟩] 1))]) (lps1 (b := bSp) (live := [1, 8, 9, 43, 44, 45]) (m := 0) (by kernel_rfl) (by kernel_rfl) (by kernel_rfl) (lcst_ok (ex1 hn))) (r := .tup [.fr 24 (.vals [nowP (lzF (bsF A) Q (fun j => (A.lk j).len) 0) 260, nowP (lzE (bsF A) Q (fun j => (A.lk j).len) 1) 663]), .i .i64 0]) (hs' := []) ?_).le ?_ (.refl _)
  ·refine (eSp1 A Q _ _).trans ?_
   rw [Tr.run_t (decP_iff.2 ⟨rfl, trivial⟩)]
   refine Eq.trans (Tr.run_t ?_) ?_
   ·exact decP_iff.2 rfl
   ·rw [Tr.run_ok]; rfl
  ·refine frs_le0 _ _ _ _ (by rw [hn]; rfl) fun i v hi => ?_
   match i, hi with
   | 0, hi => simp at hi; subst hi; exact ⟨rfl, by show VLe _ (nowW (lzA _ _ _ A.n 0)); rw [lzA, if_pos (by omega)]; exact now_le (by omega)⟩
   | 1, hi => simp at hi; subst hi; exact ⟨rfl, by show VLe _ (nowW (lzA _ _ _ A.n 1)); rw [lzA, if_neg (by omega), hn]; exact now_le (by omega)⟩
   | i + 2, hi => simp at hi
 ·have x2 := rSp1 hG A.n Q A.lk (lzE (bsF A) Q (fun j => (A.lk j).len) 1) hT (lzF (bsF A) Q (fun j => (A.lk j).len) 0) 1 (by omega) h3 (E 1)
  have g : Goes (Rnd Tryz.prog G Tryz.f11.ntmps 0 [1, 8, 9, 43, 44, 45] bSp) (stSp A.n Q A.lk (lz0 (bsF A)) 260 .nil [] 0) (.exit 0) (stSp A.n Q A.lk (lzE (bsF A) Q (fun j => (A.lk j).len) 2) 1066 (.sl 1 24 0 2) [some ⟨24, .vals [nowP (lzF (bsF A) Q (fun j => (A.lk j).len) 0) 260, nowP (lzF (bsF A) Q (fun j => (A.lk j).len) 1) 663]⟩] 2) := by
   refine .more _ _ _ _ x1 (.more _ _ _ _ x2 (.last _ _ _ ?_ (by simp)))
   refine qb hG (orcRSp hG hT 1066 (ofS 0) (ofS 0) (ofS 0) (ofS 0) (ofS 0) (ofS 0) (ofS 0) (ofS 0) (ofS 0) (ofS 0) (ofS 0) (ofS 0) (ofS 0) (ofS 0)) mix (L := []) (pol := polSp) (LpsOK.none (by kernel_rfl)) (Nat.zero_le _) ?_
   refine (tSp2 A.n Q A.lk _ _ _ _ _ _ _ _ _ _ _ _ _ _ _ _ _ _).trans ?_
   rw [Tr.run_f (decide_eq_false (by omega)), Tr.run_ok]
   rfl
  refine (ql hG orc mix enSp (hs := []) (pol := polSp) (L := [(8, lcst (stSp A.n Q A.lk (lz0 (bsF A)) 260 .nil [] 0) (.exit 0) (stSp A.n Q A.lk (lzE (bsF A) Q (fun j => (A.lk j).len) 2) 1066 (.sl 1 24 0 2) [some ⟨24, .vals [nowP (lzF (bsF A) Q (fun j => (A.lk j).len) 0) 260, nowP (lzF (bsF A) Q (fun j => (A.lk j).len) 1) 663]⟩] 2))]) (lps1 (b := bSp) (live := [1, 8, 9, 43, 44, 45]) (m := 0) (by kernel_rfl) (by kernel_rfl) (by kernel_rfl) (lcst_ok g)) (r := .tup [.fr 24 (.vals [nowP (lzF (bsF A) Q (fun j => (A.lk j).len) 0) 260, nowP (lzF (bsF A) Q (fun j => (A.lk j).len) 1) 663, nowP (lzE (bsF A) Q (fun j => (A.lk j).len) 2) 1066]), .i .i64 0]) (hs' := []) ?_).le ?_ (.refl _)
  ·refine (eSp2 A Q _ _ _).trans ?_
   rw [Tr.run_t (decP_iff.2 ⟨rfl, trivial⟩)]
   refine Eq.trans (Tr.run_t ?_) ?_
   ·exact decP_iff.2 rfl
   ·rw [Tr.run_ok]; rfl
  ·refine frs_le0 _ _ _ _ (by rw [hn]; rfl) fun i v hi => ?_
   match i, hi with
   | 0, hi => simp at hi; subst hi; exact ⟨rfl, by show VLe _ (nowW (lzA _ _ _ A.n 0)); rw [lzA, if_pos (by omega)]; exact now_le (by omega)⟩
   | 1, hi => simp at hi; subst hi; exact ⟨rfl, by show VLe _ (nowW (lzA _ _ _ A.n 1)); rw [lzA, if_pos (by omega)]; exact now_le (by omega)⟩
   | 2, hi => simp at hi; subst hi; exact ⟨rfl, by show VLe _ (nowW (lzA _ _ _ A.n 2)); rw [lzA, if_neg (by omega), hn]; exact now_le (by omega)⟩
   | i + 3, hi => simp at hi
 ·have x2 := rSp1 hG A.n Q A.lk (lzE (bsF A) Q (fun j => (A.lk j).len) 1) hT (lzF (bsF A) Q (fun j => (A.lk j).len) 0) 1 (by omega) h3 (E 1)
  have x3 := rSp2 hG A.n Q A.lk (lzE (bsF A) Q (fun j => (A.lk j).len) 2) hT (lzF (bsF A) Q (fun j => (A.lk j).len) 0) (lzF (bsF A) Q (fun j => (A.lk j).len) 1) 2 (by omega) h3 (E 2)
  have g : Goes (Rnd Tryz.prog G Tryz.f11.ntmps 0 [1, 8, 9, 43, 44, 45] bSp) (stSp A.n Q A.lk (lz0 (bsF A)) 260 .nil [] 0) (.exit 0) (stSp A.n Q A.lk (lzE (bsF A) Q (fun j => (A.lk j).len) 3) 1469 (.sl 1 24 0 3) [some ⟨24, .vals [nowP (lzF (bsF A) Q (fun j => (A.lk j).len) 0) 260, nowP (lzF (bsF A) Q (fun j => (A.lk j).len) 1) 663, nowP (lzF (bsF A) Q (fun j => (A.lk j).len) 2) 1066]⟩] 3) := by
   refine .more _ _ _ _ x1 (.more _ _ _ _ x2 (.more _ _ _ _ x3 (.last _ _ _ ?_ (by simp))))
   refine qb hG .nil mix (L := []) (pol := polSp) (LpsOK.none (by kernel_rfl)) (Nat.zero_le _) ?_
   refine (tSp3 A.n Q A.lk _ _ _ _ _).trans ?_
   rw [Tr.run_f (decide_eq_false (by omega)), Tr.run_ok]
   rfl
  refine (ql hG orc mix enSp (hs := []) (pol := polSp) (L := [(8, lcst (stSp A.n Q A.lk (lz0 (bsF A)) 260 .nil [] 0) (.exit 0) (stSp A.n Q A.lk (lzE (bsF A) Q (fun j => (A.lk j).len) 3) 1469 (.sl 1 24 0 3) [some ⟨24, .vals [nowP (lzF (bsF A) Q (fun j => (A.lk j).len) 0) 260, nowP (lzF (bsF A) Q (fun j => (A.lk j).len) 1) 663, nowP (lzF (bsF A) Q (fun j => (A.lk j).len) 2) 1066]⟩] 3))]) (lps1 (b := bSp) (live := [1, 8, 9, 43, 44, 45]) (m := 0) (by kernel_rfl) (by kernel_rfl) (by kernel_rfl) (lcst_ok g)) (r := .tup [.fr 24 (.vals [nowP (lzF (bsF A) Q (fun j => (A.lk j).len) 0) 260, nowP (lzF (bsF A) Q (fun j => (A.lk j).len) 1) 663, nowP (lzF (bsF A) Q (fun j => (A.lk j).len) 2) 1066, nowP (lzE (bsF A) Q (fun j => (A.lk j).len) 3) 1469]), .i .i64 0]) (hs' := []) ?_).le ?_ (.refl _)
  ·refine (eSp3 A Q _ _ _ _).trans ?_
   rw [Tr.run_t (decP_iff.2 ⟨rfl, trivial⟩)]
   refine Eq.trans (Tr.run_t ?_) ?_
   ·exact decP_iff.2 rfl
   ·rw [Tr.run_ok]; rfl
  ·refine frs_le0 _ _ _ _ (by rw [hn]; rfl) fun i v hi => ?_
   match i, hi with
   | 0, hi => simp at hi; subst hi; exact ⟨rfl, by show VLe _ (nowW (lzA _ _ _ A.n 0)); rw [lzA, if_pos (by omega)]; exact now_le (by omega)⟩
   | 1, hi => simp at hi; subst hi; exact ⟨rfl, by show VLe _ (nowW (lzA _ _ _ A.n 1)); rw [lzA, if_pos (by omega)]; exact now_le (by omega)⟩
   | 2, hi => simp at hi; subst hi; exact ⟨rfl, by show VLe _ (nowW (lzA _ _ _ A.n 2)); rw [lzA, if_pos (by omega)]; exact now_le (by omega)⟩
   | 3, hi => simp at hi; subst hi; exact ⟨rfl, by show VLe _ (nowW (lzA _ _ _ A.n 3)); rw [lzA, if_neg (by omega), hn]; exact now_le (by omega)⟩
   | i + 4, hi => simp at hi
end
section
open Go
set_option maxRecDepth 100000
variable {G : World -> (Nat -> Prop) -> Prop} (hG : GOk G)
theorem enSs : Enters Tryz.prog 12 Tryz.f12 (qg Tryz.f12) := ⟨Tryz.func12, by kernel_rfl, rfl⟩
def bSs : Code := (qj (qg Tryz.f12)).getD 0 .skip
def polSs : Pol := { live := [(3, [0, 1, 5, 11, 12])] }
def OSs : Orc := [(27, g86), (48, g80)]
def lSs : qC := unr Tryz.prog OSs [] polSs Tryz.f12.ntmps 0 [0, 1, 5, 11, 12] bSs 4
theorem eSs1 (a a' : Rat) (w : Nat) : (evF Tryz.prog OSs [(3, lSs)] polSs Tryz.f12 [.lst 3 (.rats w [a]), .lst 3 (.rats w [a'])] [] qm).run =
 (Tr.br (decide ((0 : Int) < if (↑[a'].length : Int) < (↑[a].length : Int) then (↑[a'].length : Int) else (↑[a].length : Int))) (.br (ix ((0 : Int)) ((↑[a].length : Int))) (.br (ix ((0 : Int)) ((↑[a'].length : Int))) (.br ((w + w).ble 400000) (.br (ix ((0 : Int)) ((↑[a].length : Int))) (.br (ix ((0 : Int)) ((↑[a'].length : Int))) (.br ((w + w).ble 400000) (.br (Nat.blt (0 : Nat) [PV.agg [PV.q (mnR ([a].getD (0 : Nat) (0 : Rat)) ([a'].getD (0 : Nat) (0 : Rat))) (w.max w), PV.q (mxR ([a].getD (0 : Nat) (0 : Rat)) ([a'].getD (0 : Nat) (0 : Rat))) (w.max w)]].length && [PV.agg [PV.q (mnR ([a].getD (0 : Nat) (0 : Rat)) ([a'].getD (0 : Nat) (0 : Rat))) (w.max w), PV.q (mxR ([a].getD (0 : Nat) (0 : Rat)) ([a'].getD (0 : Nat) (0 : Rat))) (w.max w)]].length.ble 4294967296) (.br (decide ((1 : Int) < if (↑[a'].length : Int) < (↑[a].length : Int) then (↑[a'].length : Int) else (↑[a].length : Int))) (.br (ix ((1 : Int)) ((↑[a].length : Int))) (.br (ix ((1 : Int)) ((↑[a'].length : Int))) (.br ((w + w).ble 400000) (.br (ix ((1 : Int)) ((↑[a].length : Int))) (.br (ix ((1 : Int)) ((↑[a'].length : Int))) (.br ((w + w).ble 400000) (.br (([PV.agg [PV.q (mnR ([a].getD (0 : Nat) (0 : Rat)) ([a'].getD (0 : Nat) (0 : Rat))) (w.max w), PV.q (mxR ([a].getD (0 : Nat) (0 : Rat)) ([a'].getD (0 : Nat) (0 : Rat))) (w.max w)]].length + [PV.agg [PV.q (mnR ([a].getD (1 : Nat) (0 : Rat)) ([a'].getD (1 : Nat) (0 : Rat))) (w.max w), PV.q (mxR ([a].getD (1 : Nat) (0 : Rat)) ([a'].getD (1 : Nat) (0 : Rat))) (w.max w)]].length).ble 4294967296) (.br (decide ((2 : Int) < if (↑[a'].length : Int) < (↑[a].length : Int) then (↑[a'].length : Int) else (↑[a].length : Int))) (.br (ix ((2 : Int)) ((↑[a].length : Int))) (.br (ix ((2 : Int)) ((↑[a'].length : Int))) (.br ((w + w).ble 400000) (.br (ix ((2 : Int)) ((↑[a].length : Int))) (.br (ix ((2 : Int)) ((↑[a'].length : Int))) (.br ((w + w).ble 400000) (.br (([PV.agg [PV.q (mnR ([a].getD (0 : Nat) (0 : Rat)) ([a'].getD (0 : Nat) (0 : Rat))) (w.max w), PV.q (mxR ([a].getD (0 : Nat) (0 : Rat)) ([a'].getD (0 : Nat) (0 : Rat))) (w.max w)]].length + [PV.agg [PV.q (mnR ([a].getD (1 : Nat) (0 : Rat)) ([a'].getD (1 : Nat) (0 : Rat))) (w.max w), PV.q (mxR ([a].getD (1 : Nat) (0 : Rat)) ([a'].getD (1 : Nat) (0 : Rat))) (w.max w)]].length + [PV.agg [PV.q (mnR ([a].getD (2 : Nat) (0 : Rat)) ([a'].getD (2 : Nat) (0 : Rat))) (w.max w), PV.q (mxR ([a].getD (2 : Nat) (0 : Rat)) ([a'].getD (2 : Nat) (0 : Rat))) (w.max w)]].length).ble 4294967296) (.br (decide ((3 : Int) < if (↑[a'].length : Int) < (↑[a].length : Int) then (↑[a'].length : Int) else (↑[a].length : Int))) (.br (ix ((3 : Int)) ((↑[a].length : Int))) (.br (ix ((3 : Int)) ((↑[a'].length : Int))) (.br ((w + w).ble 400000) (.br (ix ((3 : Int)) ((↑[a].length : Int))) (.br (ix ((3 : Int)) ((↑[a'].length : Int))) (.br ((w + w).ble 400000) (.br (([PV.agg [PV.q (mnR ([a].getD (0 : Nat) (0 : Rat)) ([a'].getD (0 : Nat) (0 : Rat))) (w.max w), PV.q (mxR ([a].getD (0 : Nat) (0 : Rat)) ([a'].getD (0 : Nat) (0 : Rat))) (w.max w)]].length + [PV.agg [PV.q (mnR ([a].getD (1 : Nat) (0 : Rat)) ([a'].getD (1 : Nat) (0 : Rat))) (w.max w), PV.q (mxR ([a].getD (1 : Nat) (0 : Rat)) ([a'].getD (1 : Nat) (0 : Rat))) (w.max w)]].length + [PV.agg [PV.q (mnR ([a].getD (2 : Nat) (0 : Rat)) ([a'].getD (2 : Nat) (0 : Rat))) (w.max w), PV.q (mxR ([a].getD (2 : Nat) (0 : Rat)) ([a'].getD (2 : Nat) (0 : Rat))) (w.max w)]].length + [PV.agg [PV.q (mnR ([a].getD (3 : Nat) (0 : Rat)) ([a'].getD (3 : Nat) (0 : Rat))) (w.max w), PV.q (mxR ([a].getD (3 : Nat) (0 : Rat)) ([a'].getD (3 : Nat) (0 : Rat))) (w.max w)]].length).ble 4294967296) (.no 16) (.no 6002)) (.no 1)) (.no 6007)) (.no 6011)) (.no 1)) (.no 6016)) (.no 6020)) (.ok (.ret (PV.fr 6 (.vals [PV.agg [PV.q (mnR ([a].getD (0 : Nat) (0 : Rat)) ([a'].getD (0 : Nat) (0 : Rat))) (w.max w), PV.q (mxR ([a].getD (0 : Nat) (0 : Rat)) ([a'].getD (0 : Nat) (0 : Rat))) (w.max w)], PV.agg [PV.q (mnR ([a].getD (1 : Nat) (0 : Rat)) ([a'].getD (1 : Nat) (0 : Rat))) (w.max w), PV.q (mxR ([a].getD (1 : Nat) (0 : Rat)) ([a'].getD (1 : Nat) (0 : Rat))) (w.max w)], PV.agg [PV.q (mnR ([a].getD (2 : Nat) (0 : Rat)) ([a'].getD (2 : Nat) (0 : Rat))) (w.max w), PV.q (mxR ([a].getD (2 : Nat) (0 : Rat)) ([a'].getD (2 : Nat) (0 : Rat))) (w.max w)]])) []))) (.no 6002)) (.no 1)) (.no 6007)) (.no 6011)) (.no 1)) (.no 6016)) (.no 6020)) (.ok (.ret (PV.fr 6 (.vals [PV.agg [PV.q (mnR ([a].getD (0 : Nat) (0 : Rat)) ([a'].getD (0 : Nat) (0 : Rat))) (w.max w), PV.q (mxR ([a].getD (0 : Nat) (0 : Rat)) ([a'].getD (0 : Nat) (0 : Rat))) (w.max w)], PV.agg [PV.q (mnR ([a].getD (1 : Nat) (0 : Rat)) ([a'].getD (1 : Nat) (0 : Rat))) (w.max w), PV.q (mxR ([a].getD (1 : Nat) (0 : Rat)) ([a'].getD (1 : Nat) (0 : Rat))) (w.max w)]])) []))) (.no 6002)) (.no 1)) (.no 6007)) (.no 6011)) (.no 1)) (.no 6016)) (.no 6020)) (.ok (.ret (PV.fr 6 (.vals [PV.agg [PV.q (mnR ([a].getD (0 : Nat) (0 : Rat)) ([a'].getD (0 : Nat) (0 : Rat))) (w.max w), PV.q (mxR ([a].getD (0 : Nat) (0 : Rat)) ([a'].getD (0 : Nat) (0 : Rat))) (w.max w)]])) []))) (.no 6002)) (.no 1)) (.no 6007)) (.no 6011)) (.no 1)) (.no 6016)) (.no 6020)) (.ok (.ret PV.nil []))).run := by kernel_rfl
theorem eSs2 (a b a' b' : Rat) (w : Nat) : (evF Tryz.prog OSs [(3, lSs)] polSs Tryz.f12 [.lst 3 (.rats w [a, b]), .lst 3 (.rats w [a', b'])] [] qm).run =
 (Tr.br (decide ((0 : Int) < if (↑[a', b'].length : Int) < (↑[a, b].length : Int) then (↑[a', b'].length : Int) else (↑[a, b].length : Int))) (.br (ix ((0 : Int)) ((↑[a, b].length : Int))) (.br (ix ((0 : Int)) ((↑[a', b'].length : Int))) (.br ((w + w).ble 400000) (.br (ix ((0 : Int)) ((↑[a, b].length : Int))) (.br (ix ((0 : Int)) ((↑[a', b'].length : Int))) (.br ((w + w).ble 400000) (.br (Nat.blt (0 : Nat) [PV.agg [PV.q (mnR ([a, b].getD (0 : Nat) (0 : Rat)) ([a', b'].getD (0 : Nat) (0 : Rat))) (w.max w), PV.q (mxR ([a, b].getD (0 : Nat) (0 : Rat)) ([a', b'].getD (0 : Nat) (0 : Rat))) (w.max w)]].length && [PV.agg [PV.q (mnR ([a, b].getD (0 : Nat) (0 : Rat)) ([a', b'].getD (0 : Nat) (0 : Rat))) (w.max w), PV.q (mxR ([a, b].getD (0 : Nat) (0 : Rat)) ([a', b'].getD (0 : Nat) (0 : Rat))) (w.max w)]].length.ble 4294967296) (.br (decide ((1 : Int) < if (↑[a', b'].length : Int) < (↑[a, b].length : Int) then (↑[a', b'].length : Int) else (↑[a, b].length : Int))) (.br (ix ((1 : Int)) ((↑[a, b].length : Int))) (.br (ix ((1 : Int)) ((↑[a', b'].length : Int))) (.br ((w + w).ble 400000) (.br (ix ((1 : Int)) ((↑[a, b].length : Int))) (.br (ix ((1 : Int)) ((↑[a', b'].length : Int))) (.br ((w + w).ble 400000) (.br (([PV.agg [PV.q (mnR ([a, b].getD (0 : Nat) (0 : Rat)) ([a', b'].getD (0 : Nat) (0 : Rat))) (w.max w), PV.q (mxR ([a, b].getD (0 : Nat) (0 : Rat)) ([a', b'].getD (0 : Nat) (0 : Rat))) (w.max w)]].length + [PV.agg [PV.q (mnR ([a, b].getD (1 : Nat) (0 : Rat)) ([a', b'].getD (1 : Nat) (0 : Rat))) (w.max w), PV.q (mxR ([a, b].getD (1 : Nat) (0 : Rat)) ([a', b'].getD (1 : Nat) (0 : Rat))) (w.max w)]].length).ble 4294967296) (.br (decide ((2 : Int) < if (↑[a', b'].length : Int) < (↑[a, b].length : Int) then (↑[a', b'].length : Int) else (↑[a, b].length : Int))) (.br (ix ((2 : Int)) ((↑[a, b].length : Int))) (.br (ix ((2 : Int)) ((↑[a', b'].length : Int))) (.br ((w + w).ble 400000) (.br (ix ((2 : Int)) ((↑[a, b].length : Int))) (.br (ix ((2 : Int)) ((↑[a', b'].length : Int))) (.br ((w + w).ble 400000) (.br (([PV.agg [PV.q (mnR ([a, b].getD (0 : Nat) (0 : Rat)) ([a', b'].getD (0 : Nat) (0 : Rat))) (w.max w), PV.q (mxR ([a, b].getD (0 : Nat) (0 : Rat)) ([a', b'].getD (0 : Nat) (0 : Rat))) (w.max w)]].length + [PV.agg [PV.q (mnR ([a, b].getD (1 : Nat) (0 : Rat)) ([a', b'].getD (1 : Nat) (0 : Rat))) (w.max w), PV.q (mxR ([a, b].getD (1 : Nat) (0 : Rat)) ([a', b'].getD (1 : Nat) (0 : Rat))) (w.max w)]].length + [PV.agg [PV.q (mnR ([a, b].getD (2 : Nat) (0 : Rat)) ([a', b'].getD (2 : Nat) (0 : Rat))) (w.max w), PV.q (mxR ([a, b].getD (2 : Nat) (0 : Rat)) ([a', b'].getD (2 : Nat) (0 : Rat))) (w.max w)]].length).ble 4294967296) (.br (decide ((3 : Int) < if (↑[a', b'].length : Int) < (↑[a, b].length : Int) then (↑[a', b'].length : Int) else (↑[a, b].length : Int))) (.br (ix ((3 : Int)) ((↑[a, b].length : Int))) (.br (ix ((3 : Int)) ((↑[a', b'].length : Int))) (.br ((w + w).ble 400000) (.br (ix ((3 : Int)) ((↑[a, b].length : Int))) (.br (ix ((3 : Int)) ((↑[a', b'].length : Int))) (.br ((w + w).ble 400000) (.br (([PV.agg [PV.q (mnR ([a, b].getD (0 : Nat) (0 : Rat)) ([a', b'].getD (0 : Nat) (0 : Rat))) (w.max w), PV.q (mxR ([a, b].getD (0 : Nat) (0 : Rat)) ([a', b'].getD (0 : Nat) (0 : Rat))) (w.max w)]].length + [PV.agg [PV.q (mnR ([a, b].getD (1 : Nat) (0 : Rat)) ([a', b'].getD (1 : Nat) (0 : Rat))) (w.max w), PV.q (mxR ([a, b].getD (1 : Nat) (0 : Rat)) ([a', b'].getD (1 : Nat) (0 : Rat))) (w.max w)]].length + [PV.agg [PV.q (mnR ([a, b].getD (2 : Nat) (0 : Rat)) ([a', b'].getD (2 : Nat) (0 : Rat))) (w.max w), PV.q (mxR ([a, b].getD (2 : Nat) (0 : Rat)) ([a', b'].getD (2 : Nat) (0 : Rat))) (w.max w)]].length + [PV.agg [PV.q (mnR ([a, b].getD (3 : Nat) (0 : Rat)) ([a', b'].getD (3 : Nat) (0 : Rat))) (w.max w), PV.q (mxR ([a, b].getD (3 : Nat) (0 : Rat)) ([a', b'].getD (3 : Nat) (0 : Rat))) (w.max w)]].length).ble 4294967296) (.no 16) (.no 6002)) (.no 1)) (.no 6007)) (.no 6011)) (.no 1)) (.no 6016)) (.no 6020)) (.ok (.ret (PV.fr 6 (.vals [PV.agg [PV.q (mnR ([a, b].getD (0 : Nat) (0 : Rat)) ([a', b'].getD (0 : Nat) (0 : Rat))) (w.max w), PV.q (mxR ([a, b].getD (0 : Nat) (0 : Rat)) ([a', b'].getD (0 : Nat) (0 : Rat))) (w.max w)], PV.agg [PV.q (mnR ([a, b].getD (1 : Nat) (0 : Rat)) ([a', b'].getD (1 : Nat) (0 : Rat))) (w.max w), PV.q (mxR ([a, b].getD (1 : Nat) (0 : Rat)) ([a', b'].getD (1 : Nat) (0 : Rat))) (w.max w)], PV.agg [PV.q (mnR ([a, b].getD (2 : Nat) (0 : Rat)) ([a', b'].getD (2 : Nat) (0 : Rat))) (w.max w), PV.q (mxR ([a, b].getD (2 : Nat) (0 : Rat)) ([a', b'].getD (2 : Nat) (0 : Rat))) (w.max w)]])) []))) (.no 6002)) (.no 1)) (.no 6007)) (.no 6011)) (.no 1)) (.no 6016)) (.no 6020)) (.ok (.ret (PV.fr 6 (.vals [PV.agg [PV.q (mnR ([a, b].getD (0 : Nat) (0 : Rat)) ([a', b'].getD (0 : Nat) (0 : Rat))) (w.max w), PV.q (mxR ([a, b].getD (0 : Nat) (0 : Rat)) ([a', b'].getD (0 : Nat) (0 : Rat))) (w.max w)], PV.agg [PV.q (mnR ([a, b].getD (1 : Nat) (0 : Rat)) ([a', b'].getD (1 : Nat) (0 : Rat))) (w.max w), PV.q (mxR ([a, b].getD (1 : Nat) (0 : Rat)) ([a', b'].getD (1 : Nat) (0 : Rat))) (w.max w)]])) []))) (.no 6002)) (.no 1)) (.no 6007)) (.no 6011)) (.no 1)) (.no 6016)) (.no 6020)) (.ok (.ret (PV.fr 6 (.vals [PV.agg [PV.q (mnR ([a, b].getD (0 : Nat) (0 : Rat)) ([a', b'].getD (0 : Nat) (0 : Rat))) (w.max w), PV.q (mxR ([a, b].getD (0 : Nat) (0 : Rat)) ([a', b'].getD (0 : Nat) (0 : Rat))) (w.max w)]])) []))) (.no 6002)) (.no 1)) (.no 6007)) (.no 6011)) (.no 1)) (.no 6016)) (.no 6020)) (.ok (.ret PV.nil []))).run := by kernel_rfl
theorem eSs3 (a b c a' b' c' : Rat) (w : Nat) : (evF Tryz.prog OSs [(3, lSs)] polSs Tryz.f12 [.lst 3 (.rats w [a, b, c]), .lst 3 (.rats w [a', b', c'])] [] qm).run =
 (Tr.br (decide ((0 : Int) < if (↑[a', b', c'].length : Int) < (↑[a, b, c].length : Int) then (↑[a', b', c'].length : Int) else (↑[a, b, c].length : Int))) (.br (ix ((0 : Int)) ((↑[a, b, c].length : Int))) (.br (ix ((0 : Int)) ((↑[a', b', c'].length : Int))) (.br ((w + w).ble 400000) (.br (ix ((0 : Int)) ((↑[a, b, c].length : Int))) (.br (ix ((0 : Int)) ((↑[a', b', c'].length : Int))) (.br ((w + w).ble 400000) (.br (Nat.blt (0 : Nat) [PV.agg [PV.q (mnR ([a, b, c].getD (0 : Nat) (0 : Rat)) ([a', b', c'].getD (0 : Nat) (0 : Rat))) (w.max w), PV.q (mxR ([a, b, c].getD (0 : Nat) (0 : Rat)) ([a', b', c'].getD (0 : Nat) (0 : Rat))) (w.max w)]].length && [PV.agg [PV.q (mnR ([a, b, c].getD (0 : Nat) (0 : Rat)) ([a', b', c'].getD (0 : Nat) (0 : Rat))) (w.max w), PV.q (mxR ([a, b, c].getD (0 : Nat) (0 : Rat)) ([a', b', c'].getD (0 : Nat) (0 : Rat))) (w.max w)]].length.ble 4294967296) (.br (decide ((1 : Int) < if (↑[a', b', c'].length : Int) < (↑[a, b, c].length : Int) then (↑[a', b', c'].length : Int) else (↑[a, b, c].length : Int))) (.br (ix ((1 : Int)) ((↑[a, b, c].length : Int))) (.br (ix ((1 : Int)) ((↑[a', b', c'].length : Int))) (.br ((w + w).ble 400000) (.br (ix ((1 : Int)) ((↑[a, b, c].length : Int))) (.br (ix ((1 : Int)) ((↑[a', b', c'].length : Int))) (.br ((w + w).ble 400000) (.br (([PV.agg [PV.q (mnR ([a, b, c].getD (0 : Nat) (0 : Rat)) ([a', b', c'].getD (0 : Nat) (0 : Rat))) (w.max w), PV.q (mxR ([a, b, c].getD (0 : Nat) (0 : Rat)) ([a', b', c'].getD (0 : Nat) (0 : Rat))) (w.max w)]].length + [PV.agg [PV.q (mnR ([a, b, c].getD (1 : Nat) (0 : Rat)) ([a', b', c'].getD (1 : Nat) (0 : Rat))) (w.max w), PV.q (mxR ([a, b, c].getD (1 : Nat) (0 : Rat)) ([a', b', c'].getD (1 : Nat) (0 : Rat))) (w.max w)]].length).ble 4294967296) (.br (decide ((2 : Int) < if (↑[a', b', c'].length : Int) < (↑[a, b, c].length : Int) then (↑[a', b', c'].length : Int) else (↑[a, b, c].length : Int))) (.br (ix ((2 : Int)) ((↑[a, b, c].length : Int))) (.br (ix ((2 : Int)) ((↑[a', b', c'].length : Int))) (.br ((w + w).ble 400000) (.br (ix ((2 : Int)) ((↑[a, b, c].length : Int))) (.br (ix ((2 : Int)) ((↑[a', b', c'].length : Int))) (.br ((w + w).ble 400000) (.br (([PV.agg [PV.q (mnR ([a, b, c].getD (0 : Nat) (0 : Rat)) ([a', b', c'].getD (0 : Nat) (0 : Rat))) (w.max w), PV.q (mxR ([a, b, c].getD (0 : Nat) (0 : Rat)) ([a', b', c'].getD (0 : Nat) (0 : Rat))) (w.max w)]].length + [PV.agg [PV.q (mnR ([a, b, c].getD (1 : Nat) (0 : Rat)) ([a', b', c'].getD (1 : Nat) (0 : Rat))) (w.max w), PV.q (mxR ([a, b, c].getD (1 : Nat) (0 : Rat)) ([a', b', c'].getD (1 : Nat) (0 : Rat))) (w.max w)]].length + [PV.agg [PV.q (mnR ([a, b, c].getD (2 : Nat) (0 : Rat)) ([a', b', c'].getD (2 : Nat) (0 : Rat))) (w.max w), PV.q (mxR ([a, b, c].getD (2 : Nat) (0 : Rat)) ([a', b', c'].getD (2 : Nat) (0 : Rat))) (w.max w)]].length).ble 4294967296) (.br (decide ((3 : Int) < if (↑[a', b', c'].length : Int) < (↑[a, b, c].length : Int) then (↑[a', b', c'].length : Int) else (↑[a, b, c].length : Int))) (.br (ix ((3 : Int)) ((↑[a, b, c].length : Int))) (.br (ix ((3 : Int)) ((↑[a', b', c'].length : Int))) (.br ((w + w).ble 400000) (.br (ix ((3 : Int)) ((↑[a, b, c].length : Int))) (.br (ix ((3 : Int)) ((↑[a', b', c'].length : Int))) (.br ((w + w).ble 400000) (.br (([PV.agg [PV.q (mnR ([a, b, c].getD (0 : Nat) (0 : Rat)) ([a', b', c'].getD (0 : Nat) (0 : Rat))) (w.max w), PV.q (mxR ([a, b, c].getD (0 : Nat) (0 : Rat)) ([a', b', c'].getD (0 : Nat) (0 : Rat))) (w.max w)]].length + [PV.agg [PV.q (mnR ([a, b, c].getD (1 : Nat) (0 : Rat)) ([a', b', c'].getD (1 : Nat) (0 : Rat))) (w.max w), PV.q (mxR ([a, b, c].getD (1 : Nat) (0 : Rat)) ([a', b', c'].getD (1 : Nat) (0 : Rat))) (w.max w)]].length + [PV.agg [PV.q (mnR ([a, b, c].getD (2 : Nat) (0 : Rat)) ([a', b', c'].getD (2 : Nat) (0 : Rat))) (w.max w), PV.q (mxR ([a, b, c].getD (2 : Nat) (0 : Rat)) ([a', b', c'].getD (2 : Nat) (0 : Rat))) (w.max w)]].length + [PV.agg [PV.q (mnR ([a, b, c].getD (3 : Nat) (0 : Rat)) ([a', b', c'].getD (3 : Nat) (0 : Rat))) (w.max w), PV.q (mxR ([a, b, c].getD (3 : Nat) (0 : Rat)) ([a', b', c'].getD (3 : Nat) (0 : Rat))) (w.max w)]].length).ble 4294967296) (.no 16) (.no 6002)) (.no 1)) (.no 6007)) (.no 6011)) (.no 1)) (.no 6016)) (.no 6020)) (.ok (.ret (PV.fr 6 (.vals [PV.agg [PV.q (mnR ([a, b, c].getD (0 : Nat) (0 : Rat)) ([a', b', c'].getD (0 : Nat) (0 : Rat))) (w.max w), PV.q (mxR ([a, b, c].getD (0 : Nat) (0 : Rat)) ([a', b', c'].getD (0 : Nat) (0 : Rat))) (w.max w)], PV.agg [PV.q (mnR ([a, b, c].getD (1 : Nat) (0 : Rat)) ([a', b', c'].getD (1 : Nat) (0 : Rat))) (w.max w), PV.q (mxR ([a, b, c].getD (1 : Nat) (0 : Rat)) ([a', b', c'].getD (1 : Nat) (0 : Rat))) (w.max w)], PV.agg [PV.q (mnR ([a, b, c].getD (2 : Nat) (0 : Rat)) ([a', b', c'].getD (2 : Nat) (0 : Rat))) (w.max w), PV.q (mxR ([a, b, c].getD (2 : Nat) (0 : Rat)) ([a', b', c'].getD (2 : Nat) (0 : Rat))) (w.max w)]])) []))) (.no 6002)) (.no 1)) (.no 6007)) (.no 6011)) (.no 1)) (.no 6016)) (.no 6020)) (.ok (.ret (PV.fr 6 (.vals [PV.agg [PV.q (mnR ([a, b, c].getD (0 : Nat) (0 : Rat)) ([a', b', c'].getD (0 : Nat) (0 : Rat))) (w.max w), PV.q (mxR ([a, b, c].getD (0 : Nat) (0 : Rat)) ([a', b', c'].getD (0 : Nat) (0 : Rat))) (w.max w)], PV.agg [PV.q (mnR ([a, b, c].getD (1 : Nat) (0 : Rat)) ([a', b', c'].getD (1 : Nat) (0 : Rat))) (w.max w), PV.q (mxR ([a, b, c].getD (1 : Nat) (0 : Rat)) ([a', b', c'].getD (1 : Nat) (0 : Rat))) (w.max w)]])) []))) (.no 6002)) (.no 1)) (.no 6007)) (.no 6011)) (.no 1)) (.no 6016)) (.no 6020)) (.ok (.ret (PV.fr 6 (.vals [PV.agg [PV.q (mnR ([a, b, c].getD (0 : Nat) (0 : Rat)) ([a', b', c'].getD (0 : Nat) (0 : Rat))) (w.max w), PV.q (mxR ([a, b, c].getD (0 : Nat) (0 : Rat)) ([a', b', c'].getD (0 : Nat) (0 : Rat))) (w.max w)]])) []))) (.no 6002)) (.no 1)) (.no 6007)) (.no 6011)) (.no 1)) (.no 6016)) (.no 6020)) (.ok (.ret PV.nil []))).run := by kernel_rfl
theorem enBt : Enters Tryz.prog 14 Tryz.f14 (qg Tryz.f14) := ⟨Tryz.func14, by kernel_rfl, rfl⟩
def bBt : Code := (qj (qg Tryz.f14)).getD 0 .skip
def polBt : Pol := { live := [(4, [0, 1, 7, 8, 17, 18])], wr := [(54, [0])] }
def OBt : Orc := [(30, s23), (52, g21), (53, g43), (54, s45), (55, g29)]
def nBt (v : PV) (p q : List Rat) (i : Int) : LS := ⟨[.lst 3 (.rats 64 p), .lst 3 (.rats 64 q), .ptr 0 1 0 0 [], .nil, .i .i64 p.length, .i .i64 i], [some ⟨1, .vals [.agg [.w v]]⟩]⟩
def xBt (v : PV) (p q xs : List Rat) (i : Int) : LS := ⟨[.lst 3 (.rats 64 p), .lst 3 (.rats 64 q), .ptr 0 1 0 0 [], .sl 1 3 0 xs.length, .i .i64 p.length, .i .i64 i], [some ⟨1, .vals [.agg [.w v]]⟩, some ⟨3, .rats 258 xs⟩]⟩
theorem tBtN (v : PV) (p q : List Rat) (i : Int) : (qh Tryz.prog OBt [] polBt Tryz.f14.ntmps 0 [0, 1, 7, 8, 17, 18] bBt (nBt v p q i)).run =
 (Tr.br (decide (i < (p.length : Int))) (.br (ix (i) ((p.length : Int))) (.br (okW v && decide ((0 : Int) < 9) && decide ((9 : Int) <= 4294967296)) (.br (decide ((0 : Int) < 8) && decide ((8 : Int) < 4611686018427387904) && decide ((-4611686018427387904 : Int) < nx v (9 : Int)) && decide (nx v (9 : Int) < 4611686018427387904)) (.br (ix (i) ((q.length : Int))) (.br (ix (i) ((p.length : Int))) (.br (Nat.blt (0 : Nat) [p.getD i.toNat 0 + mkRat (nx v (9 : Int)) (8 : Nat) * (q.getD i.toNat 0 - p.getD i.toNat 0)].length && [p.getD i.toNat 0 + mkRat (nx v (9 : Int)) (8 : Nat) * (q.getD i.toNat 0 - p.getD i.toNat 0)].length.ble 4294967296) (.br (ib (i + 1)) (.ok (.out .normal (LS.mk [PV.lst 3 (.rats 64 p), PV.lst 3 (.rats 64 q), PV.ptr 0 1 0 0 [], PV.sl 1 3 0 1, PV.i .i64 (p.length : Int), PV.i .i64 (i + 1)] [some (.mk 1 (.vals [PV.agg [(rs v).w]])), some (.mk 3 (.rats 258 [p.getD i.toNat 0 + mkRat (nx v (9 : Int)) (8 : Nat) * (q.getD i.toNat 0 - p.getD i.toNat 0)]))]))) (.no 8002)) (.no 7002)) (.no 7008)) (.no 7012)) (.no 1)) (.no 1)) (.no 7019)) (.ok (.out (.exit 0) (LS.mk [PV.lst 3 (.rats 64 p), PV.lst 3 (.rats 64 q), PV.ptr 0 1 0 0 [], PV.nil, PV.i .i64 (p.length : Int), PV.i .i64 i] [some (.mk 1 (.vals [PV.agg [v.w]]))])))).run := by kernel_rfl
theorem tBtX (v : PV) (p q xs : List Rat) (i : Int) : (qh Tryz.prog OBt [] polBt Tryz.f14.ntmps 0 [0, 1, 7, 8, 17, 18] bBt (xBt v p q xs i)).run =
 (Tr.br (decide (i < (p.length : Int))) (.br (ix (i) ((p.length : Int))) (.br (okW v && decide ((0 : Int) < 9) && decide ((9 : Int) <= 4294967296)) (.br (decide ((0 : Int) < 8) && decide ((8 : Int) < 4611686018427387904) && decide ((-4611686018427387904 : Int) < nx v (9 : Int)) && decide (nx v (9 : Int) < 4611686018427387904)) (.br (ix (i) ((q.length : Int))) (.br (ix (i) ((p.length : Int))) (.br (xs.length.ble xs.length && (xs.length + [p.getD i.toNat 0 + mkRat (nx v (9 : Int)) (8 : Nat) * (q.getD i.toNat 0 - p.getD i.toNat 0)].length).ble 4294967296) (.br (ib (i + 1)) (.ok (.out .normal (LS.mk [PV.lst 3 (.rats 64 p), PV.lst 3 (.rats 64 q), PV.ptr 0 1 0 0 [], PV.sl 1 3 0 (xs.length + [p.getD i.toNat 0 + mkRat (nx v (9 : Int)) (8 : Nat) * (q.getD i.toNat 0 - p.getD i.toNat 0)].length), PV.i .i64 (p.length : Int), PV.i .i64 (i + 1)] [some (.mk 1 (.vals [PV.agg [(rs v).w]])), some (.mk 3 (.rats 258 (List.take xs.length (List.drop (0 : Nat) xs) ++ [p.getD i.toNat 0 + mkRat (nx v (9 : Int)) (8 : Nat) * (q.getD i.toNat 0 - p.getD i.toNat 0)])))]))) (.no 8002)) (.no 7002)) (.no 7008)) (.no 7012)) (.no 1)) (.no 1)) (.no 7019)) (.ok (.out (.exit 0) (LS.mk [PV.lst 3 (.rats 64 p), PV.lst 3 (.rats 64 q), PV.ptr 0 1 0 0 [], PV.sl 1 3 0 xs.length, PV.i .i64 (p.length : Int), PV.i .i64 i] [some (.mk 1 (.vals [PV.agg [v.w]])), some (.mk 3 (.rats 258 xs))])))).run := by kernel_rfl
theorem eBt (v v' : PV) (p q xs : List Rat) (i : Int) : (evF Tryz.prog OBt [(4, lcst (nBt v p q 0) (.exit 0) (xBt v' p q xs i))] polBt Tryz.f14 [.lst 3 (.rats 64 p), .lst 3 (.rats 64 q), .w v] [] qm).run =
 (Tr.br (qe (isLS (LS.mk [PV.lst 3 (.rats 64 p), PV.lst 3 (.rats 64 q), PV.ptr 0 1 0 0 [], PV.nil, PV.i .i64 (p.length : Int), PV.i .i64 0] [some (.mk 1 (.vals [PV.agg [v.w]]))]) (LS.mk [PV.lst 3 (.rats 64 p), PV.lst 3 (.rats 64 q), PV.ptr 0 1 0 0 [], PV.nil, PV.i .i64 (if (q.length : Int) < (p.length : Int) then (q.length : Int) else (p.length : Int)), PV.i .i64 0] [some (.mk 1 (.vals [PV.agg [v.w]]))]))) (.br (xs.length.ble xs.length) (.ok (.ret (PV.fr 3 (.rats 258 (List.take xs.length (List.drop (0 : Nat) xs)))) [])) (.no 15)) (.no 1)).run := by kernel_rfl
include hG in
theorem orcSs (hT : qu G) : OrcOK Tryz.prog G OSs := .cons (gk86 hG hT) (.cons (gk80 hG hT) .nil)
def spn (p q : List Rat) (j : Nat) : Sp := ⟨mnR (p.getD j 0) (q.getD j 0), mxR (p.getD j 0) (q.getD j 0), mn_mx _ _⟩
theorem fr_vals {e n : Nat} {f : Nat -> PV} {vs : List PV} (hl : vs.length = n) (h : ∀ (i : Nat) (v : PV), vs[i]? = some v -> noRef 8 v = true /\ VLe v (f i)) : RLe (.fr e (.vals vs)) (.fr e (.fn n f)) := by
 subst hl
 exact ⟨fun m => .refl _, fun m => KsLe.one (KLe.fn rfl h)⟩
theorem sp2_vle {a b : Rat} {n w : Nat} (h : n <= w) : VLe (.agg [.q a n, .q b n]) (.agg [.q a w, .q b w]) := VLe.agg (vllc (vle_qm h) (vllc (vle_qm h) vll0))
include hG in
theorem pcSs (hT : qu G) (w n : Nat) (hw : w <= 258) (p q : List Rat) (h1 : 1 <= n) (h3 : n <= 3) (hp : p.length = n) (hq : q.length = n) :
  PC Tryz.prog G 12 [.lst 3 (.rats w p), .lst 3 (.rats w q)] [] (.fr 6 (spsC n (spn p q))) [] := by
 refine PC.args (.cons (rats_le 3 p hw) (.cons (rats_le 3 q hw) .nil)) ?_
 have hl := lps1 (P := Tryz.prog) (G := G) (pol := polSs) (n := Tryz.f12.ntmps) (m := 0) (L := [(3, lSs)]) (c := qg Tryz.f12) (b := bSs) (live := [0, 1, 5, 11, 12]) (sp := lSs) (by kernel_rfl) (by kernel_rfl) (by kernel_rfl) (unr_ok hG (orcSs hG hT) mix (LpsOK.none (by kernel_rfl)) 4)
 have hcs : n = 1 \/ n = 2 \/ n = 3 := by omega
 rcases hcs with rfl | rfl | rfl
 ·match p, q, hp, hq with
  | [a], [a'], _, _ =>
   refine (ql hG (orcSs hG hT) mix enSs (hs := []) (L := [(3, lSs)]) (pol := polSs) hl (r := .fr 6 (.vals [.agg [.q (mnR a a') 258, .q (mxR a a') 258]])) (hs' := []) ?_).le (fr_vals rfl fun i v hi => ?_) (.refl _)
   ·rw [eSs1]
    simp only [Nat.max_self]
    repeat first | rw [Tr.run_t (by first | (simp only [Bool.and_eq_true, Bool.or_eq_true, decide_eq_true_eq, Nat.ble_eq, Nat.blt_eq, List.length_cons, List.length_nil, Bool.not_eq_true', decide_eq_false_iff_not]; omega) | exact rfl | exact decP_iff.2 ⟨rfl, trivial⟩ | exact decP_iff.2 rfl | exact decide_eq_true rfl | decide)] | rw [Tr.run_f (by first | (simp only [Bool.and_eq_false_iff, Bool.not_eq_false', decide_eq_true_eq, decide_eq_false_iff_not]; omega) | exact rfl | exact congrArg (!·) (decide_eq_true rfl) | decide)]
    rw [Tr.run_ok]
    rfl
   ·match i, hi with
    | 0, hi => simp at hi; subst hi; exact ⟨rfl, sp2_vle (by omega)⟩
    | i + 1, hi => simp at hi
 ·match p, q, hp, hq with
  | [a, b], [a', b'], _, _ =>
   refine (ql hG (orcSs hG hT) mix enSs (hs := []) (L := [(3, lSs)]) (pol := polSs) hl (r := .fr 6 (.vals [.agg [.q (mnR a a') 258, .q (mxR a a') 258], .agg [.q (mnR b b') 258, .q (mxR b b') 258]])) (hs' := []) ?_).le (fr_vals rfl fun i v hi => ?_) (.refl _)
   ·rw [eSs2]
    simp only [Nat.max_self]
    repeat first | rw [Tr.run_t (by first | (simp only [Bool.and_eq_true, Bool.or_eq_true, decide_eq_true_eq, Nat.ble_eq, Nat.blt_eq, List.length_cons, List.length_nil, Bool.not_eq_true', decide_eq_false_iff_not]; omega) | exact rfl | exact decP_iff.2 ⟨rfl, trivial⟩ | exact decP_iff.2 rfl | exact decide_eq_true rfl | decide)] | rw [Tr.run_f (by first | (simp only [Bool.and_eq_false_iff, Bool.not_eq_false', decide_eq_true_eq, decide_eq_false_iff_not]; omega) | exact rfl | exact congrArg (!·) (decide_eq_true rfl) | decide)]
    rw [Tr.run_ok]
    rfl
   ·match i, hi with
    | 0, hi => simp at hi; subst hi; exact ⟨rfl, sp2_vle (by omega)⟩
    | 1, hi => simp at hi; subst hi; exact ⟨rfl, sp2_vle (by omega)⟩
    | i + 2, hi => simp at hi
 ·match p, q, hp, hq with
  | [a, b, c], [a', b', c'], _, _ =>
   refine (ql hG (orcSs hG hT) mix enSs (hs := []) (L := [(3, lSs)]) (pol := polSs) hl (r := .fr 6 (.vals [.agg [.q (mnR a a') 258, .q (mxR a a') 258], .agg [.q (mnR b b') 258, .q (mxR b b') 258], .agg [.q (mnR c c') 258, .q (mxR c c') 258]])) (hs' := []) ?_).le (fr_vals rfl fun i v hi => ?_) (.refl _)
   ·rw [eSs3]
    simp only [Nat.max_self]
    repeat first | rw [Tr.run_t (by first | (simp only [Bool.and_eq_true, Bool.or_eq_true, decide_eq_true_eq, Nat.ble_eq, Nat.blt_eq, List.length_cons, List.length_nil, Bool.not_eq_true', decide_eq_false_iff_not]; omega) | exact rfl | exact decP_iff.2 ⟨rfl, trivial⟩ | exact decP_iff.2 rfl | exact decide_eq_true rfl | decide)] | rw [Tr.run_f (by first | (simp only [Bool.and_eq_false_iff, Bool.not_eq_false', decide_eq_true_eq, decide_eq_false_iff_not]; omega) | exact rfl | exact congrArg (!·) (decide_eq_true rfl) | decide)]
    rw [Tr.run_ok]
    rfl
   ·match i, hi with
    | 0, hi => simp at hi; subst hi; exact ⟨rfl, sp2_vle (by omega)⟩
    | 1, hi => simp at hi; subst hi; exact ⟨rfl, sp2_vle (by omega)⟩
    | 2, hi => simp at hi; subst hi; exact ⟨rfl, sp2_vle (by omega)⟩
    | i + 3, hi => simp at hi
def btF (v : PV) (p q : List Rat) (j : Nat) : Rat := hide (p.getD j 0 + mkRat (nx (itRs j v) 9) 8 * (q.getD j 0 - p.getD j 0))
theorem btF_eq (v : PV) (p q : List Rat) (j : Nat) : btF v p q j = p.getD j 0 + mkRat (nx (itRs j v) 9) 8 * (q.getD j 0 - p.getD j 0) := qd _
include hG in
theorem orcBt (hT : qu G) : OrcOK Tryz.prog G OBt := .cons (ok23 hG) (.cons (gk21 hG hT) (.cons (gk43 hG hT) (.cons (ok45 hG) (.cons (gk29 hG hT) .nil))))
include hG in
theorem goesBt (hT : qu G) (v : PV) (hv : okW v = true) (p q : List Rat) (h1 : 1 <= p.length) (h3 : p.length <= 3) (hq : q.length = p.length) :
  Goes (Rnd Tryz.prog G Tryz.f14.ntmps 0 [0, 1, 7, 8, 17, 18] bBt) (nBt v p q 0) (.exit 0) (xBt (itRs p.length v) p q ((List.range p.length).map (btF v p q)) p.length) := by
 refine Goes.build (xst := fun ys (j : Nat) => xBt (itRs j v) p q ys ((j : Nat) : Int)) (btF v p q) (by simp) p.length h1 ?_ ?_ ?_
 ·refine qb hG (orcBt hG hT) mix (L := []) (pol := polBt) (O := OBt) (LpsOK.none (by kernel_rfl)) (Nat.zero_le _) ?_
  have g := qr v (show (0 : Int) < 9 by omega)
  rw [tBtN]
  repeat first | rw [Tr.run_t (by first | (simp only [Bool.and_eq_true, Bool.or_eq_true, decide_eq_true_eq, Nat.ble_eq, Nat.blt_eq, List.length_cons, List.length_nil, Bool.not_eq_true', decide_eq_false_iff_not]; omega) | (rw [hv]; decide) | exact decP_iff.2 ⟨rfl, trivial⟩ | exact decP_iff.2 rfl | exact decide_eq_true rfl | decide)] | rw [Tr.run_f (by first | (simp only [Bool.and_eq_false_iff, Bool.not_eq_false', decide_eq_true_eq, decide_eq_false_iff_not]; omega) | (rw [hv]; decide) | exact congrArg (!·) (decide_eq_true rfl) | decide)]
  rw [Tr.run_ok, btF_eq]
  rfl
 ·intro ys j hj hj1 hjm
  have g := qr (itRs j v) (show (0 : Int) < 9 by omega)
  have hw := okW_itRs hv j
  refine qb hG (orcBt hG hT) mix (L := []) (pol := polBt) (O := OBt) (LpsOK.none (by kernel_rfl)) (Nat.zero_le _) ?_
  rw [tBtX, Int.toNat_natCast]
  repeat first | rw [Tr.run_t (by first | (simp only [Bool.and_eq_true, Bool.or_eq_true, decide_eq_true_eq, Nat.ble_eq, Nat.blt_eq, List.length_cons, List.length_nil, Bool.not_eq_true', decide_eq_false_iff_not]; omega) | (rw [hw]; decide) | exact decP_iff.2 ⟨rfl, trivial⟩ | exact decP_iff.2 rfl | exact decide_eq_true rfl | decide)] | rw [Tr.run_f (by first | (simp only [Bool.and_eq_false_iff, Bool.not_eq_false', decide_eq_true_eq, decide_eq_false_iff_not]; omega) | (rw [hw]; decide) | exact congrArg (!·) (decide_eq_true rfl) | decide)]
  rw [Tr.run_ok, btF_eq, List.drop_zero, List.take_length]
  unfold xBt
  rw [List.length_append]
  rfl
 ·refine qb hG (orcBt hG hT) mix (L := []) (pol := polBt) (O := OBt) (LpsOK.none (by kernel_rfl)) (Nat.zero_le _) ?_
  rw [tBtX, Tr.run_f (decide_eq_false (by omega)), Tr.run_ok]
  rfl
def btL (v : PV) (p q : List Rat) (n : Nat) : List Rat := (List.range n).map (btF v p q)
include hG in
theorem pcBtW (hT : qu G) (v : PV) (hv : okW v = true) (p q : List Rat) (n : Nat) (h1 : 1 <= n) (h3 : n <= 3) (hp : p.length = n) (hq : q.length = n) :
  PC Tryz.prog G 14 [.lst 3 (.rats 64 p), .lst 3 (.rats 64 q), .w v] [] (.fr 3 (.rats 258 (btL v p q n))) [] := by
 have g := goesBt hG hT v hv p q (by omega) (by omega) (by omega)
 rw [hp] at g
 refine ql hG (orcBt hG hT) mix enBt (hs := []) (pol := polBt) (L := [(4, lcst (nBt v p q 0) (.exit 0) (xBt (itRs n v) p q ((List.range n).map (btF v p q)) n))]) (lps1 (b := bBt) (live := [0, 1, 7, 8, 17, 18]) (m := 0) (by kernel_rfl) (by kernel_rfl) (by kernel_rfl) (lcst_ok g)) ?_
 refine (eBt v (itRs n v) p q _ _).trans ?_
 have e : (if (q.length : Int) < (p.length : Int) then (q.length : Int) else (p.length : Int)) = (p.length : Int) := if_neg (by omega)
 simp only [e, List.drop_zero, List.take_length]
 rw [Tr.run_t isLS_t, Tr.run_t (by rw [Nat.ble_eq]; omega), Tr.run_ok]
 rfl
theorem num_den (x : Rat) : x = (x.num : Rat) / ((x.den : Int) : Rat) := by
 have h := Rat.mkRat_self x
 rw [Rat.mkRat_eq_div] at h
 exact h.symm
theorem bt_bd {p q : Rat} {k : Int} (hp : Prof.Bd p 30000000 8000000) (hq : Prof.Bd q 30000000 8000000) (h0 : 0 <= k) (h8 : k <= 8) : sz (p + mkRat k 8 * (q - p)) <= 64 := by
 have dp := p.den_pos
 have dq := q.den_pos
 have e : p + mkRat k 8 * (q - p) = (((8 - k) * p.num * q.den + k * q.num * p.den : Int) : Rat) / (((8 : Int) * p.den * q.den : Int) : Rat) := by
  have e1 := num_den p
  have e2 := num_den q
  rw [Rat.mkRat_eq_div]
  have d1 : ¬ ((p.den : Int) : Rat) = 0 := fun h => by have : (p.den : Int) = 0 := Rat.intCast_eq_zero_iff.1 h; omega
  have d2 : ¬ ((q.den : Int) : Rat) = 0 := fun h => by have : (q.den : Int) = 0 := Rat.intCast_eq_zero_iff.1 h; omega
  simp only [Rat.intCast_add, Rat.intCast_mul, Rat.intCast_sub]
  generalize ((p.den : Int) : Rat) = a at *
  generalize ((q.den : Int) : Rat) = b at *
  generalize (p.num : Rat) = x at *
  generalize (q.num : Rat) = y at *
  rw [e1, e2]
  have h8 : ((8 : Nat) : Rat) = 8 := rfl
  have h8' : ((8 : Int) : Rat) = 8 := rfl
  rw [h8, h8']
  grind
 rw [e]
 have hb1 : ((8 - k) * p.num * q.den).natAbs <= 8 * 30000000 * 8000000 := by
  rw [Int.natAbs_mul, Int.natAbs_mul]
  exact Nat.mul_le_mul (Nat.mul_le_mul (by omega) hp.1) (by have := hq.2; omega)
 have hb2 : (k * q.num * p.den).natAbs <= 8 * 30000000 * 8000000 := by
  rw [Int.natAbs_mul, Int.natAbs_mul]
  exact Nat.mul_le_mul (Nat.mul_le_mul (by omega) hq.1) (by have := hp.2; omega)
 have hd : ((8 : Int) * p.den * q.den).natAbs <= 8 * 8000000 * 8000000 := by
  rw [Int.natAbs_mul, Int.natAbs_mul]
  exact Nat.mul_le_mul (Nat.mul_le_mul (by omega) (by have := hp.2; omega)) (by have := hq.2; omega)
 have hpos : (0 : Int) < 8 * p.den * q.den := Int.mul_pos (Int.mul_pos (by omega) (by omega)) (by omega)
 generalize (8 - k) * p.num * q.den = A at *
 generalize k * q.num * p.den = B at *
 generalize (8 : Int) * p.den * q.den = D at *
 have em : ((A + B : Int) : Rat) / (D : Rat) = mkRat (A + B) D.toNat := by
  rw [Rat.mkRat_eq_div]
  have : ((D.toNat : Int) : Rat) = (D : Rat) := by rw [Int.toNat_of_nonneg (by omega)]
  rw [<- this]
  rfl
 rw [em]
 have hs := rat_small (n := A + B) (d := D.toNat) (by omega) rfl
 have lg : ∀ k : Nat, k < 2 ^ 63 -> Nat.log2 k <= 62 := fun k hk => by
  by_cases h0 : k = 0
  ·subst h0; decide
  ·have := (Nat.log2_lt (k := 63) h0).2 hk
   omega
 have b1 := lg (mkRat (A + B) D.toNat).num.natAbs (Nat.lt_of_le_of_lt hs.1 (by omega))
 have b2 := lg (mkRat (A + B) D.toNat).den (Nat.lt_of_le_of_lt hs.2 (by omega))
 unfold sz
 omega
theorem ratsK_sz (e : Nat) {n m : Nat} (xs : List Rat) (h : ∀ i, i < xs.length -> sz (xs.getD i 0) <= m) : KLe ⟨e, .rats n xs⟩ ⟨e, .rats m xs⟩ := by
 intro w S μ a z hb
 obtain ⟨c, T, cs, h1, h2, h3, h4, h5, h6⟩ := hb
 exact ⟨c, T, cs, h1, h2, h3, fun i hi => ((vle_qq (n := n) (h i hi)).2 w S _).1 _ (h4 i hi), h5, h6⟩
theorem frrats_sz (e : Nat) {n m : Nat} (xs : List Rat) (h : ∀ i, i < xs.length -> sz (xs.getD i 0) <= m) : RLe (.fr e (.rats n xs)) (.fr e (.rats m xs)) := ⟨fun _ => .refl _, fun _ => KsLe.one (ratsK_sz e xs h)⟩
def BdL (p : List Rat) : Prop := ∀ j, j < p.length -> Prof.Bd (p.getD j 0) 30000000 8000000
theorem btL_get (v : PV) (p q : List Rat) {n i : Nat} (h : i < n) : (btL v p q n).getD i 0 = btF v p q i := getD_map_range _ h
include hG in
theorem pcBt (hT : qu G) (v : PV) (hv : okW v = true) (p q : List Rat) (n : Nat) (h1 : 1 <= n) (h3 : n <= 3) (hp : p.length = n) (hq : q.length = n) (bp : BdL p) (bq : BdL q) :
  PC Tryz.prog G 14 [.lst 3 (.rats 64 p), .lst 3 (.rats 64 q), .w v] [] (.fr 3 (.rats 64 (btL v p q n))) [] := by
 refine (pcBtW hG hT v hv p q n h1 h3 hp hq).le (frrats_sz 3 _ fun i hi => ?_) (.refl _)
 have hi' : i < n := by unfold btL at hi; simpa using hi
 rw [btL_get _ _ _ hi', btF_eq]
 have g := qr (itRs i v) (show (0 : Int) < 9 by omega)
 exact bt_bd (bp i (by omega)) (bq i (by omega)) g.1 (by omega)
theorem bt_has (v : PV) (p q : List Rat) (j : Nat) : (spn p q j).has (btF v p q j) := by
 rw [btF_eq]
 have g := qr (itRs j v) (show (0 : Int) < 9 by omega)
 generalize nx (itRs j v) 9 = k at g
 have hk : (mkRat k 8 : Rat) = (k : Rat) / 8 := by rw [Rat.mkRat_eq_div]; rfl
 have h0 : (0 : Rat) <= (k : Rat) := Rat.intCast_le_intCast.2 g.1
 have h8 : (k : Rat) <= 8 := Rat.intCast_le_intCast.2 (show k <= 8 by omega)
 rw [hk]
 generalize (k : Rat) = t at *
 unfold spn Sp.has
 simp only
 generalize p.getD j 0 = x
 generalize q.getD j 0 = y
 have ht : t / 8 * 8 = t := by grind
 generalize t / 8 = u at *
 have u0 : 0 <= u := by grind
 have u1 : u <= 1 := by grind
 rcases Rat.le_total (a := x) (b := y) with h | h
 ·have a1 := Rat.mul_nonneg u0 (show 0 <= y - x by grind)
  have a2 := Rat.mul_nonneg (show 0 <= 1 - u by grind) (show 0 <= y - x by grind)
  exact ⟨Rat.le_trans (mnR_l x y) (by grind), Rat.le_trans (by grind) (mxR_r x y)⟩
 ·have a1 := Rat.mul_nonneg u0 (show 0 <= x - y by grind)
  have a2 := Rat.mul_nonneg (show 0 <= 1 - u by grind) (show 0 <= x - y by grind)
  exact ⟨Rat.le_trans (mnR_r x y) (by grind), Rat.le_trans (by grind) (mxR_l x y)⟩
include hG in
theorem pArm (l : PV) (hl : okW l = true) : PC Tryz.prog G 9 [.w l] [] (armFr (armD l)) [] := by
 obtain ⟨r, hs', p, e⟩ := ok15 hG [.w l] [] (fun r hs' => .ok (.ret r hs')) (.ret (armFr (armD l)) []) (by show (Tr.br _ _ _).run = _; rw [Tr.run_t hl]; rfl)
 cases e
 exact p
include hG in
theorem pConf (A : Am) (hA : armB A = true) (hX : limX A = true) (m : PV) (hm : okW m = true) : PC Tryz.prog G 10 [qw A, .w m] [] (.fr 3 (.rats 64 (cfL A.lk m A.n))) [] := by
 obtain ⟨r, hs', p, e⟩ := ok33 hG [qw A, .w m] [] (fun r hs' => .ok (.ret r hs')) (.ret (.fr 3 (.rats 64 (cfL A.lk m A.n))) []) (by
  show (Tr.br _ _ _).run = _
  rw [Tr.run_t (decP_iff.2 ⟨okA_arm hA, hX, hm⟩)]; rfl)
 cases e
 exact p
def isCf (A : Am) (a m : PV) : Prop := a = qw A /\ okW m = true
def vCf (A : Am) (CF : PV -> List Rat) : Spec := fun args hs K => match args, hs with
 | [a, .w m], [] => .br (qe (isCf A a m)) (K (.fr 3 (.rats 64 (CF m))) []) (.no 1)
 | _, _ => .no 1
include hG in
theorem vCf_ok (A : Am) (hA : armB A = true) (hX : limX A = true) : qc Tryz.prog G 10 (vCf A (fun m => cfL A.lk m A.n)) := by
 intro args hs K x h
 unfold vCf at h
 split at h
 case h_2 => cases h
 obtain ⟨hc, hr⟩ := Tr.of_br h
 obtain ⟨rfl, hm⟩ := decP_iff.1 hc
 exact ⟨_, _, pConf hG A hA hX _ hm, hr⟩
theorem cf_BdL {A : Am} (h : limX A = true) (m : PV) : BdL (cfL A.lk m A.n) := fun j hj => cfL_bd h (by rw [cfL_len] at hj; exact hj)
end
section
open Go
set_option maxRecDepth 100000
variable {G : World -> (Nat -> Prop) -> Prop} (hG : GOk G)
theorem btL_len (v : PV) (p q : List Rat) (n : Nat) : (btL v p q n).length = n := by simp [btL]
end
section
open Go
set_option maxRecDepth 100000
variable {G : World -> (Nat -> Prop) -> Prop} (hG : GOk G)
theorem enBo : Enters Tryz.prog 60 Tryz.f60 (qg Tryz.f60) := ⟨Tryz.func60, by kernel_rfl, rfl⟩
theorem enBx : Enters Tryz.prog 18 Tryz.f18 (qg Tryz.f18) := ⟨Tryz.func18, by kernel_rfl, rfl⟩
theorem enWi : Enters Tryz.prog 20 Tryz.f20 (qg Tryz.f20) := ⟨Tryz.func20, by kernel_rfl, rfl⟩
theorem enEq : Enters Tryz.prog 19 Tryz.f19 (qg Tryz.f19) := ⟨Tryz.func19, by kernel_rfl, rfl⟩
theorem enFN : Enters Tryz.prog 4 Tryz.f4 (qg Tryz.f4) := ⟨Tryz.func4, by kernel_rfl, rfl⟩
def gBo : Spec := evF Tryz.prog [] [] {} Tryz.f60
def gWi : Spec := evF Tryz.prog [(57, g27)] [] {} Tryz.f20
def bxP (l : Lz) : PV := .agg [.agg [.q l.X.lo 1500, .q l.Y.lo 1500], .agg [.q l.X.hi 1500, .q l.Y.hi 1500]]
def bBx : Code := (qj (qg Tryz.f18)).getD 0 .skip
def polBx : Pol := { live := [(4, [7, 8, 17, 18, 19])] }
def OBx (A : Am) (Q : Nat -> Sp) (n : Nat) (lz : Nat -> Lz) : Orc := [(11, cst [qw A, .lst 6 (spsC A.n Q)] True (.tup [.fr 24 (.fn n (fun i => nowW (lz i))), .i .i64 0])), (60, gBo)]
def lBx : qC := unr Tryz.prog [(60, gBo)] [] polBx Tryz.f18.ntmps 0 [7, 8, 17, 18, 19] bBx 5
theorem eBx2 (A : Am) (Q : Nat -> Sp) (lz : Nat -> Lz) : (evF Tryz.prog (OBx A Q 2 lz) [(4, lBx)] polBx Tryz.f18 [qw A, .lst 6 (spsC A.n Q)] [] qm).run =
 (Tr.br (qe (isA [qw A, PV.lst 6 (.fn A.n fun (j : Nat) => PV.agg [PV.q (Q j).lo 260, PV.q (Q j).hi 260])] True [qw A, PV.lst 6 (.fn A.n fun (j : Nat) => PV.agg [PV.q (Q j).lo 260, PV.q (Q j).hi 260])])) (.ok (.ret (PV.tup [PV.fr 12 (.vals [PV.agg [PV.agg [PV.q (lz (0 : Nat)).X.lo 1500, PV.q (lz (0 : Nat)).Y.lo 1500], PV.agg [PV.q (lz (0 : Nat)).X.hi 1500, PV.q (lz (0 : Nat)).Y.hi 1500]], PV.agg [PV.agg [PV.q (lz (1 : Nat)).X.lo 1500, PV.q (lz (1 : Nat)).Y.lo 1500], PV.agg [PV.q (lz (1 : Nat)).X.hi 1500, PV.q (lz (1 : Nat)).Y.hi 1500]]]), PV.i .i64 0]) [])) (.no 1)).run := by kernel_rfl
theorem eBx3 (A : Am) (Q : Nat -> Sp) (lz : Nat -> Lz) : (evF Tryz.prog (OBx A Q 3 lz) [(4, lBx)] polBx Tryz.f18 [qw A, .lst 6 (spsC A.n Q)] [] qm).run =
 (Tr.br (qe (isA [qw A, PV.lst 6 (.fn A.n fun (j : Nat) => PV.agg [PV.q (Q j).lo 260, PV.q (Q j).hi 260])] True [qw A, PV.lst 6 (.fn A.n fun (j : Nat) => PV.agg [PV.q (Q j).lo 260, PV.q (Q j).hi 260])])) (.ok (.ret (PV.tup [PV.fr 12 (.vals [PV.agg [PV.agg [PV.q (lz (0 : Nat)).X.lo 1500, PV.q (lz (0 : Nat)).Y.lo 1500], PV.agg [PV.q (lz (0 : Nat)).X.hi 1500, PV.q (lz (0 : Nat)).Y.hi 1500]], PV.agg [PV.agg [PV.q (lz (1 : Nat)).X.lo 1500, PV.q (lz (1 : Nat)).Y.lo 1500], PV.agg [PV.q (lz (1 : Nat)).X.hi 1500, PV.q (lz (1 : Nat)).Y.hi 1500]], PV.agg [PV.agg [PV.q (lz (2 : Nat)).X.lo 1500, PV.q (lz (2 : Nat)).Y.lo 1500], PV.agg [PV.q (lz (2 : Nat)).X.hi 1500, PV.q (lz (2 : Nat)).Y.hi 1500]]]), PV.i .i64 0]) [])) (.no 1)).run := by kernel_rfl
theorem eBx4 (A : Am) (Q : Nat -> Sp) (lz : Nat -> Lz) : (evF Tryz.prog (OBx A Q 4 lz) [(4, lBx)] polBx Tryz.f18 [qw A, .lst 6 (spsC A.n Q)] [] qm).run =
 (Tr.br (qe (isA [qw A, PV.lst 6 (.fn A.n fun (j : Nat) => PV.agg [PV.q (Q j).lo 260, PV.q (Q j).hi 260])] True [qw A, PV.lst 6 (.fn A.n fun (j : Nat) => PV.agg [PV.q (Q j).lo 260, PV.q (Q j).hi 260])])) (.ok (.ret (PV.tup [PV.fr 12 (.vals [PV.agg [PV.agg [PV.q (lz (0 : Nat)).X.lo 1500, PV.q (lz (0 : Nat)).Y.lo 1500], PV.agg [PV.q (lz (0 : Nat)).X.hi 1500, PV.q (lz (0 : Nat)).Y.hi 1500]], PV.agg [PV.agg [PV.q (lz (1 : Nat)).X.lo 1500, PV.q (lz (1 : Nat)).Y.lo 1500], PV.agg [PV.q (lz (1 : Nat)).X.hi 1500, PV.q (lz (1 : Nat)).Y.hi 1500]], PV.agg [PV.agg [PV.q (lz (2 : Nat)).X.lo 1500, PV.q (lz (2 : Nat)).Y.lo 1500], PV.agg [PV.q (lz (2 : Nat)).X.hi 1500, PV.q (lz (2 : Nat)).Y.hi 1500]], PV.agg [PV.agg [PV.q (lz (3 : Nat)).X.lo 1500, PV.q (lz (3 : Nat)).Y.lo 1500], PV.agg [PV.q (lz (3 : Nat)).X.hi 1500, PV.q (lz (3 : Nat)).Y.hi 1500]]]), PV.i .i64 0]) [])) (.no 1)).run := by kernel_rfl
def bEq : Code := (qj (qg Tryz.f19)).getD 0 .skip
def polEq : Pol := { live := [(4, [1, 2, 6, 15, 16, 17])] }
def stEq (n : Nat) (f g : Nat -> Lz) (i : Int) : LS := ⟨[.lst 12 (.fn n (fun j => bxP (g j))), .clo 20 [], .bl false, .lst 12 (.fn n (fun j => bxP (f j))), .i .i64 n, .i .i64 i], []⟩
theorem tEq (n : Nat) (f g : Nat -> Lz) (i : Int) : (qh Tryz.prog [(20, gWi)] [] polEq Tryz.f19.ntmps 0 [1, 2, 6, 15, 16, 17] bEq (stEq n f g i)).run =
 (Tr.br (decide (i < (n : Int))) (.br (ix (i) ((n : Int))) (.br (ix (i) ((n : Int))) (.br (decide (rcmp (f i.toNat).X.lo (g i.toNat).X.lo <= 0)) (.br (decide (rcmp (f i.toNat).Y.lo (g i.toNat).Y.lo <= 0)) (.br (decide (rcmp (g i.toNat).X.hi (f i.toNat).X.hi <= 0)) (.br (!decide (rcmp (g i.toNat).Y.hi (f i.toNat).Y.hi <= 0)) (.ok (.out .ret (LS.mk [PV.lst 12 (.fn n fun (j : Nat) => PV.agg [PV.agg [PV.q (g j).X.lo 1500, PV.q (g j).Y.lo 1500], PV.agg [PV.q (g j).X.hi 1500, PV.q (g j).Y.hi 1500]]), PV.clo 20 [], PV.bl false, PV.lst 12 (.fn n fun (j : Nat) => PV.agg [PV.agg [PV.q (f j).X.lo 1500, PV.q (f j).Y.lo 1500], PV.agg [PV.q (f j).X.hi 1500, PV.q (f j).Y.hi 1500]]), PV.i .i64 (n : Int), PV.i .i64 i] []))) (.br (ib (i + 1)) (.ok (.out .normal (LS.mk [PV.lst 12 (.fn n fun (j : Nat) => PV.agg [PV.agg [PV.q (g j).X.lo 1500, PV.q (g j).Y.lo 1500], PV.agg [PV.q (g j).X.hi 1500, PV.q (g j).Y.hi 1500]]), PV.clo 20 [], PV.bl false, PV.lst 12 (.fn n fun (j : Nat) => PV.agg [PV.agg [PV.q (f j).X.lo 1500, PV.q (f j).Y.lo 1500], PV.agg [PV.q (f j).X.hi 1500, PV.q (f j).Y.hi 1500]]), PV.i .i64 (n : Int), PV.i .i64 (i + 1)] []))) (.no 10002))) (.ok (.out .ret (LS.mk [PV.lst 12 (.fn n fun (j : Nat) => PV.agg [PV.agg [PV.q (g j).X.lo 1500, PV.q (g j).Y.lo 1500], PV.agg [PV.q (g j).X.hi 1500, PV.q (g j).Y.hi 1500]]), PV.clo 20 [], PV.bl false, PV.lst 12 (.fn n fun (j : Nat) => PV.agg [PV.agg [PV.q (f j).X.lo 1500, PV.q (f j).Y.lo 1500], PV.agg [PV.q (f j).X.hi 1500, PV.q (f j).Y.hi 1500]]), PV.i .i64 (n : Int), PV.i .i64 i] [])))) (.ok (.out .ret (LS.mk [PV.lst 12 (.fn n fun (j : Nat) => PV.agg [PV.agg [PV.q (g j).X.lo 1500, PV.q (g j).Y.lo 1500], PV.agg [PV.q (g j).X.hi 1500, PV.q (g j).Y.hi 1500]]), PV.clo 20 [], PV.bl false, PV.lst 12 (.fn n fun (j : Nat) => PV.agg [PV.agg [PV.q (f j).X.lo 1500, PV.q (f j).Y.lo 1500], PV.agg [PV.q (f j).X.hi 1500, PV.q (f j).Y.hi 1500]]), PV.i .i64 (n : Int), PV.i .i64 i] [])))) (.ok (.out .ret (LS.mk [PV.lst 12 (.fn n fun (j : Nat) => PV.agg [PV.agg [PV.q (g j).X.lo 1500, PV.q (g j).Y.lo 1500], PV.agg [PV.q (g j).X.hi 1500, PV.q (g j).Y.hi 1500]]), PV.clo 20 [], PV.bl false, PV.lst 12 (.fn n fun (j : Nat) => PV.agg [PV.agg [PV.q (f j).X.lo 1500, PV.q (f j).Y.lo 1500], PV.agg [PV.q (f j).X.hi 1500, PV.q (f j).Y.hi 1500]]), PV.i .i64 (n : Int), PV.i .i64 i] [])))) (.no 7004)) (.no 6005)) (.ok (.out (.exit 0) (LS.mk [PV.lst 12 (.fn n fun (j : Nat) => PV.agg [PV.agg [PV.q (g j).X.lo 1500, PV.q (g j).Y.lo 1500], PV.agg [PV.q (g j).X.hi 1500, PV.q (g j).Y.hi 1500]]), PV.clo 20 [], PV.bl false, PV.lst 12 (.fn n fun (j : Nat) => PV.agg [PV.agg [PV.q (f j).X.lo 1500, PV.q (f j).Y.lo 1500], PV.agg [PV.q (f j).X.hi 1500, PV.q (f j).Y.hi 1500]]), PV.i .i64 (n : Int), PV.i .i64 i] [])))).run := by kernel_rfl
theorem eEq (n : Nat) (f g : Nat -> Lz) : (evF Tryz.prog [(20, gWi)] [(4, lcst (stEq n f g 0) (.exit 0) (stEq n f g n))] polEq Tryz.f19 [.lst 12 (.fn n (fun j => bxP (f j))), .lst 12 (.fn n (fun j => bxP (g j))), .clo 20 []] [] qm).run =
 (Tr.br (!decide ((n : Int) = (n : Int))) (.ok (.ret (PV.bl false) [])) (.br (qe (isLS (LS.mk [PV.lst 12 (.fn n fun (j : Nat) => PV.agg [PV.agg [PV.q (g j).X.lo 1500, PV.q (g j).Y.lo 1500], PV.agg [PV.q (g j).X.hi 1500, PV.q (g j).Y.hi 1500]]), PV.clo 20 [], PV.bl false, PV.lst 12 (.fn n fun (j : Nat) => PV.agg [PV.agg [PV.q (f j).X.lo 1500, PV.q (f j).Y.lo 1500], PV.agg [PV.q (f j).X.hi 1500, PV.q (f j).Y.hi 1500]]), PV.i .i64 (n : Int), PV.i .i64 0] []) (LS.mk [PV.lst 12 (.fn n fun (j : Nat) => PV.agg [PV.agg [PV.q (g j).X.lo 1500, PV.q (g j).Y.lo 1500], PV.agg [PV.q (g j).X.hi 1500, PV.q (g j).Y.hi 1500]]), PV.clo 20 [], PV.bl false, PV.lst 12 (.fn n fun (j : Nat) => PV.agg [PV.agg [PV.q (f j).X.lo 1500, PV.q (f j).Y.lo 1500], PV.agg [PV.q (f j).X.hi 1500, PV.q (f j).Y.hi 1500]]), PV.i .i64 (n : Int), PV.i .i64 0] []))) (.ok (.ret (PV.bl true) [])) (.no 1))).run := by kernel_rfl
def isBx (A : Am) (a : PV) (n : Nat) (f : Nat -> PV) : Prop := a = qw A /\ n = A.n /\ ∃ Q : Nat -> Sp, f = fun j => .agg [.q (Q j).lo 260, .q (Q j).hi 260]
def vBx (A : Am) (N : Nat) (BX : (Nat -> PV) -> Nat -> Lz) : Spec := fun args hs K => match args, hs with
 | [a, .lst 6 (.fn n f)], [] => .br (qe (isBx A a n f)) (K (.tup [.fr 12 (.fn N (fun j => bxP (BX f j))), .i .i64 0]) []) (.no 1)
 | _, _ => .no 1
def is2 (n : Nat) (p q : List Rat) : Prop := p.length = n /\ q.length = n
def vSs (n : Nat) (SP : List Rat -> List Rat -> Nat -> Sp) : Spec := fun args hs K => match args, hs with
 | [.lst 3 (.rats 64 p), .lst 3 (.rats 64 q)], [] => .br (qe (is2 n p q)) (K (.fr 6 (.fn n (fun j => .agg [.q (SP p q j).lo 260, .q (SP p q j).hi 260]))) []) (.no 1)
 | _, _ => .no 1
def isBt (p q p' q' : List Rat) (v : PV) : Prop := p' = p /\ q' = q /\ okW v = true
def vBt (p q : List Rat) (BT : PV -> List Rat) : Spec := fun args hs K => match args, hs with
 | [.lst 3 (.rats 64 p'), .lst 3 (.rats 64 q'), .w v], [] => .br (qe (isBt p q p' q' v)) (K (.fr 3 (.rats 64 (BT v))) []) (.no 1)
 | _, _ => .no 1
def OFN (l : PV) (A : Am) (CF BT : PV -> List Rat) (p q : List Rat) (SP : List Rat -> List Rat -> Nat -> Sp) (N : Nat) (BX : (Nat -> PV) -> Nat -> Lz) (x y : Nat -> Lz) : Orc :=
 [(8, cst [] True (.bl true)), (9, cst [.w l] True (armFr A)), (10, vCf A CF), (12, vSs A.n SP), (14, vBt p q BT), (18, vBx A N BX), (19, cst [.lst 12 (.fn N (fun j => bxP (x j))), .lst 12 (.fn N (fun j => bxP (y j))), .clo 20 []] True (.bl true))]
theorem eFN (l m k n o : PV) (A : Am) (CF BT : PV -> List Rat) (SP : List Rat -> List Rat -> Nat -> Sp) (N : Nat) (BX : (Nat -> PV) -> Nat -> Lz) (x y : Nat -> Lz) : (evF Tryz.prog (OFN l A CF BT (CF m) (CF k) SP N BX x y) [] {} Tryz.f4 [.w l, .w m, .w k, .w n, .w o] [] qm).run =
 (Tr.br (qe (isA [] True [])) (.br (qe (isA [l.w] True [l.w])) (.br (((0 : Nat) + A.n).ble A.n) (.br (qe (isCf A (qw A) m)) (.br (((0 : Nat) + (CF m).length).ble (CF m).length) (.br (qe (isCf A (qw A) k)) (.br (((0 : Nat) + (CF k).length).ble (CF k).length) (.br (qe (is2 A.n (List.take (CF m).length (List.drop (0 : Nat) (CF m))) (List.take (CF k).length (List.drop (0 : Nat) (CF k))))) (.br (((0 : Nat) + A.n).ble A.n) (.br (qe (isBx A (qw A) A.n fun (j : Nat) => PV.agg [PV.q (SP (List.take (CF m).length (List.drop (0 : Nat) (CF m))) (List.take (CF k).length (List.drop (0 : Nat) (CF k))) (j + 0)).lo (260 : Nat), PV.q (SP (List.take (CF m).length (List.drop (0 : Nat) (CF m))) (List.take (CF k).length (List.drop (0 : Nat) (CF k))) (j + 0)).hi (260 : Nat)])) (.br (((0 : Nat) + N).ble N) (.br (qe (isBt (CF m) (CF k) (List.take (CF m).length (List.drop (0 : Nat) (CF m))) (List.take (CF k).length (List.drop (0 : Nat) (CF k))) n)) (.br (((0 : Nat) + (BT n).length).ble (BT n).length) (.br (qe (isBt (CF m) (CF k) (List.take (CF m).length (List.drop (0 : Nat) (CF m))) (List.take (CF k).length (List.drop (0 : Nat) (CF k))) o)) (.br (((0 : Nat) + (BT o).length).ble (BT o).length) (.br (qe (is2 A.n (List.take (BT n).length (List.drop (0 : Nat) (BT n))) (List.take (BT o).length (List.drop (0 : Nat) (BT o))))) (.br (((0 : Nat) + A.n).ble A.n) (.br (qe (isBx A (qw A) A.n fun (j : Nat) => PV.agg [PV.q (SP (List.take (BT n).length (List.drop (0 : Nat) (BT n))) (List.take (BT o).length (List.drop (0 : Nat) (BT o))) (j + 0)).lo (260 : Nat), PV.q (SP (List.take (BT n).length (List.drop (0 : Nat) (BT n))) (List.take (BT o).length (List.drop (0 : Nat) (BT o))) (j + 0)).hi (260 : Nat)])) (.br (((0 : Nat) + N).ble N) (.br (qe (isA [PV.lst 12 (.fn N fun (j : Nat) => PV.agg [PV.agg [PV.q (x j).X.lo 1500, PV.q (x j).Y.lo 1500], PV.agg [PV.q (x j).X.hi 1500, PV.q (x j).Y.hi 1500]]), PV.lst 12 (.fn N fun (j : Nat) => PV.agg [PV.agg [PV.q (y j).X.lo 1500, PV.q (y j).Y.lo 1500], PV.agg [PV.q (y j).X.hi 1500, PV.q (y j).Y.hi 1500]]), PV.clo 20 []] True [PV.lst 12 (.fn N fun (j : Nat) => PV.agg [PV.agg [PV.q (BX (fun (j : Nat) => PV.agg [PV.q (SP (List.take (CF m).length (List.drop (0 : Nat) (CF m))) (List.take (CF k).length (List.drop (0 : Nat) (CF k))) (j + 0)).lo (260 : Nat), PV.q (SP (List.take (CF m).length (List.drop (0 : Nat) (CF m))) (List.take (CF k).length (List.drop (0 : Nat) (CF k))) (j + 0)).hi (260 : Nat)]) (j + 0)).X.lo 1500, PV.q (BX (fun (j : Nat) => PV.agg [PV.q (SP (List.take (CF m).length (List.drop (0 : Nat) (CF m))) (List.take (CF k).length (List.drop (0 : Nat) (CF k))) (j + 0)).lo (260 : Nat), PV.q (SP (List.take (CF m).length (List.drop (0 : Nat) (CF m))) (List.take (CF k).length (List.drop (0 : Nat) (CF k))) (j + 0)).hi (260 : Nat)]) (j + 0)).Y.lo 1500], PV.agg [PV.q (BX (fun (j : Nat) => PV.agg [PV.q (SP (List.take (CF m).length (List.drop (0 : Nat) (CF m))) (List.take (CF k).length (List.drop (0 : Nat) (CF k))) (j + 0)).lo (260 : Nat), PV.q (SP (List.take (CF m).length (List.drop (0 : Nat) (CF m))) (List.take (CF k).length (List.drop (0 : Nat) (CF k))) (j + 0)).hi (260 : Nat)]) (j + 0)).X.hi 1500, PV.q (BX (fun (j : Nat) => PV.agg [PV.q (SP (List.take (CF m).length (List.drop (0 : Nat) (CF m))) (List.take (CF k).length (List.drop (0 : Nat) (CF k))) (j + 0)).lo (260 : Nat), PV.q (SP (List.take (CF m).length (List.drop (0 : Nat) (CF m))) (List.take (CF k).length (List.drop (0 : Nat) (CF k))) (j + 0)).hi (260 : Nat)]) (j + 0)).Y.hi 1500]]), PV.lst 12 (.fn N fun (j : Nat) => PV.agg [PV.agg [PV.q (BX (fun (j : Nat) => PV.agg [PV.q (SP (List.take (BT n).length (List.drop (0 : Nat) (BT n))) (List.take (BT o).length (List.drop (0 : Nat) (BT o))) (j + 0)).lo (260 : Nat), PV.q (SP (List.take (BT n).length (List.drop (0 : Nat) (BT n))) (List.take (BT o).length (List.drop (0 : Nat) (BT o))) (j + 0)).hi (260 : Nat)]) (j + 0)).X.lo 1500, PV.q (BX (fun (j : Nat) => PV.agg [PV.q (SP (List.take (BT n).length (List.drop (0 : Nat) (BT n))) (List.take (BT o).length (List.drop (0 : Nat) (BT o))) (j + 0)).lo (260 : Nat), PV.q (SP (List.take (BT n).length (List.drop (0 : Nat) (BT n))) (List.take (BT o).length (List.drop (0 : Nat) (BT o))) (j + 0)).hi (260 : Nat)]) (j + 0)).Y.lo 1500], PV.agg [PV.q (BX (fun (j : Nat) => PV.agg [PV.q (SP (List.take (BT n).length (List.drop (0 : Nat) (BT n))) (List.take (BT o).length (List.drop (0 : Nat) (BT o))) (j + 0)).lo (260 : Nat), PV.q (SP (List.take (BT n).length (List.drop (0 : Nat) (BT n))) (List.take (BT o).length (List.drop (0 : Nat) (BT o))) (j + 0)).hi (260 : Nat)]) (j + 0)).X.hi 1500, PV.q (BX (fun (j : Nat) => PV.agg [PV.q (SP (List.take (BT n).length (List.drop (0 : Nat) (BT n))) (List.take (BT o).length (List.drop (0 : Nat) (BT o))) (j + 0)).lo (260 : Nat), PV.q (SP (List.take (BT n).length (List.drop (0 : Nat) (BT n))) (List.take (BT o).length (List.drop (0 : Nat) (BT o))) (j + 0)).hi (260 : Nat)]) (j + 0)).Y.hi 1500]]), PV.clo 20 []])) (.ok (.ret (PV.bl true) [])) (.no 1)) (.no 7006)) (.no 1)) (.no 7007)) (.no 1)) (.no 7008)) (.no 1)) (.no 7012)) (.no 1)) (.no 6006)) (.no 1)) (.no 6007)) (.no 1)) (.no 5003)) (.no 1)) (.no 5006)) (.no 1)) (.no 4003)) (.no 1)) (.no 1)).run := by kernel_rfl
include hG in
theorem gkBo : qc Tryz.prog G 60 gBo := spec_ev hG .nil mix enBo (fun _ => LpsOK.none (by kernel_rfl))
include hG in
theorem gkWi (hT : qu G) : qc Tryz.prog G 20 gWi := spec_ev hG (.cons (gk27 hG hT) .nil) mix enWi (fun _ => LpsOK.none (by kernel_rfl))
include hG in
theorem pcBx (hT : qu G) (A : Am) (hA : armB A = true) (Q : Nat -> Sp) :
  PC Tryz.prog G 18 [qw A, .lst 6 (spsC A.n Q)] [] (.tup [.fr 12 (.fn (A.n + 1) (fun j => bxP (lzs A Q j))), .i .i64 0]) [] := by
 obtain ⟨a1, a2, a3, a4, h1, h3, a7⟩ := armB_c hA
 have p11 := pcSp hG hT A hA Q
 generalize lzs A Q = lz at *
 have hl := lps1 (P := Tryz.prog) (G := G) (pol := polBx) (n := Tryz.f18.ntmps) (m := 0) (L := [(4, lBx)]) (c := qg Tryz.f18) (b := bBx) (live := [7, 8, 17, 18, 19]) (sp := lBx) (by kernel_rfl) (by kernel_rfl) (by kernel_rfl) (unr_ok hG (.cons (gkBo hG) .nil) mix (LpsOK.none (by kernel_rfl)) 5)
 rcases (show A.n + 1 = 2 \/ A.n + 1 = 3 \/ A.n + 1 = 4 by omega) with hn | hn | hn
 ·rw [hn] at p11 ⊢
  refine (ql hG (.cons (cst_t p11) (.cons (gkBo hG) .nil)) mix enBx (hs := []) (pol := polBx) (L := [(4, lBx)]) hl (r := .tup [.fr 12 (.vals [bxP (lz 0), bxP (lz 1)]), .i .i64 0]) (hs' := []) ?_).le ?_ (.refl _)
  ·refine (eBx2 A Q lz).trans ?_
   refine Eq.trans (Tr.run_t ?_) ?_
   ·exact decP_iff.2 ⟨rfl, trivial⟩
   ·rw [Tr.run_ok]; rfl
  ·refine frs_le0 _ _ _ _ rfl fun i v hi => ?_
   match i, hi with
   | 0, hi => simp at hi; subst hi; exact ⟨rfl, .refl _⟩
   | 1, hi => simp at hi; subst hi; exact ⟨rfl, .refl _⟩
   | i + 2, hi => simp at hi
 ·rw [hn] at p11 ⊢
  refine (ql hG (.cons (cst_t p11) (.cons (gkBo hG) .nil)) mix enBx (hs := []) (pol := polBx) (L := [(4, lBx)]) hl (r := .tup [.fr 12 (.vals [bxP (lz 0), bxP (lz 1), bxP (lz 2)]), .i .i64 0]) (hs' := []) ?_).le ?_ (.refl _)
  ·refine (eBx3 A Q lz).trans ?_
   refine Eq.trans (Tr.run_t ?_) ?_
   ·exact decP_iff.2 ⟨rfl, trivial⟩
   ·rw [Tr.run_ok]; rfl
  ·refine frs_le0 _ _ _ _ rfl fun i v hi => ?_
   match i, hi with
   | 0, hi => simp at hi; subst hi; exact ⟨rfl, .refl _⟩
   | 1, hi => simp at hi; subst hi; exact ⟨rfl, .refl _⟩
   | 2, hi => simp at hi; subst hi; exact ⟨rfl, .refl _⟩
   | i + 3, hi => simp at hi
 ·rw [hn] at p11 ⊢
  refine (ql hG (.cons (cst_t p11) (.cons (gkBo hG) .nil)) mix enBx (hs := []) (pol := polBx) (L := [(4, lBx)]) hl (r := .tup [.fr 12 (.vals [bxP (lz 0), bxP (lz 1), bxP (lz 2), bxP (lz 3)]), .i .i64 0]) (hs' := []) ?_).le ?_ (.refl _)
  ·refine (eBx4 A Q lz).trans ?_
   refine Eq.trans (Tr.run_t ?_) ?_
   ·exact decP_iff.2 ⟨rfl, trivial⟩
   ·rw [Tr.run_ok]; rfl
  ·refine frs_le0 _ _ _ _ rfl fun i v hi => ?_
   match i, hi with
   | 0, hi => simp at hi; subst hi; exact ⟨rfl, .refl _⟩
   | 1, hi => simp at hi; subst hi; exact ⟨rfl, .refl _⟩
   | 2, hi => simp at hi; subst hi; exact ⟨rfl, .refl _⟩
   | 3, hi => simp at hi; subst hi; exact ⟨rfl, .refl _⟩
   | i + 4, hi => simp at hi
include hG in
theorem pcEq (hT : qu G) (n : Nat) (hn : n <= 4) (f g : Nat -> Lz) (h : ∀ i, i < n -> (g i).win (f i)) :
  PC Tryz.prog G 19 [.lst 12 (.fn n (fun j => bxP (f j))), .lst 12 (.fn n (fun j => bxP (g j))), .clo 20 []] [] (.bl true) [] := by
 have w : Goes (Rnd Tryz.prog G Tryz.f19.ntmps 0 [1, 2, 6, 15, 16, 17] bEq) (stEq n f g 0) (.exit 0) (stEq n f g n) :=
  Goes.count (R := Rnd Tryz.prog G Tryz.f19.ntmps 0 [1, 2, 6, 15, 16, 17] bEq) (fun i => stEq n f g ((i : Nat) : Int)) (e := .exit 0) (ls' := stEq n f g n) (by simp) n 0
  (fun i _ hi => by
   refine qb hG (.cons (gkWi hG hT) .nil) mix (L := []) (pol := polEq) (O := [(20, gWi)]) (LpsOK.none (by kernel_rfl)) (Nat.zero_le _) ?_
   obtain ⟨x, y, _, _⟩ := h i (by omega)
   have nt : (!decide (rcmp (g i).Y.hi (f i).Y.hi <= (0 : Int))) = false := by rw [decide_eq_true (rcmp_le.2 y.2)]; rfl
   rw [tEq, Int.toNat_natCast]
   rw [Tr.run_t (decide_eq_true (by omega)), Tr.run_t (by simp only [Bool.and_eq_true, decide_eq_true_eq]; omega), Tr.run_t (by simp only [Bool.and_eq_true, decide_eq_true_eq]; omega), Tr.run_t (decide_eq_true (rcmp_le.2 x.1)), Tr.run_t (decide_eq_true (rcmp_le.2 y.1)), Tr.run_t (decide_eq_true (rcmp_le.2 x.2)), Tr.run_f nt, Tr.run_t (by simp only [Bool.and_eq_true, decide_eq_true_eq]; omega), Tr.run_ok]
   rfl)
  (by
   refine qb hG (.cons (gkWi hG hT) .nil) mix (L := []) (pol := polEq) (O := [(20, gWi)]) (LpsOK.none (by kernel_rfl)) (Nat.zero_le _) ?_
   rw [Nat.zero_add, tEq, Tr.run_f (decide_eq_false (by omega)), Tr.run_ok]
   rfl)
 refine ql hG (.cons (gkWi hG hT) .nil) mix enEq (hs := []) (pol := polEq) (L := [(4, lcst (stEq n f g 0) (.exit 0) (stEq n f g n))]) (lps1 (b := bEq) (live := [1, 2, 6, 15, 16, 17]) (m := 0) (by kernel_rfl) (by kernel_rfl) (by kernel_rfl) (lcst_ok w)) ?_
 refine (eEq n f g).trans ?_
 rw [Tr.run_f (by simp), Tr.run_t isLS_t, Tr.run_ok]
def deQ (f : Nat -> PV) (j : Nat) : Sp := match f j with
 | .agg [.q a _, .q b _] => qi a b
 | _ => ofS 0
theorem deQ_eq (Q : Nat -> Sp) : deQ (fun j => .agg [.q (Q j).lo 260, .q (Q j).hi 260]) = Q := funext fun j => fitS_eta (Q j)
include hG in
theorem vBx_ok (hT : qu G) (A : Am) (hA : armB A = true) : qc Tryz.prog G 18 (vBx A (A.n + 1) (fun f => lzs A (deQ f))) := by
 intro args hs K x h
 unfold vBx at h
 split at h
 case h_2 => cases h
 obtain ⟨hc, hr⟩ := Tr.of_br h
 obtain ⟨rfl, rfl, Q, rfl⟩ := decP_iff.1 hc
 simp only [deQ_eq] at hr
 exact ⟨_, _, pcBx hG hT A hA Q, hr⟩
include hG in
theorem vSs_ok (hT : qu G) (n : Nat) (h1 : 1 <= n) (h3 : n <= 3) : qc Tryz.prog G 12 (vSs n spn) := by
 intro args hs K x h
 unfold vSs at h
 split at h
 case h_2 => cases h
 obtain ⟨hc, hr⟩ := Tr.of_br h
 obtain ⟨hp, hq⟩ := decP_iff.1 hc
 exact ⟨_, _, pcSs hG hT 64 n (by omega) _ _ h1 h3 hp hq, hr⟩
include hG in
theorem vBt_ok (hT : qu G) (p q : List Rat) (n : Nat) (h1 : 1 <= n) (h3 : n <= 3) (hp : p.length = n) (hq : q.length = n) (bp : BdL p) (bq : BdL q) : qc Tryz.prog G 14 (vBt p q (fun v => btL v p q n)) := by
 intro args hs K x h
 unfold vBt at h
 split at h
 case h_2 => cases h
 obtain ⟨hc, hr⟩ := Tr.of_br h
 obtain ⟨rfl, rfl, hv⟩ := decP_iff.1 hc
 exact ⟨_, _, pcBt hG hT _ hv _ _ n h1 h3 hp hq bp bq, hr⟩
theorem spn_win {S : Sp} {p q : List Rat} {j : Nat} (hp : S.has (p.getD j 0)) (hq : S.has (q.getD j 0)) : (spn p q j).win S :=
 ⟨le_mnR hp.1 hq.1, mxR_le hp.2 hq.2⟩
include hG in
theorem lawFN (hT : qu G) (l m k n o : PV) (hl : okW l = true) (hm : okW m = true) (hk : okW k = true) (hn : okW n = true) (ho : okW o = true) : PC Tryz.prog G 4 [.w l, .w m, .w k, .w n, .w o] [] (.bl true) [] := by
 have hA := armB_V l
 have hX := limX_V l
 have p9 := pArm hG l hl
 generalize armD l = A at *
 obtain ⟨a1, a2, a3, a4, h1, h3, a7⟩ := armB_c hA
 have p10 := vCf_ok hG A hA hX
 have cl : ∀ m, (cfL A.lk m A.n).length = A.n := fun m => cfL_len _ _ _
 have cb : ∀ m, BdL (cfL A.lk m A.n) := fun m => cf_BdL hX m
 generalize hCF : (fun m => cfL A.lk m A.n) = CF at *
 have cl' : ∀ m, (CF m).length = A.n := fun m => by rw [<- hCF]; exact cl m
 have cb' : ∀ m, BdL (CF m) := fun m => by rw [<- hCF]; exact cb m
 have p12 := vSs_ok hG hT A.n h1 h3
 have p14 := vBt_ok hG hT (CF m) (CF k) A.n h1 h3 (cl' m) (cl' k) (cb' m) (cb' k)
 have hr : ∀ v, (btL v (CF m) (CF k) A.n).length = A.n := fun v => btL_len v (CF m) (CF k) A.n
 have hb : ∀ v j, j < A.n -> (spn (CF m) (CF k) j).has ((btL v (CF m) (CF k) A.n).getD j 0) := fun v j hj => by rw [btL_get _ _ _ hj]; exact bt_has v _ _ j
 have p18 := vBx_ok hG hT A hA
 have hw : ∀ i, i < A.n + 1 -> (lzs A (spn (btL n (CF m) (CF k) A.n) (btL o (CF m) (CF k) A.n)) i).win (lzs A (spn (CF m) (CF k)) i) := fun i hi =>
  lzA_win (by omega) fun j hj => spn_win (hb n j hj) (hb o j hj)
 have p19 := pcEq hG hT (A.n + 1) (by omega) _ _ hw
 have eqx : ∀ Q : Nat -> Sp, lzs A (deQ (fun j => .agg [.q (Q j).lo 260, .q (Q j).hi 260])) = lzs A Q := fun Q => by rw [deQ_eq]
 generalize hBT : (fun v => btL v (CF m) (CF k) A.n) = BT at *
 have hBTn : btL n (CF m) (CF k) A.n = BT n := by rw [<- hBT]
 have hBTo : btL o (CF m) (CF k) A.n = BT o := by rw [<- hBT]
 rw [hBTn, hBTo] at p19
 have hr' : ∀ v, (BT v).length = A.n := fun v => by rw [<- hBT]; exact hr v
 generalize hBX : (fun f => lzs A (deQ f)) = BX at *
 have eqx' : ∀ Q : Nat -> Sp, BX (fun j => .agg [.q (Q j).lo 260, .q (Q j).hi 260]) = lzs A Q := fun Q => by rw [<- hBX]; exact eqx Q
 generalize spn = SP at *
 refine ql hG (.cons (cst_t (pc38 hG hT)) (.cons (cst_t p9) (.cons p10 (.cons p12 (.cons p14 (.cons p18 (.cons (cst_t p19) .nil))))))) mix enFN (hs := []) (pol := {}) (L := []) (LpsOK.none (by kernel_rfl)) ?_
 refine (eFN l m k n o A CF BT SP (A.n + 1) BX _ _).trans ?_
 simp only [List.drop_zero, List.take_length, Nat.add_zero, eqx']
 repeat first | rw [Tr.run_t (by first | (simp only [Bool.and_eq_true, Bool.or_eq_true, decide_eq_true_eq, Nat.ble_eq, Nat.blt_eq, List.length_cons, List.length_nil, Bool.not_eq_true', decide_eq_false_iff_not]; omega) | exact decP_iff.2 ⟨rfl, hm⟩ | exact decP_iff.2 ⟨rfl, hk⟩ | exact decP_iff.2 ⟨cl' _, cl' _⟩ | exact decP_iff.2 ⟨hr' _, hr' _⟩ | exact decP_iff.2 ⟨rfl, rfl, hn⟩ | exact decP_iff.2 ⟨rfl, rfl, ho⟩ | exact decP_iff.2 ⟨rfl, rfl, _, rfl⟩ | exact decP_iff.2 ⟨rfl, trivial⟩ | exact decP_iff.2 rfl | exact decide_eq_true rfl | decide)] | rw [Tr.run_f (by first | (simp only [Bool.and_eq_false_iff, Bool.not_eq_false', decide_eq_true_eq, decide_eq_false_iff_not]; omega) | exact decP_iff.2 ⟨rfl, hm⟩ | exact decP_iff.2 ⟨rfl, hk⟩ | exact decP_iff.2 ⟨cl' _, cl' _⟩ | exact decP_iff.2 ⟨hr' _, hr' _⟩ | exact decP_iff.2 ⟨rfl, rfl, hn⟩ | exact decP_iff.2 ⟨rfl, rfl, ho⟩ | exact decP_iff.2 ⟨rfl, rfl, _, rfl⟩ | exact congrArg (!·) (decide_eq_true rfl) | decide)]
 rw [Tr.run_ok]
end
section
open Go
theorem calls_of_does {P : Program} {g : Nat} {fn : Func} {c : Code} (hg : Enters P g fn c) {vs : Array Value} {w : World} {R : Value -> World -> Prop} (h : Does P g vs w R) : Calls P g vs w fun e w' => ∃ v, e = .returned v /\ R v w' := by
 have h1 := h { dst := some 0, op := .move (.const undef), type := 0, pos := "", after := #[], guard := none } ⟨#[undef], []⟩ (fun a w' => ∃ v, a.tmps[0]? = some v /\ R v w') (fun _ _ _ => False) (fun v w' hv => ⟨v, by simp [Act.put], hv⟩)
 have : (callFunc g vs).run P w = .ok (.enter g vs) w := by
  have hname : fn.name ≠ "runtime.NumGoroutine" := by simpa using hg.name
  simp [callFunc, hg.at_, hname, hg.body]
 rw [this, Oper.upon_enter] at h1
 refine h1.mono fun e w' he => ?_
 cases e with
 | returned v =>
  obtain ⟨v', hv, hr⟩ := he
  simp [Act.put] at hv
  subst hv
  exact ⟨v, rfl, hr⟩
 | panicked chain => exact absurd he (by simp)
 | outgrown => exact absurd he (by simp [LetsOut])
theorem HRel.none (w : World) : HRel w (fun _ => False) qH (hget (([] : List Blk).map some)) :=
 ⟨fun b k h => by simp [hget] at h, fun b k a z h => by simp [hget] at h, fun b b' k k' a z z' h => by simp [hget] at h, fun a h => h.elim⟩
theorem keptBut_of_old {w w' : World} (h1 : w'.os = w.os) (h2 : w'.output = w.output) (h3 : ∀ n, n < w.heap.size -> w'.heap[n]? = w.heap[n]?) (may : MemPlace -> Prop) : w.keptBut w' may := by
 refine ⟨h1, h2, fun i hi => ?_⟩
 rw [h3 i hi]
 split
 ·rename_i e1 e2
  rw [e1] at e2
  cases e2
  exact ⟨rfl, rfl, rfl, fun _ _ => rfl⟩
 ·rename_i e1 e2
  rw [e1] at e2
  cases e2
  exact .inr ⟨rfl, rfl⟩
 ·rfl
end
section
open Go Go.ChangeShapes Go.WideShapes
set_option maxRecDepth 100000
def blkOf : Value -> Nat -> Prop
 | .slice (some a) _ _, b => b = a.block
 | _, _ => False
section
variable {H : Type} {enc : TypeId × Value -> H} {P : Program} {w : World} {t e : TypeId} {base : Nat} {v : Value} {d : DataW H} {p : List MemPlace}
theorem arg_ints (ht : P.underlying t = some (.slice e)) (he : P.underlying e = some (.int .i64)) (hc : P.cellsOf e = 1)
  (hval : Value.okWide P w .any base t v) (h : DataW.Trod enc P w 0 (fun _ => true) true t v d p) :
  ∃ u : PV, okW u = true /\ (∀ n ∈ intsW u, -9223372036854775808 <= n /\ n <= 9223372036854775807) /\ (∀ b, blkOf v b -> b < w.heap.size) /\ (∀ S : Nat -> Prop, (∀ b, blkOf v b -> S b) -> RepV w S qH (.w u) v) /\
   (∀ w' : World, (∀ n, n < w.heap.size -> w'.heap[n]? = w.heap[n]?) -> ∃ p', DataW.Trod enc P w' 0 (fun b => decide (b < w.heap.size)) true t v d p') /\
   ((intsW u = [] /\ d = .nil) \/ ∃ sp, d = .slice (lits .i64 (intsW u)) sp) := by
 have hval' := hval
 obtain ⟨a0, len, cap, rfl⟩ := okWide_slice ht hval
 obtain ⟨fuel, hf⟩ := h
 rcases open_ints ht he hc hf with ⟨hcs, hx⟩ | ⟨a, len', cap', zs, hcs, _, hl, hm, hz, hx, hcell, hwz⟩
 ·simp [Value.cells] at hcs
  obtain ⟨rfl, rfl, rfl⟩ := hcs
  simp only [Prod.mk.injEq] at hx
  obtain ⟨rfl, rfl⟩ := hx
  refine ⟨.nil, rfl, fun n hn => (nomatch hn), fun b hb => hb.elim, fun S _ => .cell _ _ _ rfl (.w _ _ _ (.nil _)), fun w' _ => ⟨[], RowKit.shut_slice_nil ht⟩, .inl ⟨rfl, rfl⟩⟩
 ·simp [Value.cells] at hcs
  obtain ⟨rfl, rfl, rfl⟩ := hcs
  simp only [Prod.mk.injEq] at hx
  obtain ⟨rfl, rfl⟩ := hx
  simp only [if_true] at hz
  unfold Value.okWide at hval'
  rw [ht] at hval'
  simp only [Cell.okWide, Cell.ok, ht] at hval'
  obtain ⟨_, _, _, hsp, row, cells, hsh, _⟩ := hval'
  obtain ⟨b, off, spot⟩ := a
  simp only at hsp
  subst hsp
  have hb : b < w.heap.size := by
   unfold World.shape? at hsh
   split at hsh
   ·rename_i hh; exact (Array.getElem?_eq_some_iff.1 hh).1
   ·cases hsh
  have hcell' : ∀ j, j < zs.length -> w.cell? ⟨b, off + j, none⟩ = some (.int .i64 (zs.getD j 0)) := fun j hj => by rw [<- add_plain]; exact hcell j hj
  have hlen : (zs.take len).length = len := by rw [List.length_take]; omega
  refine ⟨.lst 1 (.ints .i64 (zs.take len)), rfl, fun n hn => bounds_i64 (hwz n (List.mem_of_mem_take hn)), fun c hc => (by rw [show c = b from hc]; exact hb), fun S hS => ?_, fun w' hw' => ?_, .inr ⟨_, rfl⟩⟩
  ·refine .cell _ _ _ rfl (.w _ _ _ ?_)
   have := RepC.lst (w := w) (S := S) qH 1 (.ints .i64 (zs.take len)) b off cap (fun j => [.int .i64 ((zs.take len).getD j 0)]) (by show (zs.take len).length <= cap; omega) (hS b rfl)
    (fun i hi => .i _ _ _) (fun _ _ => rfl) (fun i j hi hj => by
     have hi' : i < len := by rw [<- hlen]; exact hi
     obtain rfl : j = 0 := by omega
     show w.cell? ⟨b, off + (i * 1 + 0), none⟩ = _
     rw [Nat.mul_one, Nat.add_zero, hcell' i (by omega)]
     simp [List.getD_eq_getElem?_getD, hi'])
   rw [show (Cont.ints .i64 (zs.take len)).len = len from hlen] at this
   exact this
  ·have hd : decide (b < w.heap.size) = true := decide_eq_true hb
   exact ⟨_, 2, shut_ints' (enc := enc) (w := w') (base := 0) (spare := fun b => decide (b < w.heap.size)) (held := true) (len := len) (cap := cap) (zs := zs) 0 ht he hc
    (Nat.zero_le b) hl hm (by simp only [hd, if_true]; exact hz) (fun i hi => by rw [cell_block (hw' b hb)]; exact hcell' i hi) hwz⟩
end
end
section
open Go
set_option maxRecDepth 100000
theorem calls_trueG {P : Program} {G : World -> (Nat -> Prop) -> Prop} {g : Nat} {fn : Func} {c : Code} (hg : Enters P g fn c) {args : List PV} (h : PC P G g args [] (.bl true) []) {w : World} {S : Nat -> Prop} {vs : List Value} (hw : G w S) (hS : ∀ a, S a -> a < w.heap.size)
  (hv : RepVL w S qH args vs) (may : MemPlace -> Prop) :
  Calls P g vs.toArray w fun e w' => e = .returned (.bool true) /\ w.keptBut w' may /\ ∀ n, n < w.heap.size -> w'.heap[n]? = w.heap[n]? := by
 refine (calls_of_does hg (h w S qH vs hw hv ⟨fun b k h => by simp [hget] at h, fun b k a z h => by simp [hget] at h, fun b b' k k' a z z' h => by simp [hget] at h, hS⟩ (fun _ _ => rfl))).mono fun e w' he => ?_
 obtain ⟨v, rfl, S', μ', c⟩ := he
 have hr := c.rep
 have : v = .bool true := by
  cases hr with
  | cell _ _ _ _ h => cases h; rfl
  | agg _ _ _ hv h => simp [isAgg, unfr, unfrA, unfr1] at hv
 subst this
 have old : ∀ n, n < w.heap.size -> w'.heap[n]? = w.heap[n]? := fun n hn => c.old n hn (fun b z hb => by simp at hb)
 exact ⟨rfl, keptBut_of_old c.os c.output old may, old⟩
def TG (w : World) (S : Nat -> Prop) : Prop := S 1 /\ Go.Proofs.TabAt 1 Go.Lib.deBruijn64tab w
theorem tg_ok : GOk TG := fun _ _ _ _ m h => ⟨m.sub 1 h.1, fun j hj => (m.cell 1 h.1 j).trans (h.2 j hj)⟩
theorem tg_tab : qu TG := fun _ _ h => h.2
theorem tab_block {w : World} (h : Go.Proofs.TabAt 1 Go.Lib.deBruijn64tab w) : 1 < w.heap.size := by
 have h0 := h 0 (by decide)
 rcases Nat.lt_or_ge 1 w.heap.size with h1 | h1
 ·exact h1
 ·unfold World.cell? at h0
  rw [show w.heap[(⟨1, 0, none⟩ : Addr).block]? = none from Array.getElem?_eq_none h1] at h0
  cases h0
theorem tab_of_laid {laid : List (String × DataW Unit)} {W : World} (hl : laid = [("math/bits.deBruijn64tab", Go.Lib.tabData .u8 (Go.Lib.deBruijn64tab.map fun n : Nat => (n : Int)))]) (h : laidMetH Tryz.prog laid W) : Go.Proofs.TabAt 1 Go.Lib.deBruijn64tab W := by
 subst hl
 have h1 : laidMet Tryz.prog [("math/bits.deBruijn64tab", Go.Lib.tabData .u8 (Go.Lib.deBruijn64tab.map fun n : Nat => (n : Int)))] W := h
 have h2 := Go.Lib.tabIs_of_head (g := 1) (t := 182) (e := 5) (n := 64) (by kernel_rfl) (by kernel_rfl) (by kernel_rfl) (by kernel_rfl) (by kernel_rfl) (by kernel_rfl) h1
 intro j hj
 have h3 := h2.cell (g := 1) (by kernel_rfl) j (by rw [List.length_map]; exact hj)
 rw [h3, List.getD_eq_getElem?_getD, List.getD_eq_getElem?_getD, List.getElem?_map, List.getElem?_eq_getElem hj]
 rfl
end
end Go.Proofs.YtnenjkgffapplaaGreatDoor.PE
