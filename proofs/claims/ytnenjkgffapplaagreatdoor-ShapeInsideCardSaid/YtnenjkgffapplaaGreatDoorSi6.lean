/-
  Part 6 of the proof: contracts of the program's functions. Conditions: those of the theorems below.
-/
import Derived.Test.YtnenjkgffapplaaGreatDoorSi5
import Derived.Test.YtnenjkgffapplaaGreatDoorSi2
import Derived.RowKit3
import GoSem.ClaimChange
import Derived.ChangeSlices
import Derived.WideShapes
import Derived.OpenShut
import Derived.Test.YtnenjkgffapplaaGreatDoorSi3
import Derived.Lib.LaidTab
set_option linter.all false
noncomputable section
namespace Go.Proofs.YtnenjkgffapplaaGreatDoor.PE
section
open Go Tryz
set_option maxRecDepth 100000
variable {G : World -> (Nat -> Prop) -> Prop} (hG : GOk G)
theorem enAt : Enters prog 67 f67 (qg f67) := ⟨func67, by kernel_rfl, rfl⟩
def RAt (m1 m2 m3 m4 d s x y : Sp) : Orc :=
 [(41, gOf), (45, vB subS (tb 400 401 d 802 tn)), (46, vB qF (tb 64 310 m1 400 (tb 65 320 m2 401 (tb 64 320 m3 402 (tb 65 310 m4 403 tn))))), (47, vB addS (tb 402 403 s 810 (tb 1500 802 x 2320 (tb 1500 810 y 2320 tn))))]
theorem eAt (l : Lz) (u v : Rat) (m1 m2 m3 m4 d s x y : Sp) : (evF prog (RAt m1 m2 m3 m4 d s x y) [] {} f67 [nowL 310 320 l, .agg [.q u 64, .q v 65]] [] qm).run =
 (Tr.br (qe (isB qF [.agg [.q u 64, .q u 64], .agg [.q l.C.lo 310, .q l.C.hi 310]] (64 : Nat) (310 : Nat) m1 (400 : Nat))) (.br (qe (isB qF [.agg [.q v 65, .q v 65], .agg [.q l.S.lo 320, .q l.S.hi 320]] (65 : Nat) (320 : Nat) m2 (401 : Nat))) (.br (qe (isB subS [.agg [.q m1.lo 400, .q m1.hi 400], .agg [.q m2.lo 401, .q m2.hi 401]] (400 : Nat) (401 : Nat) d (802 : Nat))) (.br (qe (isB addS [.agg [.q l.X.lo 1500, .q l.X.hi 1500], .agg [.q d.lo 802, .q d.hi 802]] (1500 : Nat) (802 : Nat) x (2320 : Nat))) (.br (qe (isB qF [.agg [.q u 64, .q u 64], .agg [.q l.S.lo 320, .q l.S.hi 320]] (64 : Nat) (320 : Nat) m3 (402 : Nat))) (.br (qe (isB qF [.agg [.q v 65, .q v 65], .agg [.q l.C.lo 310, .q l.C.hi 310]] (65 : Nat) (310 : Nat) m4 (403 : Nat))) (.br (qe (isB addS [.agg [.q m3.lo 402, .q m3.hi 402], .agg [.q m4.lo 403, .q m4.hi 403]] (402 : Nat) (403 : Nat) s (810 : Nat))) (.br (qe (isB addS [.agg [.q l.Y.lo 1500, .q l.Y.hi 1500], .agg [.q s.lo 810, .q s.hi 810]] (1500 : Nat) (810 : Nat) y (2320 : Nat))) (.ok (.ret (.tup [.agg [.q x.lo 2320, .q x.hi 2320], .agg [.q y.lo 2320, .q y.hi 2320]]) [])) (.no 1)) (.no 1)) (.no 1)) (.no 1)) (.no 1)) (.no 1)) (.no 1)) (.no 1)).run := by kernel_rfl
def sp2 (S : Sp) : PV := .agg [.q S.lo 2320, .q S.hi 2320]
def q2 (x y : Rat) : PV := .agg [.q x 64, .q y 64]
theorem enBs : Enters prog 32 f32 (qg f32) := ⟨func32, by kernel_rfl, rfl⟩
def bBs : Code := (qi (qg f32)).getD 0 .skip
def iBs : Code := (qi (qg f32)).getD 1 .skip
def polBs : Pol := { live := [(6, [6, 8, 27, 28, 29]), (10, [6, 8, 9, 11, 12, 27, 28, 29, 48, 49, 50])] }
def stBs (N : Nat) (lz : Nat -> Lz) (n : Nat) (lk : Nat -> Lk) (o : PV) (bs : List (Option Blk)) (i : Int) : LS := ⟨[.lst 24 (.fn N (fun j => nowW (lz j))), o, .lst 16 (.fn n (fun j => lkPV (lk j))), .i .i64 n, .i .i64 i], bs⟩
def shC (d : Lk) : Cont := .fn (d.np - 1) (fun j => q2 (d.px (j + 1)) (d.py (j + 1)))
def inS (N : Nat) (lz : Nat -> Lz) (n : Nat) (lk : Nat -> Lk) (o : PV) (i : Int) (a b : Nat) (d : Lk) (k : Int) (bs : List (Option Blk)) : LS :=
 ⟨[.lst 24 (.fn N (fun j => nowW (lz j))), o, .i .i64 i, .ptr a 6 0 0 [], .ptr b 6 0 0 [], .lst 16 (.fn n (fun j => lkPV (lk j))), .i .i64 n, .i .i64 i, .lst 6 (shC d), .i .i64 ((d.np - 1 : Nat) : Int), .i .i64 k], bs⟩
def bX (x : Sp) : Option Blk := some ⟨6, .vals [sp2 x]⟩
def bx2 (x y : Sp) : PV := .agg [.agg [.q x.lo 2320, .q y.lo 2320], .agg [.q x.hi 2320, .q y.hi 2320]]
def RIn (l : Lz) (x y : Rat) (u v : Sp) : Orc := [(67, cst [nowW l, q2 x y] True (.tup [sp2 u, sp2 v])), (68, gJn)]
def RBs (l : Lz) (x y : Rat) (u v : Sp) : Orc := [(60, gBo), (67, cst [nowW l, q2 x y] True (.tup [sp2 u, sp2 v]))]
def trI (i k : Int) (N : Nat) (d : Lk) (l : Lz) (x y u v : Sp) (L : Int -> Sp -> Sp -> LS) : Tr :=
 .br (decide (k < ((d.np - 1 : Nat) : Int))) (.br (decide ((0 : Int) <= k) && decide (k < ((d.np - 1 : Nat) : Int))) (.br (decide ((0 : Int) <= i) && decide (i < (N : Int)))
  (.br (qe (isA [nowW l, q2 (d.px (k.toNat + 1)) (d.py (k.toNat + 1))] True [nowW l, q2 (d.px (k.toNat + 1)) (d.py (k.toNat + 1))]))
  (.br (qe (eqN [sp2 x, sp2 u] 2320 2320)) (.br (qe (eqN [sp2 y, sp2 v] 2320 2320)) (.br (ovf (k + 1))
   (.ok (.out .normal (L (k + 1) (joinS (qj x.lo x.hi) (qj u.lo u.hi)) (joinS (qj y.lo y.hi) (qj v.lo v.hi)))))
  (.no 1)) (.no 1)) (.no 1)) (.no 1)) (.no 1)) (.no 1)) (.ok (.out (.exit 2) (L k x y)))
include hG in
theorem orcRAt (hT : qr G) (m1 m2 m3 m4 d s x y : Sp) : OrcOK prog G (RAt m1 m2 m3 m4 d s x y) := by
 refine .cons (gkOf hG hT) (.cons (vB_ok (gkSb hG hT) fun A B n m h1 h2 h3 => ?_) (.cons (vB_ok (gkMu hG hT) fun A B n m h1 h2 h3 => ?_) (.cons (vB_ok (gkAd hG hT) fun A B n m h1 h2 h3 => ?_) .nil)))
 ·refine ⟨_, Nat.le_refl _, (k5 (decP_iff.2 ⟨⟨_, _, _, _, rfl⟩, h1, h2, h3⟩)).trans ?_⟩
  rw [qI, qI]; rfl
 ·refine ⟨n + m, by omega, (k5 (decP_iff.2 ⟨⟨_, _, _, _, rfl⟩, h1, h2, h3⟩)).trans ?_⟩
  rw [qI, qI]; rfl
 ·refine ⟨_, Nat.le_refl _, (k5 (decP_iff.2 ⟨⟨_, _, _, _, rfl⟩, h1, h2, h3⟩)).trans ?_⟩
  rw [qI, qI]; rfl
include hG in
theorem pcAt (hT : qr G) (l : Lz) (u v : Rat) : PC prog G 67 [nowW l, q2 u v] [] (.tup [sp2 (atX l u v), sp2 (atY l u v)]) [] := by
 refine PC.args (.cons (nowI_le l 0) (.cons (VLe.agg (vllc (.refl _) (vllc (vle_qm (show 64 <= 65 by omega)) vll0))) .nil)) ?_
 refine qk hG (orcRAt hG hT (qF (ofS u) l.C) (qF (ofS v) l.S) (qF (ofS u) l.S) (qF (ofS v) l.C) (subS (qF (ofS u) l.C) (qF (ofS v) l.S)) (addS (qF (ofS u) l.S) (qF (ofS v) l.C)) (atX l u v) (atY l u v)) mix enAt (hs := []) (L := []) (pol := {}) (k9 (by kernel_rfl)) ?_
 refine (eAt l u v _ _ _ _ _ _ _ _).trans ?_
 repeat (refine Eq.trans (k5 ?_) ?_; first | exact decP_iff.2 ⟨⟨_, _, rfl, rfl⟩, by decide, by decide, by decide, by decide⟩ | exact decP_iff.2 ⟨⟨ofS _, _, rfl, rfl⟩, by decide, by decide, by decide, by decide⟩)
 rw [k7]; rfl
def gX (l : Lz) (d : Lk) (j : Nat) : Sp := atX l (d.px j) (d.py j)
def gY (l : Lz) (d : Lk) (j : Nat) : Sp := atY l (d.px j) (d.py j)
include hG in
theorem goesIn (hT : qr G) (N : Nat) (lz : Nat -> Lz) (n : Nat) (lk : Nat -> Lk) (o : PV) (i a b : Nat) (d : Lk) (B : List (Option Blk)) (hi : i < N) (hp : 1 <= d.np) (hp8 : d.np <= 8)
  (hk : ∀ (k : Int) (x y u v : Sp), (qh prog (RIn (lz i) (d.px (k.toNat + 1)) (d.py (k.toNat + 1)) u v) [] polBs f32.ntmps 0 [6, 8, 9, 11, 12, 27, 28, 29, 48, 49, 50] iBs (inS N lz n lk o i a b d k (B ++ [bX x, bX y]))).run =
   (trI i k N d (lz i) x y u v fun k x y => inS N lz n lk o i a b d k (B ++ [bX x, bX y])).run) :
  Goes (Rnd prog G f32.ntmps 0 [6, 8, 9, 11, 12, 27, 28, 29, 48, 49, 50] iBs) (inS N lz n lk o i a b d 0 (B ++ [bX (gX (lz i) d 0), bX (gY (lz i) d 0)])) (.exit 2)
   (inS N lz n lk o i a b d ((d.np - 1 : Nat) : Int) (B ++ [bX (jnS (gX (lz i) d) (d.np - 1)), bX (jnS (gY (lz i) d) (d.np - 1))])) := by
 have rd : ∀ (k : Nat) (x y : Sp) (e : Exit) (ls : LS), (trI i ((k : Nat) : Int) N d (lz i) x y (gX (lz i) d (k + 1)) (gY (lz i) d (k + 1)) fun k x y => inS N lz n lk o i a b d k (B ++ [bX x, bX y])).run = some (.out e ls) ->
   Rnd prog G f32.ntmps 0 [6, 8, 9, 11, 12, 27, 28, 29, 48, 49, 50] iBs (inS N lz n lk o i a b d k (B ++ [bX x, bX y])) e ls := fun k x y e ls h => by
  refine qb hG (.cons (cst_t (pcAt hG hT (lz i) (d.px (k + 1)) (d.py (k + 1)))) (.cons (gkJn hG hT) .nil)) mix (L := []) (pol := polBs) (O := RIn (lz i) (d.px (k + 1)) (d.py (k + 1)) (gX (lz i) d (k + 1)) (gY (lz i) d (k + 1))) (k9 (by kernel_rfl)) (Nat.zero_le _) ?_
  exact (hk ((k : Nat) : Int) x y _ _).trans h
 have w := Goes.count (R := Rnd prog G f32.ntmps 0 [6, 8, 9, 11, 12, 27, 28, 29, 48, 49, 50] iBs) (fun k => inS N lz n lk o i a b d ((k : Nat) : Int) (B ++ [bX (jnS (gX (lz i) d) k), bX (jnS (gY (lz i) d) k)])) (e := .exit 2) (ls' := inS N lz n lk o i a b d ((d.np - 1 : Nat) : Int) (B ++ [bX (jnS (gX (lz i) d) (d.np - 1)), bX (jnS (gY (lz i) d) (d.np - 1))])) (by simp) (d.np - 1) 0
  (fun k _ hk1 => by
   refine rd k _ _ _ _ ?_
   unfold trI
   rw [k5 (kE (by omega)), k5 (by simp only [kA, kD]; omega), k5 (by simp only [kA, kD]; omega), k5 (decP_iff.2 ⟨rfl, trivial⟩), k5 (decP_iff.2 ⟨⟨_, _, _, _, rfl⟩, by decide, by decide, by decide⟩), k5 (decP_iff.2 ⟨⟨_, _, _, _, rfl⟩, by decide, by decide, by decide⟩),
    k5 (by simp only [ovf, kA, kD]; omega), k7]
   simp only [qI]
   rfl)
  (by
   refine rd _ _ _ _ _ ?_
   unfold trI
   rw [Nat.zero_add, k6 (kF (by omega)), k7])
 exact w
def trO (i : Int) (N n : Nat) (d : Lk) (v : PV) (S0 ex nx : LS) : Tr :=
 .br (decide (i < (n : Int))) (.br (decide ((0 : Int) <= i) && decide (i < (n : Int))) (.br (decide ((0 : Int) <= i) && decide (i < (N : Int))) (.br (decide ((0 : Int) <= 0) && decide ((0 : Int) < (d.np : Int)))
  (.br (qe (isA [v, q2 (d.px 0) (d.py 0)] True [v, q2 (d.px 0) (d.py 0)])) (.br (decide ((0 : Int) <= 1) && decide ((1 : Int) <= (d.np : Int))) (.br (qe (isLS S0 S0)) (.br (ovf (i + 1)) (.ok (.out .normal nx))
  (.no 1)) (.no 1)) (.no 1)) (.no 1)) (.no 1)) (.no 1)) (.no 1)) (.ok (.out (.exit 0) ex))
include hG in
theorem rdO (hT : qr G) (N : Nat) (lz : Nat -> Lz) (n : Nat) (lk : Nat -> Lk) (i : Nat) (hi : i < n) (hN : n <= N) (hn : n <= 3) (hp : 1 <= (lk i).np) (o : PV) (B : List (Option Blk)) (S0 S1 nx : LS)
  (hg : Goes (Rnd prog G f32.ntmps 0 [6, 8, 9, 11, 12, 27, 28, 29, 48, 49, 50] iBs) S0 (.exit 2) S1)
  (hr : (qh prog (RBs (lz i) ((lk i).px 0) ((lk i).py 0) (gX (lz i) (lk i) 0) (gY (lz i) (lk i) 0)) [(10, lcst S0 (.exit 2) S1)] polBs f32.ntmps 0 [6, 8, 27, 28, 29] bBs (stBs N lz n lk o B i)).run = (trO i N n (lk i) (nowW (lz i)) S0 (stBs N lz n lk o B i) nx).run) :
  Rnd prog G f32.ntmps 0 [6, 8, 27, 28, 29] bBs (stBs N lz n lk o B i) .normal nx := by
 refine qb hG (.cons (gkBo hG) (.cons (cst_t (pcAt hG hT (lz i) ((lk i).px 0) ((lk i).py 0))) .nil)) mix (L := [(10, lcst S0 (.exit 2) S1)]) (pol := polBs) (O := RBs (lz i) ((lk i).px 0) ((lk i).py 0) (gX (lz i) (lk i) 0) (gY (lz i) (lk i) 0))
  (lps1 (b := iBs) (live := [6, 8, 9, 11, 12, 27, 28, 29, 48, 49, 50]) (m := 0) (by kernel_rfl) (by kernel_rfl) (by kernel_rfl) (lcst_ok hg)) (Nat.zero_le _) ?_
 refine hr.trans ?_
 unfold trO
 rw [k5 (kE (by omega)), k5 (by simp only [kA, kD]; omega), k5 (by simp only [kA, kD]; omega), k5 (by simp only [kA, kD]; omega), k5 (decP_iff.2 ⟨rfl, trivial⟩), k5 (by simp only [kA, kD]; omega), k5 isLS_t,
  k5 (by simp only [ovf, kA, kD]; omega), k7]
def jX (lz : Nat -> Lz) (lk : Nat -> Lk) (i : Nat) : Sp := jnS (gX (lz i) (lk i)) ((lk i).np - 1)
def jY (lz : Nat -> Lz) (lk : Nat -> Lk) (i : Nat) : Sp := jnS (gY (lz i) (lk i)) ((lk i).np - 1)
def jB (lz : Nat -> Lz) (lk : Nat -> Lk) (i : Nat) : PV := bx2 (jX lz lk i) (jY lz lk i)
def OBs (A : Am) (n : Nat) (Q : Nat -> Sp) (lz : Nat -> Lz) : Orc := [(11, cst [armQ A n, .lst 6 (spsC n Q)] True (.tup [.fr 24 (.fn (n + 1) (fun i => nowW (lz i))), .i .i64 0]))]
include hG in
theorem pcBs1 (A : Am) (n : Nat) (Q : Nat -> Sp) (lz : Nat -> Lz) (ys : List PV) (k : Nat) (h11 : PC prog G 11 [armQ A n, .lst 6 (spsC n Q)] [] (.tup [.fr 24 (.fn (n + 1) (fun i => nowW (lz i))), .i .i64 0]) [])
  (hg : Goes (Rnd prog G f32.ntmps 0 [6, 8, 27, 28, 29] bBs) (stBs (n + 1) lz n A.lk .nil [] 0) (.exit 0) (stBs (n + 1) lz n A.lk (.sl 0 12 0 k) [some ⟨12, .vals ys⟩] n))
  (hr : (evF prog (OBs A n Q lz) [(6, lcst (stBs (n + 1) lz n A.lk .nil [] 0) (.exit 0) (stBs (n + 1) lz n A.lk (.sl 0 12 0 k) [some ⟨12, .vals ys⟩] n))] polBs f32 [armQ A n, .lst 6 (spsC n Q)] [] qm).run =
   (Tr.br (qe (isA [armQ A n, .lst 6 (spsC n Q)] True [armQ A n, .lst 6 (spsC n Q)])) (.br (qe (isLS (stBs (n + 1) lz n A.lk .nil [] 0) (stBs (n + 1) lz n A.lk .nil [] 0))) (.ok (.ret (.tup [.fr 12 (.vals ys), .i .i64 0]) [])) (.no 1)) (.no 1)).run) :
  PC prog G 32 [armQ A n, .lst 6 (spsC n Q)] [] (.tup [.fr 12 (.vals ys), .i .i64 0]) [] := by
 refine qk hG (.cons (cst_t h11) .nil) mix enBs (hs := []) (pol := polBs) (L := [(6, lcst (stBs (n + 1) lz n A.lk .nil [] 0) (.exit 0) (stBs (n + 1) lz n A.lk (.sl 0 12 0 k) [some ⟨12, .vals ys⟩] n))])
  (lps1n (b := bBs) (b' := iBs) (live := [6, 8, 27, 28, 29]) (m := 0) (by kernel_rfl) (by kernel_rfl) (by kernel_rfl) (by kernel_rfl) (lcst_ok hg)) ?_
 refine hr.trans ?_
 rw [k5 (decP_iff.2 ⟨rfl, trivial⟩), k5 isLS_t, k7]
include hG in
theorem rdX (O : Orc) (hO : OrcOK prog G O) (st : LS) (S0 S1 : LS) (hg : Goes (Rnd prog G f32.ntmps 0 [6, 8, 9, 11, 12, 27, 28, 29, 48, 49, 50] iBs) S0 (.exit 2) S1)
  (hr : (qh prog O [(10, lcst S0 (.exit 2) S1)] polBs f32.ntmps 0 [6, 8, 27, 28, 29] bBs st).run = some (.out (.exit 0) st)) : Rnd prog G f32.ntmps 0 [6, 8, 27, 28, 29] bBs st (.exit 0) st :=
 qb hG hO mix (L := [(10, lcst S0 (.exit 2) S1)]) (pol := polBs) (O := O) (lps1 (b := iBs) (live := [6, 8, 9, 11, 12, 27, 28, 29, 48, 49, 50]) (m := 0) (by kernel_rfl) (by kernel_rfl) (by kernel_rfl) (lcst_ok hg)) (Nat.zero_le _) hr
include hG in
theorem pcBs (hT : qr G) (A : Am) (hA : armB A = true) (hS : shp A) (Q : Nat -> Sp) :
  PC prog G 32 [qz A, .lst 6 (spsC A.n Q)] [] (.tup [.fr 12 (.fn A.n (jB (lzs A Q) A.lk)), .i .i64 0]) [] := by
 have p11 := pcSp hG hT A hA Q
 obtain ⟨a1, a2, a3, a4, h1, h3, a7⟩ := armB_c hA
 generalize lzs A Q = lz at *
 have ha : qz A = armQ A A.n := rfl
 rw [ha] at p11 ⊢
 unfold shp at hS
 have g0 : ∀ n, 1 <= n -> n = A.n -> _ := fun n hn he => goesIn hG hT (n + 1) lz n A.lk .nil 0 0 1 (A.lk 0) [] (by omega) (by have := hS 0 (by omega); omega) (by have := hS 0 (by omega); omega) (fun k x y u v => by kernel_rfl)
 have g1 : ∀ n, 2 <= n -> n = A.n -> _ := fun n hn he => goesIn hG hT (n + 1) lz n A.lk (.sl 0 12 0 1) 1 1 2 (A.lk 1) [some ⟨12, .vals [jB lz A.lk 0]⟩] (by omega) (by have := hS 1 (by omega); omega) (by have := hS 1 (by omega); omega) (fun k x y u v => by kernel_rfl)
 have g2 : ∀ n, 3 <= n -> n = A.n -> _ := fun n hn he => goesIn hG hT (n + 1) lz n A.lk (.sl 0 12 0 2) 2 1 2 (A.lk 2) [some ⟨12, .vals [jB lz A.lk 0, jB lz A.lk 1]⟩] (by omega) (by have := hS 2 (by omega); omega) (by have := hS 2 (by omega); omega) (fun k x y u v => by kernel_rfl)
 have r0 : ∀ n, (h1 : 1 <= n) -> (he : n = A.n) -> Rnd prog G f32.ntmps 0 [6, 8, 27, 28, 29] bBs (stBs (n + 1) lz n A.lk .nil [] 0) .normal (stBs (n + 1) lz n A.lk (.sl 0 12 0 1) [some ⟨12, .vals [jB lz A.lk 0]⟩] 1) := fun n hn he => rdO hG hT (n + 1) lz n A.lk 0 (by omega) (by omega) (by omega) (by have := hS 0 (by omega); omega) .nil [] _ _ _ (g0 n hn he) (by kernel_rfl)
 have r1 : ∀ n, (h1 : 2 <= n) -> (he : n = A.n) -> Rnd prog G f32.ntmps 0 [6, 8, 27, 28, 29] bBs (stBs (n + 1) lz n A.lk (.sl 0 12 0 1) [some ⟨12, .vals [jB lz A.lk 0]⟩] 1) .normal (stBs (n + 1) lz n A.lk (.sl 0 12 0 2) [some ⟨12, .vals [jB lz A.lk 0, jB lz A.lk 1]⟩] 2) := fun n hn he => rdO hG hT (n + 1) lz n A.lk 1 (by omega) (by omega) (by omega) (by have := hS 1 (by omega); omega) _ _ _ _ _ (g1 n hn he) (by kernel_rfl)
 have r2 : ∀ n, (h1 : 3 <= n) -> (he : n = A.n) -> Rnd prog G f32.ntmps 0 [6, 8, 27, 28, 29] bBs (stBs (n + 1) lz n A.lk (.sl 0 12 0 2) [some ⟨12, .vals [jB lz A.lk 0, jB lz A.lk 1]⟩] 2) .normal (stBs (n + 1) lz n A.lk (.sl 0 12 0 3) [some ⟨12, .vals [jB lz A.lk 0, jB lz A.lk 1, jB lz A.lk 2]⟩] 3) := fun n hn he => rdO hG hT (n + 1) lz n A.lk 2 (by omega) (by omega) (by omega) (by have := hS 2 (by omega); omega) _ _ _ _ _ (g2 n hn he) (by kernel_rfl)
 rcases (show A.n = 1 \/ A.n = 2 \/ A.n = 3 by omega) with hn | hn | hn
 ·rw [hn] at p11 ⊢
  have hx := rdX hG [] .nil (stBs 2 lz 1 A.lk (.sl 0 12 0 1) [some ⟨12, .vals [jB lz A.lk 0]⟩] 1) _ _ (g0 1 (by omega) hn.symm) (by kernel_rfl)
  refine (pcBs1 hG A 1 Q lz [jB lz A.lk 0] 1 p11 (.more _ _ _ _ (r0 1 (by omega) hn.symm) (.last _ _ _ hx (by simp))) (by kernel_rfl)).le (frs_le0 _ _ _ _ rfl fun i v hi => ?_) (.refl _)
  match i, hi with
  | 0, hi => simp at hi; subst hi; exact ⟨rfl, .refl _⟩
  | i + 1, hi => simp at hi
 ·rw [hn] at p11 ⊢
  have hx := rdX hG [] .nil (stBs 3 lz 2 A.lk (.sl 0 12 0 2) [some ⟨12, .vals [jB lz A.lk 0, jB lz A.lk 1]⟩] 2) _ _ (g0 2 (by omega) hn.symm) (by kernel_rfl)
  refine (pcBs1 hG A 2 Q lz [jB lz A.lk 0, jB lz A.lk 1] 2 p11 (.more _ _ _ _ (r0 2 (by omega) hn.symm) (.more _ _ _ _ (r1 2 (by omega) hn.symm) (.last _ _ _ hx (by simp)))) (by kernel_rfl)).le (frs_le0 _ _ _ _ rfl fun i v hi => ?_) (.refl _)
  match i, hi with
  | 0, hi => simp at hi; subst hi; exact ⟨rfl, .refl _⟩
  | 1, hi => simp at hi; subst hi; exact ⟨rfl, .refl _⟩
  | i + 2, hi => simp at hi
 ·rw [hn] at p11 ⊢
  have hx := rdX hG [] .nil (stBs 4 lz 3 A.lk (.sl 0 12 0 3) [some ⟨12, .vals [jB lz A.lk 0, jB lz A.lk 1, jB lz A.lk 2]⟩] 3) _ _ (g0 3 (by omega) hn.symm) (by kernel_rfl)
  refine (pcBs1 hG A 3 Q lz [jB lz A.lk 0, jB lz A.lk 1, jB lz A.lk 2] 3 p11 (.more _ _ _ _ (r0 3 (by omega) hn.symm) (.more _ _ _ _ (r1 3 (by omega) hn.symm) (.more _ _ _ _ (r2 3 (by omega) hn.symm) (.last _ _ _ hx (by simp))))) (by kernel_rfl)).le (frs_le0 _ _ _ _ rfl fun i v hi => ?_) (.refl _)
  match i, hi with
  | 0, hi => simp at hi; subst hi; exact ⟨rfl, .refl _⟩
  | 1, hi => simp at hi; subst hi; exact ⟨rfl, .refl _⟩
  | 2, hi => simp at hi; subst hi; exact ⟨rfl, .refl _⟩
  | i + 3, hi => simp at hi
end
section
open Go
set_option maxRecDepth 100000
variable {G : World -> (Nat -> Prop) -> Prop} (hG : GOk G)
def Asam (l : List Int) : Am := ⟨⟨#[111, 110, 101]⟩, mkRat 0 1, mkRat 0 1, mkRat 0 1, l.length, fun j => smL (l.getD j 0)⟩
include hG in
theorem sam_ok (l : List Int) (h : (evF Tryz.prog O32 [(3, l32)] pol32 Tryz.f29 [.lst 1 (.ints .i64 l)] [] qm).run = some (.ret (frA ⟨#[111, 110, 101]⟩ (mkRat 0 1) (mkRat 0 1) (mkRat 0 1) (.fr 16 (.vals (l.map smV)))) [])) : PC Tryz.prog G 29 [.lst 1 (.ints .i64 l)] [] (armFr (Asam l)) [] := by
 refine (qk hG (.cons (ok23 hG) (.cons (ok84 hG) .nil)) mix enter32 (O := O32) (L := [(3, l32)]) (pol := pol32) (lps1 (b := b32) (live := [2, 3, 11, 12, 13]) (sp := l32) (m := 0) (by kernel_rfl) (by kernel_rfl) (by kernel_rfl) (unr_ok hG (.cons (ok23 hG) (.cons (ok84 hG) .nil)) mix (k9 (by kernel_rfl)) 3)) h).le ?_ (.refl _)
 refine rle_arm _ _ _ _ _ _ _ (by rw [List.length_map]; rfl) fun i u hu => ?_
 rw [List.getElem?_map] at hu
 cases hx : l[i]? with
 | none => rw [hx] at hu; cases hu
 | some x =>
  rw [hx] at hu
  obtain rfl := Option.some.inj hu
  refine ⟨rfl, ?_⟩
  show VLe _ (lkPV (smL (l.getD i 0)))
  rw [List.getD_eq_getElem?_getD, hx]
  exact smV_le x
include hG in
theorem sam3 : PC Tryz.prog G 29 [.lst 1 (.ints .i64 [3])] [] (armFr (Asam [3])) [] := sam_ok hG [3] (by kernel_rfl)
theorem armB_3 : armB (Asam [3]) = true := by kernel_rfl
end
section
open Go Tryz
set_option maxRecDepth 100000
variable {G : World -> (Nat -> Prop) -> Prop} (hG : GOk G)
theorem enAo : Enters prog 28 f28 (qg f28) := ⟨func28, by kernel_rfl, rfl⟩
def bAo : Code := (qi (qg f28)).getD 0 .skip
def iAo : Code := (qi (qg f28)).getD 1 .skip
def polAo : Pol := { live := [(6, [4, 8, 34, 35, 36]), (9, [4, 8, 34, 35, 36, 40, 41, 42])] }
def RAo : Orc := [(27, g86), (48, g80)]
def lIo : qx := unr prog RAo [] polAo f28.ntmps 0 [4, 8, 34, 35, 36, 40, 41, 42] iAo 6
def lOo : qx := unr prog RAo [(9, lIo)] polAo f28.ntmps 0 [4, 8, 34, 35, 36] bAo 3
def pq (x y : Rat) : PV := .agg [.q x 32138, .q y 32138]
def OAo (A : Am) (q : Rat) (X Y : Nat -> Rat) : Orc := (33, cst [armQ A 1, .lst 3 (.rats 64 [q])] True (.tup [.fr 1 (.fn 1 (fun _ => .lst 6 (.fn 4 (fun j => pq (X j) (Y j))))), .i .i64 0])) :: RAo
def mnQ (X : Nat -> Rat) : Rat := mnR (mnR (mnR (mnR (X 0) (X 0)) (X 1)) (X 2)) (X 3)
def mxQ (X : Nat -> Rat) : Rat := mxR (mxR (mxR (mxR (X 0) (X 0)) (X 1)) (X 2)) (X 3)
def bxA (lx ly hx hy : Rat) : PV := .agg [pq lx ly, pq hx hy]
theorem eAo (A : Am) (q : Rat) (X Y : Nat -> Rat) : (evF prog (OAo A q X Y) [(6, lOo), (9, lIo)] polAo f28 [armQ A 1, .lst 3 (.rats 64 [q])] [] qm).run =
  (Tr.br (qe (isA [armQ A 1, .lst 3 (.rats 64 [q])] True [armQ A 1, .lst 3 (.rats 64 [q])])) (.ok (.ret (.tup [bxA (mnQ X) (mnQ Y) (mxQ X) (mxQ Y), .i .i64 0]) [])) (.no 1)).run := by kernel_rfl
def fS : Fr := allF (bsF (Asam [3])) (qf [mkRat (0 : Int) (Int.toNat (1 : Int))]) (fun j => ((Asam [3]).lk j).len) 1 0
def sX (j : Nat) : Rat := ptX fS (((Asam [3]).lk 0).px j) (((Asam [3]).lk 0).py j)
def sY (j : Nat) : Rat := ptY fS (((Asam [3]).lk 0).px j) (((Asam [3]).lk 0).py j)
theorem mnX : mnQ sX = mkRat 0 (Int.toNat 1) := by
 simp only [mnQ, sX, fS, ptX, allF, frmF, endR, fstep, thH, thT, qD, qv, ftT, qd]
 kernel_rfl
theorem mnY : mnQ sY = mkRat (-1) (Int.toNat 1) := by
 simp only [mnQ, sY, fS, ptY, allF, frmF, endR, fstep, thH, thT, qD, qv, ftT, qd]
 kernel_rfl
theorem mxX : mxQ sX = mkRat 3 (Int.toNat 1) := by
 simp only [mxQ, sX, fS, ptX, allF, frmF, endR, fstep, thH, thT, qD, qv, ftT, qd]
 kernel_rfl
theorem mxY : mxQ sY = mkRat 1 (Int.toNat 1) := by
 simp only [mxQ, sY, fS, ptY, allF, frmF, endR, fstep, thH, thT, qD, qv, ftT, qd]
 kernel_rfl
theorem shp_3 : shp (Asam [3]) := fun _ _ => .inr rfl
include hG in
theorem pcAo (hT : qr G) : PC prog G 28 [qz (Asam [3]), .lst 3 (.rats 64 [mkRat (0 : Int) (Int.toNat (1 : Int))])] []
  (.tup [bxA (mkRat 0 (Int.toNat 1)) (mkRat (-1) (Int.toNat 1)) (mkRat 3 (Int.toNat 1)) (mkRat 1 (Int.toNat 1)), .i .i64 0]) [] := by
 have p33 := (pcPl hG hT (Asam [3]) armB_3 shp_3 [mkRat (0 : Int) (Int.toNat (1 : Int))] rfl).le (frs_ff 1 1 (g := fun _ => .lst 6 (.fn 4 (fun j => pq (sX j) (sY j)))) fun i hi => by
  have : i = 0 := by omega
  subst this
  exact ⟨rfl, .refl _⟩) (.refl _)
 have orc : OrcOK prog G RAo := .cons (gk86 hG hT) (.cons (gk80 hG hT) .nil)
 have hi : qw prog G f28.ntmps 0 [4, 8, 34, 35, 36, 40, 41, 42] iAo lIo := unr_ok hG orc mix (k9 (by kernel_rfl)) 6
 have ho : qw prog G f28.ntmps 0 [4, 8, 34, 35, 36] bAo lOo := unr_ok hG orc mix (lps1 (b := iAo) (live := [4, 8, 34, 35, 36, 40, 41, 42]) (sp := lIo) (m := 0) (by kernel_rfl) (by kernel_rfl) (by kernel_rfl) hi) 3
 refine qk hG (.cons (cst_t p33) orc) mix enAo (hs := []) (pol := polAo) (L := [(6, lOo), (9, lIo)]) (lps2 (b1 := bAo) (b2 := iAo) (by kernel_rfl) (by kernel_rfl) (by kernel_rfl) (by kernel_rfl) (by kernel_rfl) ho hi) ?_
 refine (eAo (Asam [3]) _ sX sY).trans ?_
 rw [k5 (decP_iff.2 ⟨rfl, trivial⟩), k7, mnX, mnY, mxX, mxY]
theorem enIn : Enters prog 34 f34 (qg f34) := ⟨func34, by kernel_rfl, rfl⟩
theorem enSI : Enters prog 6 f6 (qg f6) := ⟨func6, by kernel_rfl, rfl⟩
theorem eIn (x y : Sp) (u v : Rat) : (evF prog [(20, gWi)] [] {} f34 [bx2 x y, pq u v] [] qm).run =
 (Tr.br (decide (rcmp x.lo u <= 0)) (.br (decide (rcmp y.lo v <= 0)) (.br (decide (rcmp u x.hi <= 0)) (.ok (.ret (.b (decide (rcmp v y.hi <= 0))) [])) (.ok (.ret (.bl false) []))) (.ok (.ret (.bl false) []))) (.ok (.ret (.bl false) []))).run := by kernel_rfl
def bSI : Code := (qi (qg f6)).getD 0 .skip
def iSI : Code := (qi (qg f6)).getD 1 .skip
def polSI : Pol := { live := [(11, [8, 14, 77, 78, 79]), (14, [8, 14, 18, 77, 78, 79, 84, 85, 86])] }
def plS (np : Nat -> Nat) (u v : Nat -> Nat -> Rat) (i : Nat) : PV := .lst 6 (.fn (np i) (fun j => pq (u i j) (v i j)))
def soS (n : Nat) (x y : Nat -> Sp) (np : Nat -> Nat) (u v : Nat -> Nat -> Rat) (i : Int) : LS := ⟨[.bl false, .lst 12 (.fn n (fun j => bx2 (x j) (y j))), .lst 1 (.fn n (plS np u v)), .i .i64 n, .i .i64 i], []⟩
def siS (n : Nat) (x y : Nat -> Sp) (np : Nat -> Nat) (u v : Nat -> Nat -> Rat) (i k : Int) : LS := ⟨[.bl false, .lst 12 (.fn n (fun j => bx2 (x j) (y j))), .i .i64 i, .lst 1 (.fn n (plS np u v)), .i .i64 n, .i .i64 i, plS np u v i.toNat, .i .i64 (np i.toNat), .i .i64 k], []⟩
theorem tI (n : Nat) (x y : Nat -> Sp) (np : Nat -> Nat) (u v : Nat -> Nat -> Rat) (a b : Rat) (i k : Int) : (qh prog [(34, cst [bx2 (x i.toNat) (y i.toNat), pq a b] True (.bl true))] [] polSI f6.ntmps 0 [8, 14, 18, 77, 78, 79, 84, 85, 86] iSI (siS n x y np u v i k)).run =
  (Tr.br (decide (k < (np i.toNat : Int))) (.br (ix (k) ((np i.toNat : Int))) (.br (ix (i) ((n : Int))) (.br (qe (isA [bx2 (x i.toNat) (y i.toNat), pq a b] True [bx2 (x i.toNat) (y i.toNat), pq (u i.toNat k.toNat) (v i.toNat k.toNat)])) (.br (ovf (k + 1)) (.ok (.out .normal (siS n x y np u v i (k + 1)))) (.no 1)) (.no 1)) (.no 1)) (.no 1)) (.ok (.out (.exit 2) (siS n x y np u v i k)))).run := by kernel_rfl
theorem tO (n : Nat) (x y : Nat -> Sp) (np : Nat -> Nat) (u v : Nat -> Nat -> Rat) (i j : Int) : (qh prog [] [(14, lcst (siS n x y np u v j 0) (.exit 2) (siS n x y np u v j (np j.toNat)))] polSI f6.ntmps 0 [8, 14, 77, 78, 79] bSI (soS n x y np u v i)).run =
  (Tr.br (decide (i < (n : Int))) (.br (ix (i) ((n : Int))) (.br (qe (isLS (siS n x y np u v j 0) (siS n x y np u v i 0))) (.br (ovf (j + 1)) (.ok (.out .normal (soS n x y np u v (j + 1)))) (.no 1)) (.no 1)) (.no 1)) (.ok (.out (.exit 0) (soS n x y np u v i)))).run := by kernel_rfl
def OSI (l o : PV) (A S : Am) (CF : PV -> List Rat) (p q r : List Rat) (Q : Nat -> Sp) (n : Nat) (x y : Nat -> Sp) (np : Nat -> Nat) (u v : Nat -> Nat -> Rat) (lx ly hx hy : Rat) : Orc :=
 [(9, cst [.w l] True (armFr A)), (10, vCf A CF), (12, cst [.lst 3 (.rats 64 p), .lst 3 (.rats 64 q)] True (.fr 6 (spsC n Q))), (14, cst [.lst 3 (.rats 64 p), .lst 3 (.rats 64 q), .w o] True (.fr 3 (.rats 64 r))),
  (28, cst [qz S, .lst 3 (.rats 64 [mkRat (0 : Int) (Int.toNat (1 : Int))])] True (.tup [bxA lx ly hx hy, .i .i64 0])), (29, cst [.lst 1 (.ints .i64 [3])] True (armFr S)), (30, s23), (31, s84),
  (32, cst [qz A, .lst 6 (spsC n Q)] True (.tup [.fr 12 (.fn n (fun j => bx2 (x j) (y j))), .i .i64 0])), (33, cst [qz A, .lst 3 (.rats 64 r)] True (.tup [.fr 1 (.fn n (plS np u v)), .i .i64 0]))]
theorem eSI (l m k o : PV) (A S : Am) (CF : PV -> List Rat) (r : List Rat) (Q : Nat -> Sp) (n : Nat) (x y : Nat -> Sp) (np : Nat -> Nat) (u v : Nat -> Nat -> Rat) (lx ly hx hy : Rat) : (evF prog (OSI l o A S CF (CF m) (CF k) r Q n x y np u v lx ly hx hy) [(11, lcst (soS n x y np u v 0) (.exit 0) (soS n x y np u v n))] polSI f6 [.w l, .w m, .w k, .w o] [] qm).run =
 (Tr.br (qe (isA [.lst 1 (.ints .i64 [(3 : Int)])] True [.lst 1 (.ints .i64 [(3 : Int)])])) (.br (((0 : Nat) + S.n).ble S.n) (.br (qe (isA [qz S, .lst 3 (.rats 64 [mkRat (0 : Int) (1 : Nat)])] True [qz S, .lst 3 (.rats 64 [mkRat (0 : Int) (1 : Nat)])])) (.br (!(decide (lx = mkRat (0 : Int) (1 : Nat)) && (decide (ly = mkRat (-1 : Int) (1 : Nat)) && true) && (decide (hx = mkRat (3 : Int) (1 : Nat)) && (decide (hy = mkRat (1 : Int) (1 : Nat)) && true) && true))) (.ok (.ret (.bl false) [])) (.br (qe (isA [l.w] True [l.w])) (.br (((0 : Nat) + A.n).ble A.n) (.br (qe (isCf A (qz A) m)) (.br (((0 : Nat) + (CF m).length).ble (CF m).length) (.br (qe (isCf A (qz A) k)) (.br (((0 : Nat) + (CF k).length).ble (CF k).length) (.br (qe (isA [.lst 3 (.rats 64 (CF m)), .lst 3 (.rats 64 (CF k))] True [.lst 3 (.rats 64 (List.take (CF m).length (List.drop (0 : Nat) (CF m)))), .lst 3 (.rats 64 (List.take (CF k).length (List.drop (0 : Nat) (CF k))))])) (.br (((0 : Nat) + n).ble n) (.br (qe (isA [qz A, .lst 6 (.fn n fun (j : Nat) => .agg [.q (Q j).lo 260, .q (Q j).hi 260])] True [qz A, .lst 6 (.fn n fun (j : Nat) => .agg [.q (Q (j + 0)).lo 260, .q (Q (j + 0)).hi 260])])) (.br (((0 : Nat) + n).ble n) (.br (qe (isA [.lst 3 (.rats 64 (CF m)), .lst 3 (.rats 64 (CF k)), o.w] True [.lst 3 (.rats 64 (List.take (CF m).length (List.drop (0 : Nat) (CF m)))), .lst 3 (.rats 64 (List.take (CF k).length (List.drop (0 : Nat) (CF k)))), o.w])) (.br (((0 : Nat) + r.length).ble r.length) (.br (qe (isA [qz A, .lst 3 (.rats 64 r)] True [qz A, .lst 3 (.rats 64 (List.take r.length (List.drop (0 : Nat) r)))])) (.br (((0 : Nat) + n).ble n) (.br (!decide ((n : Int) = (n : Int))) (.ok (.ret (.bl false) [])) (.br (qe (isLS (LS.mk [.bl false, .lst 12 (.fn n fun (j : Nat) => .agg [.agg [.q (x j).lo 2320, .q (y j).lo 2320], .agg [.q (x j).hi 2320, .q (y j).hi 2320]]), .lst 1 (.fn n fun (i : Nat) => .lst 6 (.fn (np i) fun (j : Nat) => .agg [.q (u i j) 32138, .q (v i j) 32138])), .i .i64 (n : Int), .i .i64 0] []) (LS.mk [.bl false, .lst 12 (.fn n fun (j : Nat) => .agg [.agg [.q (x (j + 0)).lo 2320, .q (y (j + 0)).lo 2320], .agg [.q (x (j + 0)).hi 2320, .q (y (j + 0)).hi 2320]]), .lst 1 (.fn n fun (j : Nat) => .lst 6 (.fn (np (j + 0)) fun (j_1 : Nat) => .agg [.q (u (j + 0) j_1) 32138, .q (v (j + 0) j_1) 32138])), .i .i64 (n : Int), .i .i64 0] []))) (.ok (.ret (.bl true) [])) (.no 1))) (.no 8006)) (.no 1)) (.no 8007)) (.no 1)) (.no 7006)) (.no 1)) (.no 7007)) (.no 1)) (.no 6003)) (.no 1)) (.no 6006)) (.no 1)) (.no 5003)) (.no 1))) (.no 1)) (.no 2010)) (.no 1)).run := by kernel_rfl
include hG in
theorem pcIn (hT : qr G) {x y : Sp} {u v : Rat} (hx : x.has u) (hy : y.has v) : PC prog G 34 [bx2 x y, pq u v] [] (.bl true) [] := by
 refine (qk hG (.cons (gkWi hG hT) .nil) mix enIn (hs := []) (L := []) (pol := {}) (k9 (by kernel_rfl)) (r := .b true) ?_).le (rle_b rfl) (.refl _)
 rw [eIn x y u v, k5 (kE (rcmp_le.2 hx.1)), k5 (kE (rcmp_le.2 hy.1)), k5 (kE (rcmp_le.2 hx.2)), k7, kE (rcmp_le.2 hy.2)]
include hG in
theorem goesI (hT : qr G) (n : Nat) (x y : Nat -> Sp) (np : Nat -> Nat) (u v : Nat -> Nat -> Rat) (i : Nat) (hi : i < n) (hp : np i <= 8) (h : ∀ k, k < np i -> (x i).has (u i k) /\ (y i).has (v i k)) :
  Goes (Rnd prog G f6.ntmps 0 [8, 14, 18, 77, 78, 79, 84, 85, 86] iSI) (siS n x y np u v i 0) (.exit 2) (siS n x y np u v i (np i)) := by
 have rd : ∀ (k : Nat) (a b : Rat) (e : Exit) (ls : LS), (x i).has a -> (y i).has b -> (qh prog [(34, cst [bx2 (x i) (y i), pq a b] True (.bl true))] [] polSI f6.ntmps 0 [8, 14, 18, 77, 78, 79, 84, 85, 86] iSI (siS n x y np u v i k)).run = some (.out e ls) ->
   Rnd prog G f6.ntmps 0 [8, 14, 18, 77, 78, 79, 84, 85, 86] iSI (siS n x y np u v i k) e ls := fun k a b e ls h1 h2 hr =>
  qb hG (.cons (cst_t (pcIn hG hT h1 h2)) .nil) mix (L := []) (pol := polSI) (k9 (by kernel_rfl)) (Nat.zero_le _) hr
 have w := Goes.count (R := Rnd prog G f6.ntmps 0 [8, 14, 18, 77, 78, 79, 84, 85, 86] iSI) (fun k => siS n x y np u v i ((k : Nat) : Int)) (e := .exit 2) (ls' := siS n x y np u v i (np i)) (by simp) (np i) 0
  (fun k _ hk => by
   obtain ⟨h1, h2⟩ := h k (by omega)
   refine rd k _ _ _ _ h1 h2 ?_
   refine (tI n x y np u v (u i k) (v i k) i k).trans ?_
   rw [Int.toNat_natCast, k5 (kE (by omega)), k5 (by simp only [kA, kD]; omega), k5 (by simp only [kA, kD]; omega), k5 (decP_iff.2 ⟨rfl, trivial⟩), k5 (by simp only [ovf, kA, kD]; omega), k7]
   rfl)
  (by
   rw [Nat.zero_add]
   refine rd (np i) _ _ _ _ (x i).has_lo (y i).has_lo ?_
   refine (tI n x y np u v (x i).lo (y i).lo i (np i)).trans ?_
   rw [Int.toNat_natCast, k6 (kF (by omega)), k7])
 exact w
include hG in
theorem goesO (hT : qr G) (n : Nat) (hn : n <= 3) (h1 : 1 <= n) (x y : Nat -> Sp) (np : Nat -> Nat) (u v : Nat -> Nat -> Rat) (hp : ∀ i, i < n -> np i <= 8) (h : ∀ i, i < n -> ∀ k, k < np i -> (x i).has (u i k) /\ (y i).has (v i k)) :
  Goes (Rnd prog G f6.ntmps 0 [8, 14, 77, 78, 79] bSI) (soS n x y np u v 0) (.exit 0) (soS n x y np u v n) := by
 have rd : ∀ (i j : Nat) (e : Exit) (ls : LS), j < n -> (qh prog [] [(14, lcst (siS n x y np u v j 0) (.exit 2) (siS n x y np u v j (np j)))] polSI f6.ntmps 0 [8, 14, 77, 78, 79] bSI (soS n x y np u v i)).run = some (.out e ls) ->
   Rnd prog G f6.ntmps 0 [8, 14, 77, 78, 79] bSI (soS n x y np u v i) e ls := fun i j e ls hj hr =>
  qb hG .nil mix (pol := polSI) (lps1 (b := iSI) (live := [8, 14, 18, 77, 78, 79, 84, 85, 86]) (m := 0) (by kernel_rfl) (by kernel_rfl) (by kernel_rfl) (lcst_ok (goesI hG hT n x y np u v j hj (hp j hj) (h j hj)))) (Nat.zero_le _) hr
 have w := Goes.count (R := Rnd prog G f6.ntmps 0 [8, 14, 77, 78, 79] bSI) (fun i => soS n x y np u v ((i : Nat) : Int)) (e := .exit 0) (ls' := soS n x y np u v n) (by simp) n 0
  (fun i _ hi => by
   refine rd i i _ _ (by omega) ((tO n x y np u v i i).trans ?_)
   rw [k5 (kE (by omega)), k5 (by simp only [kA, kD]; omega), k5 isLS_t, k5 (by simp only [ovf, kA, kD]; omega), k7]
   rfl)
  (by
   rw [Nat.zero_add]
   refine rd n 0 _ _ (by omega) ((tO n x y np u v n ((0 : Nat) : Int)).trans ?_)
   rw [k6 (kF (by omega)), k7])
 exact w
theorem pt_has {A : Am} {Q : Nat -> Sp} {r : List Rat} {i k : Nat} (hi : i < A.n) (h : ∀ j, j < A.n -> (Q j).has (r.getD j 0)) (hk : k < (A.lk i).np) :
  (jX (lzs A Q) A.lk i).has (ptX (allF (bsF A) (qf r) (fun j => (A.lk j).len) A.n i) ((A.lk i).px k) ((A.lk i).py k)) /\ (jY (lzs A Q) A.lk i).has (ptY (allF (bsF A) (qf r) (fun j => (A.lk j).len) A.n i) ((A.lk i).px k) ((A.lk i).py k)) := by
 have hf := lzs_has (A := A) (Nat.le_of_lt hi) h
 have ha := at_has hf ((A.lk i).px k) ((A.lk i).py k)
 exact ⟨jn_has (g := gX (lzs A Q i) (A.lk i)) ha.1 _ (by omega), jn_has (g := gY (lzs A Q i) (A.lk i)) ha.2 _ (by omega)⟩
include hG in
theorem lawSI (hT : qr G) (l m k o : PV) (hl : okW l = true) (hm : okW m = true) (hk : okW k = true) (ho : okW o = true) : PC prog G 6 [.w l, .w m, .w k, .w o] [] (.bl true) [] := by
 have hA := armB_V l
 have hX := limX_V l
 have hS := shp_V l
 have p9 := pArm hG l hl
 generalize armD l = A at *
 obtain ⟨a1, a2, a3, a4, h1, h3, a7⟩ := armB_c hA
 have p10 := vCf_ok hG A hA hX
 have cl : ∀ m, (cfL A.lk m A.n).length = A.n := fun m => cfL_len _ _ _
 have cb : ∀ m, BdL (cfL A.lk m A.n) := fun m => cf_BdL hX m
 generalize hCF : (fun m => cfL A.lk m A.n) = CF at *
 have cl' : ∀ m, (CF m).length = A.n := fun m => by rw [<- hCF]; exact cl m
 have cb' : ∀ m, BdL (CF m) := fun m => by rw [<- hCF]; exact cb m
 have p12 := pcSs hG hT 64 A.n (by omega) (CF m) (CF k) h1 h3 (cl' m) (cl' k)
 have p14 := pcBt hG hT o ho (CF m) (CF k) A.n h1 h3 (cl' m) (cl' k) (cb' m) (cb' k)
 have hr := btL_len o (CF m) (CF k) A.n
 have hb : ∀ j, j < A.n -> (spn (CF m) (CF k) j).has ((btL o (CF m) (CF k) A.n).getD j 0) := fun j hj => by rw [btL_get _ _ _ hj]; exact bt_has o _ _ j
 have p32 := pcBs hG hT A hA hS (spn (CF m) (CF k))
 have p33 := pcPl hG hT A hA hS (btL o (CF m) (CF k) A.n) hr
 generalize btL o (CF m) (CF k) A.n = r at *
 generalize spn (CF m) (CF k) = Q at *
 have g := goesO hG hT A.n (by omega) h1 (jX (lzs A Q) A.lk) (jY (lzs A Q) A.lk) (fun i => (A.lk i).np) (fun i k => ptX (allF (bsF A) (qf r) (fun j => (A.lk j).len) A.n i) ((A.lk i).px k) ((A.lk i).py k)) (fun i k => ptY (allF (bsF A) (qf r) (fun j => (A.lk j).len) A.n i) ((A.lk i).px k) ((A.lk i).py k))
  (fun i hi => by have := hS i hi; omega) (fun i hi k hk => pt_has hi hb hk)
 refine qk hG (.cons (cst_t p9) (.cons p10 (.cons (cst_t p12) (.cons (cst_t p14) (.cons (cst_t (pcAo hG hT)) (.cons (cst_t (sam3 hG)) (.cons (ok23 hG) (.cons (ok84 hG) (.cons (cst_t p32) (.cons (cst_t p33) .nil)))))))))) mix enSI (hs := []) (pol := polSI)
  (L := [(11, lcst (soS A.n (jX (lzs A Q) A.lk) (jY (lzs A Q) A.lk) (fun i => (A.lk i).np) (fun i k => ptX (allF (bsF A) (qf r) (fun j => (A.lk j).len) A.n i) ((A.lk i).px k) ((A.lk i).py k)) (fun i k => ptY (allF (bsF A) (qf r) (fun j => (A.lk j).len) A.n i) ((A.lk i).px k) ((A.lk i).py k)) 0) (.exit 0) (soS A.n (jX (lzs A Q) A.lk) (jY (lzs A Q) A.lk) (fun i => (A.lk i).np) (fun i k => ptX (allF (bsF A) (qf r) (fun j => (A.lk j).len) A.n i) ((A.lk i).px k) ((A.lk i).py k)) (fun i k => ptY (allF (bsF A) (qf r) (fun j => (A.lk j).len) A.n i) ((A.lk i).px k) ((A.lk i).py k)) A.n))])
  (lps1n (b := bSI) (b' := iSI) (live := [8, 14, 77, 78, 79]) (m := 0) (by kernel_rfl) (by kernel_rfl) (by kernel_rfl) (by kernel_rfl) (lcst_ok g)) ?_
 refine (eSI l m k o A (Asam [3]) CF r Q A.n _ _ _ _ _ _ _ _ _).trans ?_
 rw [k5 (decP_iff.2 ⟨rfl, trivial⟩), k5 (by rw [kG]; omega), k5 (decP_iff.2 ⟨rfl, trivial⟩), k6 (by simp)]
 simp only [List.drop_zero, List.take_length]
 repeat first | rw [k5 (by first | (simp only [kA, Bool.or_eq_true, kD, kG, Nat.blt_eq, kH, kI, kJ, kK]; omega) | exact decP_iff.2 ⟨rfl, hm⟩ | exact decP_iff.2 ⟨rfl, hk⟩ | exact decP_iff.2 ⟨rfl, trivial⟩ | exact decP_iff.2 rfl | exact kE rfl | decide)] | rw [k6 (by first | (simp only [Bool.and_eq_false_iff, Bool.not_eq_false', kD, kK]; omega) | exact decP_iff.2 ⟨rfl, hm⟩ | exact decP_iff.2 ⟨rfl, hk⟩ | exact congrArg (!·) (kE rfl) | decide)]
 rw [k7]
end
section
open Go
theorem calls_of_does {P : Program} {g : Nat} {fn : Func} {c : Code} (hg : Enters P g fn c) {vs : Array Value} {w : World} {R : Value -> World -> Prop} (h : Does P g vs w R) : Calls P g vs w fun e w' => ∃ v, e = .returned v /\ R v w' := by
 have h1 := h { dst := some 0, op := .move (.const undef), type := 0, pos := "", after := #[], guard := none } ⟨#[undef], []⟩ (fun a w' => ∃ v, a.tmps[0]? = some v /\ R v w') (fun _ _ _ => False) (fun v w' hv => ⟨v, by simp [Act.put], hv⟩)
 have : (callFunc g vs).run P w = .ok (.enter g vs) w := by
  have hname : fn.name ≠ "runtime.NumGoroutine" := by simpa using hg.name
  simp [callFunc, hg.at_, hname, hg.body]
 rw [this, Oper.upon_enter] at h1
 refine h1.mono fun e w' he => ?_
 cases e with
 | returned v =>
  obtain ⟨v', hv, hr⟩ := he
  simp [Act.put] at hv
  subst hv
  exact ⟨v, rfl, hr⟩
 | panicked chain => exact absurd he (by simp)
 | outgrown => exact absurd he (by simp [LetsOut])
theorem HRel.none (w : World) : HRel w (fun _ => False) qK (hget (([] : List Blk).map some)) :=
 ⟨fun b k h => by simp [hget] at h, fun b k a z h => by simp [hget] at h, fun b b' k k' a z z' h => by simp [hget] at h, fun a h => h.elim⟩
theorem keptBut_of_old {w w' : World} (h1 : w'.os = w.os) (h2 : w'.output = w.output) (h3 : ∀ n, n < w.heap.size -> w'.heap[n]? = w.heap[n]?) (may : MemPlace -> Prop) : w.keptBut w' may := by
 refine ⟨h1, h2, fun i hi => ?_⟩
 rw [h3 i hi]
 split
 ·rename_i e1 e2
  rw [e1] at e2
  cases e2
  exact ⟨rfl, rfl, rfl, fun _ _ => rfl⟩
 ·rename_i e1 e2
  rw [e1] at e2
  cases e2
  exact .inr ⟨rfl, rfl⟩
 ·rfl
end
section
open Go Go.ChangeShapes Go.WideShapes
set_option maxRecDepth 100000
def blkOf : Value -> Nat -> Prop
 | .slice (some a) _ _, b => b = a.block
 | _, _ => False
section
variable {H : Type} {enc : TypeId × Value -> H} {P : Program} {w : World} {t e : TypeId} {base : Nat} {v : Value} {d : DataW H} {p : List MemPlace}
theorem arg_ints (ht : P.underlying t = some (.slice e)) (he : P.underlying e = some (.int .i64)) (hc : P.cellsOf e = 1)
  (hval : Value.okWide P w .any base t v) (h : DataW.Trod enc P w 0 (fun _ => true) true t v d p) :
  ∃ u : PV, okW u = true /\ (∀ n ∈ intsW u, -9223372036854775808 <= n /\ n <= 9223372036854775807) /\ (∀ b, blkOf v b -> b < w.heap.size) /\ (∀ S : Nat -> Prop, (∀ b, blkOf v b -> S b) -> RepV w S qK (.w u) v) /\
   (∀ w' : World, (∀ n, n < w.heap.size -> w'.heap[n]? = w.heap[n]?) -> ∃ p', DataW.Trod enc P w' 0 (fun b => decide (b < w.heap.size)) true t v d p') /\
   ((intsW u = [] /\ d = .nil) \/ ∃ sp, d = .slice (lits .i64 (intsW u)) sp) := by
 have hval' := hval
 obtain ⟨a0, len, cap, rfl⟩ := okWide_slice ht hval
 obtain ⟨fuel, hf⟩ := h
 rcases open_ints ht he hc hf with ⟨hcs, hx⟩ | ⟨a, len', cap', zs, hcs, _, hl, hm, hz, hx, hcell, hwz⟩
 ·simp [Value.cells] at hcs
  obtain ⟨rfl, rfl, rfl⟩ := hcs
  simp only [Prod.mk.injEq] at hx
  obtain ⟨rfl, rfl⟩ := hx
  refine ⟨.nil, rfl, fun n hn => (nomatch hn), fun b hb => hb.elim, fun S _ => .cell _ _ _ rfl (.w _ _ _ (.nil _)), fun w' _ => ⟨[], RowKit.shut_slice_nil ht⟩, .inl ⟨rfl, rfl⟩⟩
 ·simp [Value.cells] at hcs
  obtain ⟨rfl, rfl, rfl⟩ := hcs
  simp only [Prod.mk.injEq] at hx
  obtain ⟨rfl, rfl⟩ := hx
  simp only [if_true] at hz
  unfold Value.okWide at hval'
  rw [ht] at hval'
  simp only [Cell.okWide, Cell.ok, ht] at hval'
  obtain ⟨_, _, _, hsp, row, cells, hsh, _⟩ := hval'
  obtain ⟨b, off, spot⟩ := a
  simp only at hsp
  subst hsp
  have hb : b < w.heap.size := by
   unfold World.shape? at hsh
   split at hsh
   ·rename_i hh; exact (Array.getElem?_eq_some_iff.1 hh).1
   ·cases hsh
  have hcell' : ∀ j, j < zs.length -> w.cell? ⟨b, off + j, none⟩ = some (.int .i64 (zs.getD j 0)) := fun j hj => by rw [<- add_plain]; exact hcell j hj
  have hlen : (zs.take len).length = len := by rw [List.length_take]; omega
  refine ⟨.lst 1 (.ints .i64 (zs.take len)), rfl, fun n hn => bounds_i64 (hwz n (List.mem_of_mem_take hn)), fun c hc => (by rw [show c = b from hc]; exact hb), fun S hS => ?_, fun w' hw' => ?_, .inr ⟨_, rfl⟩⟩
  ·refine .cell _ _ _ rfl (.w _ _ _ ?_)
   have := RepC.lst (w := w) (S := S) qK 1 (.ints .i64 (zs.take len)) b off cap (fun j => [.int .i64 ((zs.take len).getD j 0)]) (by show (zs.take len).length <= cap; omega) (hS b rfl)
    (fun i hi => .i _ _ _) (fun _ _ => rfl) (fun i j hi hj => by
     have hi' : i < len := by rw [<- hlen]; exact hi
     obtain rfl : j = 0 := by omega
     show w.cell? ⟨b, off + (i * 1 + 0), none⟩ = _
     rw [Nat.mul_one, Nat.add_zero, hcell' i (by omega)]
     simp [List.getD_eq_getElem?_getD, hi'])
   rw [show (Cont.ints .i64 (zs.take len)).len = len from hlen] at this
   exact this
  ·have hd : decide (b < w.heap.size) = true := kE hb
   exact ⟨_, 2, shut_ints' (enc := enc) (w := w') (base := 0) (spare := fun b => decide (b < w.heap.size)) (held := true) (len := len) (cap := cap) (zs := zs) 0 ht he hc
    (Nat.zero_le b) hl hm (by simp only [hd, if_true]; exact hz) (fun i hi => by rw [cell_block (hw' b hb)]; exact hcell' i hi) hwz⟩
end
end
section
open Go
set_option maxRecDepth 100000
theorem calls_trueG {P : Program} {G : World -> (Nat -> Prop) -> Prop} {g : Nat} {fn : Func} {c : Code} (hg : Enters P g fn c) {args : List PV} (h : PC P G g args [] (.bl true) []) {w : World} {S : Nat -> Prop} {vs : List Value} (hw : G w S) (hS : ∀ a, S a -> a < w.heap.size)
  (hv : RepVL w S qK args vs) (may : MemPlace -> Prop) :
  Calls P g vs.toArray w fun e w' => e = .returned (.bool true) /\ w.keptBut w' may /\ ∀ n, n < w.heap.size -> w'.heap[n]? = w.heap[n]? := by
 refine (calls_of_does hg (h w S qK vs hw hv ⟨fun b k h => by simp [hget] at h, fun b k a z h => by simp [hget] at h, fun b b' k k' a z z' h => by simp [hget] at h, hS⟩ (fun _ _ => rfl))).mono fun e w' he => ?_
 obtain ⟨v, rfl, S', μ', c⟩ := he
 have hr := c.rep
 have : v = .bool true := by
  cases hr with
  | cell _ _ _ _ h => cases h; rfl
  | agg _ _ _ hv h => simp [isAgg, unfr, unfrA, unfr1] at hv
 subst this
 have old : ∀ n, n < w.heap.size -> w'.heap[n]? = w.heap[n]? := fun n hn => c.old n hn (fun b z hb => by simp at hb)
 exact ⟨rfl, keptBut_of_old c.os c.output old may, old⟩
def TG (w : World) (S : Nat -> Prop) : Prop := S 1 /\ Go.Proofs.TabAt 1 Go.Lib.deBruijn64tab w
theorem tg_ok : GOk TG := fun _ _ _ _ m h => ⟨m.sub 1 h.1, fun j hj => (m.cell 1 h.1 j).trans (h.2 j hj)⟩
theorem tg_tab : qr TG := fun _ _ h => h.2
theorem tab_block {w : World} (h : Go.Proofs.TabAt 1 Go.Lib.deBruijn64tab w) : 1 < w.heap.size := by
 have h0 := h 0 (by decide)
 rcases Nat.lt_or_ge 1 w.heap.size with h1 | h1
 ·exact h1
 ·unfold World.cell? at h0
  rw [show w.heap[(⟨1, 0, none⟩ : Addr).block]? = none from Array.getElem?_eq_none h1] at h0
  cases h0
theorem tab_of_laid {laid : List (String × DataW Unit)} {W : World} (hl : laid = [("math/bits.deBruijn64tab", Go.Lib.tabData .u8 (Go.Lib.deBruijn64tab.map fun n : Nat => (n : Int)))]) (h : laidMetH Tryz.prog laid W) : Go.Proofs.TabAt 1 Go.Lib.deBruijn64tab W := by
 subst hl
 have h1 : laidMet Tryz.prog [("math/bits.deBruijn64tab", Go.Lib.tabData .u8 (Go.Lib.deBruijn64tab.map fun n : Nat => (n : Int)))] W := h
 have h2 := Go.Lib.tabIs_of_head (g := 1) (t := 182) (e := 5) (n := 64) (by kernel_rfl) (by kernel_rfl) (by kernel_rfl) (by kernel_rfl) (by kernel_rfl) (by kernel_rfl) h1
 intro j hj
 have h3 := h2.cell (g := 1) (by kernel_rfl) j (by rw [List.length_map]; exact hj)
 rw [h3, List.getD_eq_getElem?_getD, List.getD_eq_getElem?_getD, List.getElem?_map, List.getElem?_eq_getElem hj]
 rfl
end
end Go.Proofs.YtnenjkgffapplaaGreatDoor.PE
