/-
  Part 5 of the proof: contracts of the program's functions. Conditions: those of the theorems below.
-/
import Derived.Test.YtnenjkgffapplaaDoorSr4
import Derived.Test.YtnenjkgffapplaaDoorSr2
import Derived.RowKit3
import GoSem.ClaimChange
import Derived.ChangeSlices
import Derived.WideShapes
import Derived.OpenShut
import Derived.Test.YtnenjkgffapplaaDoorSr3
import Derived.Lib.LaidTab
set_option linter.all false
noncomputable section
namespace Go.Proofs.YtnenjkgffapplaaDoor.PE
section
open Go Tryd
set_option maxRecDepth 100000
variable {G : World -> (Nat -> Prop) -> Prop} (hG : GOk G)
def Pl68 (v z : PV) (u1 u2 u3 : Nat) (c i : Int) : Prop := okW v = true /\ i = 0 /\ 1 <= c /\ c <= 3 /\ z = zArm E E E E E E E /\ u1 = 64 /\ u2 = 64 /\ u3 = 64
def l68 : qu := fun ls K => match ls with
 | ⟨[.ptr 0 1 0 0 [], .ptr 1 12 0 0 [], .ptr 2 12 0 0 [], .i .i64 c, .i .i64 i], [some ⟨1, .vals [.agg [.w v]]⟩, some ⟨12, .vals [z]⟩, some ⟨12, .vals [.agg [.s nm, .agg [.agg [.q bx u1, .q by_ u2], .agg [.bl false, .q t u3]], .nil]]⟩]⟩ =>
  .br (qi (Pl68 v z u1 u2 u3 c i)) (.br (decide (c = 1)) (K (.exit 0) (st68 (r6 v) nm bx by_ t (.sl 3 16 0 1) [some ⟨16, .vals [lkV v]⟩] c 1))
   (.br (decide (c = 2)) (K (.exit 0) (st68 (r6 (r6 v)) nm bx by_ t (.sl 3 16 0 2) [some ⟨16, .vals [lkV v, lkV (r6 v)]⟩] c 2))
    (K (.exit 0) (st68 (r6 (r6 (r6 v))) nm bx by_ t (.sl 3 16 0 3) [some ⟨16, .vals [lkV v, lkV (r6 v), lkV (r6 (r6 v))]⟩] c 3)))) (.no 1)
 | _ => .no 1
include hG in
theorem orc68 : OrcOK prog G O68 := .cons (ok45 hG) (.cons (ok81 hG) (.cons (ok104 hG) (.cons (ok105 hG) .nil)))
include hG in
theorem rnd68 {ls ls' : LS} {e : Exit} (hl : 1 <= ls.h.length) (h : (qg prog O68 [] pol68 f59.ntmps 1 [0, 4, 5, 30, 31] b68 ls).run = some (.out e ls')) : Rnd prog G f59.ntmps 1 [0, 4, 5, 30, 31] b68 ls e ls' :=
 qb hG (orc68 hG) mix (L := []) (pol := pol68) (O := O68) (k9 (by kernel_rfl)) hl h
theorem okW_r6 {v : PV} (h : okW v = true) : okW (r6 v) = true := okW_rs (okW_rs (okW_rs (okW_rs (okW_rs (okW_rs h)))))
include hG in
theorem loop68 : qt prog G f59.ntmps 1 [0, 4, 5, 30, 31] b68 l68 := by
 intro ls K y hm h
 unfold l68 at h
 split at h
 case h_2 => cases h
 rename_i c i v z nm bx u1 by_ u2 t u3
 obtain ⟨hc, hr⟩ := k8 h
 obtain ⟨hw, rfl, h1, h3, rfl, rfl, rfl, rfl⟩ := decP_iff.1 hc
 have a1 := rnd68 hG (ls := st68 v nm bx by_ t .nil [] c 0) (by simp [st68]) (step68a v hw nm bx by_ t c (by omega))
 have w1 := okW_r6 hw
 by_cases e1 : c = 1
 ·subst e1
  rw [k5 (by decide)] at hr
  have a2 := rnd68 hG (ls := st68 (r6 v) nm bx by_ t (.sl 3 16 0 1) [some ⟨16, .vals [lkV v]⟩] 1 1) (ls' := st68 (r6 v) nm bx by_ t (.sl 3 16 0 1) [some ⟨16, .vals [lkV v]⟩] 1 1) (e := .exit 0) (by simp [st68]) (by kernel_rfl)
  exact ⟨_, _, qp (.more _ _ _ _ a1 (.last _ _ _ a2 (by simp))), hr⟩
 ·rw [k6 (kF e1)] at hr
  have a2 := rnd68 hG (ls := st68 (r6 v) nm bx by_ t (.sl 3 16 0 1) [some ⟨16, .vals [lkV v]⟩] c 1) (by simp [st68]) (step68b (r6 v) w1 nm bx by_ t c _ _ _ _ _ _ (by omega))
  by_cases e2 : c = 2
  ·subst e2
   rw [k5 (by decide)] at hr
   have a3 := rnd68 hG (ls := st68 (r6 (r6 v)) nm bx by_ t (.sl 3 16 0 2) [some ⟨16, .vals [lkV v, lkV (r6 v)]⟩] 2 2) (ls' := st68 (r6 (r6 v)) nm bx by_ t (.sl 3 16 0 2) [some ⟨16, .vals [lkV v, lkV (r6 v)]⟩] 2 2) (e := .exit 0) (by simp [st68]) (by kernel_rfl)
   exact ⟨_, _, qp (.more _ _ _ _ a1 (.more _ _ _ _ a2 (.last _ _ _ a3 (by simp)))), hr⟩
  ·have e3 : c = 3 := by omega
   subst e3
   rw [k6 (by decide)] at hr
   have a3 := rnd68 hG (ls := st68 (r6 (r6 v)) nm bx by_ t (.sl 3 16 0 2) [some ⟨16, .vals [lkV v, lkV (r6 v)]⟩] 3 2) (by simp [st68]) (step68c (r6 (r6 v)) (okW_r6 w1) nm bx by_ t 3 _ _ _ _ _ _ _ _ _ _ _ _ (by omega))
   have a4 := rnd68 hG (ls := st68 (r6 (r6 (r6 v))) nm bx by_ t (.sl 3 16 0 3) [some ⟨16, .vals [lkV v, lkV (r6 v), lkV (r6 (r6 v))]⟩] 3 3) (ls' := st68 (r6 (r6 (r6 v))) nm bx by_ t (.sl 3 16 0 3) [some ⟨16, .vals [lkV v, lkV (r6 v), lkV (r6 (r6 v))]⟩] 3 3) (e := .exit 0) (by simp [st68]) (by kernel_rfl)
   exact ⟨_, _, qp (.more _ _ _ _ a1 (.more _ _ _ _ a2 (.more _ _ _ _ a3 (.last _ _ _ a4 (by simp))))), hr⟩
def lf68 (v : PV) (vs : List PV) (u : PV) : Tr := .ok (.ret (frA ⟨#[111, 110, 101]⟩ (mkRat (40 * 0) 4) (mkRat 0 4) (mkRat ([(0 : Int), 1, -1, 1].getD (nx v 4).toNat 0) (1 + nx (rs v) 3).toNat) (.fr 16 (.vals vs))) [⟨1, .vals [.agg [.w u]]⟩])
theorem e68 (v : PV) : (evF prog O68 [(4, l68)] pol68 f59 [.ptr 0 1 0 0 [], .i .i64 0] [⟨1, .vals [.agg [.w v]]⟩] qm).run =
  (Tr.br (okN v 4) (.br (ix (nx v 4) (([(0 : Int), 1, -1, 1].length : Int))) (.br (okN (rs v) 3) (.br (ovf (1 + nx (rs v) 3)) (.br (frq (1 + nx (rs v) 3) ([(0 : Int), 1, -1, 1].getD (nx v 4).toNat 0)) (.br (okN (rs (rs v)) 3) (.br (ovf (1 + nx (rs (rs v)) 3)) (.br (qi (Pl68 (rs (rs (rs v))) (zArm E E E E E E E) 64 64 64 (1 + nx (rs (rs v)) 3) 0)) (.br (decide (1 + nx (rs (rs v)) 3 = 1)) (lf68 v [lkV (rs (rs (rs v)))] (r6 (rs (rs (rs v))))) (.br (decide (1 + nx (rs (rs v)) 3 = 2)) (lf68 v [lkV (rs (rs (rs v))), lkV (r6 (rs (rs (rs v))))] (r6 (r6 (rs (rs (rs v)))))) (lf68 v [lkV (rs (rs (rs v))), lkV (r6 (rs (rs (rs v)))), lkV (r6 (r6 (rs (rs (rs v)))))] (r6 (r6 (r6 (rs (rs (rs v))))))))) (.no 1)) (.no 1)) (.no 1)) (.no 1)) (.no 1)) (.no 1)) (.no 1)) (.no 1)).run := by kernel_rfl
theorem okN_t {v : PV} {n : Int} (h : okW v = true) (h1 : 0 < n) (h2 : n <= 4294967296) : okN v n = true := by
 simp only [okN, h, Bool.true_and, kA, kD]; omega
def itR6 : Nat -> PV -> PV
 | 0, v => v
 | k + 1, v => itR6 k (r6 v)
def lkD (v : PV) : Lk := ⟨lenV v, lowV v, highV v, spdV v, brkV v, (shV v).len, fun i => dq (fldV ((shV v).get i) 0), fun i => dq (fldV ((shV v).get i) 1)⟩
def armD (v : PV) : Am := ⟨⟨#[111, 110, 101]⟩, mkRat (40 * 0) 4, mkRat 0 4, mkRat ([(0 : Int), 1, -1, 1].getD (nx v 4).toNat 0) (1 + nx (rs v) 3).toNat, (1 + nx (rs (rs v)) 3).toNat, fun j => lkD (itR6 j (rs (rs (rs v))))⟩
theorem shV_get (v : PV) (i : Nat) (h : i < (shV v).len) : (shV v).get i = .agg [.q (dq (fldV ((shV v).get i) 0)) 64, .q (dq (fldV ((shV v).get i) 1)) 64] := by
 unfold shV at *
 by_cases hb : nx (rs (rs (rs (rs (rs v))))) 3 = 2
 ·simp only [hb, if_true, Cont.len, kH, kI] at h ⊢
  match i, h with
  | 0, _ => rfl
  | 1, _ => rfl
  | 2, _ => rfl
  | i + 3, h => omega
 ·simp only [hb, if_false, Cont.len, kH, kI] at h ⊢
  match i, h with
  | 0, _ => rfl
  | 1, _ => rfl
  | 2, _ => rfl
  | 3, _ => rfl
  | i + 4, h => omega
theorem lkV_le (v : PV) : VLe (lkV v) (lkPV (lkD v)) := by
 refine VLe.agg (VLeL.cons (.refl _) (VLeL.cons (.refl _) (VLeL.cons (.refl _) (VLeL.cons (.refl _) (VLeL.cons (.refl _) (VLeL.cons ?_ .nil))))))
 refine VLe.lst rfl fun i hi => ?_
 have := shV_get v i hi
 have e : (Cont.fn (lkD v).np (pv (lkD v).px (lkD v).py)).get i = (shV v).get i := this.symm
 rw [e]
 exact .refl _
theorem rle_arm (nm : ByteArray) (bx by_ t : Rat) (vs : List PV) (n : Nat) (f : Nat -> PV) (hl : vs.length = n) (h : ∀ (i : Nat) (v : PV), vs[i]? = some v -> noRef 8 v = true /\ VLe v (f i)) :
  RLe (frA nm bx by_ t (.fr 16 (.vals vs))) (frA nm bx by_ t (.fr 16 (.fn n f))) := by
 subst hl
 exact ⟨fun m => .refl _, fun m => KsLe.one (KLe.fn rfl h)⟩
def armFr (A : Am) : PV := frA A.name A.bx A.by_ A.t (.fr 16 (.fn A.n (fun j => lkPV (A.lk j))))
def s68 : Spec := fun args hs K => match args, hs with
 | [.ptr 0 1 0 0 [], .i .i64 k], [⟨1, .vals [.agg [.w v]]⟩] => .br (okW v && decide (k = 0)) (K (armFr (armD v)) [⟨1, .vals [.agg [.w (itR6 (armD v).n (rs (rs (rs v))))]]⟩]) (.no 1)
 | _, _ => .no 1
include hG in
theorem ok68 : qc prog G 59 s68 := by
 refine qk hG (orc68 hG) mix enter68 (L := [(4, l68)]) (pol := pol68) fun args hs K x h => ?_
 unfold s68 at h
 split at h
 case h_2 => cases h
 rename_i k v
 obtain ⟨hc, hr⟩ := k8 h
 simp only [kA, kD] at hc
 obtain ⟨hw, rfl⟩ := hc
 refine ⟨lps1 (b := b68) (live := [0, 4, 5, 30, 31]) (sp := l68) (m := 1) (by kernel_rfl) (by kernel_rfl) (by kernel_rfl) (loop68 hG), ?_⟩
 have w1 := okW_rs hw
 have w2 := okW_rs w1
 have w3 := okW_rs w2
 have g0 := nx_range v (show (0 : Int) < 4 by omega)
 have g1 := nx_range (rs v) (show (0 : Int) < 3 by omega)
 have g2 := nx_range (rs (rs v)) (show (0 : Int) < 3 by omega)
 have gt : ∀ i : Nat, -2 < [(0 : Int), 1, -1, 1].getD i 0 /\ [(0 : Int), 1, -1, 1].getD i 0 < 2 := by
  intro i
  match i with
  | 0 => decide
  | 1 => decide
  | 2 => decide
  | 3 => decide
  | i + 4 => exact ⟨by show (-2 : Int) < 0; decide, by show (0 : Int) < 2; decide⟩
 have gt' := gt (nx v 4).toNat
 rw [e68]
 rw [k5 (okN_t hw (by decide) (by decide)), k5 (by simp only [kA, kD, kH, kI]; omega), k5 (okN_t w1 (by decide) (by decide)),
  k5 (by simp only [ovf, kA, kD]; omega), k5 (by simp only [frq, kA, kD]; omega), k5 (okN_t w2 (by decide) (by decide)), k5 (by simp only [ovf, kA, kD]; omega),
  k5 (decP_iff.2 ⟨w3, rfl, by omega, by omega, rfl, rfl, rfl, rfl⟩)]
 have hn : (armD v).n = (1 + nx (rs (rs v)) 3).toNat := rfl
 have one : ∀ (vs : List PV), vs.length = (armD v).n -> (∀ i u, vs[i]? = some u -> u = lkV (itR6 i (rs (rs (rs v))))) ->
   RLe (frA (armD v).name (armD v).bx (armD v).by_ (armD v).t (.fr 16 (.vals vs))) (armFr (armD v)) := by
  intro vs hl hv
  refine rle_arm _ _ _ _ _ _ _ hl fun i u hu => ?_
  rw [hv i u hu]
  exact ⟨rfl, lkV_le _⟩
 by_cases e1 : 1 + nx (rs (rs v)) 3 = 1
 ·have hn1 : (armD v).n = 1 := by omega
  rw [hn1] at hr
  rw [k5 (kE e1)]
  refine ⟨_, _, _, rfl, one [lkV (rs (rs (rs v)))] (by rw [hn1]; rfl) (fun i u hu => ?_), hr⟩
  match i, hu with
  | 0, hu => exact (Option.some.inj hu).symm
  | i + 1, hu => simp at hu
 ·rw [k6 (kF e1)]
  by_cases e2 : 1 + nx (rs (rs v)) 3 = 2
  ·have hn1 : (armD v).n = 2 := by omega
   rw [hn1] at hr
   rw [k5 (kE e2)]
   refine ⟨_, _, _, rfl, one [lkV (rs (rs (rs v))), lkV (r6 (rs (rs (rs v))))] (by rw [hn1]; rfl) (fun i u hu => ?_), hr⟩
   match i, hu with
   | 0, hu => exact (Option.some.inj hu).symm
   | 1, hu => exact (Option.some.inj hu).symm
   | i + 2, hu => simp at hu
  ·have hn1 : (armD v).n = 3 := by omega
   rw [hn1] at hr
   rw [k6 (kF e2)]
   refine ⟨_, _, _, rfl, one [lkV (rs (rs (rs v))), lkV (r6 (rs (rs (rs v)))), lkV (r6 (r6 (rs (rs (rs v)))))] (by rw [hn1]; rfl) (fun i u hu => ?_), hr⟩
   match i, hu with
   | 0, hu => exact (Option.some.inj hu).symm
   | 1, hu => exact (Option.some.inj hu).symm
   | 2, hu => exact (Option.some.inj hu).symm
   | i + 3, hu => simp at hu
theorem enter15 : Enters prog 13 f13 (qe f13) := ⟨func13, by kernel_rfl, rfl⟩
def pol15 : Pol := { own := [6], wr := [(59, [0])] }
theorem e15 (v : PV) : evF prog [(59, s68)] [] pol15 f13 [.w v] [] qm =
 Tr.br (okW v && decide ((0 : Int) = 0)) (.br ((armD v).n.ble (armD v).n) (.ok (.ret (PV.agg [PV.s (armD v).name, PV.agg [PV.agg [PV.q (armD v).bx 64, PV.q (armD v).by_ 64], PV.agg [PV.bl false, PV.q (armD v).t 64]], PV.fr 16 (.fn (armD v).n fun (j : Nat) => PV.agg [PV.q ((armD v).lk (j + 0)).len 64, PV.q ((armD v).lk (j + 0)).low 64, PV.q ((armD v).lk (j + 0)).high 64, PV.q ((armD v).lk (j + 0)).spd 64, PV.q ((armD v).lk (j + 0)).brk 64, PV.lst 6 (.fn ((armD v).lk (j + 0)).np fun (a : Nat) => PV.agg [PV.q (((armD v).lk (j + 0)).px a) 64, PV.q (((armD v).lk (j + 0)).py a) 64])])]) [])) (.no 15)) (.no 1) := by kernel_rfl
def s15 : Spec := fun args hs K => match args, hs with
 | [.w v], [] => .br (okW v) (K (armFr (armD v)) []) (.no 1)
 | _, _ => .no 1
include hG in
theorem ok15 : qc prog G 13 s15 := by
 refine qk hG (.cons (ok68 hG) .nil) mix enter15 (L := []) (pol := pol15) fun args hs K x h => ?_
 unfold s15 at h
 split at h
 case h_2 => cases h
 rename_i v
 obtain ⟨hc, hr⟩ := k8 h
 refine ⟨k9 (by kernel_rfl), _, _, _, ?_, .refl _, hr⟩
 rw [e15, k5 (by rw [hc]; decide), k5 (by rw [kG]; omega), k7]
 rfl

theorem smQ_mk {n : Int} {d : Nat} (hd : d ≠ 0) (hn : n.natAbs <= 1000000) (hd2 : d <= 1000) : smQ (mkRat n d) = true :=
 smQ_iff.2 ⟨Nat.le_trans (mkRat_num_le n hd) hn, Nat.le_trans (mkRat_den_le n hd) hd2⟩
theorem mk_posI {n : Int} {d : Nat} (hn : 0 < n) (hd : 0 < d) : (0 : Rat) < mkRat n d := by
 rw [show n = ((n.toNat : Nat) : Int) by omega]; exact Prof.mk_pos (by omega) hd
theorem mk_negI {n : Int} {d : Nat} (hn : n < 0) (hd : 0 < d) : mkRat n d < (0 : Rat) := by
 have h := mk_posI (n := -n) (d := d) (by omega) hd
 rw [<- Rat.neg_mkRat] at h
 grind
def shF (g : Int) (b : Bool) : Cont := match b with
 | true => .vals [.agg [.q (mkRat (-1) 4) 64, .q (mkRat (-1) 4) 64], .agg [.q (mkRat (4 + 2 * g + 1) 4) 64, .q (mkRat 0 4) 64], .agg [.q (mkRat (-1) 4) 64, .q (mkRat 1 4) 64]]
 | false => .vals [.agg [.q (mkRat (-1) 4) 64, .q (mkRat (-1) 4) 64], .agg [.q (mkRat (4 + 2 * g + 1) 4) 64, .q (mkRat (-1) 4) 64], .agg [.q (mkRat (4 + 2 * g + 1) 4) 64, .q (mkRat 1 4) 64], .agg [.q (mkRat (-1) 4) 64, .q (mkRat 1 4) 64]]
theorem shV_F (v : PV) : shV v = shF (nx v 4) (decide (nx (rs (rs (rs (rs (rs v))))) 3 = 2)) := by
 unfold shV
 by_cases hb : nx (rs (rs (rs (rs (rs v))))) 3 = 2
 ·rw [if_pos hb, kE hb]; rfl
 ·rw [if_neg hb, kF hb]; rfl
theorem shF_ok : ∀ (g : Nat) (b : Bool), g < 4 -> polyB (shF g b).len (fun i => dq (fldV ((shF g b).get i) 0)) (fun i => dq (fldV ((shF g b).get i) 1)) = true
 | 0, true, _ => by kernel_rfl
 | 1, true, _ => by kernel_rfl
 | 2, true, _ => by kernel_rfl
 | 3, true, _ => by kernel_rfl
 | 0, false, _ => by kernel_rfl
 | 1, false, _ => by kernel_rfl
 | 2, false, _ => by kernel_rfl
 | 3, false, _ => by kernel_rfl
theorem lkB_V (v : PV) : lkB (lkD v) = true := by
 have g0 := nx_range v (show (0 : Int) < 4 by omega)
 have g1 := nx_range (rs v) (show (0 : Int) < 6 by omega)
 have g2 := nx_range (rs (rs v)) (show (0 : Int) < 6 by omega)
 have g3 := nx_range (rs (rs (rs v))) (show (0 : Int) < 8 by omega)
 have g4 := nx_range (rs (rs (rs (rs v)))) (show (0 : Int) < 20 by omega)
 have t3 : Int.toNat 3 = 3 := rfl
 have t4 : Int.toNat 4 = 4 := rfl
 have p := shF_ok (nx v 4).toNat (decide (nx (rs (rs (rs (rs (rs v))))) 3 = 2)) (by omega)
 rw [Int.toNat_of_nonneg g0.1, <- shV_F] at p
 have hlh : lowV v < highV v := by
  have a := mk_negI (n := -1 - nx (rs v) 6) (d := 3) (by omega) (by omega)
  have b := mk_posI (n := 1 + nx (rs (rs v)) 6) (d := 3) (by omega) (by omega)
  unfold lowV highV
  rw [t3]
  grind
 simp only [lkB, kA, kD]
 refine ⟨⟨⟨⟨⟨⟨⟨⟨⟨?_, ?_⟩, ?_⟩, ?_⟩, ?_⟩, ?_⟩, hlh⟩, ?_⟩, ?_⟩, p⟩
 ·exact smQ_mk (by omega) (by omega) (by omega)
 ·exact smQ_mk (by omega) (by omega) (by omega)
 ·exact smQ_mk (by omega) (by omega) (by omega)
 ·exact smQ_mk (by omega) (by omega) (by omega)
 ·exact smQ_mk (by omega) (by omega) (by omega)
 ·exact mk_posI (by omega) (by omega)
 ·exact mk_posI (by omega) (by omega)
 ·exact mk_posI (by omega) (by omega)
theorem armB_V (v : PV) : armB (armD v) = true := by
 have g0 := nx_range v (show (0 : Int) < 4 by omega)
 have g1 := nx_range (rs v) (show (0 : Int) < 3 by omega)
 have g2 := nx_range (rs (rs v)) (show (0 : Int) < 3 by omega)
 have hn : (armD v).n = (1 + nx (rs (rs v)) 3).toNat := rfl
 simp only [armB, kA, kD, List.all_eq_true]
 refine ⟨⟨⟨⟨⟨⟨by kernel_rfl, by kernel_rfl⟩, by kernel_rfl⟩, ?_⟩, by omega⟩, by omega⟩, fun j _ => lkB_V _⟩
 have gt : ∀ i : Nat, ([(0 : Int), 1, -1, 1].getD i 0).natAbs <= 1 := by
  intro i
  match i with
  | 0 => decide
  | 1 => decide
  | 2 => decide
  | 3 => decide
  | i + 4 => show (0 : Int).natAbs <= 1; decide
 have := gt (nx v 4).toNat
 exact smQ_mk (by omega) (by omega) (by omega)
def b106a : Code := (qh (qe f103)).getD 0 .skip
def b106b : Code := (qh (qe f103)).getD 1 .skip
def pol106 : Pol := { live := [(3, [1, 4, 5, 12, 13, 14]), (8, [1, 4, 5, 26, 27, 28])] }
theorem enter106 : Enters prog 103 f103 (qe f103) := ⟨func103, by kernel_rfl, rfl⟩
def st106a (x : Rat) (w : Nat) (bl : List UInt8) (i : Nat) : LS := ⟨[.ptr 0 3 0 0 [], .i .i64 (bv (bl.take i) : Nat), .i .i64 0, .lst 1 (.ints .u8 (bl.map fun c => (c.toNat : Int))), .i .i64 (bl.length : Nat), .i .i64 (i : Nat)], [some ⟨3, .vals [.q x w]⟩]⟩
def st106b (x : Rat) (w : Nat) (a : Int) (bl : List UInt8) (i : Nat) : LS := ⟨[.ptr 0 3 0 0 [], .i .i64 a, .i .i64 (bv (bl.take i) : Nat), .lst 1 (.ints .u8 (bl.map fun c => (c.toNat : Int))), .i .i64 (bl.length : Nat), .i .i64 (i : Nat)], [some ⟨3, .vals [.q x w]⟩]⟩
theorem r106a (x : Rat) (w : Nat) (a b n i : Int) (l : List Int) : qg prog [] [] pol106 f103.ntmps 0 [1, 4, 5, 12, 13, 14] b106a ⟨[.ptr 0 3 0 0 [], .i .i64 a, .i .i64 b, .lst 1 (.ints .u8 l), .i .i64 n, .i .i64 i], [some ⟨3, .vals [.q x w]⟩]⟩ =
 Tr.br (decide (i < n)) (.br (ix (i) ((l.length : Int))) (.br (ib ((256 : Int) * a)) (.br (ib ((256 : Int) * a + IntKind.i64.wrap (l.getD i.toNat (0 : Int)))) (.br (ib (i + 1)) (.ok (.out .normal (LS.mk [.ptr 0 3 0 0 [], .i .i64 ((256 : Int) * a + IntKind.i64.wrap (l.getD i.toNat (0 : Int))), .i .i64 b, .lst 1 (.ints .u8 l), .i .i64 n, .i .i64 (i + 1)] [some (.mk 3 (.vals [.q x w]))]))) (.no 7002)) (.no 6002)) (.no 6005)) (.no 5003)) (.ok (.out (.exit 0) (LS.mk [.ptr 0 3 0 0 [], .i .i64 a, .i .i64 b, .lst 1 (.ints .u8 l), .i .i64 n, .i .i64 i] [some (.mk 3 (.vals [.q x w]))]))) := by kernel_rfl
theorem r106b (x : Rat) (w : Nat) (a b n i : Int) (l : List Int) : qg prog [] [] pol106 f103.ntmps 0 [1, 4, 5, 26, 27, 28] b106b ⟨[.ptr 0 3 0 0 [], .i .i64 a, .i .i64 b, .lst 1 (.ints .u8 l), .i .i64 n, .i .i64 i], [some ⟨3, .vals [.q x w]⟩]⟩ =
 Tr.br (decide (i < n)) (.br (ix (i) ((l.length : Int))) (.br (ib ((256 : Int) * b)) (.br (ib ((256 : Int) * b + IntKind.i64.wrap (l.getD i.toNat (0 : Int)))) (.br (ib (i + 1)) (.ok (.out .normal (LS.mk [.ptr 0 3 0 0 [], .i .i64 a, .i .i64 ((256 : Int) * b + IntKind.i64.wrap (l.getD i.toNat (0 : Int))), .lst 1 (.ints .u8 l), .i .i64 n, .i .i64 (i + 1)] [some (.mk 3 (.vals [.q x w]))]))) (.no 12002)) (.no 11002)) (.no 11005)) (.no 10003)) (.ok (.out (.exit 2) (LS.mk [.ptr 0 3 0 0 [], .i .i64 a, .i .i64 b, .lst 1 (.ints .u8 l), .i .i64 n, .i .i64 i] [some (.mk 3 (.vals [.q x w]))]))) := by kernel_rfl
def bI (l : List Int) : Int := (bv (l.map fun n => UInt8.ofNat n.toNat) : Nat)
theorem bI_map (bl : List UInt8) : bI (bl.map fun c => (c.toNat : Int)) = (bv bl : Nat) := by
 unfold bI
 rw [List.map_map]
 have : (List.map ((fun n : Int => UInt8.ofNat n.toNat) ∘ fun c : UInt8 => (c.toNat : Int)) bl) = bl := by
  rw [List.map_congr_left (g := id) (fun c _ => by simp), List.map_id]
 rw [this]
def F106 (l : List Int) (n i : Int) : Prop := ∃ bl : List UInt8, l = (bl.map fun c => (c.toNat : Int)) /\ n = (bl.length : Nat) /\ i = 0 /\ bl.length <= 2
def l106a : qu := fun ls K => match ls with
 | ⟨[.ptr 0 3 0 0 [], .i .i64 a, .i .i64 b, .lst 1 (.ints .u8 l), .i .i64 n, .i .i64 i], [some ⟨3, .vals [.q x w]⟩]⟩ => .br (qi (F106 l n i /\ a = 0 /\ b = 0)) (K (.exit 0) ⟨[.ptr 0 3 0 0 [], .i .i64 (bI l), .i .i64 b, .lst 1 (.ints .u8 l), .i .i64 n, .i .i64 n], [some ⟨3, .vals [.q x w]⟩]⟩) (.no 1)
 | _ => .no 1
def l106b : qu := fun ls K => match ls with
 | ⟨[.ptr 0 3 0 0 [], .i .i64 a, .i .i64 b, .lst 1 (.ints .u8 l), .i .i64 n, .i .i64 i], [some ⟨3, .vals [.q x w]⟩]⟩ => .br (qi (F106 l n i /\ b = 0)) (K (.exit 2) ⟨[.ptr 0 3 0 0 [], .i .i64 a, .i .i64 (bI l), .lst 1 (.ints .u8 l), .i .i64 n, .i .i64 n], [some ⟨3, .vals [.q x w]⟩]⟩) (.no 1)
 | _ => .no 1
theorem bv2_lt (bl : List UInt8) (i : Nat) (h : bl.length <= 2) : bv (bl.take i) < 65536 := by
 have h1 := bv_lt (bl.take i)
 have h2 : 256 ^ (bl.take i).length <= 256 ^ 2 := Nat.pow_le_pow_right (by omega) (by rw [List.length_take]; omega)
 omega
theorem bv_take_succ (bl : List UInt8) (i : Nat) (h : i < bl.length) : bv (bl.take (i + 1)) = bv (bl.take i) * 256 + (bl.getD i 0).toNat := by
 rw [List.take_add_one, List.getElem?_eq_getElem h, List.getD_eq_getElem?_getD, List.getElem?_eq_getElem h]
 exact bv_snoc _ _
theorem byte_get (bl : List UInt8) (i : Nat) (h : i < bl.length) : IntKind.i64.wrap ((bl.map fun c => (c.toNat : Int)).getD i 0) = ((bl.getD i 0).toNat : Int) := by
 rw [List.getD_eq_getElem?_getD, List.getD_eq_getElem?_getD, List.getElem?_map, List.getElem?_eq_getElem h]
 have := UInt8.toNat_lt (bl[i])
 show IntKind.i64.wrap ((bl[i].toNat : Nat) : Int) = ((bl[i].toNat : Nat) : Int)
 exact wi64 (by omega) (by omega)
include hG in
theorem loop106a : qt prog G f103.ntmps 0 [1, 4, 5, 12, 13, 14] b106a l106a := by
 intro ls K y hm h
 unfold l106a at h
 split at h
 case h_2 => cases h
 rename_i a b l n i x w
 obtain ⟨hc, hr⟩ := k8 h
 obtain ⟨⟨bl, rfl, rfl, rfl, hl⟩, rfl, rfl⟩ := decP_iff.1 hc
 have hg := Goes.count (R := Rnd prog G f103.ntmps 0 [1, 4, 5, 12, 13, 14] b106a) (fun i => st106a x w bl i) (e := .exit 0) (ls' := st106a x w bl bl.length) (by simp) bl.length 0
  (fun i _ hi => qb hG .nil mix (L := []) (pol := pol106) (O := []) (k9 (by kernel_rfl)) (Nat.zero_le _) (by
   have hi' : i < bl.length := by omega
   have b1 := bv2_lt bl i hl
   have b2 := bv2_lt bl (i + 1) hl
   have b3 := bv_take_succ bl i hi'
   have b4 := byte_get bl i hi'
   unfold st106a
   rw [r106a, Int.toNat_natCast, b4, k5 (kE (by omega)), k5 (by simp only [kA, kD, List.length_map]; omega), k5 (by simp only [kA, kD]; omega), k5 (by simp only [kA, kD]; omega), k5 (by simp only [kA, kD]; omega), k7]
   have e1 : 256 * ((bv (bl.take i) : Nat) : Int) + ((bl.getD i 0).toNat : Int) = ((bv (bl.take (i + 1)) : Nat) : Int) := by omega
   rw [e1]
   rfl))
  (by
   refine qb hG .nil mix (L := []) (pol := pol106) (O := []) (k9 (by kernel_rfl)) (Nat.zero_le _) ?_
   unfold st106a
   rw [Nat.zero_add, r106a, k6 (kF (by omega)), k7])
 refine ⟨_, _, qp hg, ?_⟩
 unfold st106a
 rw [List.take_length, <- bI_map]
 exact hr
include hG in
theorem loop106b : qt prog G f103.ntmps 0 [1, 4, 5, 26, 27, 28] b106b l106b := by
 intro ls K y hm h
 unfold l106b at h
 split at h
 case h_2 => cases h
 rename_i a b l n i x w
 obtain ⟨hc, hr⟩ := k8 h
 obtain ⟨⟨bl, rfl, rfl, rfl, hl⟩, rfl⟩ := decP_iff.1 hc
 have hg := Goes.count (R := Rnd prog G f103.ntmps 0 [1, 4, 5, 26, 27, 28] b106b) (fun i => st106b x w a bl i) (e := .exit 2) (ls' := st106b x w a bl bl.length) (by simp) bl.length 0
  (fun i _ hi => qb hG .nil mix (L := []) (pol := pol106) (O := []) (k9 (by kernel_rfl)) (Nat.zero_le _) (by
   have hi' : i < bl.length := by omega
   have b1 := bv2_lt bl i hl
   have b2 := bv2_lt bl (i + 1) hl
   have b3 := bv_take_succ bl i hi'
   have b4 := byte_get bl i hi'
   unfold st106b
   rw [r106b, Int.toNat_natCast, b4, k5 (kE (by omega)), k5 (by simp only [kA, kD, List.length_map]; omega), k5 (by simp only [kA, kD]; omega), k5 (by simp only [kA, kD]; omega), k5 (by simp only [kA, kD]; omega), k7]
   have e1 : 256 * ((bv (bl.take i) : Nat) : Int) + ((bl.getD i 0).toNat : Int) = ((bv (bl.take (i + 1)) : Nat) : Int) := by omega
   rw [e1]
   rfl))
  (by
   refine qb hG .nil mix (L := []) (pol := pol106) (O := []) (k9 (by kernel_rfl)) (Nat.zero_le _) ?_
   unfold st106b
   rw [Nat.zero_add, r106b, k6 (kF (by omega)), k7])
 refine ⟨_, _, qp hg, ?_⟩
 unfold st106b
 rw [List.take_length, <- bI_map]
 exact hr
theorem e106 (x : Rat) (w : Nat) : evF prog [] [(3, l106a), (8, l106b)] pol106 f103 [.q x w] [] qm =
 Tr.br (qi (F106 (List.map (fun (c : UInt8) => (c.toNat : Int)) (qa x.num.natAbs x.num.natAbs []).toArray.toList) (↑(List.map (fun (c : UInt8) => (c.toNat : Int)) (qa x.num.natAbs x.num.natAbs []).toArray.toList).length : Int) (0 : Int) /\ (0 : Int) = 0 /\ (0 : Int) = 0)) (.br (qi (F106 (List.map (fun (c : UInt8) => (c.toNat : Int)) (qa x.den x.den []).toArray.toList) (↑(List.map (fun (c : UInt8) => (c.toNat : Int)) (qa x.den x.den []).toArray.toList).length : Int) (0 : Int) /\ (0 : Int) = 0)) (.br (ql x) (.br (ib ((0 : Int) - bI (List.map (fun (c : UInt8) => (c.toNat : Int)) (qa x.num.natAbs x.num.natAbs []).toArray.toList))) (.ok (.ret (.tup [.i .i64 ((0 : Int) - bI (List.map (fun (c : UInt8) => (c.toNat : Int)) (qa x.num.natAbs x.num.natAbs []).toArray.toList)), .i .i64 (if (1 : Int) > bI (List.map (fun (c : UInt8) => (c.toNat : Int)) (qa x.den x.den []).toArray.toList) then (1 : Int) else bI (List.map (fun (c : UInt8) => (c.toNat : Int)) (qa x.den x.den []).toArray.toList))]) [])) (.no 14002)) (.ok (.ret (.tup [.i .i64 (bI (List.map (fun (c : UInt8) => (c.toNat : Int)) (qa x.num.natAbs x.num.natAbs []).toArray.toList)), .i .i64 (if (1 : Int) > bI (List.map (fun (c : UInt8) => (c.toNat : Int)) (qa x.den x.den []).toArray.toList) then (1 : Int) else bI (List.map (fun (c : UInt8) => (c.toNat : Int)) (qa x.den x.den []).toArray.toList))]) []))) (.no 1)) (.no 1) := by kernel_rfl
def smX (x : Rat) : Bool := decide (x.num.natAbs < 1000) && decide (x.den < 1000)
def s106 : Spec := fun args hs K => match args, hs with
 | [.q x _], [] => .br (smX x) (K (.tup [.i .i64 x.num, .i .i64 x.den]) []) (.no 1)
 | _, _ => .no 1


theorem bI_nbl (n : Nat) : bI (List.map (fun (c : UInt8) => (c.toNat : Int)) (qa n n []).toArray.toList) = (n : Int) := by
 rw [show (qa n n []).toArray.toList = nbl n from rfl, bI_map, bv_nbl]
theorem F106_nbl {n : Nat} (h : n < 65536) : F106 (List.map (fun (c : UInt8) => (c.toNat : Int)) (qa n n []).toArray.toList) ((List.map (fun (c : UInt8) => (c.toNat : Int)) (qa n n []).toArray.toList).length : Nat) 0 := by
 rw [show (qa n n []).toArray.toList = nbl n from rfl]
 exact ⟨nbl n, rfl, by rw [List.length_map], rfl, nbl_length_le (k := 2) (by omega)⟩
include hG in
theorem ok106 : qc prog G 103 s106 := by
 refine qk hG .nil mix enter106 (L := [(3, l106a), (8, l106b)]) (pol := pol106) fun args hs K x h => ?_
 unfold s106 at h
 split at h
 case h_2 => cases h
 rename_i x w
 obtain ⟨hc, hr⟩ := k8 h
 simp only [smX, kA, kD] at hc
 refine ⟨lps2 (b1 := b106a) (live1 := [1, 4, 5, 12, 13, 14]) (sp1 := l106a) (b2 := b106b) (live2 := [1, 4, 5, 26, 27, 28]) (sp2 := l106b) (m := 0) (by kernel_rfl) (by kernel_rfl) (by kernel_rfl) (by kernel_rfl) (by kernel_rfl) (loop106a hG) (loop106b hG), ?_⟩
 have hd := x.den_pos
 rw [e106, bI_nbl, bI_nbl, k5 (decP_iff.2 ⟨F106_nbl (by omega), rfl, rfl⟩), k5 (decP_iff.2 ⟨F106_nbl (by omega), rfl⟩)]
 have e2 : (if (1 : Int) > (x.den : Int) then (1 : Int) else (x.den : Int)) = (x.den : Int) := if_neg (by omega)
 rw [e2]
 cases hn : ql x with
 | true =>
  have hneg : x.num < 0 := of_decide_eq_true hn
  rw [k5 rfl, k5 (by simp only [kA, kD]; omega), k7, show (0 : Int) - (x.num.natAbs : Int) = x.num by omega]
  exact ⟨_, _, _, rfl, .refl _, hr⟩
 | false =>
  have hneg : ¬ x.num < 0 := of_decide_eq_false hn
  rw [k6 rfl, k7, show (x.num.natAbs : Int) = x.num by omega]
  exact ⟨_, _, _, rfl, .refl _, hr⟩
def b69 : Code := (qh (qe f61)).getD 0 .skip
def pol69 : Pol := { live := [(3, [1, 5, 14, 15, 16])], wr := [(60, [0])] }
theorem enter69 : Enters prog 61 f61 (qe f61) := ⟨func61, by kernel_rfl, rfl⟩
def O69 : Orc := [(60, s45), (75, s81), (103, s106)]
def n69 (v : PV) (n : Nat) (lk : Nat -> Lk) (i : Int) : LS := ⟨[.ptr 0 1 0 0 [], .nil, .lst 16 (.fn n (fun j => lkPV (lk j))), .i .i64 n, .i .i64 i], [some ⟨1, .vals [.agg [.w v]]⟩]⟩
def x69 (v : PV) (n : Nat) (lk : Nat -> Lk) (xs : List Rat) (i : Int) : LS := ⟨[.ptr 0 1 0 0 [], .sl 1 3 0 xs.length, .lst 16 (.fn n (fun j => lkPV (lk j))), .i .i64 n, .i .i64 i], [some ⟨1, .vals [.agg [.w v]]⟩, some ⟨3, .rats 64 xs⟩]⟩
theorem r69n (v : PV) (n : Nat) (lk : Nat -> Lk) (i : Int) : qg prog O69 [] pol69 f61.ntmps 1 [1, 5, 14, 15, 16] b69 (n69 v n lk i) =
 Tr.br (decide (i < (n : Int))) (.br (ix (i) ((n : Int))) (.br (smX (lk i.toNat).low) (.br (smX (lk i.toNat).high) (.br (okW v && decide ((0 : Int) < 9) && decide ((9 : Int) <= 4294967296)) (.br (ib ((8 : Int) * (lk i.toNat).low.num)) (.br (ib ((8 : Int) * (lk i.toNat).low.num * (↑(lk i.toNat).high.den : Int))) (.br (ib ((lk i.toNat).high.num * (↑(lk i.toNat).low.den : Int))) (.br (ib ((lk i.toNat).low.num * (↑(lk i.toNat).high.den : Int))) (.br (ib ((lk i.toNat).high.num * (↑(lk i.toNat).low.den : Int) - (lk i.toNat).low.num * (↑(lk i.toNat).high.den : Int))) (.br (ib (((lk i.toNat).high.num * (↑(lk i.toNat).low.den : Int) - (lk i.toNat).low.num * (↑(lk i.toNat).high.den : Int)) * nx v (9 : Int))) (.br (ib ((8 : Int) * (lk i.toNat).low.num * (↑(lk i.toNat).high.den : Int) + ((lk i.toNat).high.num * (↑(lk i.toNat).low.den : Int) - (lk i.toNat).low.num * (↑(lk i.toNat).high.den : Int)) * nx v (9 : Int))) (.br (ib ((8 : Int) * (↑(lk i.toNat).low.den : Int))) (.br (ib ((8 : Int) * (↑(lk i.toNat).low.den : Int) * (↑(lk i.toNat).high.den : Int))) (.br (decide ((0 : Int) < 8 * (↑(lk i.toNat).low.den : Int) * (↑(lk i.toNat).high.den : Int)) && decide ((8 : Int) * (↑(lk i.toNat).low.den : Int) * (↑(lk i.toNat).high.den : Int) < 4611686018427387904) && decide ((-4611686018427387904 : Int) < 8 * (lk i.toNat).low.num * (↑(lk i.toNat).high.den : Int) + ((lk i.toNat).high.num * (↑(lk i.toNat).low.den : Int) - (lk i.toNat).low.num * (↑(lk i.toNat).high.den : Int)) * nx v (9 : Int)) && decide ((8 : Int) * (lk i.toNat).low.num * (↑(lk i.toNat).high.den : Int) + ((lk i.toNat).high.num * (↑(lk i.toNat).low.den : Int) - (lk i.toNat).low.num * (↑(lk i.toNat).high.den : Int)) * nx v (9 : Int) < 4611686018427387904)) (.br (Nat.blt (0 : Nat) [mkRat ((8 : Int) * (lk i.toNat).low.num * (↑(lk i.toNat).high.den : Int) + ((lk i.toNat).high.num * (↑(lk i.toNat).low.den : Int) - (lk i.toNat).low.num * (↑(lk i.toNat).high.den : Int)) * nx v (9 : Int)) ((8 : Int) * (↑(lk i.toNat).low.den : Int) * (↑(lk i.toNat).high.den : Int)).toNat].length && [mkRat ((8 : Int) * (lk i.toNat).low.num * (↑(lk i.toNat).high.den : Int) + ((lk i.toNat).high.num * (↑(lk i.toNat).low.den : Int) - (lk i.toNat).low.num * (↑(lk i.toNat).high.den : Int)) * nx v (9 : Int)) ((8 : Int) * (↑(lk i.toNat).low.den : Int) * (↑(lk i.toNat).high.den : Int)).toNat].length.ble 4294967296) (.br (ib (i + 1)) (.ok (.out .normal { t := [.ptr 0 1 0 0 [], .sl 1 3 0 1, .lst 16 (.fn n fun (j : Nat) => .agg [.q (lk j).len 64, .q (lk j).low 64, .q (lk j).high 64, .q (lk j).spd 64, .q (lk j).brk 64, .lst 6 (.fn (lk j).np fun (a : Nat) => .agg [.q ((lk j).px a) 64, .q ((lk j).py a) 64])]), .i .i64 (n : Int), .i .i64 (i + 1)], h := [some { e := 1, c := Cont.vals [.agg [(rs v).w]] }, some { e := 3, c := Cont.rats 64 [mkRat ((8 : Int) * (lk i.toNat).low.num * (↑(lk i.toNat).high.den : Int) + ((lk i.toNat).high.num * (↑(lk i.toNat).low.den : Int) - (lk i.toNat).low.num * (↑(lk i.toNat).high.den : Int)) * nx v (9 : Int)) ((8 : Int) * (↑(lk i.toNat).low.den : Int) * (↑(lk i.toNat).high.den : Int)).toNat] }] })) (.no 10002)) (.no 9002)) (.no 1)) (.no 9005)) (.no 9007)) (.no 9009)) (.no 9010)) (.no 9012)) (.no 9013)) (.no 9016)) (.no 9019)) (.no 9021)) (.no 1)) (.no 1)) (.no 1)) (.no 5004)) (.ok (.out (.exit 0) { t := [.ptr 0 1 0 0 [], .nil, .lst 16 (.fn n fun (j : Nat) => .agg [.q (lk j).len 64, .q (lk j).low 64, .q (lk j).high 64, .q (lk j).spd 64, .q (lk j).brk 64, .lst 6 (.fn (lk j).np fun (a : Nat) => .agg [.q ((lk j).px a) 64, .q ((lk j).py a) 64])]), .i .i64 (n : Int), .i .i64 i], h := [some { e := 1, c := Cont.vals [.agg [v.w]] }] })) := by kernel_rfl
theorem r69 (v : PV) (n : Nat) (lk : Nat -> Lk) (xs : List Rat) (i : Int) : qg prog O69 [] pol69 f61.ntmps 1 [1, 5, 14, 15, 16] b69 (x69 v n lk xs i) =
 Tr.br (decide (i < (n : Int))) (.br (ix (i) ((n : Int))) (.br (smX (lk i.toNat).low) (.br (smX (lk i.toNat).high) (.br (okW v && decide ((0 : Int) < 9) && decide ((9 : Int) <= 4294967296)) (.br (ib ((8 : Int) * (lk i.toNat).low.num)) (.br (ib ((8 : Int) * (lk i.toNat).low.num * (↑(lk i.toNat).high.den : Int))) (.br (ib ((lk i.toNat).high.num * (↑(lk i.toNat).low.den : Int))) (.br (ib ((lk i.toNat).low.num * (↑(lk i.toNat).high.den : Int))) (.br (ib ((lk i.toNat).high.num * (↑(lk i.toNat).low.den : Int) - (lk i.toNat).low.num * (↑(lk i.toNat).high.den : Int))) (.br (ib (((lk i.toNat).high.num * (↑(lk i.toNat).low.den : Int) - (lk i.toNat).low.num * (↑(lk i.toNat).high.den : Int)) * nx v (9 : Int))) (.br (ib ((8 : Int) * (lk i.toNat).low.num * (↑(lk i.toNat).high.den : Int) + ((lk i.toNat).high.num * (↑(lk i.toNat).low.den : Int) - (lk i.toNat).low.num * (↑(lk i.toNat).high.den : Int)) * nx v (9 : Int))) (.br (ib ((8 : Int) * (↑(lk i.toNat).low.den : Int))) (.br (ib ((8 : Int) * (↑(lk i.toNat).low.den : Int) * (↑(lk i.toNat).high.den : Int))) (.br (decide ((0 : Int) < 8 * (↑(lk i.toNat).low.den : Int) * (↑(lk i.toNat).high.den : Int)) && decide ((8 : Int) * (↑(lk i.toNat).low.den : Int) * (↑(lk i.toNat).high.den : Int) < 4611686018427387904) && decide ((-4611686018427387904 : Int) < 8 * (lk i.toNat).low.num * (↑(lk i.toNat).high.den : Int) + ((lk i.toNat).high.num * (↑(lk i.toNat).low.den : Int) - (lk i.toNat).low.num * (↑(lk i.toNat).high.den : Int)) * nx v (9 : Int)) && decide ((8 : Int) * (lk i.toNat).low.num * (↑(lk i.toNat).high.den : Int) + ((lk i.toNat).high.num * (↑(lk i.toNat).low.den : Int) - (lk i.toNat).low.num * (↑(lk i.toNat).high.den : Int)) * nx v (9 : Int) < 4611686018427387904)) (.br (xs.length.ble xs.length && (xs.length + [mkRat ((8 : Int) * (lk i.toNat).low.num * (↑(lk i.toNat).high.den : Int) + ((lk i.toNat).high.num * (↑(lk i.toNat).low.den : Int) - (lk i.toNat).low.num * (↑(lk i.toNat).high.den : Int)) * nx v (9 : Int)) ((8 : Int) * (↑(lk i.toNat).low.den : Int) * (↑(lk i.toNat).high.den : Int)).toNat].length).ble 4294967296) (.br (ib (i + 1)) (.ok (.out .normal { t := [.ptr 0 1 0 0 [], .sl 1 3 0 (xs.length + [mkRat ((8 : Int) * (lk i.toNat).low.num * (↑(lk i.toNat).high.den : Int) + ((lk i.toNat).high.num * (↑(lk i.toNat).low.den : Int) - (lk i.toNat).low.num * (↑(lk i.toNat).high.den : Int)) * nx v (9 : Int)) ((8 : Int) * (↑(lk i.toNat).low.den : Int) * (↑(lk i.toNat).high.den : Int)).toNat].length), .lst 16 (.fn n fun (j : Nat) => .agg [.q (lk j).len 64, .q (lk j).low 64, .q (lk j).high 64, .q (lk j).spd 64, .q (lk j).brk 64, .lst 6 (.fn (lk j).np fun (a : Nat) => .agg [.q ((lk j).px a) 64, .q ((lk j).py a) 64])]), .i .i64 (n : Int), .i .i64 (i + 1)], h := [some { e := 1, c := Cont.vals [.agg [(rs v).w]] }, some { e := 3, c := Cont.rats 64 (List.take xs.length (List.drop (0 : Nat) xs) ++ [mkRat ((8 : Int) * (lk i.toNat).low.num * (↑(lk i.toNat).high.den : Int) + ((lk i.toNat).high.num * (↑(lk i.toNat).low.den : Int) - (lk i.toNat).low.num * (↑(lk i.toNat).high.den : Int)) * nx v (9 : Int)) ((8 : Int) * (↑(lk i.toNat).low.den : Int) * (↑(lk i.toNat).high.den : Int)).toNat]) }] })) (.no 10002)) (.no 9002)) (.no 1)) (.no 9005)) (.no 9007)) (.no 9009)) (.no 9010)) (.no 9012)) (.no 9013)) (.no 9016)) (.no 9019)) (.no 9021)) (.no 1)) (.no 1)) (.no 1)) (.no 5004)) (.ok (.out (.exit 0) { t := [.ptr 0 1 0 0 [], .sl 1 3 0 xs.length, .lst 16 (.fn n fun (j : Nat) => .agg [.q (lk j).len 64, .q (lk j).low 64, .q (lk j).high 64, .q (lk j).spd 64, .q (lk j).brk 64, .lst 6 (.fn (lk j).np fun (a : Nat) => .agg [.q ((lk j).px a) 64, .q ((lk j).py a) 64])]), .i .i64 (n : Int), .i .i64 i], h := [some { e := 1, c := Cont.vals [.agg [v.w]] }, some { e := 3, c := Cont.rats 64 xs }] })) := by kernel_rfl

def itRs : Nat -> PV -> PV
 | 0, v => v
 | k + 1, v => rs (itRs k v)
theorem okW_itRs {v : PV} (h : okW v = true) : ∀ k, okW (itRs k v) = true
 | 0 => h
 | k + 1 => okW_rs (okW_itRs h k)
def cf0 (l h : Rat) (k : Int) : Rat := mkRat ((8 : Int) * l.num * (h.den : Int) + (h.num * (l.den : Int) - l.num * (h.den : Int)) * k) ((8 : Int) * (l.den : Int) * (h.den : Int)).toNat
def cf1 (lk : Nat -> Lk) (v : PV) (j : Nat) : Rat := cf0 (lk j).low (lk j).high (nx (itRs j v) 9)
def cfL (lk : Nat -> Lk) (v : PV) (n : Nat) : List Rat := (List.range n).map (cf1 lk v)
theorem cfL_succ (lk : Nat -> Lk) (v : PV) (n : Nat) : cfL lk v (n + 1) = cfL lk v n ++ [cf1 lk v n] := by simp [cfL, List.range_succ]
theorem cfL_len (lk : Nat -> Lk) (v : PV) (n : Nat) : (cfL lk v n).length = n := by simp [cfL]
theorem nabs_mul {a b : Int} {A B : Nat} (ha : a.natAbs <= A) (hb : b.natAbs <= B) : (a * b).natAbs <= A * B := by
 rw [Int.natAbs_mul]; exact Nat.mul_le_mul ha hb
theorem smX_iff {x : Rat} : smX x = true ↔ x.num.natAbs < 1000 /\ x.den < 1000 := by simp [smX]
def st69 (v : PV) (n : Nat) (lk : Nat -> Lk) (xs : List Rat) (i : Int) : LS := match xs with
 | [] => n69 v n lk i
 | xs => x69 v n lk xs i
theorem st69_x {v : PV} {n : Nat} {lk : Nat -> Lk} {xs : List Rat} {i : Int} (h : xs ≠ []) : st69 v n lk xs i = x69 v n lk xs i := by
 cases xs with
 | nil => exact absurd rfl h
 | cons x xs => rfl
include hG in
theorem orc69 : OrcOK prog G O69 := .cons (ok45 hG) (.cons (ok81 hG) (.cons (ok106 hG) .nil))
theorem step69 (v : PV) (hw : okW v = true) (n : Nat) (lk : Nat -> Lk) (xs : List Rat) (j : Nat) (hn : n <= 3) (hj : j < n) (hx : xs.length <= 1000) (h1 : smX (lk j).low = true) (h2 : smX (lk j).high = true) :
  (qg prog O69 [] pol69 f61.ntmps 1 [1, 5, 14, 15, 16] b69 (st69 v n lk xs ((j : Nat) : Int))).run = some (.out .normal (st69 (rs v) n lk (xs ++ [cf0 (lk j).low (lk j).high (nx v 9)]) ((j + 1 : Nat) : Int))) := by
 obtain ⟨a1, a2⟩ := smX_iff.1 h1
 obtain ⟨a3, a4⟩ := smX_iff.1 h2
 have d1 := (lk j).low.den_pos
 have d2 := (lk j).high.den_pos
 have g := nx_range v (show (0 : Int) < 9 by omega)
 have b1 : ((8 : Int) * (lk j).low.num * ((lk j).high.den : Int)).natAbs <= 8 * 1000 * 1000 := nabs_mul (nabs_mul (by omega) (by omega)) (by omega)
 have b2 : ((lk j).high.num * ((lk j).low.den : Int)).natAbs <= 1000 * 1000 := nabs_mul (by omega) (by omega)
 have b3 : ((lk j).low.num * ((lk j).high.den : Int)).natAbs <= 1000 * 1000 := nabs_mul (by omega) (by omega)
 have b4 : (((lk j).high.num * ((lk j).low.den : Int) - (lk j).low.num * ((lk j).high.den : Int)) * nx v 9).natAbs <= 2000000 * 9 := nabs_mul (by omega) (by omega)
 have b5 : ((8 : Int) * ((lk j).low.den : Int) * ((lk j).high.den : Int)).natAbs <= 8 * 1000 * 1000 := nabs_mul (nabs_mul (by omega) (by omega)) (by omega)
 have b6 : 0 < (8 : Int) * ((lk j).low.den : Int) * ((lk j).high.den : Int) := Int.mul_pos (by omega) (by omega)
 rw [st69_x (xs := xs ++ [cf0 (lk j).low (lk j).high (nx v 9)]) (by simp)]
 cases xs with
 | nil =>
  show (qg prog O69 [] pol69 f61.ntmps 1 [1, 5, 14, 15, 16] b69 (n69 v n lk ((j : Nat) : Int))).run = _
  rw [r69n, Int.toNat_natCast, k5 (kE (by omega)), k5 (by simp only [kA, kD]; omega), k5 h1, k5 h2, k5 (by rw [hw]; decide)]
  repeat rw [k5 (by simp only [kA, kD, Nat.blt_eq, kG, kH, kI]; omega)]
  rw [k7]
  rfl
 | cons y ys =>
  show (qg prog O69 [] pol69 f61.ntmps 1 [1, 5, 14, 15, 16] b69 (x69 v n lk (y :: ys) ((j : Nat) : Int))).run = _
  rw [r69, Int.toNat_natCast, k5 (kE (by omega)), k5 (by simp only [kA, kD]; omega), k5 h1, k5 h2, k5 (by rw [hw]; decide)]
  simp only [kH] at hx
  repeat rw [k5 (by simp only [kA, kD, Nat.blt_eq, kG, kH, kI]; omega)]
  rw [k7, List.drop_zero, List.take_length]
  have hlen : ((y :: ys) ++ [cf0 (lk j).low (lk j).high (nx v 9)]).length = (y :: ys).length + 1 := by simp
  unfold x69
  rw [hlen]
  rfl
def Pl69 (v : PV) (n : Nat) (f : Nat -> PV) (m i : Int) : Prop := ∃ lk : Nat -> Lk, f = (fun j => lkPV (lk j)) /\ m = n /\ i = 0 /\ 1 <= n /\ n <= 3 /\ okW v = true /\ ∀ j, j < n -> smX (lk j).low = true /\ smX (lk j).high = true
def cfF (f : Nat -> PV) (v : PV) (n : Nat) : List Rat := cfL (fun j => dLk (f j)) v n
def l69 : qu := fun ls K => match ls with
 | ⟨[.ptr 0 1 0 0 [], .nil, .lst 16 (.fn n f), .i .i64 m, .i .i64 i], [some ⟨1, .vals [.agg [.w v]]⟩]⟩ => .br (qi (Pl69 v n f m i)) (K (.exit 0) ⟨[.ptr 0 1 0 0 [], .sl 1 3 0 (cfF f v n).length, .lst 16 (.fn n f), .i .i64 m, .i .i64 m], [some ⟨1, .vals [.agg [.w (itRs n v)]]⟩, some ⟨3, .rats 64 (cfF f v n)⟩]⟩) (.no 1)
 | _ => .no 1
include hG in
theorem loop69 : qt prog G f61.ntmps 1 [1, 5, 14, 15, 16] b69 l69 := by
 intro ls K y hm h
 unfold l69 at h
 split at h
 case h_2 => cases h
 rename_i n f m i v
 obtain ⟨hc, hr⟩ := k8 h
 obtain ⟨lk, rfl, rfl, rfl, hn1, hn, hw, hp⟩ := decP_iff.1 hc
 have hg := Goes.count (R := Rnd prog G f61.ntmps 1 [1, 5, 14, 15, 16] b69) (fun i => st69 (itRs i v) n lk (cfL lk v i) ((i : Nat) : Int)) (e := .exit 0) (ls' := st69 (itRs n v) n lk (cfL lk v n) n) (by simp) n 0
  (fun i _ hi => qb hG (orc69 hG) mix (L := []) (pol := pol69) (O := O69) (k9 (by kernel_rfl)) (by cases cfL lk v i <;> simp [st69, n69, x69]) (by
   rw [cfL_succ]
   exact step69 (itRs i v) (okW_itRs hw i) n lk _ i hn (by omega) (by rw [cfL_len]; omega) (hp i (by omega)).1 (hp i (by omega)).2))
  (by
   refine qb hG (orc69 hG) mix (L := []) (pol := pol69) (O := O69) (k9 (by kernel_rfl)) (by cases cfL lk v (0 + n) <;> simp [st69, n69, x69]) ?_
   rw [Nat.zero_add]
   cases hc : cfL lk v n with
   | nil =>
    show (qg prog O69 [] pol69 f61.ntmps 1 [1, 5, 14, 15, 16] b69 (n69 (itRs n v) n lk ((n : Nat) : Int))).run = _
    rw [r69n, k6 (kF (by omega)), k7]; rfl
   | cons y ys =>
    show (qg prog O69 [] pol69 f61.ntmps 1 [1, 5, 14, 15, 16] b69 (x69 (itRs n v) n lk (y :: ys) ((n : Nat) : Int))).run = _
    rw [r69, k6 (kF (by omega)), k7]; rfl)
 refine ⟨_, _, qp hg, ?_⟩
 rw [st69_x (by intro h0; have := cfL_len lk v n; rw [h0] at this; simp at this; omega)]
 exact hr
theorem e69 (A : Am) (v : PV) : evF prog O69 [(3, l69)] pol69 f61 [armPV A, .ptr 0 1 0 0 []] [⟨1, .vals [.agg [.w v]]⟩] qm =
 Tr.br (qi (Pl69 v A.n (fun (j : Nat) => lkPV (A.lk j)) (A.n : Int) (0 : Int))) (.br ((cfF (fun (j : Nat) => lkPV (A.lk j)) v A.n).length.ble (cfF (fun (j : Nat) => lkPV (A.lk j)) v A.n).length) (.ok (.ret (.fr 3 (.rats 64 (List.take (cfF (fun (j : Nat) => lkPV (A.lk j)) v A.n).length (List.drop (0 : Nat) (cfF (fun (j : Nat) => lkPV (A.lk j)) v A.n))))) [{ e := 1, c := Cont.vals [.agg [(itRs A.n v).w]] }])) (.no 15)) (.no 1) := by kernel_rfl
def limX (A : Am) : Bool := (List.range A.n).all fun j => smX (A.lk j).low && smX (A.lk j).high
def P69 (arm v : PV) : Prop := okA arm /\ limX (dArm arm) = true /\ okW v = true
def s69 : Spec := fun args hs K => match args, hs with
 | [.agg [.s nm, .agg [.agg [.q bx w1, .q by_ w2], .agg [hf, .q t w3]], .lst 16 c], .ptr 0 1 0 0 []], [⟨1, .vals [.agg [.w v]]⟩] =>
  .br (qi (P69 (.agg [.s nm, .agg [.agg [.q bx w1, .q by_ w2], .agg [hf, .q t w3]], .lst 16 c]) v)) (K (.fr 3 (.rats 64 (cfF c.get v c.len))) [⟨1, .vals [.agg [.w (itRs c.len v)]]⟩]) (.no 1)
 | _, _ => .no 1
include hG in
theorem ok69 : qc prog G 61 s69 := by
 intro args hs K x h
 unfold s69 at h
 split at h
 case h_2 => cases h
 rename_i nm bx w1 by_ w2 hf t w3 c v
 obtain ⟨hc, hr⟩ := k8 h
 obtain ⟨⟨hv, hA⟩, hx, hw⟩ := decP_iff.1 hc
 generalize hA' : dArm (.agg [.s nm, .agg [.agg [.q bx w1, .q by_ w2], .agg [hf, .q t w3]], .lst 16 c]) = A at *
 have ek : cfF c.get v c.len = cfF (fun j => lkPV (A.lk j)) v A.n := by rw [<- hA']; rfl
 have en : c.len = A.n := by rw [<- hA']; rfl
 obtain ⟨h1, h2, h3, h4, h5, h6, h7⟩ := armB_c hA
 have hlim : ∀ j, j < A.n -> smX (A.lk j).low = true /\ smX (A.lk j).high = true := by
  intro j hj
  have := List.all_eq_true.1 hx j (List.mem_range.2 hj)
  rwa [kA] at this
 rw [ek, en] at hr
 refine ⟨_, _, PC.args (.cons hv (.refl _)) (qn hG (orc69 hG) mix enter69 (L := [(3, l69)]) (pol := pol69) (O := O69) (lps1 (b := b69) (live := [1, 5, 14, 15, 16]) (sp := l69) (m := 1) (by kernel_rfl) (by kernel_rfl) (by kernel_rfl) (loop69 hG)) ?_), hr⟩
 rw [e69, k5 (decP_iff.2 ⟨A.lk, rfl, rfl, rfl, h5, h6, hw, hlim⟩), k5 (by rw [kG]; omega), k7, List.drop_zero, List.take_length]
def pol33 : Pol := { wr := [(61, [1])], own := [9] }
theorem enter33 : Enters prog 30 f30 (qe f30) := ⟨func30, by kernel_rfl, rfl⟩
def s33 : Spec := fun args hs K => match args, hs with
 | [.agg [.s nm, .agg [.agg [.q bx w1, .q by_ w2], .agg [.bl hf, .q t w3]], .lst 16 c], .w v], [] =>
  .br (qi (P69 (.agg [.s nm, .agg [.agg [.q bx w1, .q by_ w2], .agg [.bl hf, .q t w3]], .lst 16 c]) v)) (K (.fr 3 (.rats 64 (cfF c.get v c.len))) []) (.no 1)
 | _, _ => .no 1
theorem e33 (nm : ByteArray) (bx by_ t : Rat) (w1 w2 w3 : Nat) (hf : Bool) (c : Cont) (v : PV) : evF prog [(61, s69)] [] pol33 f30 [.agg [.s nm, .agg [.agg [.q bx w1, .q by_ w2], .agg [.bl hf, .q t w3]], .lst 16 c], .w v] [] qm =
 Tr.br (qi (P69 (.agg [.s nm, .agg [.agg [.q bx w1, .q by_ w2], .agg [.bl hf, .q t w3]], .lst 16 c]) v)) (.br ((cfF c.get v (match c with | Cont.ints k xs => xs.length | Cont.rats n xs => xs.length | Cont.vals vs => vs.length | Cont.fn n f => n)).length.ble (cfF c.get v (match c with | Cont.ints k xs => xs.length | Cont.rats n xs => xs.length | Cont.vals vs => vs.length | Cont.fn n f => n)).length) (.ok (.ret (.fr 3 (.rats 64 (List.take (Cont.rats (64 : Nat) (cfF c.get v c.len)).len (List.drop (0 : Nat) (cfF c.get v c.len))))) [])) (.no 15)) (.no 1) := by kernel_rfl
include hG in
theorem ok33 : qc prog G 30 s33 := by
 refine qk hG (.cons (ok69 hG) .nil) mix enter33 (L := []) (pol := pol33) fun args hs K x h => ?_
 unfold s33 at h
 split at h
 case h_2 => cases h
 rename_i nm bx w1 by_ w2 hf t w3 c v
 obtain ⟨hc, hr⟩ := k8 h
 refine ⟨k9 (by kernel_rfl), _, _, _, ?_, .refl _, hr⟩
 rw [e33, k5 hc, k5 (by rw [kG]; exact Nat.le_refl _), k7, List.drop_zero]
 show some (Res.ret (.fr 3 (.rats 64 (List.take (cfF c.get v c.len).length (cfF c.get v c.len)))) []) = _
 rw [List.take_length]
theorem enter84 : Enters prog 33 f33 (qe f33) := ⟨func33, by kernel_rfl, rfl⟩
def s84 : Spec := evF prog [(28, s23)] [] {} f33
include hG in
theorem ok84 : qc prog G 33 s84 := spec_ev hG (.cons (ok23 hG) .nil) mix enter84 (fun _ => k9 (by kernel_rfl))
def b32 : Code := (qh (qe f27)).getD 0 .skip
def pol32 : Pol := { live := [(3, [2, 3, 11, 12, 13])] }
def O32 : Orc := [(28, s23), (33, s84)]
theorem enter32 : Enters prog 27 f27 (qe f27) := ⟨func27, by kernel_rfl, rfl⟩
def l32 : qu := unr prog O32 [] pol32 f27.ntmps 0 [2, 3, 11, 12, 13] b32 3
def smC (L : Int) : Cont := .vals [.agg [.q (mkRat 0 1) 64, .q (mkRat (-1) 1) 64], .agg [.q (mkRat L 1) 64, .q (mkRat (-1) 1) 64], .agg [.q (mkRat L 1) 64, .q (mkRat 1 1) 64], .agg [.q (mkRat 0 1) 64, .q (mkRat 1 1) 64]]
def smV (L : Int) : PV := lkC (mkRat L 1) (mkRat (-2) 1) (mkRat 2 1) (mkRat 1 4) (mkRat 1 10) (smC L)
def smL (L : Int) : Lk := ⟨mkRat L 1, mkRat (-2) 1, mkRat 2 1, mkRat 1 4, mkRat 1 10, 4, fun i => dq (fldV ((smC L).get i) 0), fun i => dq (fldV ((smC L).get i) 1)⟩
theorem smV_le (L : Int) : VLe (smV L) (lkPV (smL L)) := by
 refine VLe.agg (VLeL.cons (.refl _) (VLeL.cons (.refl _) (VLeL.cons (.refl _) (VLeL.cons (.refl _) (VLeL.cons (.refl _) (VLeL.cons ?_ .nil))))))
 refine VLe.lst rfl fun i hi => ?_
 have hi' : i < 4 := hi
 match i, hi' with
 | 0, _ => exact .refl _
 | 1, _ => exact .refl _
 | 2, _ => exact .refl _
 | 3, _ => exact .refl _
 | i + 4, h => omega
def OV : Orc := [(19, g21), (36, g27), (56, g29), (65, g43), (152, g133), (153, g134)]
theorem enter57 : Enters prog 88 f88 (qe f88) := ⟨func88, by kernel_rfl, rfl⟩
theorem enter42 : Enters prog 39 f39 (qe f39) := ⟨func39, by kernel_rfl, rfl⟩
theorem enter121 : Enters prog 137 f137 (qe f137) := ⟨func137, by kernel_rfl, rfl⟩
theorem enter92 : Enters prog 120 f120 (qe f120) := ⟨func120, by kernel_rfl, rfl⟩
theorem enter51 : Enters prog 119 f119 (qe f119) := ⟨func119, by kernel_rfl, rfl⟩
include hG in
theorem orcV (hT : qx G) : OrcOK prog G OV := .cons (gk21 hG hT) (.cons (gk27 hG hT) (.cons (gk29 hG hT) (.cons (gk43 hG hT) (.cons (gk133 hG hT) (.cons (gk134 hG hT) .nil)))))
def g57 : Spec := evF prog OV [] {} f88
def g41 : Spec := evF prog OV [] {} f38
def g42 : Spec := evF prog OV [] {} f39
def g97 : Spec := evF prog OV [] {} f84
include hG in
theorem gk57 (hT : qx G) : qc prog G 88 g57 := spec_ev hG (orcV hG hT) mix enter57 (fun _ => k9 (by kernel_rfl))
include hG in
theorem gk41 (hT : qx G) : qc prog G 38 g41 := spec_ev hG (orcV hG hT) mix enter41 (fun _ => k9 (by kernel_rfl))
include hG in
theorem gk42 (hT : qx G) : qc prog G 39 g42 := spec_ev hG (orcV hG hT) mix enter42 (fun _ => k9 (by kernel_rfl))
include hG in
theorem gk97 (hT : qx G) : qc prog G 84 g97 := spec_ev hG (orcV hG hT) mix enter97 (fun _ => k9 (by kernel_rfl))
theorem k121 (x y t : Rat) (h : Bool) (n m k : Nat) : evF prog OV [] {} f137 [.agg [.q x n, .q y m], .agg [.b h, .q t k]] [] qm =
 Tr.br (k.ble 100000 && Nat.ble 1 k) (.br (k.ble 100000 && Nat.ble 1 k) (.br ((n + ((4 : Nat) * k + 4)).ble 800000) (.br ((m + ((4 : Nat) * k + 4)).ble 800000) (.br ((n + ((4 : Nat) * k + 4) + (m + ((4 : Nat) * k + 4)) + 1).ble 800000) (.br ((n + ((4 : Nat) * k + 4)).ble 800000) (.br ((m + ((4 : Nat) * k + 4)).ble 800000) (.br ((n + ((4 : Nat) * k + 4) + (m + ((4 : Nat) * k + 4)) + 1).ble 800000) (.ok (.ret (.agg [.q (x * cosR h t - y * sinR h t) (n + ((4 : Nat) * k + 4) + (m + ((4 : Nat) * k + 4)) + 1), .q (x * sinR h t + y * cosR h t) (n + ((4 : Nat) * k + 4) + (m + ((4 : Nat) * k + 4)) + 1)]) [])) (.no 1)) (.no 1)) (.no 1)) (.no 1)) (.no 1)) (.no 1)) (.no 1)) (.no 1) := by kernel_rfl
def g121 : Spec := fun args hs K => match args, hs with
 | [.agg [.q x n, .q y m], .agg [hv, .q t k]], [] => match bof hv with
  | some h => .br (Nat.ble (n + m + 8 * k + 9) 800000 && Nat.ble 1 k) (K (.agg [.q (x * cosR h t - y * sinR h t) (n + m + 8 * k + 9), .q (x * sinR h t + y * cosR h t) (n + m + 8 * k + 9)]) []) (.no 1)
  | none => .no 1
 | _, _ => .no 1
theorem vc_rle {x y u v : Rat} {n m p r : Nat} (h1 : x = u) (h2 : y = v) (h3 : n <= p) (h4 : m <= r) : RLe (.agg [.q x n, .q y m]) (.agg [.q u p, .q v r]) := by
 subst h1; subst h2
 exact rle_of_vle (fun _ => rfl) (fun _ => rfl) (VLe.agg (vllc (vle_qm h3) (vllc (vle_qm h4) vll0)))
include hG in
theorem gk121 (hT : qx G) : qc prog G 137 g121 := by
 intro args hs K x h
 unfold g121 at h
 split at h
 case h_2 => cases h
 rename_i x n y m hv t k
 split at h
 case h_2 => cases h
 rename_i b hb
 obtain ⟨hc, hr⟩ := k8 h
 simp only [kA, kG] at hc
 have key : ∃ r, (evF prog OV [] {} f137 [.agg [.q x n, .q y m], .agg [.b b, .q t k]] [] qm).run = some (.ret r []) /\ RLe r (.agg [.q (x * cosR b t - y * sinR b t) (n + m + 8 * k + 9), .q (x * sinR b t + y * cosR b t) (n + m + 8 * k + 9)]) := by
  rw [k121]
  repeat rw [k5 (by simp only [kA, kG]; omega)]
  exact ⟨_, rfl, vc_rle rfl rfl (by omega) (by omega)⟩
 obtain ⟨r, k1, k2⟩ := key
 exact ⟨_, _, PC.args (.cons (.refl _) (.cons (tn_le hb rfl (Nat.le_refl _)) .nil)) ((qn hG (orcV hG hT) mix enter121 (L := []) (pol := {}) (k9 (by kernel_rfl)) k1).le k2 (.refl _)), hr⟩
def O92 : Orc := [(88, g57), (137, g121)]
theorem k92 (x y t u v : Rat) (h : Bool) (n m k p r : Nat) : evF prog O92 [] {} f120 [.agg [.agg [.q x n, .q y m], .agg [.b h, .q t k]], .agg [.q u p, .q v r]] [] qm =
 Tr.br ((p + r + 8 * k + 9).ble 800000 && Nat.ble 1 k) (.br ((n + (p + r + 8 * k + 9) + 1).ble 800000) (.br ((m + (p + r + 8 * k + 9) + 1).ble 800000) (.ok (.ret (.agg [.q (x + (u * cosR h t - v * sinR h t)) (n + (p + r + 8 * k + 9) + 1), .q (y + (u * sinR h t + v * cosR h t)) (m + (p + r + 8 * k + 9) + 1)]) [])) (.no 1)) (.no 1)) (.no 1) := by kernel_rfl
def g92 : Spec := fun args hs K => match args, hs with
 | [.agg [.agg [.q x n, .q y m], .agg [hv, .q t k]], .agg [.q u p, .q v r]], [] => match bof hv with
  | some h => match r with
   | 1 => match p with
    | 1 => .br (qi (u = 0 /\ v = 0 /\ n + 8 * k + 20 <= 800000 /\ m + 8 * k + 20 <= 800000)) (K (.agg [.q x n, .q y m]) []) (.no 1)
    | p => .br (qi (v = 0 /\ n + p + 8 * k + 20 <= 800000 /\ m + p + 8 * k + 20 <= 800000 /\ 1 <= k)) (K (.agg [.q (x + u * cosR h t) (n + p + 8 * k + 11), .q (y + u * sinR h t) (m + p + 8 * k + 11)]) []) (.no 1)
   | r => .br (Nat.ble (n + p + r + 8 * k + 20) 800000 && Nat.ble (m + p + r + 8 * k + 20) 800000 && Nat.ble 1 k) (K (.agg [.q (x + (u * cosR h t - v * sinR h t)) (n + p + r + 8 * k + 10), .q (y + (u * sinR h t + v * cosR h t)) (m + p + r + 8 * k + 10)]) []) (.no 1)
  | none => .no 1
 | _, _ => .no 1
include hG in
theorem orc92 (hT : qx G) : OrcOK prog G O92 := .cons (gk57 hG hT) (.cons (gk121 hG hT) .nil)
theorem put_key (x y t u v : Rat) (h : Bool) (n m k p r : Nat) (h1 : n + p + r + 8 * k + 10 <= 800000) (h2 : m + p + r + 8 * k + 10 <= 800000) (h3 : 1 <= k) : ∃ z, (evF prog O92 [] {} f120 [.agg [.agg [.q x n, .q y m], .agg [.b h, .q t k]], .agg [.q u p, .q v r]] [] qm).run = some (.ret z []) /\
  RLe z (.agg [.q (x + (u * cosR h t - v * sinR h t)) (n + p + r + 8 * k + 10), .q (y + (u * sinR h t + v * cosR h t)) (m + p + r + 8 * k + 10)]) := by
 rw [k92]
 repeat rw [k5 (by simp only [kA, kG]; omega)]
 exact ⟨_, rfl, vc_rle rfl rfl (by omega) (by omega)⟩
theorem put_sz {x y : Rat} {n m k : Nat} {t : Rat} {hv : PV} {b : PV} (w : World) (S : Nat -> Prop) (μ : Mu) (vs : List Value) (h : RepVL w S μ [.agg [.agg [.q x n, .q y m], .agg [hv, .q t k]], b] vs) : sz x <= n /\ sz y <= m /\ sz t <= k := by
 cases h with
 | cons _ _ _ _ _ h _ =>
  obtain ⟨ds, hd⟩ := RepV_agg h (.agg [.q x n, .q y m]) (by simp)
  obtain ⟨es, he⟩ := RepV_agg h (.agg [hv, .q t k]) (by simp)
  cases hd with
  | agg _ _ _ hl =>
   obtain ⟨a, ha⟩ := RepL_get hl (.q x n) (by simp)
   obtain ⟨b, hb⟩ := RepL_get hl (.q y m) (by simp)
   cases he with
   | agg _ _ _ hl2 =>
    obtain ⟨c, hc⟩ := RepL_get hl2 (.q t k) (by simp)
    exact ⟨RepC_q ha, RepC_q hb, RepC_q hc⟩
include hG in
theorem gk92 (hT : qx G) : qc prog G 120 g92 := by
 intro args hs K z h
 unfold g92 at h
 split at h
 case h_2 => cases h
 rename_i x n y m hv t k u p v r
 split at h
 case h_2 => cases h
 rename_i b hb
 have hargs : ArgsLe [.agg [.agg [.q x n, .q y m], .agg [hv, .q t k]], .agg [.q u p, .q v r]] [.agg [.agg [.q x n, .q y m], .agg [.b b, .q t k]], .agg [.q u p, .q v r]] := .cons (VLe.agg (vllc (.refl _) (vllc (tn_le hb rfl (Nat.le_refl _)) vll0))) (.cons (.refl _) .nil)
 split at h
 ·split at h
  ·obtain ⟨hc, hr⟩ := k8 h
   obtain ⟨rfl, rfl, h1, h2⟩ := decP_iff.1 hc
   refine ⟨_, _, ?_, hr⟩
   refine PC.args hargs (pc_assume _ put_sz fun hq => ?_)
   obtain ⟨r, k1, k2⟩ := put_key x y t 0 0 b n m k 1 1 (by omega) (by omega) (sz_lt hq.2.2).2.2
   refine ((qn hG (orc92 hG hT) mix enter92 (L := []) (pol := {}) (k9 (by kernel_rfl)) k1).le k2 (.refl _)).le ?_ (.refl _)
   rw [show x + (0 * cosR b t - 0 * sinR b t) = x by grind, show y + (0 * sinR b t + 0 * cosR b t) = y by grind]
   exact rle_of_vle (fun _ => rfl) (fun _ => rfl) (VLe.agg (vllc (vle_qq hq.1) (vllc (vle_qq hq.2.1) vll0)))
  ·obtain ⟨hc, hr⟩ := k8 h
   obtain ⟨rfl, h1, h2, h3⟩ := decP_iff.1 hc
   obtain ⟨r, k1, k2⟩ := put_key x y t u 0 b n m k p 1 (by omega) (by omega) h3
   refine ⟨_, _, PC.args hargs (((qn hG (orc92 hG hT) mix enter92 (L := []) (pol := {}) (k9 (by kernel_rfl)) k1).le k2 (.refl _)).le (vc_rle ?_ ?_ (by omega) (by omega)) (.refl _)), hr⟩
   ·grind
   ·grind
 ·obtain ⟨hc, hr⟩ := k8 h
  simp only [kA, kG] at hc
  obtain ⟨r, k1, k2⟩ := put_key x y t u v b n m k p r (by omega) (by omega) hc.2
  exact ⟨_, _, PC.args hargs ((qn hG (orc92 hG hT) mix enter92 (L := []) (pol := {}) (k9 (by kernel_rfl)) k1).le k2 (.refl _)), hr⟩
def O51 : Orc := [(120, g92), (136, g93)]
def g51 : Spec := evF prog O51 [] {} f119
include hG in
theorem gk51 (hT : qx G) : qc prog G 119 g51 := spec_ev hG (.cons (gk92 hG hT) (.cons (gk93 hG hT) .nil)) mix enter51 (fun _ => k9 (by kernel_rfl))
theorem enter39 : Enters prog 79 f79 (qe f79) := ⟨func79, by kernel_rfl, rfl⟩
end
section
open Go Tryd
set_option maxRecDepth 100000
variable {G : World -> (Nat -> Prop) -> Prop} (hG : GOk G)
def b39 : Code := (qh (qe f79)).getD 0 .skip
def pol39 : Pol := { live := [(9, [1, 7, 8, 9, 10, 29, 30, 31])] }
def O39 : Orc := [(118, g50), (119, g51), (63, g71), (116, s85)]
structure Fr where
 x : Rat
 y : Rat
 h : Bool
 t : Rat
def frP (f : Fr) (a b : Nat) : PV := .agg [.agg [.q f.x a, .q f.y a], .agg [.b f.h, .q f.t b]]
def n39 (qs : List Rat) (n : Nat) (lk : Nat -> Lk) (x y t : Rat) (i : Int) : LS := ⟨[.lst 3 (.rats 64 qs), .ptr 0 10 0 0 [], .ptr 1 6 0 0 [], .ptr 2 4 0 0 [], .nil, .lst 16 (.fn n (fun j => lkPV (lk j))), .i .i64 n, .i .i64 i],
 [some ⟨10, .vals [.agg [.agg [.q x 64, .q y 64], .agg [.bl false, .q t 64]]]⟩, some ⟨6, .vals [.agg [.q ((0 : Int) : Rat) 1, .q ((0 : Int) : Rat) 1]]⟩, some ⟨4, .vals [.agg [.bl false, .q ((0 : Int) : Rat) 1]]⟩]⟩
def x39 (qs : List Rat) (n : Nat) (lk : Nat -> Lk) (ys : List PV) (l : Nat) (x y : Rat) (h : Bool) (t : Rat) (a b : Nat) (i : Int) : LS := ⟨[.lst 3 (.rats 64 qs), .ptr 0 10 0 0 [], .ptr 1 6 0 0 [], .ptr 2 4 0 0 [], .sl 3 10 0 l, .lst 16 (.fn n (fun j => lkPV (lk j))), .i .i64 n, .i .i64 i],
 [some ⟨10, .vals [.agg [.agg [.q x a, .q y a], .agg [.b h, .q t b]]]⟩, some ⟨6, .vals [.agg [.q ((0 : Int) : Rat) 1, .q ((0 : Int) : Rat) 1]]⟩, some ⟨4, .vals [.agg [.bl false, .q ((0 : Int) : Rat) 1]]⟩, some ⟨10, .vals ys⟩]⟩
theorem t39n (qs : List Rat) (n : Nat) (lk : Nat -> Lk) (x y t : Rat) (i : Int) : qg prog O39 [] pol39 f79.ntmps 0 [1, 7, 8, 9, 10, 29, 30, 31] b39 (n39 qs n lk x y t i) =
 Tr.br (decide (i < (n : Int))) (.br (ix (i) ((n : Int))) (.br (ix (i) ((qs.length : Int))) (.br (Nat.ble 64 (400000 : Nat)) (.br (qi ((↑(0 : Int) : Rat) = 0 /\ (↑(0 : Int) : Rat) = 0 /\ (64 : Nat) + 8 * 64 + 20 <= 800000 /\ (64 : Nat) + 8 * 64 + 20 <= 800000)) (.br (Nat.ble 64 (50000 : Nat) && Nat.ble 1 (64 : Nat) && Nat.ble 64 (50000 : Nat) && Nat.ble 1 (64 : Nat)) (.br (Nat.blt (0 : Nat) [PV.agg [PV.agg [PV.q x 64, PV.q y 64], PV.agg [PV.b (thH false t false (qs.getD i.toNat 0)), PV.q (thT false t false (qs.getD i.toNat 0)) 259]]].length && [PV.agg [PV.agg [PV.q x 64, PV.q y 64], PV.agg [PV.b (thH false t false (qs.getD i.toNat 0)), PV.q (thT false t false (qs.getD i.toNat 0)) 259]]].length.ble 4294967296) (.br (decide ((-72057594037927936 : Int) < 0) && decide ((0 : Int) <= 9223372036854775807)) (.br (qi ((↑(0 : Int) : Rat) = 0 /\ (64 : Nat) + 64 + 8 * ((2 : Nat) * 64 + 2 * 64 + 3) + 20 <= 800000 /\ (64 : Nat) + 64 + 8 * ((2 : Nat) * 64 + 2 * 64 + 3) + 20 <= 800000 /\ (1 : Nat) <= 2 * 64 + 2 * 64 + 3)) (.br (qi (false = false /\ (↑(0 : Int) : Rat) = 0 /\ (2 : Nat) * 64 + 2 * 64 + 3 <= 50000)) (.br (ib (i + 1)) (.ok (.out .normal (LS.mk [PV.lst 3 (.rats 64 qs), PV.ptr 0 10 0 0 [], PV.ptr 1 6 0 0 [], PV.ptr 2 4 0 0 [], PV.sl 3 10 0 1, PV.lst 16 (.fn n fun (j : Nat) => PV.agg [PV.q (lk j).len 64, PV.q (lk j).low 64, PV.q (lk j).high 64, PV.q (lk j).spd 64, PV.q (lk j).brk 64, PV.lst 6 (.fn (lk j).np fun (a : Nat) => PV.agg [PV.q ((lk j).px a) 64, PV.q ((lk j).py a) 64])]), PV.i .i64 (n : Int), PV.i .i64 (i + 1)] [some (.mk 10 (.vals [PV.agg [PV.agg [PV.q (x + (lk i.toNat).len * cosR (thH false t false (qs.getD i.toNat 0)) (thT false t false (qs.getD i.toNat 0))) 2211, PV.q (y + (lk i.toNat).len * sinR (thH false t false (qs.getD i.toNat 0)) (thT false t false (qs.getD i.toNat 0))) 2211], PV.agg [PV.b (thH false t false (qs.getD i.toNat 0)), PV.q (ftT (thH false t false (qs.getD i.toNat 0)) (thT false t false (qs.getD i.toNat 0))) 259]]])), some (.mk 6 (.vals [PV.agg [PV.q (↑(0 : Int) : Rat) 1, PV.q (↑(0 : Int) : Rat) 1]])), some (.mk 4 (.vals [PV.agg [PV.bl false, PV.q (↑(0 : Int) : Rat) 1]])), some (.mk 10 (.vals [PV.agg [PV.agg [PV.q x 64, PV.q y 64], PV.agg [PV.b (thH false t false (qs.getD i.toNat 0)), PV.q (thT false t false (qs.getD i.toNat 0)) 259]]]))]))) (.no 15002)) (.no 1)) (.no 1)) (.no 1)) (.no 13002)) (.no 1)) (.no 1)) (.no 1)) (.no 12007)) (.no 11005)) (.ok (.out (.exit 0) (LS.mk [PV.lst 3 (.rats 64 qs), PV.ptr 0 10 0 0 [], PV.ptr 1 6 0 0 [], PV.ptr 2 4 0 0 [], PV.nil, PV.lst 16 (.fn n fun (j : Nat) => PV.agg [PV.q (lk j).len 64, PV.q (lk j).low 64, PV.q (lk j).high 64, PV.q (lk j).spd 64, PV.q (lk j).brk 64, PV.lst 6 (.fn (lk j).np fun (a : Nat) => PV.agg [PV.q ((lk j).px a) 64, PV.q ((lk j).py a) 64])]), PV.i .i64 (n : Int), PV.i .i64 i] [some (.mk 10 (.vals [PV.agg [PV.agg [PV.q x 64, PV.q y 64], PV.agg [PV.bl false, PV.q t 64]]])), some (.mk 6 (.vals [PV.agg [PV.q (↑(0 : Int) : Rat) 1, PV.q (↑(0 : Int) : Rat) 1]])), some (.mk 4 (.vals [PV.agg [PV.bl false, PV.q (↑(0 : Int) : Rat) 1]]))]))) := by kernel_rfl
theorem t39a (qs : List Rat) (n : Nat) (lk : Nat -> Lk) (f0 : Fr) (x y : Rat) (h : Bool) (t : Rat) (i : Int) : qg prog O39 [] pol39 f79.ntmps 0 [1, 7, 8, 9, 10, 29, 30, 31] b39 (x39 qs n lk [frP f0 64 259] 1 x y h t 2211 259 i) =
 Tr.br (decide (i < (n : Int))) (.br (ix (i) ((n : Int))) (.br (ix (i) ((qs.length : Int))) (.br (Nat.ble 64 (400000 : Nat)) (.br (qi ((↑(0 : Int) : Rat) = 0 /\ (↑(0 : Int) : Rat) = 0 /\ (2211 : Nat) + 8 * 259 + 20 <= 800000 /\ (2211 : Nat) + 8 * 259 + 20 <= 800000)) (.br (Nat.ble 259 (50000 : Nat) && Nat.ble 1 (259 : Nat) && Nat.ble 64 (50000 : Nat) && Nat.ble 1 (64 : Nat)) (.br (((1 : Nat) + [PE.PV.agg [PV.agg [PV.q x 2211, PV.q y 2211], PV.agg [PV.b (thH h t false (qs.getD i.toNat 0)), PV.q (thT h t false (qs.getD i.toNat 0)) 649]]].length).ble 4294967296) (.br (decide ((-72057594037927936 : Int) < 0) && decide ((0 : Int) <= 9223372036854775807)) (.br (qi ((↑(0 : Int) : Rat) = 0 /\ (2211 : Nat) + 64 + 8 * ((2 : Nat) * 259 + 2 * 64 + 3) + 20 <= 800000 /\ (2211 : Nat) + 64 + 8 * ((2 : Nat) * 259 + 2 * 64 + 3) + 20 <= 800000 /\ (1 : Nat) <= 2 * 259 + 2 * 64 + 3)) (.br (qi (false = false /\ (↑(0 : Int) : Rat) = 0 /\ (2 : Nat) * 259 + 2 * 64 + 3 <= 50000)) (.br (ib (i + 1)) (.ok (.out .normal (LS.mk [PV.lst 3 (.rats 64 qs), PV.ptr 0 10 0 0 [], PV.ptr 1 6 0 0 [], PV.ptr 2 4 0 0 [], PV.sl 3 10 0 2, PV.lst 16 (.fn n fun (j : Nat) => PV.agg [PV.q (lk j).len 64, PV.q (lk j).low 64, PV.q (lk j).high 64, PV.q (lk j).spd 64, PV.q (lk j).brk 64, PV.lst 6 (.fn (lk j).np fun (a : Nat) => PV.agg [PV.q ((lk j).px a) 64, PV.q ((lk j).py a) 64])]), PV.i .i64 (n : Int), PV.i .i64 (i + 1)] [some (.mk 10 (.vals [PV.agg [PV.agg [PV.q (x + (lk i.toNat).len * cosR (thH h t false (qs.getD i.toNat 0)) (thT h t false (qs.getD i.toNat 0))) 7478, PV.q (y + (lk i.toNat).len * sinR (thH h t false (qs.getD i.toNat 0)) (thT h t false (qs.getD i.toNat 0))) 7478], PV.agg [PV.b (thH h t false (qs.getD i.toNat 0)), PV.q (ftT (thH h t false (qs.getD i.toNat 0)) (thT h t false (qs.getD i.toNat 0))) 649]]])), some (.mk 6 (.vals [PV.agg [PV.q (↑(0 : Int) : Rat) 1, PV.q (↑(0 : Int) : Rat) 1]])), some (.mk 4 (.vals [PV.agg [PV.bl false, PV.q (↑(0 : Int) : Rat) 1]])), some (.mk 10 (.vals [frP f0 64 259, PV.agg [PV.agg [PV.q x 2211, PV.q y 2211], PV.agg [PV.b (thH h t false (qs.getD i.toNat 0)), PV.q (thT h t false (qs.getD i.toNat 0)) 649]]]))]))) (.no 15002)) (.no 1)) (.no 1)) (.no 1)) (.no 13002)) (.no 1)) (.no 1)) (.no 1)) (.no 12007)) (.no 11005)) (.ok (.out (.exit 0) (LS.mk [PV.lst 3 (.rats 64 qs), PV.ptr 0 10 0 0 [], PV.ptr 1 6 0 0 [], PV.ptr 2 4 0 0 [], PV.sl 3 10 0 1, PV.lst 16 (.fn n fun (j : Nat) => PV.agg [PV.q (lk j).len 64, PV.q (lk j).low 64, PV.q (lk j).high 64, PV.q (lk j).spd 64, PV.q (lk j).brk 64, PV.lst 6 (.fn (lk j).np fun (a : Nat) => PV.agg [PV.q ((lk j).px a) 64, PV.q ((lk j).py a) 64])]), PV.i .i64 (n : Int), PV.i .i64 i] [some (.mk 10 (.vals [PV.agg [PV.agg [PV.q x 2211, PV.q y 2211], PV.agg [PV.b h, PV.q t 259]]])), some (.mk 6 (.vals [PV.agg [PV.q (↑(0 : Int) : Rat) 1, PV.q (↑(0 : Int) : Rat) 1]])), some (.mk 4 (.vals [PV.agg [PV.bl false, PV.q (↑(0 : Int) : Rat) 1]])), some (.mk 10 (.vals [frP f0 64 259]))]))) := by kernel_rfl
theorem t39b (qs : List Rat) (n : Nat) (lk : Nat -> Lk) (f0 f1 : Fr) (x y : Rat) (h : Bool) (t : Rat) (i : Int) : qg prog O39 [] pol39 f79.ntmps 0 [1, 7, 8, 9, 10, 29, 30, 31] b39 (x39 qs n lk [frP f0 64 259, frP f1 2211 649] 2 x y h t 7478 649 i) =
 Tr.br (decide (i < (n : Int))) (.br (ix (i) ((n : Int))) (.br (ix (i) ((qs.length : Int))) (.br (Nat.ble 64 (400000 : Nat)) (.br (qi ((↑(0 : Int) : Rat) = 0 /\ (↑(0 : Int) : Rat) = 0 /\ (7478 : Nat) + 8 * 649 + 20 <= 800000 /\ (7478 : Nat) + 8 * 649 + 20 <= 800000)) (.br (Nat.ble 649 (50000 : Nat) && Nat.ble 1 (649 : Nat) && Nat.ble 64 (50000 : Nat) && Nat.ble 1 (64 : Nat)) (.br (((2 : Nat) + [PE.PV.agg [PV.agg [PV.q x 7478, PV.q y 7478], PV.agg [PV.b (thH h t false (qs.getD i.toNat 0)), PV.q (thT h t false (qs.getD i.toNat 0)) 1429]]].length).ble 4294967296) (.br (decide ((-72057594037927936 : Int) < 0) && decide ((0 : Int) <= 9223372036854775807)) (.br (qi ((↑(0 : Int) : Rat) = 0 /\ (7478 : Nat) + 64 + 8 * ((2 : Nat) * 649 + 2 * 64 + 3) + 20 <= 800000 /\ (7478 : Nat) + 64 + 8 * ((2 : Nat) * 649 + 2 * 64 + 3) + 20 <= 800000 /\ (1 : Nat) <= 2 * 649 + 2 * 64 + 3)) (.br (qi (false = false /\ (↑(0 : Int) : Rat) = 0 /\ (2 : Nat) * 649 + 2 * 64 + 3 <= 50000)) (.br (ib (i + 1)) (.ok (.out .normal (LS.mk [PV.lst 3 (.rats 64 qs), PV.ptr 0 10 0 0 [], PV.ptr 1 6 0 0 [], PV.ptr 2 4 0 0 [], PV.sl 3 10 0 3, PV.lst 16 (.fn n fun (j : Nat) => PV.agg [PV.q (lk j).len 64, PV.q (lk j).low 64, PV.q (lk j).high 64, PV.q (lk j).spd 64, PV.q (lk j).brk 64, PV.lst 6 (.fn (lk j).np fun (a : Nat) => PV.agg [PV.q ((lk j).px a) 64, PV.q ((lk j).py a) 64])]), PV.i .i64 (n : Int), PV.i .i64 (i + 1)] [some (.mk 10 (.vals [PV.agg [PV.agg [PV.q (x + (lk i.toNat).len * cosR (thH h t false (qs.getD i.toNat 0)) (thT h t false (qs.getD i.toNat 0))) 18985, PV.q (y + (lk i.toNat).len * sinR (thH h t false (qs.getD i.toNat 0)) (thT h t false (qs.getD i.toNat 0))) 18985], PV.agg [PV.b (thH h t false (qs.getD i.toNat 0)), PV.q (ftT (thH h t false (qs.getD i.toNat 0)) (thT h t false (qs.getD i.toNat 0))) 1429]]])), some (.mk 6 (.vals [PV.agg [PV.q (↑(0 : Int) : Rat) 1, PV.q (↑(0 : Int) : Rat) 1]])), some (.mk 4 (.vals [PV.agg [PV.bl false, PV.q (↑(0 : Int) : Rat) 1]])), some (.mk 10 (.vals [frP f0 64 259, frP f1 2211 649, PV.agg [PV.agg [PV.q x 7478, PV.q y 7478], PV.agg [PV.b (thH h t false (qs.getD i.toNat 0)), PV.q (thT h t false (qs.getD i.toNat 0)) 1429]]]))]))) (.no 15002)) (.no 1)) (.no 1)) (.no 1)) (.no 13002)) (.no 1)) (.no 1)) (.no 1)) (.no 12007)) (.no 11005)) (.ok (.out (.exit 0) (LS.mk [PV.lst 3 (.rats 64 qs), PV.ptr 0 10 0 0 [], PV.ptr 1 6 0 0 [], PV.ptr 2 4 0 0 [], PV.sl 3 10 0 2, PV.lst 16 (.fn n fun (j : Nat) => PV.agg [PV.q (lk j).len 64, PV.q (lk j).low 64, PV.q (lk j).high 64, PV.q (lk j).spd 64, PV.q (lk j).brk 64, PV.lst 6 (.fn (lk j).np fun (a : Nat) => PV.agg [PV.q ((lk j).px a) 64, PV.q ((lk j).py a) 64])]), PV.i .i64 (n : Int), PV.i .i64 i] [some (.mk 10 (.vals [PV.agg [PV.agg [PV.q x 7478, PV.q y 7478], PV.agg [PV.b h, PV.q t 649]]])), some (.mk 6 (.vals [PV.agg [PV.q (↑(0 : Int) : Rat) 1, PV.q (↑(0 : Int) : Rat) 1]])), some (.mk 4 (.vals [PV.agg [PV.bl false, PV.q (↑(0 : Int) : Rat) 1]])), some (.mk 10 (.vals [frP f0 64 259, frP f1 2211 649]))]))) := by kernel_rfl
theorem t39c (qs : List Rat) (n : Nat) (lk : Nat -> Lk) (f0 f1 f2 : Fr) (x y : Rat) (h : Bool) (t : Rat) (i : Int) : qg prog O39 [] pol39 f79.ntmps 0 [1, 7, 8, 9, 10, 29, 30, 31] b39 (x39 qs n lk [frP f0 64 259, frP f1 2211 649, frP f2 7478 1429] 3 x y h t 18985 1429 i) =
 Tr.br (decide (i < (n : Int))) (.br (ix (i) ((n : Int))) (.br (ix (i) ((qs.length : Int))) (.br (Nat.ble 64 (400000 : Nat)) (.br (qi ((↑(0 : Int) : Rat) = 0 /\ (↑(0 : Int) : Rat) = 0 /\ (18985 : Nat) + 8 * 1429 + 20 <= 800000 /\ (18985 : Nat) + 8 * 1429 + 20 <= 800000)) (.br (Nat.ble 1429 (50000 : Nat) && Nat.ble 1 (1429 : Nat) && Nat.ble 64 (50000 : Nat) && Nat.ble 1 (64 : Nat)) (.br (((3 : Nat) + [PE.PV.agg [PV.agg [PV.q x 18985, PV.q y 18985], PV.agg [PV.b (thH h t false (qs.getD i.toNat 0)), PV.q (thT h t false (qs.getD i.toNat 0)) 2989]]].length).ble 4294967296) (.br (decide ((-72057594037927936 : Int) < 0) && decide ((0 : Int) <= 9223372036854775807)) (.br (qi ((↑(0 : Int) : Rat) = 0 /\ (18985 : Nat) + 64 + 8 * ((2 : Nat) * 1429 + 2 * 64 + 3) + 20 <= 800000 /\ (18985 : Nat) + 64 + 8 * ((2 : Nat) * 1429 + 2 * 64 + 3) + 20 <= 800000 /\ (1 : Nat) <= 2 * 1429 + 2 * 64 + 3)) (.br (qi (false = false /\ (↑(0 : Int) : Rat) = 0 /\ (2 : Nat) * 1429 + 2 * 64 + 3 <= 50000)) (.br (ib (i + 1)) (.ok (.out .normal (LS.mk [PV.lst 3 (.rats 64 qs), PV.ptr 0 10 0 0 [], PV.ptr 1 6 0 0 [], PV.ptr 2 4 0 0 [], PV.sl 3 10 0 4, PV.lst 16 (.fn n fun (j : Nat) => PV.agg [PV.q (lk j).len 64, PV.q (lk j).low 64, PV.q (lk j).high 64, PV.q (lk j).spd 64, PV.q (lk j).brk 64, PV.lst 6 (.fn (lk j).np fun (a : Nat) => PV.agg [PV.q ((lk j).px a) 64, PV.q ((lk j).py a) 64])]), PV.i .i64 (n : Int), PV.i .i64 (i + 1)] [some (.mk 10 (.vals [PV.agg [PV.agg [PV.q (x + (lk i.toNat).len * cosR (thH h t false (qs.getD i.toNat 0)) (thT h t false (qs.getD i.toNat 0))) 42972, PV.q (y + (lk i.toNat).len * sinR (thH h t false (qs.getD i.toNat 0)) (thT h t false (qs.getD i.toNat 0))) 42972], PV.agg [PV.b (thH h t false (qs.getD i.toNat 0)), PV.q (ftT (thH h t false (qs.getD i.toNat 0)) (thT h t false (qs.getD i.toNat 0))) 2989]]])), some (.mk 6 (.vals [PV.agg [PV.q (↑(0 : Int) : Rat) 1, PV.q (↑(0 : Int) : Rat) 1]])), some (.mk 4 (.vals [PV.agg [PV.bl false, PV.q (↑(0 : Int) : Rat) 1]])), some (.mk 10 (.vals [frP f0 64 259, frP f1 2211 649, frP f2 7478 1429, PV.agg [PV.agg [PV.q x 18985, PV.q y 18985], PV.agg [PV.b (thH h t false (qs.getD i.toNat 0)), PV.q (thT h t false (qs.getD i.toNat 0)) 2989]]]))]))) (.no 15002)) (.no 1)) (.no 1)) (.no 1)) (.no 13002)) (.no 1)) (.no 1)) (.no 1)) (.no 12007)) (.no 11005)) (.ok (.out (.exit 0) (LS.mk [PV.lst 3 (.rats 64 qs), PV.ptr 0 10 0 0 [], PV.ptr 1 6 0 0 [], PV.ptr 2 4 0 0 [], PV.sl 3 10 0 3, PV.lst 16 (.fn n fun (j : Nat) => PV.agg [PV.q (lk j).len 64, PV.q (lk j).low 64, PV.q (lk j).high 64, PV.q (lk j).spd 64, PV.q (lk j).brk 64, PV.lst 6 (.fn (lk j).np fun (a : Nat) => PV.agg [PV.q ((lk j).px a) 64, PV.q ((lk j).py a) 64])]), PV.i .i64 (n : Int), PV.i .i64 i] [some (.mk 10 (.vals [PV.agg [PV.agg [PV.q x 18985, PV.q y 18985], PV.agg [PV.b h, PV.q t 1429]]])), some (.mk 6 (.vals [PV.agg [PV.q (↑(0 : Int) : Rat) 1, PV.q (↑(0 : Int) : Rat) 1]])), some (.mk 4 (.vals [PV.agg [PV.bl false, PV.q (↑(0 : Int) : Rat) 1]])), some (.mk 10 (.vals [frP f0 64 259, frP f1 2211 649, frP f2 7478 1429]))]))) := by kernel_rfl
theorem e39a (A : Am) (qs : List Rat) (f0 e : Fr) (i : Int) : evF prog O39 [(9, lcst (n39 qs A.n A.lk A.bx A.by_ A.t 0) (.exit 0) (x39 qs A.n A.lk [frP f0 64 259] 1 e.x e.y e.h e.t 2211 259 i))] pol39 f79 [armPV A, .lst 3 (.rats 64 qs)] [] qm =
 Tr.br (qi (P85 [armPV A, PV.i .i64 (qs.length : Int)])) (.br (!decide ((0 : Int) = 0)) (.ok (.ret (PV.tup [PV.nil, PV.i .i64 0]) [])) (.br (decide ((-72057594037927936 : Int) < 0) && decide ((0 : Int) <= 9223372036854775807)) (.br (decide ((-72057594037927936 : Int) < 0) && decide ((0 : Int) <= 9223372036854775807)) (.br (decide ((-72057594037927936 : Int) < 0) && decide ((0 : Int) <= 9223372036854775807)) (.br (((Int.natAbs (0 : Int)).log2 + 1).ble 400000) (.br (qi (isLS (LS.mk [PV.lst 3 (.rats 64 qs), PV.ptr 0 10 0 0 [], PV.ptr 1 6 0 0 [], PV.ptr 2 4 0 0 [], PV.nil, PV.lst 16 (.fn A.n fun (j : Nat) => PV.agg [PV.q (A.lk j).len 64, PV.q (A.lk j).low 64, PV.q (A.lk j).high 64, PV.q (A.lk j).spd 64, PV.q (A.lk j).brk 64, PV.lst 6 (.fn (A.lk j).np fun (a : Nat) => PV.agg [PV.q ((A.lk j).px a) 64, PV.q ((A.lk j).py a) 64])]), PV.i .i64 (A.n : Int), PV.i .i64 0] [some (.mk 10 (.vals [PV.agg [PV.agg [PV.q A.bx 64, PV.q A.by_ 64], PV.agg [PV.bl false, PV.q A.t 64]]])), some (.mk 6 (.vals [PV.agg [PV.q (↑(0 : Int) : Rat) 1, PV.q (↑(0 : Int) : Rat) 1]])), some (.mk 4 (.vals [PV.agg [PV.bl false, PV.q (↑(0 : Int) : Rat) 1]]))]) (LS.mk [PV.lst 3 (.rats 64 qs), PV.ptr 0 10 0 0 [], PV.ptr 1 6 0 0 [], PV.ptr 2 4 0 0 [], PV.nil, PV.lst 16 (.fn A.n fun (j : Nat) => PV.agg [PV.q (A.lk j).len 64, PV.q (A.lk j).low 64, PV.q (A.lk j).high 64, PV.q (A.lk j).spd 64, PV.q (A.lk j).brk 64, PV.lst 6 (.fn (A.lk j).np fun (a : Nat) => PV.agg [PV.q ((A.lk j).px a) 64, PV.q ((A.lk j).py a) 64])]), PV.i .i64 (A.n : Int), PV.i .i64 0] [some (.mk 10 (.vals [PV.agg [PV.agg [PV.q A.bx 64, PV.q A.by_ 64], PV.agg [PV.bl false, PV.q A.t 64]]])), some (.mk 6 (.vals [PV.agg [PV.q (↑(0 : Int) : Rat) 1, PV.q (↑(0 : Int) : Rat) 1]])), some (.mk 4 (.vals [PV.agg [PV.bl false, PV.q (↑(0 : Int) : Rat) 1]]))]))) (.br (((1 : Nat) + [frP e 2211 259].length).ble 4294967296) (.ok (.ret (PV.tup [PV.fr 10 (.vals [frP f0 64 259, frP e 2211 259]), PV.i .i64 0]) [])) (.no 16003)) (.no 1)) (.no 1)) (.no 1)) (.no 1)) (.no 1))) (.no 1) := by kernel_rfl
theorem e39b (A : Am) (qs : List Rat) (f0 f1 e : Fr) (i : Int) : evF prog O39 [(9, lcst (n39 qs A.n A.lk A.bx A.by_ A.t 0) (.exit 0) (x39 qs A.n A.lk [frP f0 64 259, frP f1 2211 649] 2 e.x e.y e.h e.t 7478 649 i))] pol39 f79 [armPV A, .lst 3 (.rats 64 qs)] [] qm =
 Tr.br (qi (P85 [armPV A, PV.i .i64 (qs.length : Int)])) (.br (!decide ((0 : Int) = 0)) (.ok (.ret (PV.tup [PV.nil, PV.i .i64 0]) [])) (.br (decide ((-72057594037927936 : Int) < 0) && decide ((0 : Int) <= 9223372036854775807)) (.br (decide ((-72057594037927936 : Int) < 0) && decide ((0 : Int) <= 9223372036854775807)) (.br (decide ((-72057594037927936 : Int) < 0) && decide ((0 : Int) <= 9223372036854775807)) (.br (((Int.natAbs (0 : Int)).log2 + 1).ble 400000) (.br (qi (isLS (LS.mk [PV.lst 3 (.rats 64 qs), PV.ptr 0 10 0 0 [], PV.ptr 1 6 0 0 [], PV.ptr 2 4 0 0 [], PV.nil, PV.lst 16 (.fn A.n fun (j : Nat) => PV.agg [PV.q (A.lk j).len 64, PV.q (A.lk j).low 64, PV.q (A.lk j).high 64, PV.q (A.lk j).spd 64, PV.q (A.lk j).brk 64, PV.lst 6 (.fn (A.lk j).np fun (a : Nat) => PV.agg [PV.q ((A.lk j).px a) 64, PV.q ((A.lk j).py a) 64])]), PV.i .i64 (A.n : Int), PV.i .i64 0] [some (.mk 10 (.vals [PV.agg [PV.agg [PV.q A.bx 64, PV.q A.by_ 64], PV.agg [PV.bl false, PV.q A.t 64]]])), some (.mk 6 (.vals [PV.agg [PV.q (↑(0 : Int) : Rat) 1, PV.q (↑(0 : Int) : Rat) 1]])), some (.mk 4 (.vals [PV.agg [PV.bl false, PV.q (↑(0 : Int) : Rat) 1]]))]) (LS.mk [PV.lst 3 (.rats 64 qs), PV.ptr 0 10 0 0 [], PV.ptr 1 6 0 0 [], PV.ptr 2 4 0 0 [], PV.nil, PV.lst 16 (.fn A.n fun (j : Nat) => PV.agg [PV.q (A.lk j).len 64, PV.q (A.lk j).low 64, PV.q (A.lk j).high 64, PV.q (A.lk j).spd 64, PV.q (A.lk j).brk 64, PV.lst 6 (.fn (A.lk j).np fun (a : Nat) => PV.agg [PV.q ((A.lk j).px a) 64, PV.q ((A.lk j).py a) 64])]), PV.i .i64 (A.n : Int), PV.i .i64 0] [some (.mk 10 (.vals [PV.agg [PV.agg [PV.q A.bx 64, PV.q A.by_ 64], PV.agg [PV.bl false, PV.q A.t 64]]])), some (.mk 6 (.vals [PV.agg [PV.q (↑(0 : Int) : Rat) 1, PV.q (↑(0 : Int) : Rat) 1]])), some (.mk 4 (.vals [PV.agg [PV.bl false, PV.q (↑(0 : Int) : Rat) 1]]))]))) (.br (((2 : Nat) + [frP e 7478 649].length).ble 4294967296) (.ok (.ret (PV.tup [PV.fr 10 (.vals [frP f0 64 259, frP f1 2211 649, frP e 7478 649]), PV.i .i64 0]) [])) (.no 16003)) (.no 1)) (.no 1)) (.no 1)) (.no 1)) (.no 1))) (.no 1) := by kernel_rfl
theorem e39c (A : Am) (qs : List Rat) (f0 f1 f2 e : Fr) (i : Int) : evF prog O39 [(9, lcst (n39 qs A.n A.lk A.bx A.by_ A.t 0) (.exit 0) (x39 qs A.n A.lk [frP f0 64 259, frP f1 2211 649, frP f2 7478 1429] 3 e.x e.y e.h e.t 18985 1429 i))] pol39 f79 [armPV A, .lst 3 (.rats 64 qs)] [] qm =
 Tr.br (qi (P85 [armPV A, PV.i .i64 (qs.length : Int)])) (.br (!decide ((0 : Int) = 0)) (.ok (.ret (PV.tup [PV.nil, PV.i .i64 0]) [])) (.br (decide ((-72057594037927936 : Int) < 0) && decide ((0 : Int) <= 9223372036854775807)) (.br (decide ((-72057594037927936 : Int) < 0) && decide ((0 : Int) <= 9223372036854775807)) (.br (decide ((-72057594037927936 : Int) < 0) && decide ((0 : Int) <= 9223372036854775807)) (.br (((Int.natAbs (0 : Int)).log2 + 1).ble 400000) (.br (qi (isLS (LS.mk [PV.lst 3 (.rats 64 qs), PV.ptr 0 10 0 0 [], PV.ptr 1 6 0 0 [], PV.ptr 2 4 0 0 [], PV.nil, PV.lst 16 (.fn A.n fun (j : Nat) => PV.agg [PV.q (A.lk j).len 64, PV.q (A.lk j).low 64, PV.q (A.lk j).high 64, PV.q (A.lk j).spd 64, PV.q (A.lk j).brk 64, PV.lst 6 (.fn (A.lk j).np fun (a : Nat) => PV.agg [PV.q ((A.lk j).px a) 64, PV.q ((A.lk j).py a) 64])]), PV.i .i64 (A.n : Int), PV.i .i64 0] [some (.mk 10 (.vals [PV.agg [PV.agg [PV.q A.bx 64, PV.q A.by_ 64], PV.agg [PV.bl false, PV.q A.t 64]]])), some (.mk 6 (.vals [PV.agg [PV.q (↑(0 : Int) : Rat) 1, PV.q (↑(0 : Int) : Rat) 1]])), some (.mk 4 (.vals [PV.agg [PV.bl false, PV.q (↑(0 : Int) : Rat) 1]]))]) (LS.mk [PV.lst 3 (.rats 64 qs), PV.ptr 0 10 0 0 [], PV.ptr 1 6 0 0 [], PV.ptr 2 4 0 0 [], PV.nil, PV.lst 16 (.fn A.n fun (j : Nat) => PV.agg [PV.q (A.lk j).len 64, PV.q (A.lk j).low 64, PV.q (A.lk j).high 64, PV.q (A.lk j).spd 64, PV.q (A.lk j).brk 64, PV.lst 6 (.fn (A.lk j).np fun (a : Nat) => PV.agg [PV.q ((A.lk j).px a) 64, PV.q ((A.lk j).py a) 64])]), PV.i .i64 (A.n : Int), PV.i .i64 0] [some (.mk 10 (.vals [PV.agg [PV.agg [PV.q A.bx 64, PV.q A.by_ 64], PV.agg [PV.bl false, PV.q A.t 64]]])), some (.mk 6 (.vals [PV.agg [PV.q (↑(0 : Int) : Rat) 1, PV.q (↑(0 : Int) : Rat) 1]])), some (.mk 4 (.vals [PV.agg [PV.bl false, PV.q (↑(0 : Int) : Rat) 1]]))]))) (.br (((3 : Nat) + [frP e 18985 1429].length).ble 4294967296) (.ok (.ret (PV.tup [PV.fr 10 (.vals [frP f0 64 259, frP f1 2211 649, frP f2 7478 1429, frP e 18985 1429]), PV.i .i64 0]) [])) (.no 16003)) (.no 1)) (.no 1)) (.no 1)) (.no 1)) (.no 1))) (.no 1) := by kernel_rfl
def fstep (q : Rat) (E : Fr) : Fr := ⟨E.x, E.y, thH E.h E.t false q, thT E.h E.t false q⟩
def estep (L : Rat) (F : Fr) : Fr := ⟨F.x + L * cosR F.h F.t, F.y + L * sinR F.h F.t, F.h, ftT F.h F.t⟩
def endR (b : Fr) (q L : Nat -> Rat) : Nat -> Fr
 | 0 => b
 | i + 1 => estep (L i) (fstep (q i) (endR b q L i))
def frmF (b : Fr) (q L : Nat -> Rat) (i : Nat) : Fr := fstep (q i) (endR b q L i)
def allF (b : Fr) (q L : Nat -> Rat) (n i : Nat) : Fr := if i < n then frmF b q L i else endR b q L n
include hG in
theorem orc39 (hT : qx G) : OrcOK prog G O39 := .cons (gk50 hG hT) (.cons (gk51 hG hT) (.cons (gk71 hG) (.cons (ok85 hG) .nil)))
def qf (qs : List Rat) (i : Nat) : Rat := qs.getD i 0
def bsF (A : Am) : Fr := ⟨A.bx, A.by_, false, A.t⟩
def Fq (qs : List Rat) (lk : Nat -> Lk) (b : Fr) (i : Nat) : Fr := frmF b (qf qs) (fun j => (lk j).len) i
def Eq' (qs : List Rat) (lk : Nat -> Lk) (b : Fr) (i : Nat) : Fr := endR b (qf qs) (fun j => (lk j).len) i
section
variable (qs : List Rat) (n : Nat) (lk : Nat -> Lk) (b : Fr)
include hG in
theorem r39_0 (hT : qx G) (hb : b.h = false) (hn : 1 <= n) (hq : qs.length = n) : Rnd prog G f79.ntmps 0 [1, 7, 8, 9, 10, 29, 30, 31] b39 (n39 qs n lk b.x b.y b.t 0) .normal (x39 qs n lk [frP (Fq qs lk b 0) 64 259] 1 (Eq' qs lk b 1).x (Eq' qs lk b 1).y (Eq' qs lk b 1).h (Eq' qs lk b 1).t 2211 259 1) := by
 refine qb hG (orc39 hG hT) mix (L := []) (pol := pol39) (O := O39) (k9 (by kernel_rfl)) (Nat.zero_le _) ?_
 rw [t39n, k5 (kE (by omega)), k5 (by simp only [kA, kD]; omega), k5 (by simp only [kA, kD]; omega), k5 (by decide), k5 (decP_iff.2 ⟨rfl, rfl, by decide, by decide⟩), k5 (by decide), k5 (by simp), k5 (by decide),
  k5 (decP_iff.2 ⟨rfl, by decide, by decide, by decide⟩), k5 (decP_iff.2 ⟨rfl, rfl, by decide⟩), k5 (by decide), k7]
 obtain ⟨bx, by_, bh, bt⟩ := b
 simp only at hb
 subst hb
 rfl
include hG in
theorem r39_1 (hT : qx G) (hn : 2 <= n) (hq : qs.length = n) : Rnd prog G f79.ntmps 0 [1, 7, 8, 9, 10, 29, 30, 31] b39 (x39 qs n lk [frP (Fq qs lk b 0) 64 259] 1 (Eq' qs lk b 1).x (Eq' qs lk b 1).y (Eq' qs lk b 1).h (Eq' qs lk b 1).t 2211 259 1) .normal
  (x39 qs n lk [frP (Fq qs lk b 0) 64 259, frP (Fq qs lk b 1) 2211 649] 2 (Eq' qs lk b 2).x (Eq' qs lk b 2).y (Eq' qs lk b 2).h (Eq' qs lk b 2).t 7478 649 2) := by
 refine qb hG (orc39 hG hT) mix (L := []) (pol := pol39) (O := O39) (k9 (by kernel_rfl)) (Nat.zero_le _) ?_
 rw [t39a, k5 (kE (by omega)), k5 (by simp only [kA, kD]; omega), k5 (by simp only [kA, kD]; omega), k5 (by decide), k5 (decP_iff.2 ⟨rfl, rfl, by decide, by decide⟩), k5 (by decide), k5 (by simp), k5 (by decide),
  k5 (decP_iff.2 ⟨rfl, by decide, by decide, by decide⟩), k5 (decP_iff.2 ⟨rfl, rfl, by decide⟩), k5 (by decide), k7]
 rfl
include hG in
theorem r39_2 (hT : qx G) (hn : 3 <= n) (hq : qs.length = n) : Rnd prog G f79.ntmps 0 [1, 7, 8, 9, 10, 29, 30, 31] b39 (x39 qs n lk [frP (Fq qs lk b 0) 64 259, frP (Fq qs lk b 1) 2211 649] 2 (Eq' qs lk b 2).x (Eq' qs lk b 2).y (Eq' qs lk b 2).h (Eq' qs lk b 2).t 7478 649 2) .normal
  (x39 qs n lk [frP (Fq qs lk b 0) 64 259, frP (Fq qs lk b 1) 2211 649, frP (Fq qs lk b 2) 7478 1429] 3 (Eq' qs lk b 3).x (Eq' qs lk b 3).y (Eq' qs lk b 3).h (Eq' qs lk b 3).t 18985 1429 3) := by
 refine qb hG (orc39 hG hT) mix (L := []) (pol := pol39) (O := O39) (k9 (by kernel_rfl)) (Nat.zero_le _) ?_
 rw [t39b, k5 (kE (by omega)), k5 (by simp only [kA, kD]; omega), k5 (by simp only [kA, kD]; omega), k5 (by decide), k5 (decP_iff.2 ⟨rfl, rfl, by decide, by decide⟩), k5 (by decide), k5 (by simp), k5 (by decide),
  k5 (decP_iff.2 ⟨rfl, by decide, by decide, by decide⟩), k5 (decP_iff.2 ⟨rfl, rfl, by decide⟩), k5 (by decide), k7]
 rfl
end
def frs (A : Am) (qs : List Rat) : Cont := .fn (A.n + 1) (fun i => frP (allF (bsF A) (qf qs) (fun j => (A.lk j).len) A.n i) 20000 1500)
def P39 (arm : PV) (qs : List Rat) : Prop := okA arm /\ qs.length = (dArm arm).n
def g39 : Spec := fun args hs K => match args, hs with
 | [arm, .lst 3 (.rats w qs)], [] => .br (qi (P39 arm qs /\ w = 64)) (K (.tup [.fr 10 (frs (dArm arm) qs), .i .i64 0]) []) (.no 1)
 | _, _ => .no 1
theorem frP_le {f g : Fr} (h : f = g) {a b c d : Nat} (h1 : a <= c) (h2 : b <= d) : VLe (frP f a b) (frP g c d) := by
 subst h
 exact VLe.agg (vllc (VLe.agg (vllc (vle_qm h1) (vllc (vle_qm h1) vll0))) (vllc (VLe.agg (vllc (.refl _) (vllc (vle_qm h2) vll0))) vll0))
theorem frs_le0 (e n : Nat) (f : Nat -> PV) (vs : List PV) (hl : vs.length = n) (h : ∀ (i : Nat) (v : PV), vs[i]? = some v -> noRef 8 v = true /\ VLe v (f i)) :
  RLe (.tup [.fr e (.vals vs), .i .i64 0]) (.tup [.fr e (.fn n f), .i .i64 0]) := by
 subst hl
 exact ⟨fun m => .refl _, fun m => KsLe.one (KLe.fn rfl h)⟩
theorem frs_le (A : Am) (qs : List Rat) (vs : List PV) (hl : vs.length = A.n + 1) (h : ∀ (i : Nat) (v : PV), vs[i]? = some v -> noRef 8 v = true /\ VLe v (frP (allF (bsF A) (qf qs) (fun j => (A.lk j).len) A.n i) 20000 1500)) :
  RLe (.tup [.fr 10 (.vals vs), .i .i64 0]) (.tup [.fr 10 (frs A qs), .i .i64 0]) := frs_le0 _ _ _ vs hl h
section
variable (qs : List Rat) (n : Nat) (lk : Nat -> Lk) (b : Fr)
include hG in
theorem goes39a (hT : qx G) (hb : b.h = false) (hn : n = 1) (hq : qs.length = n) : Goes (Rnd prog G f79.ntmps 0 [1, 7, 8, 9, 10, 29, 30, 31] b39) (n39 qs n lk b.x b.y b.t 0) (.exit 0) (x39 qs n lk [frP (Fq qs lk b 0) 64 259] 1 (Eq' qs lk b 1).x (Eq' qs lk b 1).y (Eq' qs lk b 1).h (Eq' qs lk b 1).t 2211 259 1) := by
 refine .more _ _ _ _ (r39_0 hG qs n lk b hT hb (by omega) hq) (.last _ _ _ (qb hG (orc39 hG hT) mix (L := []) (pol := pol39) (O := O39) (k9 (by kernel_rfl)) (Nat.zero_le _) ?_) (by simp))
 rw [t39a, k6 (kF (by omega)), k7]
 rfl
include hG in
theorem goes39b (hT : qx G) (hb : b.h = false) (hn : n = 2) (hq : qs.length = n) : Goes (Rnd prog G f79.ntmps 0 [1, 7, 8, 9, 10, 29, 30, 31] b39) (n39 qs n lk b.x b.y b.t 0) (.exit 0) (x39 qs n lk [frP (Fq qs lk b 0) 64 259, frP (Fq qs lk b 1) 2211 649] 2 (Eq' qs lk b 2).x (Eq' qs lk b 2).y (Eq' qs lk b 2).h (Eq' qs lk b 2).t 7478 649 2) := by
 refine .more _ _ _ _ (r39_0 hG qs n lk b hT hb (by omega) hq) (.more _ _ _ _ (r39_1 hG qs n lk b hT (by omega) hq) (.last _ _ _ (qb hG (orc39 hG hT) mix (L := []) (pol := pol39) (O := O39) (k9 (by kernel_rfl)) (Nat.zero_le _) ?_) (by simp)))
 rw [t39b, k6 (kF (by omega)), k7]
 rfl
include hG in
theorem goes39c (hT : qx G) (hb : b.h = false) (hn : n = 3) (hq : qs.length = n) : Goes (Rnd prog G f79.ntmps 0 [1, 7, 8, 9, 10, 29, 30, 31] b39) (n39 qs n lk b.x b.y b.t 0) (.exit 0) (x39 qs n lk [frP (Fq qs lk b 0) 64 259, frP (Fq qs lk b 1) 2211 649, frP (Fq qs lk b 2) 7478 1429] 3 (Eq' qs lk b 3).x (Eq' qs lk b 3).y (Eq' qs lk b 3).h (Eq' qs lk b 3).t 18985 1429 3) := by
 refine .more _ _ _ _ (r39_0 hG qs n lk b hT hb (by omega) hq) (.more _ _ _ _ (r39_1 hG qs n lk b hT (by omega) hq) (.more _ _ _ _ (r39_2 hG qs n lk b hT (by omega) hq) (.last _ _ _ (qb hG (orc39 hG hT) mix (L := []) (pol := pol39) (O := O39) (k9 (by kernel_rfl)) (Nat.zero_le _) ?_) (by simp))))
 rw [t39c, k6 (kF (by omega)), k7]
 rfl
end
theorem allF_lt {b : Fr} {q L : Nat -> Rat} {n i : Nat} (h : i < n) : allF b q L n i = frmF b q L i := if_pos h
theorem allF_n {b : Fr} {q L : Nat -> Rat} {n : Nat} : allF b q L n n = endR b q L n := if_neg (Nat.lt_irrefl n)
include hG in
theorem gk39 (hT : qx G) : qc prog G 79 g39 := by
 intro args hs K x h
 unfold g39 at h
 split at h
 case h_2 => cases h
 rename_i arm w qs
 obtain ⟨hc, hr⟩ := k8 h
 obtain ⟨⟨⟨hv, hA⟩, hq⟩, rfl⟩ := decP_iff.1 hc
 generalize dArm arm = A at *
 obtain ⟨h1, h2, h3, h4, h5, h6, h7⟩ := armB_c hA
 have z0 : ((Int.natAbs (0 : Int)).log2 + 1).ble 400000 = true := by decide
 have hcs : A.n = 1 \/ A.n = 2 \/ A.n = 3 := by omega
 refine ⟨_, _, PC.args (.cons hv (.cons (.refl _) .nil)) ?_, hr⟩
 rcases hcs with hn | hn | hn
 ·have g := goes39a hG qs A.n A.lk (bsF A) hT rfl hn hq
  refine (qn hG (orc39 hG hT) mix enter39 (hs := []) (pol := pol39) (L := [(9, lcst (n39 qs A.n A.lk A.bx A.by_ A.t 0) (.exit 0) (x39 qs A.n A.lk [frP (Fq qs A.lk (bsF A) 0) 64 259] 1 (Eq' qs A.lk (bsF A) 1).x (Eq' qs A.lk (bsF A) 1).y (Eq' qs A.lk (bsF A) 1).h (Eq' qs A.lk (bsF A) 1).t 2211 259 1))]) (lps1 (b := b39) (live := [1, 7, 8, 9, 10, 29, 30, 31]) (m := 0) (by kernel_rfl) (by kernel_rfl) (by kernel_rfl) (lcst_ok g)) (r := .tup [.fr 10 (.vals [frP (Fq qs A.lk (bsF A) 0) 64 259, frP (Eq' qs A.lk (bsF A) 1) 2211 259]), .i .i64 0]) (hs' := []) ?_).le ?_ (.refl _)
  ·refine (congrArg Tr.run (e39a A qs (Fq qs A.lk (bsF A) 0) (Eq' qs A.lk (bsF A) 1) 1)).trans ?_
   rw [k5 (decP_iff.2 ⟨armPV A, A, by first | (rw [hq]; done) | (rw [hq]; rfl), .refl _, hA⟩), k6 (by decide), k5 (by decide), k5 (by decide), k5 (by decide), k5 z0, k5 isLS_t, k5 (by simp), k7]
   all_goals rfl
  ·refine frs_le A qs _ (by rw [hn]; rfl) fun i v hi => ?_
   match i, hi with
   | 0, hi => simp at hi; subst hi; exact ⟨rfl, frP_le (by rw [hn, allF_lt (by omega)]; rfl) (by omega) (by omega)⟩
   | 1, hi => simp at hi; subst hi; exact ⟨rfl, frP_le (by rw [hn, allF_n]; rfl) (by omega) (by omega)⟩
   | i + 2, hi => simp at hi
 ·have g := goes39b hG qs A.n A.lk (bsF A) hT rfl hn hq
  refine (qn hG (orc39 hG hT) mix enter39 (hs := []) (pol := pol39) (L := [(9, lcst (n39 qs A.n A.lk A.bx A.by_ A.t 0) (.exit 0) (x39 qs A.n A.lk [frP (Fq qs A.lk (bsF A) 0) 64 259, frP (Fq qs A.lk (bsF A) 1) 2211 649] 2 (Eq' qs A.lk (bsF A) 2).x (Eq' qs A.lk (bsF A) 2).y (Eq' qs A.lk (bsF A) 2).h (Eq' qs A.lk (bsF A) 2).t 7478 649 2))]) (lps1 (b := b39) (live := [1, 7, 8, 9, 10, 29, 30, 31]) (m := 0) (by kernel_rfl) (by kernel_rfl) (by kernel_rfl) (lcst_ok g)) (r := .tup [.fr 10 (.vals [frP (Fq qs A.lk (bsF A) 0) 64 259, frP (Fq qs A.lk (bsF A) 1) 2211 649, frP (Eq' qs A.lk (bsF A) 2) 7478 649]), .i .i64 0]) (hs' := []) ?_).le ?_ (.refl _)
  ·refine (congrArg Tr.run (e39b A qs (Fq qs A.lk (bsF A) 0) (Fq qs A.lk (bsF A) 1) (Eq' qs A.lk (bsF A) 2) 2)).trans ?_
   rw [k5 (decP_iff.2 ⟨armPV A, A, by first | (rw [hq]; done) | (rw [hq]; rfl), .refl _, hA⟩), k6 (by decide), k5 (by decide), k5 (by decide), k5 (by decide), k5 z0, k5 isLS_t, k5 (by simp), k7]
   all_goals rfl
  ·refine frs_le A qs _ (by rw [hn]; rfl) fun i v hi => ?_
   match i, hi with
   | 0, hi => simp at hi; subst hi; exact ⟨rfl, frP_le (by rw [hn, allF_lt (by omega)]; rfl) (by omega) (by omega)⟩
   | 1, hi => simp at hi; subst hi; exact ⟨rfl, frP_le (by rw [hn, allF_lt (by omega)]; rfl) (by omega) (by omega)⟩
   | 2, hi => simp at hi; subst hi; exact ⟨rfl, frP_le (by rw [hn, allF_n]; rfl) (by omega) (by omega)⟩
   | i + 3, hi => simp at hi
 ·have g := goes39c hG qs A.n A.lk (bsF A) hT rfl hn hq
  refine (qn hG (orc39 hG hT) mix enter39 (hs := []) (pol := pol39) (L := [(9, lcst (n39 qs A.n A.lk A.bx A.by_ A.t 0) (.exit 0) (x39 qs A.n A.lk [frP (Fq qs A.lk (bsF A) 0) 64 259, frP (Fq qs A.lk (bsF A) 1) 2211 649, frP (Fq qs A.lk (bsF A) 2) 7478 1429] 3 (Eq' qs A.lk (bsF A) 3).x (Eq' qs A.lk (bsF A) 3).y (Eq' qs A.lk (bsF A) 3).h (Eq' qs A.lk (bsF A) 3).t 18985 1429 3))]) (lps1 (b := b39) (live := [1, 7, 8, 9, 10, 29, 30, 31]) (m := 0) (by kernel_rfl) (by kernel_rfl) (by kernel_rfl) (lcst_ok g)) (r := .tup [.fr 10 (.vals [frP (Fq qs A.lk (bsF A) 0) 64 259, frP (Fq qs A.lk (bsF A) 1) 2211 649, frP (Fq qs A.lk (bsF A) 2) 7478 1429, frP (Eq' qs A.lk (bsF A) 3) 18985 1429]), .i .i64 0]) (hs' := []) ?_).le ?_ (.refl _)
  ·refine (congrArg Tr.run (e39c A qs (Fq qs A.lk (bsF A) 0) (Fq qs A.lk (bsF A) 1) (Fq qs A.lk (bsF A) 2) (Eq' qs A.lk (bsF A) 3) 3)).trans ?_
   rw [k5 (decP_iff.2 ⟨armPV A, A, by first | (rw [hq]; done) | (rw [hq]; rfl), .refl _, hA⟩), k6 (by decide), k5 (by decide), k5 (by decide), k5 (by decide), k5 z0, k5 isLS_t, k5 (by simp), k7]
   all_goals rfl
  ·refine frs_le A qs _ (by rw [hn]; rfl) fun i v hi => ?_
   match i, hi with
   | 0, hi => simp at hi; subst hi; exact ⟨rfl, frP_le (by rw [hn, allF_lt (by omega)]; rfl) (by omega) (by omega)⟩
   | 1, hi => simp at hi; subst hi; exact ⟨rfl, frP_le (by rw [hn, allF_lt (by omega)]; rfl) (by omega) (by omega)⟩
   | 2, hi => simp at hi; subst hi; exact ⟨rfl, frP_le (by rw [hn, allF_lt (by omega)]; rfl) (by omega) (by omega)⟩
   | 3, hi => simp at hi; subst hi; exact ⟨rfl, frP_le (by rw [hn, allF_n]; rfl) (by omega) (by omega)⟩
   | i + 4, hi => simp at hi
end
section
open Go
set_option maxRecDepth 100000
variable {G : World -> (Nat -> Prop) -> Prop} (hG : GOk G)
theorem limX_V (v : PV) : limX (armD v) = true := by
 refine List.all_eq_true.2 fun j _ => ?_
 rw [kA]
 have small : ∀ (n : Int), n.natAbs < 1000 -> smX (mkRat n (Int.toNat 3)) = true := fun n hn => smX_iff.2 ⟨Nat.lt_of_le_of_lt (mkRat_num_le n (by decide)) hn, Nat.lt_of_le_of_lt (mkRat_den_le n (by decide)) (by decide)⟩
 have g1 := nx_range (rs (itR6 j (rs (rs (rs v))))) (show (0 : Int) < 6 by omega)
 have g2 := nx_range (rs (rs (itR6 j (rs (rs (rs v)))))) (show (0 : Int) < 6 by omega)
 exact ⟨small _ (by omega), small _ (by omega)⟩
def R6 : Orc := [(36, g27), (38, g41), (39, g42), (65, g43)]
theorem cst_t {P : Program} {G : World -> (Nat -> Prop) -> Prop} {g : Nat} {as' : List PV} {r : PV} (h : PC P G g as' [] r []) : qc P G g (cst as' True r) := cst_ok fun _ => h
theorem cos_sin (h : Bool) (t : Rat) : cosR h t * cosR h t + sinR h t * sinR h t = 1 := by
 rw [cosR, sinR, qd, qd]
 cases h
 ·simp only [Bool.false_eq_true, if_false]
  have h0 := sq_pos1 t
  generalize hd : 1 + t * t = d at *
  have e1 : (1 - t * t) / d * ((1 - t * t) / d) + (t + t) / d * ((t + t) / d) = ((1 - t * t) * (1 - t * t) + (t + t) * (t + t)) / (d * d) := by grind
  have e2 : (1 - t * t) * (1 - t * t) + (t + t) * (t + t) = d * d := by grind
  rw [e1, e2]
  rw [Rat.div_def]
  exact Rat.mul_inv_cancel _ (fun h => h0 (by rcases Rat.mul_eq_zero.1 h with h | h <;> exact h))
 ·simp only [if_true]
  grind
theorem rcmp_refl0 (x : Rat) : rcmp x x = 0 := by
 unfold rcmp
 rw [if_neg (Rat.lt_irrefl), if_neg (Rat.lt_irrefl)]
include hG in
theorem pc39 (hT : qx G) (A : Am) (hA : armB A = true) (qs : List Rat) (hq : qs.length = A.n) :
  PC Tryd.prog G 79 [armPV A, .lst 3 (.rats 64 qs)] [] (.tup [.fr 10 (.fn (A.n + 1) (fun i => frP (allF (bsF A) (qf qs) (fun j => (A.lk j).len) A.n i) 20000 1500)), .i .i64 0]) [] := by
 obtain ⟨r, hs', p, e⟩ := gk39 hG hT [armPV A, .lst 3 (.rats 64 qs)] [] (fun r hs' => .ok (.ret r hs')) (.ret (.tup [.fr 10 (frs A qs), .i .i64 0]) []) (by
  show (Tr.br _ _ _).run = _
  rw [k5 (decP_iff.2 ⟨⟨okA_arm hA, hq⟩, rfl⟩)]; rfl)
 cases e
 exact p
end
section
open Go
end
section
open Go Tryd
set_option maxRecDepth 100000
variable {G : World -> (Nat -> Prop) -> Prop} (hG : GOk G)
theorem ArgsLe.ofL : ∀ {us vs : List PV}, VLeL us vs -> ArgsLe us vs
 | [], [], _ => .nil
 | [], v :: vs, h => by have := h.1; simp at this
 | u :: us, [], h => by have := h.1; simp at this
 | u :: us, v :: vs, h => .cons (h.2 0 u v rfl rfl) (ArgsLe.ofL ⟨by have := h.1; simpa using this, fun j a b e1 e2 => h.2 (j + 1) a b e1 e2⟩)
theorem VLe.tup {us vs : List PV} (h : VLeL us vs) : VLe (.tup us) (.tup vs) := by
 refine ⟨rfl, fun w S μ => ⟨fun cs hc => (by cases hc), fun x hx => ?_⟩⟩
 cases hx with
 | cell _ _ _ _ hc => cases hc
 | agg _ _ _ hv _ => cases hv
 | tup _ _ xs hl => exact .tup _ _ _ (ArgsLe.ofL h w S μ xs hl)
def mxR (x y : Rat) : Rat := if y <= x then x else y
def mnR (x y : Rat) : Rat := if x <= y then x else y

theorem k86 (x y : Rat) (n m : Nat) : evF prog [(36, g27), (67, g74)] [] {} f78 [.q x n, .q y m] [] qm =
 Tr.br ((n + m).ble 800000) (.br (decide ((0 : Int) <= rcmp x y)) (.br (n.ble 800000) (.ok (.ret (.q x n) [])) (.no 1)) (.br (m.ble 800000) (.ok (.ret (.q y m) [])) (.no 1))) (.no 1) := by kernel_rfl
theorem k80m (x y : Rat) (n m : Nat) : evF prog [(36, g27), (67, g74)] [] {} f77 [.q x n, .q y m] [] qm =
 Tr.br ((n + m).ble 800000) (.br (decide (rcmp x y <= 0)) (.br (n.ble 800000) (.ok (.ret (.q x n) [])) (.no 1)) (.br (m.ble 800000) (.ok (.ret (.q y m) [])) (.no 1))) (.no 1) := by kernel_rfl
def g86 : Spec := fun args hs K => match args, hs with
 | [.q x n, .q y m], [] => .br (Nat.ble (n + m) 400000) (K (.q (mxR x y) (Nat.max n m)) []) (.no 1)
 | _, _ => .no 1
def g80 : Spec := fun args hs K => match args, hs with
 | [.q x n, .q y m], [] => .br (Nat.ble (n + m) 400000) (K (.q (mnR x y) (Nat.max n m)) []) (.no 1)
 | _, _ => .no 1
include hG in
theorem gk86 (hT : qx G) : qc prog G 78 g86 := by
 refine qk hG (orcg80 hG hT) mix enter86 (L := []) (pol := {}) fun args hs K x h => ?_
 unfold g86 at h
 split at h
 case h_2 => cases h
 rename_i x n y m
 obtain ⟨hc, hr⟩ := k8 h
 rw [kG] at hc
 by_cases g : y <= x
 ·refine ⟨k9 (by kernel_rfl), _, _, _, ?_, q_rle (x := x) (n := n) (by rw [mxR, if_pos g]) (Nat.le_max_left n m), hr⟩
  rw [k86, k5 (by rw [kG]; omega), k5 (kE (rcmp_ge.2 g)), k5 (by rw [kG]; omega), k7]
 ·refine ⟨k9 (by kernel_rfl), _, _, _, ?_, q_rle (x := y) (n := m) (by rw [mxR, if_neg g]) (Nat.le_max_right n m), hr⟩
  rw [k86, k5 (by rw [kG]; omega), k6 (kF fun h => g (rcmp_ge.1 h)), k5 (by rw [kG]; omega), k7]
include hG in
theorem gk80 (hT : qx G) : qc prog G 77 g80 := by
 refine qk hG (orcg80 hG hT) mix enter80 (L := []) (pol := {}) fun args hs K x h => ?_
 unfold g80 at h
 split at h
 case h_2 => cases h
 rename_i x n y m
 obtain ⟨hc, hr⟩ := k8 h
 rw [kG] at hc
 by_cases g : x <= y
 ·refine ⟨k9 (by kernel_rfl), _, _, _, ?_, q_rle (x := x) (n := n) (by rw [mnR, if_pos g]) (Nat.le_max_left n m), hr⟩
  rw [k80m, k5 (by rw [kG]; omega), k5 (kE (rcmp_le.2 g)), k5 (by rw [kG]; omega), k7]
 ·refine ⟨k9 (by kernel_rfl), _, _, _, ?_, q_rle (x := y) (n := m) (by rw [mnR, if_neg g]) (Nat.le_max_right n m), hr⟩
  rw [k80m, k5 (by rw [kG]; omega), k6 (kF fun h => g (rcmp_le.1 h)), k5 (by rw [kG]; omega), k7]
end
section
open Go
set_option maxRecDepth 100000
structure Sp where
 lo : Rat
 hi : Rat
 ok : lo <= hi
def Sp.has (s : Sp) (x : Rat) : Prop := s.lo <= x /\ x <= s.hi
def subS (A B : Sp) : Sp := ⟨A.lo - B.hi, A.hi - B.lo, by have := A.ok; have := B.ok; grind⟩
structure Lz where
 X : Sp
 Y : Sp
 C : Sp
 S : Sp
def ptX (f : Fr) (x y : Rat) : Rat := f.x + (x * cosR f.h f.t - y * sinR f.h f.t)
def ptY (f : Fr) (x y : Rat) : Rat := f.y + (x * sinR f.h f.t + y * cosR f.h f.t)
end
section
open Go Tryd
set_option maxRecDepth 100000
variable {G : World -> (Nat -> Prop) -> Prop} (hG : GOk G)
theorem enLi : Enters prog 80 f80 (qe f80) := ⟨func80, by kernel_rfl, rfl⟩
theorem enPl : Enters prog 34 f34 (qe f34) := ⟨func34, by kernel_rfl, rfl⟩
def bLi : Code := (qh (qe f80)).getD 0 .skip
def polLi : Pol := { live := [(3, [2, 5, 11, 12, 13])] }
def OLi : Orc := [(120, g92)]
def lLi : qu := unr prog OLi [] polLi f80.ntmps 0 [2, 5, 11, 12, 13] bLi 5
theorem eLi3 (f : Fr) (px py : Nat -> Rat) : (evF prog OLi [(3, lLi)] polLi f80 [frP f 20000 1500, .lst 6 (.fn 3 (pv px py))] [] qm).run =
 (Tr.ok (.ret (.fr 6 (.fn 3 fun (j : Nat) => bif (j + 0).beq (2 : Nat) then .agg [.q (f.x + (px (2 : Nat) * cosR f.h f.t - py (2 : Nat) * sinR f.h f.t)) 32138, .q (f.y + (px (2 : Nat) * sinR f.h f.t + py (2 : Nat) * cosR f.h f.t)) 32138] else bif (j + 0).beq (1 : Nat) then .agg [.q (f.x + (px (1 : Nat) * cosR f.h f.t - py (1 : Nat) * sinR f.h f.t)) 32138, .q (f.y + (px (1 : Nat) * sinR f.h f.t + py (1 : Nat) * cosR f.h f.t)) 32138] else bif (j + 0).beq (0 : Nat) then .agg [.q (f.x + (px (0 : Nat) * cosR f.h f.t - py (0 : Nat) * sinR f.h f.t)) 32138, .q (f.y + (px (0 : Nat) * sinR f.h f.t + py (0 : Nat) * cosR f.h f.t)) 32138] else .agg [.agg [.bl false, .s (ByteArray.mk #[]), .s (ByteArray.mk #[])], .agg [.bl false, .s (ByteArray.mk #[]), .s (ByteArray.mk #[])]])) [])).run := by kernel_rfl
theorem eLi4 (f : Fr) (px py : Nat -> Rat) : (evF prog OLi [(3, lLi)] polLi f80 [frP f 20000 1500, .lst 6 (.fn 4 (pv px py))] [] qm).run =
 (Tr.ok (.ret (.fr 6 (.fn 4 fun (j : Nat) => bif (j + 0).beq (3 : Nat) then .agg [.q (f.x + (px (3 : Nat) * cosR f.h f.t - py (3 : Nat) * sinR f.h f.t)) 32138, .q (f.y + (px (3 : Nat) * sinR f.h f.t + py (3 : Nat) * cosR f.h f.t)) 32138] else bif (j + 0).beq (2 : Nat) then .agg [.q (f.x + (px (2 : Nat) * cosR f.h f.t - py (2 : Nat) * sinR f.h f.t)) 32138, .q (f.y + (px (2 : Nat) * sinR f.h f.t + py (2 : Nat) * cosR f.h f.t)) 32138] else bif (j + 0).beq (1 : Nat) then .agg [.q (f.x + (px (1 : Nat) * cosR f.h f.t - py (1 : Nat) * sinR f.h f.t)) 32138, .q (f.y + (px (1 : Nat) * sinR f.h f.t + py (1 : Nat) * cosR f.h f.t)) 32138] else bif (j + 0).beq (0 : Nat) then .agg [.q (f.x + (px (0 : Nat) * cosR f.h f.t - py (0 : Nat) * sinR f.h f.t)) 32138, .q (f.y + (px (0 : Nat) * sinR f.h f.t + py (0 : Nat) * cosR f.h f.t)) 32138] else .agg [.agg [.bl false, .s (ByteArray.mk #[]), .s (ByteArray.mk #[])], .agg [.bl false, .s (ByteArray.mk #[]), .s (ByteArray.mk #[])]])) [])).run := by kernel_rfl
def dF : PV -> Fr
 | .agg [.agg [.q x _, .q y _], .agg [hv, .q t _]] => ⟨x, y, (bof hv).getD false, t⟩
 | _ => ⟨0, 0, false, 0⟩
def plP (f : Fr) (px py : Nat -> Rat) (j : Nat) : PV := .agg [.q (ptX f (px j) (py j)) 32138, .q (ptY f (px j) (py j)) 32138]
def plF (v : PV) (g : Nat -> PV) : Nat -> PV := plP (dF v) (fun j => dq (fldV (g j) 0)) (fun j => dq (fldV (g j) 1))
def isLi (v : PV) (n : Nat) (g : Nat -> PV) : Prop := ∃ f px py, v = frP f 20000 1500 /\ g = pv px py /\ (n = 3 \/ n = 4)
def gLi : Spec := fun args hs K => match args, hs with
 | [v, .lst 6 (.fn n g)], [] => .br (qi (isLi v n g)) (K (.fr 6 (.fn n (plF v g))) []) (.no 1)
 | _, _ => .no 1
def armQ (A : Am) (n : Nat) : PV := .agg [.s A.name, .agg [.agg [.q A.bx 64, .q A.by_ 64], .agg [.bl false, .q A.t 64]], .lst 16 (.fn n (fun j => lkPV (A.lk j)))]
def bPl : Code := (qh (qe f34)).getD 0 .skip
def polPl : Pol := { live := [(6, [6, 8, 21, 22, 23])] }
def lPl : qu := unr prog [(80, gLi)] [] polPl f34.ntmps 0 [6, 8, 21, 22, 23] bPl 4
def OPl (A : Am) (n N : Nat) (q : List Rat) (ff : Nat -> Fr) : Orc := [(79, cst [armQ A n, .lst 3 (.rats 64 q)] True (.tup [.fr 10 (.fn N (fun i => frP (ff i) 20000 1500)), .i .i64 0])), (80, gLi)]
theorem ePl1 (A : Am) (q : List Rat) (ff : Nat -> Fr) : (evF prog (OPl A 1 2 q ff) [(6, lPl)] polPl f34 [armQ A 1, .lst 3 (.rats 64 q)] [] qm).run =
 (Tr.br (qi (isA [.agg [.s A.name, .agg [.agg [.q A.bx 64, .q A.by_ 64], .agg [.bl false, .q A.t 64]], .lst 16 (.fn 1 fun (j : Nat) => .agg [.q (A.lk j).len 64, .q (A.lk j).low 64, .q (A.lk j).high 64, .q (A.lk j).spd 64, .q (A.lk j).brk 64, .lst 6 (.fn (A.lk j).np fun (a : Nat) => .agg [.q ((A.lk j).px a) 64, .q ((A.lk j).py a) 64])])], .lst 3 (.rats 64 q)] True [.agg [.s A.name, .agg [.agg [.q A.bx 64, .q A.by_ 64], .agg [.bl false, .q A.t 64]], .lst 16 (.fn 1 fun (j : Nat) => .agg [.q (A.lk j).len 64, .q (A.lk j).low 64, .q (A.lk j).high 64, .q (A.lk j).spd 64, .q (A.lk j).brk 64, .lst 6 (.fn (A.lk j).np fun (a : Nat) => .agg [.q ((A.lk j).px a) 64, .q ((A.lk j).py a) 64])])], .lst 3 (.rats 64 q)])) (.br (qi (isLi (frP (ff (0 : Nat)) 20000 1500) (A.lk (0 : Nat)).np (pv (A.lk (0 : Nat)).px (A.lk (0 : Nat)).py))) (.br (((0 : Nat) + (A.lk (0 : Nat)).np).ble (A.lk (0 : Nat)).np) (.ok (.ret (.tup [.fr 1 (.vals [.lst 6 (.fn (A.lk (0 : Nat)).np fun (j : Nat) => .agg [.q (ptX (dF (frP (ff (0 : Nat)) 20000 1500)) (dq (.q ((A.lk (0 : Nat)).px (j + 0)) 64)) (dq (.q ((A.lk (0 : Nat)).py (j + 0)) 64))) 32138, .q (ptY (dF (frP (ff (0 : Nat)) 20000 1500)) (dq (.q ((A.lk (0 : Nat)).px (j + 0)) 64)) (dq (.q ((A.lk (0 : Nat)).py (j + 0)) 64))) 32138])]), .i .i64 0]) [])) (.no 9004)) (.no 1)) (.no 1)).run := by kernel_rfl
theorem ePl2 (A : Am) (q : List Rat) (ff : Nat -> Fr) : (evF prog (OPl A 2 3 q ff) [(6, lPl)] polPl f34 [armQ A 2, .lst 3 (.rats 64 q)] [] qm).run =
 (Tr.br (qi (isA [.agg [.s A.name, .agg [.agg [.q A.bx 64, .q A.by_ 64], .agg [.bl false, .q A.t 64]], .lst 16 (.fn 2 fun (j : Nat) => .agg [.q (A.lk j).len 64, .q (A.lk j).low 64, .q (A.lk j).high 64, .q (A.lk j).spd 64, .q (A.lk j).brk 64, .lst 6 (.fn (A.lk j).np fun (a : Nat) => .agg [.q ((A.lk j).px a) 64, .q ((A.lk j).py a) 64])])], .lst 3 (.rats 64 q)] True [.agg [.s A.name, .agg [.agg [.q A.bx 64, .q A.by_ 64], .agg [.bl false, .q A.t 64]], .lst 16 (.fn 2 fun (j : Nat) => .agg [.q (A.lk j).len 64, .q (A.lk j).low 64, .q (A.lk j).high 64, .q (A.lk j).spd 64, .q (A.lk j).brk 64, .lst 6 (.fn (A.lk j).np fun (a : Nat) => .agg [.q ((A.lk j).px a) 64, .q ((A.lk j).py a) 64])])], .lst 3 (.rats 64 q)])) (.br (qi (isLi (frP (ff (0 : Nat)) 20000 1500) (A.lk (0 : Nat)).np (pv (A.lk (0 : Nat)).px (A.lk (0 : Nat)).py))) (.br (((0 : Nat) + (A.lk (0 : Nat)).np).ble (A.lk (0 : Nat)).np) (.br (qi (isLi (frP (ff (1 : Nat)) 20000 1500) (A.lk (1 : Nat)).np (pv (A.lk (1 : Nat)).px (A.lk (1 : Nat)).py))) (.br (((0 : Nat) + (A.lk (1 : Nat)).np).ble (A.lk (1 : Nat)).np) (.ok (.ret (.tup [.fr 1 (.vals [.lst 6 (.fn (A.lk (0 : Nat)).np fun (j : Nat) => .agg [.q (ptX (dF (frP (ff (0 : Nat)) 20000 1500)) (dq (.q ((A.lk (0 : Nat)).px (j + 0)) 64)) (dq (.q ((A.lk (0 : Nat)).py (j + 0)) 64))) 32138, .q (ptY (dF (frP (ff (0 : Nat)) 20000 1500)) (dq (.q ((A.lk (0 : Nat)).px (j + 0)) 64)) (dq (.q ((A.lk (0 : Nat)).py (j + 0)) 64))) 32138]), .lst 6 (.fn (A.lk (1 : Nat)).np fun (j : Nat) => .agg [.q (ptX (dF (frP (ff (1 : Nat)) 20000 1500)) (dq (.q ((A.lk (1 : Nat)).px (j + 0)) 64)) (dq (.q ((A.lk (1 : Nat)).py (j + 0)) 64))) 32138, .q (ptY (dF (frP (ff (1 : Nat)) 20000 1500)) (dq (.q ((A.lk (1 : Nat)).px (j + 0)) 64)) (dq (.q ((A.lk (1 : Nat)).py (j + 0)) 64))) 32138])]), .i .i64 0]) [])) (.no 9004)) (.no 1)) (.no 9004)) (.no 1)) (.no 1)).run := by kernel_rfl
theorem ePl3 (A : Am) (q : List Rat) (ff : Nat -> Fr) : (evF prog (OPl A 3 4 q ff) [(6, lPl)] polPl f34 [armQ A 3, .lst 3 (.rats 64 q)] [] qm).run =
 (Tr.br (qi (isA [.agg [.s A.name, .agg [.agg [.q A.bx 64, .q A.by_ 64], .agg [.bl false, .q A.t 64]], .lst 16 (.fn 3 fun (j : Nat) => .agg [.q (A.lk j).len 64, .q (A.lk j).low 64, .q (A.lk j).high 64, .q (A.lk j).spd 64, .q (A.lk j).brk 64, .lst 6 (.fn (A.lk j).np fun (a : Nat) => .agg [.q ((A.lk j).px a) 64, .q ((A.lk j).py a) 64])])], .lst 3 (.rats 64 q)] True [.agg [.s A.name, .agg [.agg [.q A.bx 64, .q A.by_ 64], .agg [.bl false, .q A.t 64]], .lst 16 (.fn 3 fun (j : Nat) => .agg [.q (A.lk j).len 64, .q (A.lk j).low 64, .q (A.lk j).high 64, .q (A.lk j).spd 64, .q (A.lk j).brk 64, .lst 6 (.fn (A.lk j).np fun (a : Nat) => .agg [.q ((A.lk j).px a) 64, .q ((A.lk j).py a) 64])])], .lst 3 (.rats 64 q)])) (.br (qi (isLi (frP (ff (0 : Nat)) 20000 1500) (A.lk (0 : Nat)).np (pv (A.lk (0 : Nat)).px (A.lk (0 : Nat)).py))) (.br (((0 : Nat) + (A.lk (0 : Nat)).np).ble (A.lk (0 : Nat)).np) (.br (qi (isLi (frP (ff (1 : Nat)) 20000 1500) (A.lk (1 : Nat)).np (pv (A.lk (1 : Nat)).px (A.lk (1 : Nat)).py))) (.br (((0 : Nat) + (A.lk (1 : Nat)).np).ble (A.lk (1 : Nat)).np) (.br (qi (isLi (frP (ff (2 : Nat)) 20000 1500) (A.lk (2 : Nat)).np (pv (A.lk (2 : Nat)).px (A.lk (2 : Nat)).py))) (.br (((0 : Nat) + (A.lk (2 : Nat)).np).ble (A.lk (2 : Nat)).np) (.ok (.ret (.tup [.fr 1 (.vals [.lst 6 (.fn (A.lk (0 : Nat)).np fun (j : Nat) => .agg [.q (ptX (dF (frP (ff (0 : Nat)) 20000 1500)) (dq (.q ((A.lk (0 : Nat)).px (j + 0)) 64)) (dq (.q ((A.lk (0 : Nat)).py (j + 0)) 64))) 32138, .q (ptY (dF (frP (ff (0 : Nat)) 20000 1500)) (dq (.q ((A.lk (0 : Nat)).px (j + 0)) 64)) (dq (.q ((A.lk (0 : Nat)).py (j + 0)) 64))) 32138]), .lst 6 (.fn (A.lk (1 : Nat)).np fun (j : Nat) => .agg [.q (ptX (dF (frP (ff (1 : Nat)) 20000 1500)) (dq (.q ((A.lk (1 : Nat)).px (j + 0)) 64)) (dq (.q ((A.lk (1 : Nat)).py (j + 0)) 64))) 32138, .q (ptY (dF (frP (ff (1 : Nat)) 20000 1500)) (dq (.q ((A.lk (1 : Nat)).px (j + 0)) 64)) (dq (.q ((A.lk (1 : Nat)).py (j + 0)) 64))) 32138]), .lst 6 (.fn (A.lk (2 : Nat)).np fun (j : Nat) => .agg [.q (ptX (dF (frP (ff (2 : Nat)) 20000 1500)) (dq (.q ((A.lk (2 : Nat)).px (j + 0)) 64)) (dq (.q ((A.lk (2 : Nat)).py (j + 0)) 64))) 32138, .q (ptY (dF (frP (ff (2 : Nat)) 20000 1500)) (dq (.q ((A.lk (2 : Nat)).px (j + 0)) 64)) (dq (.q ((A.lk (2 : Nat)).py (j + 0)) 64))) 32138])]), .i .i64 0]) [])) (.no 9004)) (.no 1)) (.no 9004)) (.no 1)) (.no 9004)) (.no 1)) (.no 1)).run := by kernel_rfl
theorem kl_ff {e n : Nat} {f g : Nat -> PV} (h : ∀ i, i < n -> noRef 8 (f i) = true /\ VLe (f i) (g i)) : KLe ⟨e, .fn n f⟩ ⟨e, .fn n g⟩ := by
 intro w S μ a z hb
 obtain ⟨c, T, cs, h1, h2, h3, h4, h5, h6⟩ := hb
 refine ⟨c, T, cs, h1, h2, h3, fun i hi => ?_, h5, h6⟩
 have h7 := h4 i hi
 simp only [Cont.get, qw] at h7 ⊢
 exact ((h i hi).2.2 w S qC).1 _ h7
theorem fr_ff (e n : Nat) {f g : Nat -> PV} (h : ∀ i, i < n -> noRef 8 (f i) = true /\ VLe (f i) (g i)) : RLe (.fr e (.fn n f)) (.fr e (.fn n g)) :=
 ⟨fun m => .refl _, fun m => KsLe.one (kl_ff h)⟩
include hG in
theorem gkLi (hT : qx G) : qc prog G 80 gLi := by
 intro args hs K x h
 unfold gLi at h
 split at h
 case h_2 => cases h
 rename_i v n g
 obtain ⟨hc, hr⟩ := k8 h
 obtain ⟨f, px, py, rfl, rfl, hn⟩ := decP_iff.1 hc
 have orc : OrcOK prog G OLi := .cons (gk92 hG hT) .nil
 have hl := lps1 (P := prog) (G := G) (pol := polLi) (n := f80.ntmps) (m := 0) (L := [(3, lLi)]) (c := qe f80) (b := bLi) (live := [2, 5, 11, 12, 13]) (sp := lLi) (by kernel_rfl) (by kernel_rfl) (by kernel_rfl) (unr_ok hG orc mix (k9 (by kernel_rfl)) 5)
 refine ⟨_, _, ?_, hr⟩
 rcases hn with rfl | rfl
 ·refine (qn hG orc mix enLi (hs := []) (pol := polLi) (L := [(3, lLi)]) hl ((eLi3 f px py).trans k7)).le (fr_ff 6 3 fun i hi => ?_) (.refl _)
  match i, hi with
  | 0, _ => exact ⟨rfl, .refl _⟩
  | 1, _ => exact ⟨rfl, .refl _⟩
  | 2, _ => exact ⟨rfl, .refl _⟩
  | i + 3, hi => exact absurd hi (by omega)
 ·refine (qn hG orc mix enLi (hs := []) (pol := polLi) (L := [(3, lLi)]) hl ((eLi4 f px py).trans k7)).le (fr_ff 6 4 fun i hi => ?_) (.refl _)
  match i, hi with
  | 0, _ => exact ⟨rfl, .refl _⟩
  | 1, _ => exact ⟨rfl, .refl _⟩
  | 2, _ => exact ⟨rfl, .refl _⟩
  | 3, _ => exact ⟨rfl, .refl _⟩
  | i + 4, hi => exact absurd hi (by omega)
def plC (A : Am) (ff : Nat -> Fr) (i : Nat) : PV := .lst 6 (.fn (A.lk i).np (plP (ff i) (A.lk i).px (A.lk i).py))
def shp (A : Am) : Prop := ∀ j, j < A.n -> (A.lk j).np = 3 \/ (A.lk j).np = 4
include hG in
theorem pcPl (hT : qx G) (A : Am) (hA : armB A = true) (hS : shp A) (q : List Rat) (hq : q.length = A.n) :
  PC prog G 34 [armPV A, .lst 3 (.rats 64 q)] [] (.tup [.fr 1 (.fn A.n (plC A (allF (bsF A) (qf q) (fun j => (A.lk j).len) A.n))), .i .i64 0]) [] := by
 have p13 := pc39 hG hT A hA q hq
 unfold frs at p13
 obtain ⟨a1, a2, a3, a4, h1, h3, a7⟩ := armB_c hA
 generalize allF (bsF A) (qf q) (fun j => (A.lk j).len) A.n = ff at *
 have hl := lps1 (P := prog) (G := G) (pol := polPl) (n := f34.ntmps) (m := 0) (L := [(6, lPl)]) (c := qe f34) (b := bPl) (live := [6, 8, 21, 22, 23]) (sp := lPl) (by kernel_rfl) (by kernel_rfl) (by kernel_rfl) (unr_ok hG (.cons (gkLi hG hT) .nil) mix (k9 (by kernel_rfl)) 4)
 have ha : armPV A = armQ A A.n := rfl
 rw [ha] at p13 ⊢
 unfold shp at hS
 rcases (show A.n = 1 \/ A.n = 2 \/ A.n = 3 by omega) with hn | hn | hn
 ·rw [hn] at p13 hS ⊢
  refine (qn hG (.cons (cst_t p13) (.cons (gkLi hG hT) .nil)) mix enPl (hs := []) (pol := polPl) (L := [(6, lPl)]) hl (r := .tup [.fr 1 (.vals [plC A ff 0]), .i .i64 0]) (hs' := []) ?_).le (frs_le0 _ _ _ _ rfl fun i v hi => ?_) (.refl _)
  ·refine (ePl1 A q ff).trans ?_
   repeat (refine Eq.trans (k5 ?_) ?_; first | exact decP_iff.2 ⟨rfl, trivial⟩ | exact decP_iff.2 ⟨_, _, _, rfl, rfl, hS _ (by omega)⟩ | (rw [kG]; omega))
   rw [k7]; rfl
  ·match i, hi with
   | 0, hi => simp at hi; subst hi; exact ⟨rfl, .refl _⟩
   | i + 1, hi => simp at hi
 ·rw [hn] at p13 hS ⊢
  refine (qn hG (.cons (cst_t p13) (.cons (gkLi hG hT) .nil)) mix enPl (hs := []) (pol := polPl) (L := [(6, lPl)]) hl (r := .tup [.fr 1 (.vals [plC A ff 0, plC A ff 1]), .i .i64 0]) (hs' := []) ?_).le (frs_le0 _ _ _ _ rfl fun i v hi => ?_) (.refl _)
  ·refine (ePl2 A q ff).trans ?_
   repeat (refine Eq.trans (k5 ?_) ?_; first | exact decP_iff.2 ⟨rfl, trivial⟩ | exact decP_iff.2 ⟨_, _, _, rfl, rfl, hS _ (by omega)⟩ | (rw [kG]; omega))
   rw [k7]; rfl
  ·match i, hi with
   | 0, hi => simp at hi; subst hi; exact ⟨rfl, .refl _⟩
   | 1, hi => simp at hi; subst hi; exact ⟨rfl, .refl _⟩
   | i + 2, hi => simp at hi
 ·rw [hn] at p13 hS ⊢
  refine (qn hG (.cons (cst_t p13) (.cons (gkLi hG hT) .nil)) mix enPl (hs := []) (pol := polPl) (L := [(6, lPl)]) hl (r := .tup [.fr 1 (.vals [plC A ff 0, plC A ff 1, plC A ff 2]), .i .i64 0]) (hs' := []) ?_).le (frs_le0 _ _ _ _ rfl fun i v hi => ?_) (.refl _)
  ·refine (ePl3 A q ff).trans ?_
   repeat (refine Eq.trans (k5 ?_) ?_; first | exact decP_iff.2 ⟨rfl, trivial⟩ | exact decP_iff.2 ⟨_, _, _, rfl, rfl, hS _ (by omega)⟩ | (rw [kG]; omega))
   rw [k7]; rfl
  ·match i, hi with
   | 0, hi => simp at hi; subst hi; exact ⟨rfl, .refl _⟩
   | 1, hi => simp at hi; subst hi; exact ⟨rfl, .refl _⟩
   | 2, hi => simp at hi; subst hi; exact ⟨rfl, .refl _⟩
   | i + 3, hi => simp at hi
theorem shp_V (v : PV) : shp (armD v) := by
 intro j _
 show (shV _).len = 3 \/ (shV _).len = 4
 unfold shV
 split
 ·exact .inl rfl
 ·exact .inr rfl
structure Pg where
 n : Nat
 u : Nat -> Rat
 v : Nat -> Rat
def pw (x y : Rat) : PV := .agg [.q x 32138, .q y 32138]
def pgC (P : Pg) : Cont := .fn P.n (fun j => pw (P.u j) (P.v j))
def pgV (P : Pg) : PV := .lst 6 (pgC P)
theorem enLf : Enters prog 121 f121 (qe f121) := ⟨func121, by kernel_rfl, rfl⟩
def OLf : Orc := [(84, g97), (38, g41), (31, g26)]
theorem eLf (a b c d e f : Rat) : (evF prog OLf [] {} f121 [pw a b, pw c d, pw e f] [] qm).run = some (.ret (.i .i64 (rcmp (tri a b c d e f) 0)) []) := by kernel_rfl
def gLf : Spec := fun args hs K => match args, hs with
 | [.agg [.q a 32138, .q b 32138], .agg [.q c 32138, .q d 32138], .agg [.q e 32138, .q f 32138]], [] => K (.i .i64 (rcmp (tri a b c d e f) 0)) []
 | _, _ => .no 1
include hG in
theorem gkLf (hT : qx G) : qc prog G 121 gLf := by
 intro args hs K x h
 unfold gLf at h
 split at h
 case h_2 => cases h
 rename_i a b c d e f
 exact ⟨_, _, qn hG (.cons (gk97 hG hT) (.cons (gk41 hG hT) (.cons (gk26 hG hT) .nil))) mix enLf (hs := []) (L := []) (pol := {}) (k9 (by kernel_rfl)) (eLf a b c d e f), h⟩
theorem enPk : Enters prog 81 f81 (qe f81) := ⟨func81, by kernel_rfl, rfl⟩
def bCk : Code := (qh (qe f81)).getD 0 .skip
def iCk : Code := (qh (qe f81)).getD 1 .skip
def polCk : Pol := { live := [(7, [0, 4, 5, 18, 19, 20]), (10, [0, 4, 5, 6, 7, 8, 18, 19, 20])] }
def siCk (P : Pg) (e i k : Int) : LS := ⟨[pgV P, .i .i64 e, .i .i64 P.n, .i .i64 i, .ptr 0 6 0 0 [], .i .i64 k, pgV P, .i .i64 P.n, .i .i64 i], [some ⟨6, .vals [pw (P.u i.toNat) (P.v i.toNat)]⟩]⟩
def soCk (P : Pg) (e i : Int) : LS := ⟨[pgV P, .i .i64 e, .i .i64 P.n, pgV P, .i .i64 P.n, .i .i64 i], []⟩
def trP (P : Pg) (i j k : Nat) : Rat := tri (P.u i) (P.v i) (P.u j) (P.v j) (P.u k) (P.v k)
theorem tiCk (P : Pg) (i k : Int) : (qg prog [(121, gLf)] [] polCk f81.ntmps 0 [0, 4, 5, 6, 7, 8, 18, 19, 20] iCk (siCk P 0 i k)).run =
  (Tr.br (decide (k < (P.n : Int))) (.br (ovf (i + 1)) (.br (!decide ((P.n : Int) = 0)) (.br (ix ((i + 1).tmod P.n) ((P.n : Int))) (.br (ovf (i + k)) (.br (!decide ((P.n : Int) = 0)) (.br (ix ((i + k).tmod P.n) ((P.n : Int))) (.br (decide (rcmp (trP P i.toNat ((i + 1).tmod P.n).toNat ((i + k).tmod P.n).toNat) 0 <= 0)) (.ok (.out .ret (siCk P 3 i k))) (.br (ovf (k + 1)) (.ok (.out .normal (siCk P 0 i (k + 1)))) (.no 1))) (.no 1)) (.no 1)) (.no 1)) (.no 1)) (.no 1)) (.no 1)) (.ok (.out (.exit 3) (siCk P 0 i k)))).run := by kernel_rfl
theorem toCk (P : Pg) (i j k : Int) : (qg prog [(121, gLf)] [(10, lcst (siCk P 0 j 2) (.exit 3) (siCk P 0 j k))] polCk f81.ntmps 0 [0, 4, 5, 18, 19, 20] bCk (soCk P 0 i)).run =
  (Tr.br (decide (i < (P.n : Int))) (.br (ix (i) ((P.n : Int))) (.br (qi (isLS (siCk P 0 j 2) (siCk P 0 i 2))) (.br (ovf (j + 1)) (.ok (.out .normal (soCk P 0 (j + 1)))) (.no 1)) (.no 1)) (.no 1)) (.ok (.out (.exit 1) (soCk P 0 i)))).run := by kernel_rfl
theorem toCkb (P : Pg) (i j k : Int) : (qg prog [(121, gLf)] [(10, lcst (siCk P 0 j 2) .ret (siCk P 3 j k))] polCk f81.ntmps 0 [0, 4, 5, 18, 19, 20] bCk (soCk P 0 i)).run =
  (Tr.br (decide (i < (P.n : Int))) (.br (ix (i) ((P.n : Int))) (.br (qi (isLS (siCk P 0 j 2) (siCk P 0 i 2))) (.ok (.out .ret (soCk P 3 j))) (.no 1)) (.no 1)) (.ok (.out (.exit 1) (soCk P 0 i)))).run := by kernel_rfl
theorem eCkg (P : Pg) (m : Int) : (evF prog [(121, gLf)] [(7, lcst (soCk P 0 0) (.exit 1) (soCk P 0 P.n))] polCk f81 [pgV P, .i .i64 m] [] qm).run =
  (Tr.br (decide (m < (P.n : Int))) (.ok (.ret (.i .i64 2) [])) (.br (decide ((P.n : Int) < 3)) (.ok (.ret (.i .i64 3) [])) (.br (qi (isLS (soCk P 0 0) (soCk P 0 0))) (.ok (.ret (.i .i64 0) [])) (.no 1)))).run := by kernel_rfl
theorem eCkb (P : Pg) (m i : Int) : (evF prog [(121, gLf)] [(7, lcst (soCk P 0 0) .ret (soCk P 3 i))] polCk f81 [pgV P, .i .i64 m] [] qm).run =
  (Tr.br (decide (m < (P.n : Int))) (.ok (.ret (.i .i64 2) [])) (.br (decide ((P.n : Int) < 3)) (.ok (.ret (.i .i64 3) [])) (.br (qi (isLS (soCk P 0 0) (soCk P 0 0))) (.ok (.ret (.i .i64 3) [])) (.no 1)))).run := by kernel_rfl
def pkR (P : Pg) (i k : Nat) : Bool := decide (0 < trP P i ((i + 1) % P.n) ((i + k) % P.n))
def pkI (P : Pg) (i : Nat) : Bool := (List.range (P.n - 2)).all fun j => pkR P i (j + 2)
def pkB (P : Pg) : Bool := (List.range P.n).all (pkI P)
def pkE (P : Pg) : Int := if pkB P = true then 0 else 3
theorem all_r {n : Nat} {f : Nat -> Bool} : (List.range n).all f = true ↔ ∀ j, 0 <= j -> j < n -> f j = true := by
 simp [List.all_eq_true, List.mem_range]
include hG in
theorem goesCi (hT : qx G) (P : Pg) (h3 : 3 <= P.n) (h8 : P.n <= 8) (i : Nat) (hi : i < P.n) :
  (pkI P i = true -> Goes (Rnd prog G f81.ntmps 0 [0, 4, 5, 6, 7, 8, 18, 19, 20] iCk) (siCk P 0 i 2) (.exit 3) (siCk P 0 i P.n)) /\
  (pkI P i = false -> ∃ k : Int, Goes (Rnd prog G f81.ntmps 0 [0, 4, 5, 6, 7, 8, 18, 19, 20] iCk) (siCk P 0 i 2) .ret (siCk P 3 i k)) := by
 have rd : ∀ (k : Int) (e : Exit) (ls : LS), (qg prog [(121, gLf)] [] polCk f81.ntmps 0 [0, 4, 5, 6, 7, 8, 18, 19, 20] iCk (siCk P 0 i k)).run = some (.out e ls) ->
   Rnd prog G f81.ntmps 0 [0, 4, 5, 6, 7, 8, 18, 19, 20] iCk (siCk P 0 i k) e ls := fun k e ls h =>
  qb hG (.cons (gkLf hG hT) .nil) mix (L := []) (pol := polCk) (k9 (by kernel_rfl)) (Nat.zero_le _) h
 have e1 : (((i : Nat) : Int) + 1).tmod P.n = (((i + 1) % P.n : Nat) : Int) := tmod_nat (i + 1) P.n
 have m1 := Nat.mod_lt (i + 1) (show 0 < P.n by omega)
 have st : ∀ j, j < P.n - 2 -> ∀ r, (Tr.br (decide (rcmp (trP P i ((i + 1) % P.n) ((i + (j + 2)) % P.n)) 0 <= (0 : Int))) (.ok (.out .ret (siCk P 3 i ((j + 2 : Nat) : Int)))) (.br (ovf (((j + 2 : Nat) : Int) + 1)) (.ok (.out .normal (siCk P 0 i (((j + 2 : Nat) : Int) + 1)))) (.no 1))).run = some r ->
   (qg prog [(121, gLf)] [] polCk f81.ntmps 0 [0, 4, 5, 6, 7, 8, 18, 19, 20] iCk (siCk P 0 i ((j + 2 : Nat) : Int))).run = some r := fun j hj r h => by
  have e2 : (((i : Nat) : Int) + ((j + 2 : Nat) : Int)).tmod P.n = (((i + (j + 2)) % P.n : Nat) : Int) := tmod_nat (i + (j + 2)) P.n
  have m2 := Nat.mod_lt (i + (j + 2)) (show 0 < P.n by omega)
  refine (tiCk P i ((j + 2 : Nat) : Int)).trans ?_
  rw [e1, e2, Int.toNat_natCast, Int.toNat_natCast, Int.toNat_natCast]
  generalize (i + 1) % P.n = a at *
  generalize (i + (j + 2)) % P.n = b at *
  rw [k5 (kE (by omega)), k5 (by simp only [ovf, kA, kD]; omega), k5 (by rw [kJ, kK]; omega), k5 (by simp only [kA, kD]; omega), k5 (by simp only [ovf, kA, kD]; omega), k5 (by rw [kJ, kK]; omega),
   k5 (by simp only [kA, kD]; omega)]
  exact h
 obtain ⟨w1, w2⟩ := Goes.search (R := Rnd prog G f81.ntmps 0 [0, 4, 5, 6, 7, 8, 18, 19, 20] iCk) (fun j => siCk P 0 i ((j + 2 : Nat) : Int)) (fun j => siCk P 3 i ((j + 2 : Nat) : Int)) (fun j => pkR P i (j + 2)) (P.n - 2) (e0 := .exit 3) (e1 := .ret) (fin := siCk P 0 i P.n) (by simp) (by simp)
  (fun j hj ok => by
   refine rd _ _ _ (st j hj _ ?_)
   rw [k6 (kF (by rw [rcmp_le]; exact Rat.not_le.2 (of_decide_eq_true ok))), k5 (by simp only [ovf, kA, kD]; omega), k7]
   rfl)
  (fun j hj ok => by
   refine rd _ _ _ (st j hj _ ?_)
   rw [k5 (kE (by rw [rcmp_le]; exact Rat.not_lt.1 (of_decide_eq_false ok))), k7])
  (by
   refine rd _ _ _ ((tiCk P i ((P.n - 2 + 2 : Nat) : Int)).trans ?_)
   rw [k6 (kF (by omega)), k7, show ((P.n - 2 + 2 : Nat) : Int) = (P.n : Int) by omega]) (P.n - 2) 0 (by omega)
 refine ⟨fun h => w1 (all_r.1 h), fun h => ⟨_, w2 fun h' => ?_⟩⟩
 have := all_r.2 h'
 rw [pkI] at h
 rw [this] at h
 cases h
include hG in
theorem pcCk (hT : qx G) (P : Pg) (h3 : 3 <= P.n) (h8 : P.n <= 8) (m : Int) (hm : (P.n : Int) <= m) : PC prog G 81 [pgV P, .i .i64 m] [] (.i .i64 (pkE P)) [] := by
 have gi := goesCi hG hT P h3 h8
 have orc : OrcOK prog G [(121, gLf)] := .cons (gkLf hG hT) .nil
 have rd : ∀ (i : Nat) (e : Exit) (ls S0 S1 : LS) (e' : Exit), Goes (Rnd prog G f81.ntmps 0 [0, 4, 5, 6, 7, 8, 18, 19, 20] iCk) S0 e' S1 -> (qg prog [(121, gLf)] [(10, lcst S0 e' S1)] polCk f81.ntmps 0 [0, 4, 5, 18, 19, 20] bCk (soCk P 0 i)).run = some (.out e ls) ->
   Rnd prog G f81.ntmps 0 [0, 4, 5, 18, 19, 20] bCk (soCk P 0 i) e ls := fun i e ls S0 S1 e' g h =>
  qb hG orc mix (pol := polCk) (lps1 (b := iCk) (live := [0, 4, 5, 6, 7, 8, 18, 19, 20]) (m := 0) (by kernel_rfl) (by kernel_rfl) (by kernel_rfl) (lcst_ok g)) (Nat.zero_le _) h
 have hl : ∀ (lQ : qu), qt prog G f81.ntmps 0 [0, 4, 5, 18, 19, 20] bCk lQ -> LpsOK prog G polCk f81.ntmps 0 [(7, lQ)] (qe f81) := fun lQ h =>
  lps1n (b := bCk) (b' := iCk) (live := [0, 4, 5, 18, 19, 20]) (m := 0) (by kernel_rfl) (by kernel_rfl) (by kernel_rfl) (by kernel_rfl) h
 have hx : Rnd prog G f81.ntmps 0 [0, 4, 5, 18, 19, 20] bCk (soCk P 0 P.n) (.exit 1) (soCk P 0 P.n) := by
  cases hB : pkI P 0 with
  | true =>
   refine rd P.n _ _ _ _ _ ((gi 0 (by omega)).1 hB) ((toCk P P.n ((0 : Nat) : Int) P.n).trans ?_)
   rw [k6 (kF (by omega)), k7]
  | false =>
   obtain ⟨k, g⟩ := (gi 0 (by omega)).2 hB
   refine rd P.n _ _ _ _ _ g ((toCkb P P.n ((0 : Nat) : Int) k).trans ?_)
   rw [k6 (kF (by omega)), k7]
 obtain ⟨w1, w2⟩ := Goes.search (R := Rnd prog G f81.ntmps 0 [0, 4, 5, 18, 19, 20] bCk) (fun i => soCk P 0 ((i : Nat) : Int)) (fun i => soCk P 3 ((i : Nat) : Int)) (pkI P) P.n (e0 := .exit 1) (e1 := .ret) (fin := soCk P 0 P.n) (by simp) (by simp)
  (fun i hi ok => by
   refine rd i _ _ _ _ _ ((gi i hi).1 ok) ((toCk P i i P.n).trans ?_)
   rw [k5 (kE (by omega)), k5 (by simp only [kA, kD]; omega), k5 isLS_t, k5 (by simp only [ovf, kA, kD]; omega), k7]
   rfl)
  (fun i hi ok => by
   obtain ⟨k, g⟩ := (gi i hi).2 ok
   refine rd i _ _ _ _ _ g ((toCkb P i i k).trans ?_)
   rw [k5 (kE (by omega)), k5 (by simp only [kA, kD]; omega), k5 isLS_t, k7])
  hx P.n 0 (by omega)
 unfold pkE
 cases hB : pkB P with
 | true =>
  rw [if_pos rfl]
  have g : Goes (Rnd prog G f81.ntmps 0 [0, 4, 5, 18, 19, 20] bCk) (soCk P 0 0) (.exit 1) (soCk P 0 P.n) := w1 (all_r.1 hB)
  refine qn hG orc mix enPk (hs := []) (pol := polCk) (L := [(7, lcst (soCk P 0 0) (.exit 1) (soCk P 0 P.n))]) (hl _ (lcst_ok g)) ?_
  refine (eCkg P m).trans ?_
  rw [k6 (kF (by omega)), k6 (kF (by omega)), k5 isLS_t, k7]
 | false =>
  rw [if_neg (by decide)]
  have hn : ¬ ∀ j, 0 <= j -> j < P.n -> pkI P j = true := fun h => by
   have := all_r.2 h
   rw [pkB, this] at hB
   cases hB
  have g : Goes (Rnd prog G f81.ntmps 0 [0, 4, 5, 18, 19, 20] bCk) (soCk P 0 0) .ret (soCk P 3 ((fbad (pkI P) P.n 0 : Nat) : Int)) := w2 hn
  generalize ((fbad (pkI P) P.n 0 : Nat) : Int) = q at g
  refine qn hG orc mix enPk (hs := []) (pol := polCk) (L := [(7, lcst (soCk P 0 0) .ret (soCk P 3 q))]) (hl _ (lcst_ok g)) ?_
  refine (eCkb P m q).trans ?_
  rw [k6 (kF (by omega)), k6 (kF (by omega)), k5 isLS_t, k7]
theorem enCv : Enters prog 83 f83 (qe f83) := ⟨func83, by kernel_rfl, rfl⟩
theorem enCh : Enters prog 35 f35 (qe f35) := ⟨func35, by kernel_rfl, rfl⟩
theorem eCv (P : Pg) (e : Int) : (evF prog [(81, cst [pgV P, .i .i64 64] True (.i .i64 e))] [] {} f83 [pgV P] [] qm).run = (Tr.br (qi (isA [pgV P, .i .i64 64] True [pgV P, .i .i64 64])) (.ok (.ret (.i .i64 e) [])) (.no 1)).run := by kernel_rfl
theorem eCh (P : Pg) (e : Int) : (evF prog [(81, cst [pgV P, .i .i64 8] True (.i .i64 e))] [] {} f35 [pgV P] [] qm).run = (Tr.br (qi (isA [pgV P, .i .i64 8] True [pgV P, .i .i64 8])) (.ok (.ret (.i .i64 e) [])) (.no 1)).run := by kernel_rfl
include hG in
theorem pcCv (hT : qx G) (P : Pg) (h3 : 3 <= P.n) (h8 : P.n <= 8) : PC prog G 83 [pgV P] [] (.i .i64 (pkE P)) [] := by
 refine qn hG (.cons (cst_t (pcCk hG hT P h3 h8 64 (by omega))) .nil) mix enCv (hs := []) (L := []) (pol := {}) (k9 (by kernel_rfl)) ((eCv P (pkE P)).trans ?_)
 rw [k5 (decP_iff.2 ⟨rfl, trivial⟩), k7]
include hG in
theorem pcCh (hT : qx G) (P : Pg) (h3 : 3 <= P.n) (h8 : P.n <= 8) : PC prog G 35 [pgV P] [] (.i .i64 (pkE P)) [] := by
 refine qn hG (.cons (cst_t (pcCk hG hT P h3 h8 8 (by omega))) .nil) mix enCh (hs := []) (L := []) (pol := {}) (k9 (by kernel_rfl)) ((eCh P (pkE P)).trans ?_)
 rw [k5 (decP_iff.2 ⟨rfl, trivial⟩), k7]
end
section
open Go
set_option maxRecDepth 100000
variable {G : World -> (Nat -> Prop) -> Prop} (hG : GOk G)
def nz72 (y : Rat) : Prop := ¬ y = 0
def c72 : Spec := fun args hs K => match args, hs with
 | [.q x n, .q y m], [] => .br (qi (nz72 y)) (.br (Nat.ble (n + m) 800000) (K (.tup [.q (x / y) (n + m), .i .i64 0]) []) (.no 1)) (.no 1)
 | _, _ => .no 1
include hG in
theorem ck72 (hT : qx G) : qc Tryd.prog G 64 c72 := by
 intro args hs K x h
 unfold c72 at h
 split at h
 case h_2 => cases h
 rename_i x n y m
 obtain ⟨hc, hr⟩ := k8 h
 obtain ⟨hb, hr⟩ := k8 hr
 exact ⟨_, _, pc_spec (gk72 hG hT) ((k5 hb).trans ((k6 (kF (decP_iff.1 hc))).trans rfl)), hr⟩
def Asam (l : List Int) : Am := ⟨⟨#[111, 110, 101]⟩, mkRat 0 1, mkRat 0 1, mkRat 0 1, l.length, fun j => smL (l.getD j 0)⟩
include hG in
theorem sam_ok (l : List Int) (h : (evF Tryd.prog O32 [(3, l32)] pol32 Tryd.f27 [.lst 1 (.ints .i64 l)] [] qm).run = some (.ret (frA ⟨#[111, 110, 101]⟩ (mkRat 0 1) (mkRat 0 1) (mkRat 0 1) (.fr 16 (.vals (l.map smV)))) [])) : PC Tryd.prog G 27 [.lst 1 (.ints .i64 l)] [] (armFr (Asam l)) [] := by
 refine (qn hG (.cons (ok23 hG) (.cons (ok84 hG) .nil)) mix enter32 (O := O32) (L := [(3, l32)]) (pol := pol32) (lps1 (b := b32) (live := [2, 3, 11, 12, 13]) (sp := l32) (m := 0) (by kernel_rfl) (by kernel_rfl) (by kernel_rfl) (unr_ok hG (.cons (ok23 hG) (.cons (ok84 hG) .nil)) mix (k9 (by kernel_rfl)) 3)) h).le ?_ (.refl _)
 refine rle_arm _ _ _ _ _ _ _ (by rw [List.length_map]; rfl) fun i u hu => ?_
 rw [List.getElem?_map] at hu
 cases hx : l[i]? with
 | none => rw [hx] at hu; cases hu
 | some x =>
  rw [hx] at hu
  obtain rfl := Option.some.inj hu
  refine ⟨rfl, ?_⟩
  show VLe _ (lkPV (smL (l.getD i 0)))
  rw [List.getD_eq_getElem?_getD, hx]
  exact smV_le x
include hG in
theorem sam3 : PC Tryd.prog G 27 [.lst 1 (.ints .i64 [3])] [] (armFr (Asam [3])) [] := sam_ok hG [3] (by kernel_rfl)
theorem armB_3 : armB (Asam [3]) = true := by kernel_rfl
end
section
open Go Tryd
set_option maxRecDepth 100000
variable {G : World -> (Nat -> Prop) -> Prop} (hG : GOk G)
theorem enMk : Enters prog 74 f74 (qe f74) := ⟨func74, by kernel_rfl, rfl⟩
theorem enAr' : Enters prog 37 f37 (qe f37) := ⟨func37, by kernel_rfl, rfl⟩
def hf : Rat := ((1 : Int) : Rat) / ((2 : Int) : Rat)
theorem eMk : (evF prog [(63, g71), (64, c72)] [] {} f74 [.i .i64 1, .i .i64 2] [] qm).run = (Tr.br (qi (nz72 ((2 : Int) : Rat))) (.ok (.ret (.tup [.q hf 3, .i .i64 0]) [])) (.no 1)).run := by kernel_rfl
def pgw (w : Nat) (P : Pg) : PV := .lst 6 (.fn P.n (fun j => .agg [.q (P.u j) w, .q (P.v j) w]))
def bAr' : Code := (qh (qe f37)).getD 0 .skip
def polAr' : Pol := { live := [(5, [0, 2, 3, 13, 14, 15])] }
def RAr : Orc := [(19, g21), (63, g71), (65, g43), (74, cst [.i .i64 1, .i .i64 2] True (.tup [.q hf 3, .i .i64 0])), (84, g97)]
def lAr' : qu := unr prog RAr [] polAr' f37.ntmps 0 [0, 2, 3, 13, 14, 15] bAr' 5
def OAr' (w : Nat) (P : Pg) : Orc := (83, cst [pgw w P] True (.i .i64 0)) :: RAr
def arU (n : Nat) (u v : Nat -> Rat) : Nat -> Rat
 | 0 => ((0 : Int) : Rat)
 | k + 1 => arU n u v k + (u k * v ((k + 1) % n) - v k * u ((k + 1) % n))
def arT (w : Nat) (P : Pg) (r : PV) : Tr := .br (qi (isA [pgw w P] True [pgw w P])) (.br (qi (isA [.i .i64 1, .i .i64 2] True [.i .i64 1, .i .i64 2])) (.ok (.ret r [])) (.no 1)) (.no 1)
theorem eAr3 (u v : Nat -> Rat) : (evF prog (OAr' 64 ⟨3, u, v⟩) [(5, lAr')] polAr' f37 [pgw 64 ⟨3, u, v⟩] [] qm).run = (arT 64 ⟨3, u, v⟩ (.q (hf * arU 3 u v 3) 778)).run := by kernel_rfl
theorem eAr4 (u v : Nat -> Rat) : (evF prog (OAr' 64 ⟨4, u, v⟩) [(5, lAr')] polAr' f37 [pgw 64 ⟨4, u, v⟩] [] qm).run = (arT 64 ⟨4, u, v⟩ (.q (hf * arU 4 u v 4) 1036)).run := by kernel_rfl
theorem eAr3w (u v : Nat -> Rat) : (evF prog (OAr' 32138 ⟨3, u, v⟩) [(5, lAr')] polAr' f37 [pgw 32138 ⟨3, u, v⟩] [] qm).run = (arT 32138 ⟨3, u, v⟩ (.q (hf * arU 3 u v 3) 385666)).run := by kernel_rfl
theorem eAr4w (u v : Nat -> Rat) : (evF prog (OAr' 32138 ⟨4, u, v⟩) [(5, lAr')] polAr' f37 [pgw 32138 ⟨4, u, v⟩] [] qm).run = (arT 32138 ⟨4, u, v⟩ (.q (hf * arU 4 u v 4) 514220)).run := by kernel_rfl
theorem enSR : Enters prog 7 f7 (qe f7) := ⟨func7, by kernel_rfl, rfl⟩
def bSR : Code := (qh (qe f7)).getD 0 .skip
def iSR : Code := (qh (qe f7)).getD 1 .skip
def polSR : Pol := { live := [(9, [4, 7, 53, 54, 55]), (15, [4, 7, 11, 12, 53, 54, 55, 85, 86])] }
def tS (d : Lk) : PV := .lst 6 (.fn d.np (pv d.px d.py))
def lsR (n : Nat) (L : Nat -> Pg) : PV := .lst 1 (.fn n (fun i => pgV (L i)))
def soR (A : Am) (n : Nat) (L : Nat -> Pg) (i : Int) : LS := ⟨[.bl false, .ptr 0 12 0 0 [], lsR n L, .i .i64 n, .i .i64 i], [some ⟨12, .vals [armQ A n]⟩]⟩
def siR (A : Am) (n : Nat) (L : Nat -> Pg) (i k : Int) : LS := ⟨[.bl false, .ptr 0 12 0 0 [], pgV (L i.toNat), tS (A.lk i.toNat), lsR n L, .i .i64 n, .i .i64 i, .i .i64 (L i.toNat).n, .i .i64 k], [some ⟨12, .vals [armQ A n]⟩]⟩
def vArea (P t : PV) (ar : Rat) : Spec := fun args hs K => match args with
 | [.lst 6 (.fn n g)] => match g 0 with
  | .agg [.q _ 64, _] => cst [t] True (.q ar 1036) [.lst 6 (.fn n g)] hs K
  | _ => cst [P] True (.q ar 514220) [.lst 6 (.fn n g)] hs K
 | _ => .no 1
def RSR (P t : PV) (ar : Rat) : Orc := [(35, cst [P] True (.i .i64 0)), (36, g27), (37, vArea P t ar), (38, g41), (39, g42)]
def dd (u v : Nat -> Rat) (a b : Nat) : Rat := (u a - u b) * (u a - u b) + (v a - v b) * (v a - v b)
theorem tiR (A : Am) (n : Nat) (L : Nat -> Pg) (i k : Int) : (qg prog [(36, g27), (38, g41), (39, g42)] [] polSR f7.ntmps 0 [4, 7, 11, 12, 53, 54, 55, 85, 86] iSR (siR A n L i k)).run =
  (Tr.br (decide (k < ((L i.toNat).n : Int))) (.br (ix (k) (((L i.toNat).n : Int))) (.br (ovf (k + 1)) (.br (!decide (((L i.toNat).n : Int) = 0)) (.br (ix ((k + 1).tmod (L i.toNat).n) (((L i.toNat).n : Int))) (.br (ix (k) (((A.lk i.toNat).np : Int))) (.br (ovf (k + 1)) (.br (!decide (((L i.toNat).n : Int) = 0)) (.br (ix ((k + 1).tmod (L i.toNat).n) (((A.lk i.toNat).np : Int))) (.br (!decide (rcmp (dd (L i.toNat).u (L i.toNat).v k.toNat ((k + 1).tmod (L i.toNat).n).toNat) (dd (A.lk i.toNat).px (A.lk i.toNat).py k.toNat ((k + 1).tmod (L i.toNat).n).toNat) = 0)) (.ok (.out .ret (siR A n L i k))) (.br (ovf (k + 1)) (.ok (.out .normal (siR A n L i (k + 1)))) (.no 1))) (.no 1)) (.no 1)) (.no 1)) (.no 1)) (.no 1)) (.no 1)) (.no 1)) (.no 1)) (.ok (.out (.exit 2) (siR A n L i k)))).run := by kernel_rfl
theorem toR (A : Am) (n : Nat) (L : Nat -> Pg) (i q : Int) (ar : Rat) (P : Pg) (d : Lk) : (qg prog (RSR (pgV P) (tS d) ar) [(15, lcst (siR A n L q 0) (.exit 2) (siR A n L q (L q.toNat).n))] polSR f7.ntmps 0 [4, 7, 53, 54, 55] bSR (soR A n L i)).run =
  (Tr.br (decide (i < (n : Int))) (.br (ix (i) ((n : Int))) (.br (ix (i) ((n : Int))) (.br (!decide (((L i.toNat).n : Int) = ((A.lk i.toNat).np : Int))) (.ok (.out .ret (soR A n L i))) (.br (qi (isA [pgV P] True [pgV (L i.toNat)])) (.br (qi (isA [pgV P] True [pgV (L i.toNat)])) (.br (qi (isA [tS d] True [tS (A.lk i.toNat)])) (.br (!decide (rcmp ar ar = 0)) (.ok (.out .ret (soR A n L i))) (.br (qi (isLS (siR A n L q 0) (siR A n L i 0))) (.br (ovf (q + 1)) (.ok (.out .normal (soR A n L (q + 1)))) (.no 1)) (.no 1))) (.no 1)) (.no 1)) (.no 1))) (.no 1)) (.no 1)) (.ok (.out (.exit 0) (soR A n L i)))).run := by kernel_rfl
theorem pt_tri (f : Fr) (a b c d e g : Rat) : tri (ptX f a b) (ptY f a b) (ptX f c d) (ptY f c d) (ptX f e g) (ptY f e g) = tri a b c d e g := by
 unfold tri ptX ptY
 have h := cos_sin f.h f.t
 generalize cosR f.h f.t = C at *
 generalize sinR f.h f.t = S at *
 grind
theorem pt_dd (f : Fr) (x y : Nat -> Rat) (a b : Nat) : dd (fun k => ptX f (x k) (y k)) (fun k => ptY f (x k) (y k)) a b = dd x y a b := by
 unfold dd ptX ptY
 have h := cos_sin f.h f.t
 generalize cosR f.h f.t = C at *
 generalize sinR f.h f.t = S at *
 grind
theorem pt_ar3 (f : Fr) (x y : Nat -> Rat) : arU 3 (fun k => ptX f (x k) (y k)) (fun k => ptY f (x k) (y k)) 3 = arU 3 x y 3 := by
 have h := cos_sin f.h f.t
 simp only [arU, ptX, ptY, Nat.reduceAdd, Nat.reduceMod]
 generalize cosR f.h f.t = C at *
 generalize sinR f.h f.t = S at *
 grind
theorem pt_ar4 (f : Fr) (x y : Nat -> Rat) : arU 4 (fun k => ptX f (x k) (y k)) (fun k => ptY f (x k) (y k)) 4 = arU 4 x y 4 := by
 have h := cos_sin f.h f.t
 simp only [arU, ptX, ptY, Nat.reduceAdd, Nat.reduceMod]
 generalize cosR f.h f.t = C at *
 generalize sinR f.h f.t = S at *
 grind
theorem pkE_of {P : Pg} (h : ∀ i k, i < P.n -> 2 <= k -> k < P.n -> 0 < trP P i ((i + 1) % P.n) ((i + k) % P.n)) : pkE P = 0 := by
 unfold pkE
 exact if_pos (show pkB P = true from all_r.2 fun i _ hi => all_r.2 fun j _ hj => kE (h i (j + 2) hi (by omega) (by omega)))
include hG in
theorem pcMk (hT : qx G) : PC prog G 74 [.i .i64 1, .i .i64 2] [] (.tup [.q hf 3, .i .i64 0]) [] := by
 refine qn hG (.cons (gk71 hG) (.cons (ck72 hG hT) .nil)) mix enMk (hs := []) (L := []) (pol := {}) (k9 (by kernel_rfl)) (eMk.trans ?_)
 rw [k5 (decP_iff.2 (show nz72 ((2 : Int) : Rat) from (by decide : ¬ ((2 : Int) : Rat) = 0))), k7]
include hG in
theorem pcAr (hT : qx G) (w : Nat) (P : Pg) (r : PV) (hc : PC prog G 83 [pgw w P] [] (.i .i64 0) []) (he : (evF prog (OAr' w P) [(5, lAr')] polAr' f37 [pgw w P] [] qm).run = (arT w P r).run) : PC prog G 37 [pgw w P] [] r [] := by
 have orc : OrcOK prog G RAr := .cons (gk21 hG hT) (.cons (gk71 hG) (.cons (gk43 hG hT) (.cons (cst_t (pcMk hG hT)) (.cons (gk97 hG hT) .nil))))
 refine qn hG (.cons (cst_t hc) orc) mix enAr' (hs := []) (pol := polAr') (L := [(5, lAr')]) (lps1 (b := bAr') (live := [0, 2, 3, 13, 14, 15]) (sp := lAr') (m := 0) (by kernel_rfl) (by kernel_rfl) (by kernel_rfl) (unr_ok hG orc mix (k9 (by kernel_rfl)) 5)) (he.trans ?_)
 unfold arT
 rw [k5 (decP_iff.2 ⟨rfl, trivial⟩), k5 (decP_iff.2 ⟨rfl, trivial⟩), k7]
theorem tS_le (d : Lk) : VLe (tS d) (pgV ⟨d.np, d.px, d.py⟩) := VLe.lst rfl fun i _ => VLe.agg (vllc (vle_qm (show 64 <= 32138 by omega)) (vllc (vle_qm (show 64 <= 32138 by omega)) vll0))
def plR (A : Am) (q : List Rat) (i : Nat) : Pg :=
 ⟨(A.lk i).np, fun k => ptX (allF (bsF A) (qf q) (fun j => (A.lk j).len) A.n i) ((A.lk i).px k) ((A.lk i).py k), fun k => ptY (allF (bsF A) (qf q) (fun j => (A.lk j).len) A.n i) ((A.lk i).px k) ((A.lk i).py k)⟩
theorem lk_pos {A : Am} (hA : armB A = true) {i : Nat} (hi : i < A.n) : polyB (A.lk i).np (A.lk i).px (A.lk i).py = true := by
 have h := (armB_c hA).2.2.2.2.2.2 i hi
 simp only [lkB, kA] at h
 exact h.2
theorem pk_lk {A : Am} (hA : armB A = true) {i : Nat} (hi : i < A.n) : pkE ⟨(A.lk i).np, (A.lk i).px, (A.lk i).py⟩ = 0 := by
 obtain ⟨h1, h2, h3, h4⟩ := polyB_c (lk_pos hA hi)
 exact pkE_of fun a k ha hk hkn => h4 a k ha hk hkn
theorem pk_pl {A : Am} (hA : armB A = true) (q : List Rat) {i : Nat} (hi : i < A.n) : pkE (plR A q i) = 0 := by
 obtain ⟨h1, h2, h3, h4⟩ := polyB_c (lk_pos hA hi)
 refine pkE_of fun a k ha hk hkn => ?_
 unfold trP plR
 simp only
 rw [pt_tri]
 exact h4 a k ha hk hkn
def arR (d : Lk) : Rat := hf * arU d.np d.px d.py d.np
include hG in
theorem ar_both (hT : qx G) (A : Am) (hA : armB A = true) (hS : shp A) (q : List Rat) (i : Nat) (hi : i < A.n) :
  PC prog G 37 [tS (A.lk i)] [] (.q (arR (A.lk i)) 1036) [] /\ PC prog G 37 [pgV (plR A q i)] [] (.q (arR (A.lk i)) 514220) [] := by
 have hs := hS i hi
 have k1 := pk_lk hA hi
 have k2 := pk_pl hA q hi
 have c1 := pcCv hG hT ⟨(A.lk i).np, (A.lk i).px, (A.lk i).py⟩ (by show 3 <= (A.lk i).np; omega) (by show (A.lk i).np <= 8; omega)
 have c2 := pcCv hG hT (plR A q i) (by show 3 <= (A.lk i).np; omega) (by show (A.lk i).np <= 8; omega)
 rw [k1] at c1
 rw [k2] at c2
 have c1' := PC.args (.cons (tS_le (A.lk i)) .nil) c1
 unfold plR arR at *
 generalize allF (bsF A) (qf q) (fun j => (A.lk j).len) A.n i = f at *
 revert hs c1' c2
 generalize A.lk i = d
 obtain ⟨d1, d2, d3, d4, d5, np, px, py⟩ := d
 intro hs c1' c2
 rcases (show np = 3 \/ np = 4 from hs) with rfl | rfl
 ·refine ⟨(pcAr hG hT 64 ⟨3, px, py⟩ _ c1' (eAr3 px py)).le (q_rle rfl (by omega)) (.refl _), (pcAr hG hT 32138 ⟨3, _, _⟩ _ c2 (eAr3w _ _)).le (q_rle ?_ (by omega)) (.refl _)⟩
  simp only [pt_ar3]
 ·refine ⟨(pcAr hG hT 64 ⟨4, px, py⟩ _ c1' (eAr4 px py)).le (q_rle rfl (by omega)) (.refl _), (pcAr hG hT 32138 ⟨4, _, _⟩ _ c2 (eAr4w _ _)).le (q_rle ?_ (by omega)) (.refl _)⟩
  simp only [pt_ar4]
include hG in
theorem vkArea (hT : qx G) (A : Am) (hA : armB A = true) (hS : shp A) (q : List Rat) (i : Nat) (hi : i < A.n) : qc prog G 37 (vArea (pgV (plR A q i)) (tS (A.lk i)) (arR (A.lk i))) := by
 obtain ⟨p1, p2⟩ := ar_both hG hT A hA hS q i hi
 intro args hs K x h
 unfold vArea at h
 split at h
 case h_2 => cases h
 split at h
 ·exact cst_t p1 _ _ _ _ h
 ·exact cst_t p2 _ _ _ _ h
include hG in
theorem goesRi (hT : qx G) (A : Am) (n : Nat) (q : List Rat) (i : Nat) (h3 : 3 <= (A.lk i).np) (h8 : (A.lk i).np <= 8) : Goes (Rnd prog G f7.ntmps 0 [4, 7, 11, 12, 53, 54, 55, 85, 86] iSR) (siR A n (plR A q) i 0) (.exit 2) (siR A n (plR A q) i (plR A q i).n) := by
 have orc : OrcOK prog G [(36, g27), (38, g41), (39, g42)] := .cons (gk27 hG hT) (.cons (gk41 hG hT) (.cons (gk42 hG hT) .nil))
 have hn : (plR A q i).n = (A.lk i).np := rfl
 have w := Goes.count (R := Rnd prog G f7.ntmps 0 [4, 7, 11, 12, 53, 54, 55, 85, 86] iSR) (fun k => siR A n (plR A q) i ((k : Nat) : Int)) (e := .exit 2) (ls' := siR A n (plR A q) i (plR A q i).n) (by simp) (plR A q i).n 0
  (fun k _ hk => by
   refine qb hG orc mix (L := []) (pol := polSR) (k9 (by kernel_rfl)) (Nat.zero_le _) ((tiR A n (plR A q) i k).trans ?_)
   have e1 : (((k : Nat) : Int) + 1).tmod (plR A q i).n = (((k + 1) % (plR A q i).n : Nat) : Int) := tmod_nat (k + 1) _
   have m1 := Nat.mod_lt (k + 1) (show 0 < (plR A q i).n by omega)
   rw [Int.toNat_natCast, e1, Int.toNat_natCast, Int.toNat_natCast]
   generalize (k + 1) % (plR A q i).n = a at *
   have ed : dd (plR A q i).u (plR A q i).v k a = dd (A.lk i).px (A.lk i).py k a := pt_dd _ _ _ _ _
   rw [ed, rcmp_refl0, k5 (kE (by omega)), k5 (by simp only [kA, kD]; omega), k5 (by simp only [ovf, kA, kD]; omega), k5 (by rw [kJ, kK]; omega), k5 (by simp only [kA, kD]; omega),
    k5 (by simp only [kA, kD]; omega), k5 (by simp only [ovf, kA, kD]; omega), k5 (by rw [kJ, kK]; omega), k5 (by simp only [kA, kD]; omega), k6 (by decide), k5 (by simp only [ovf, kA, kD]; omega), k7]
   rfl)
  (by
   rw [Nat.zero_add]
   refine qb hG orc mix (L := []) (pol := polSR) (k9 (by kernel_rfl)) (Nat.zero_le _) ((tiR A n (plR A q) i _).trans ?_)
   rw [Int.toNat_natCast, k6 (kF (by omega)), k7])
 exact w
include hG in
theorem goesRo (hT : qx G) (A : Am) (hA : armB A = true) (hS : shp A) (q : List Rat) : Goes (Rnd prog G f7.ntmps 0 [4, 7, 53, 54, 55] bSR) (soR A A.n (plR A q) 0) (.exit 0) (soR A A.n (plR A q) A.n) := by
 obtain ⟨a1, a2, a3, a4, h1, h3, a7⟩ := armB_c hA
 have rd : ∀ (i j : Nat) (e : Exit) (ls : LS), j < A.n -> (qg prog (RSR (pgV (plR A q j)) (tS (A.lk j)) (arR (A.lk j))) [(15, lcst (siR A A.n (plR A q) j 0) (.exit 2) (siR A A.n (plR A q) j (plR A q j).n))] polSR f7.ntmps 0 [4, 7, 53, 54, 55] bSR (soR A A.n (plR A q) i)).run = some (.out e ls) ->
   Rnd prog G f7.ntmps 0 [4, 7, 53, 54, 55] bSR (soR A A.n (plR A q) i) e ls := fun i j e ls hj hr => by
  have hs := hS j hj
  have p35 := pcCh hG hT (plR A q j) (by show 3 <= (A.lk j).np; omega) (by show (A.lk j).np <= 8; omega)
  rw [pk_pl hA q hj] at p35
  exact qb hG (.cons (cst_t p35) (.cons (gk27 hG hT) (.cons (vkArea hG hT A hA hS q j hj) (.cons (gk41 hG hT) (.cons (gk42 hG hT) .nil))))) mix (pol := polSR) (lps1 (b := iSR) (live := [4, 7, 11, 12, 53, 54, 55, 85, 86]) (m := 0) (by kernel_rfl) (by kernel_rfl) (by kernel_rfl) (lcst_ok (goesRi hG hT A A.n q j (by omega) (by omega)))) (Nat.zero_le _) hr
 have w := Goes.count (R := Rnd prog G f7.ntmps 0 [4, 7, 53, 54, 55] bSR) (fun i => soR A A.n (plR A q) ((i : Nat) : Int)) (e := .exit 0) (ls' := soR A A.n (plR A q) A.n) (by simp) A.n 0
  (fun i _ hi => by
   refine rd i i _ _ (by omega) ((toR A A.n (plR A q) i i _ _ _).trans ?_)
   have hn : (plR A q i).n = (A.lk i).np := rfl
   rw [Int.toNat_natCast, rcmp_refl0, hn, k5 (kE (by omega)), k5 (by simp only [kA, kD]; omega), k5 (by simp only [kA, kD]; omega), k6 (by simp), k5 (decP_iff.2 ⟨rfl, trivial⟩), k5 (decP_iff.2 ⟨rfl, trivial⟩), k5 (decP_iff.2 ⟨rfl, trivial⟩), k6 (by decide), k5 isLS_t,
    k5 (by simp only [ovf, kA, kD]; omega), k7]
   rfl)
  (by
   rw [Nat.zero_add]
   refine rd A.n 0 _ _ (by omega) ((toR A A.n (plR A q) A.n ((0 : Nat) : Int) _ _ _).trans ?_)
   rw [k6 (kF (by omega)), k7])
 exact w
theorem enAoR : Enters prog 32 f32 (qe f32) := ⟨func32, by kernel_rfl, rfl⟩
def bAoR : Code := (qh (qe f32)).getD 0 .skip
def iAoR : Code := (qh (qe f32)).getD 1 .skip
def polAoR : Pol := { live := [(6, [4, 8, 34, 35, 36]), (9, [4, 8, 34, 35, 36, 40, 41, 42])] }
def RAoR : Orc := [(77, g80), (78, g86)]
def lIoR : qu := unr prog RAoR [] polAoR f32.ntmps 0 [4, 8, 34, 35, 36, 40, 41, 42] iAoR 6
def lOoR : qu := unr prog RAoR [(9, lIoR)] polAoR f32.ntmps 0 [4, 8, 34, 35, 36] bAoR 3
def OAoR (A : Am) (q : Rat) (X Y : Nat -> Rat) : Orc := (34, cst [armQ A 1, .lst 3 (.rats 64 [q])] True (.tup [.fr 1 (.fn 1 (fun _ => .lst 6 (.fn 4 (fun j => pw (X j) (Y j))))), .i .i64 0])) :: RAoR
def mnQ (X : Nat -> Rat) : Rat := mnR (mnR (mnR (mnR (X 0) (X 0)) (X 1)) (X 2)) (X 3)
def mxQ (X : Nat -> Rat) : Rat := mxR (mxR (mxR (mxR (X 0) (X 0)) (X 1)) (X 2)) (X 3)
def bxA (lx ly hx hy : Rat) : PV := .agg [pw lx ly, pw hx hy]
theorem eAoR (A : Am) (q : Rat) (X Y : Nat -> Rat) : (evF prog (OAoR A q X Y) [(6, lOoR), (9, lIoR)] polAoR f32 [armQ A 1, .lst 3 (.rats 64 [q])] [] qm).run =
  (Tr.br (qi (isA [armQ A 1, .lst 3 (.rats 64 [q])] True [armQ A 1, .lst 3 (.rats 64 [q])])) (.ok (.ret (.tup [bxA (mnQ X) (mnQ Y) (mxQ X) (mxQ Y), .i .i64 0]) [])) (.no 1)).run := by kernel_rfl
def fS : Fr := allF (bsF (Asam [3])) (qf [mkRat (0 : Int) (Int.toNat (1 : Int))]) (fun j => ((Asam [3]).lk j).len) 1 0
def sX (j : Nat) : Rat := ptX fS (((Asam [3]).lk 0).px j) (((Asam [3]).lk 0).py j)
def sY (j : Nat) : Rat := ptY fS (((Asam [3]).lk 0).px j) (((Asam [3]).lk 0).py j)
theorem mnX : mnQ sX = mkRat 0 (Int.toNat 1) := by
 simp only [mnQ, sX, fS, ptX, allF, frmF, endR, fstep, thH, thT, cosR, sinR, ftT, qd]
 kernel_rfl
theorem mnY : mnQ sY = mkRat (-1) (Int.toNat 1) := by
 simp only [mnQ, sY, fS, ptY, allF, frmF, endR, fstep, thH, thT, cosR, sinR, ftT, qd]
 kernel_rfl
theorem mxX : mxQ sX = mkRat 3 (Int.toNat 1) := by
 simp only [mxQ, sX, fS, ptX, allF, frmF, endR, fstep, thH, thT, cosR, sinR, ftT, qd]
 kernel_rfl
theorem mxY : mxQ sY = mkRat 1 (Int.toNat 1) := by
 simp only [mxQ, sY, fS, ptY, allF, frmF, endR, fstep, thH, thT, cosR, sinR, ftT, qd]
 kernel_rfl
theorem fr_tff (e n : Nat) {f g : Nat -> PV} (h : ∀ i, i < n -> noRef 8 (f i) = true /\ VLe (f i) (g i)) : RLe (.tup [.fr e (.fn n f), .i .i64 0]) (.tup [.fr e (.fn n g), .i .i64 0]) :=
 ⟨fun m => .refl _, fun m => KsLe.one (kl_ff h)⟩
include hG in
theorem pcAoR (hT : qx G) : PC prog G 32 [armPV (Asam [3]), .lst 3 (.rats 64 [mkRat (0 : Int) (Int.toNat (1 : Int))])] []
  (.tup [bxA (mkRat 0 (Int.toNat 1)) (mkRat (-1) (Int.toNat 1)) (mkRat 3 (Int.toNat 1)) (mkRat 1 (Int.toNat 1)), .i .i64 0]) [] := by
 have p33 := (pcPl hG hT (Asam [3]) armB_3 (fun _ _ => .inr rfl) [mkRat (0 : Int) (Int.toNat (1 : Int))] rfl).le (fr_tff 1 1 (g := fun _ => .lst 6 (.fn 4 (fun j => pw (sX j) (sY j)))) fun i hi => by
  have : i = 0 := by omega
  subst this
  exact ⟨rfl, .refl _⟩) (.refl _)
 have orc : OrcOK prog G RAoR := .cons (gk80 hG hT) (.cons (gk86 hG hT) .nil)
 have hi : qt prog G f32.ntmps 0 [4, 8, 34, 35, 36, 40, 41, 42] iAoR lIoR := unr_ok hG orc mix (k9 (by kernel_rfl)) 6
 have ho : qt prog G f32.ntmps 0 [4, 8, 34, 35, 36] bAoR lOoR := unr_ok hG orc mix (lps1 (b := iAoR) (live := [4, 8, 34, 35, 36, 40, 41, 42]) (sp := lIoR) (m := 0) (by kernel_rfl) (by kernel_rfl) (by kernel_rfl) hi) 3
 refine qn hG (.cons (cst_t p33) orc) mix enAoR (hs := []) (pol := polAoR) (L := [(6, lOoR), (9, lIoR)]) (lps2 (b1 := bAoR) (b2 := iAoR) (by kernel_rfl) (by kernel_rfl) (by kernel_rfl) (by kernel_rfl) (by kernel_rfl) ho hi) ?_
 refine (eAoR (Asam [3]) _ sX sY).trans ?_
 rw [k5 (decP_iff.2 ⟨rfl, trivial⟩), k7, mnX, mnY, mxX, mxY]
def OSR (l m : PV) (A S : Am) (q : List Rat) (n : Nat) (L : Nat -> Pg) (lx ly hx hy : Rat) : Orc :=
 [(13, cst [.w l] True (armFr A)), (27, cst [.lst 1 (.ints .i64 [3])] True (armFr S)), (28, s23), (30, cst [armPV A, .w m] True (.fr 3 (.rats 64 q))),
  (32, cst [armPV S, .lst 3 (.rats 64 [mkRat (0 : Int) (Int.toNat (1 : Int))])] True (.tup [bxA lx ly hx hy, .i .i64 0])), (33, s84), (34, cst [armPV A, .lst 3 (.rats 64 q)] True (.tup [.fr 1 (.fn n (fun i => pgV (L i))), .i .i64 0]))]
theorem eSR (l m : PV) (A S : Am) (q : List Rat) (n : Nat) (L : Nat -> Pg) (lx ly hx hy : Rat) : (evF prog (OSR l m A S q n L lx ly hx hy) [(9, lcst (soR A n L 0) (.exit 0) (soR A n L n))] polSR f7 [.w l, .w m] [] qm).run =
 (Tr.br (qi (isA [.lst 1 (.ints .i64 [(3 : Int)])] True [.lst 1 (.ints .i64 [(3 : Int)])])) (.br (((0 : Nat) + S.n).ble S.n) (.br (qi (isA [armPV S, .lst 3 (.rats 64 [mkRat (0 : Int) (1 : Nat)])] True [armPV S, .lst 3 (.rats 64 [mkRat (0 : Int) (1 : Nat)])])) (.br (!(decide (lx = mkRat (0 : Int) (1 : Nat)) && (decide (ly = mkRat (-1 : Int) (1 : Nat)) && true) && (decide (hx = mkRat (3 : Int) (1 : Nat)) && (decide (hy = mkRat (1 : Int) (1 : Nat)) && true) && true))) (.ok (.ret (.bl false) [])) (.br (qi (isA [l.w] True [l.w])) (.br (((0 : Nat) + A.n).ble A.n) (.br (qi (isA [armPV A, m.w] True [armPV A, m.w])) (.br (((0 : Nat) + q.length).ble q.length) (.br (qi (isA [armPV A, .lst 3 (.rats 64 q)] True [armPV A, .lst 3 (.rats 64 (List.take q.length (List.drop (0 : Nat) q)))])) (.br (((0 : Nat) + n).ble n) (.br (!decide ((n : Int) = (A.n : Int))) (.ok (.ret (.bl false) [])) (.br (qi (isLS (LS.mk [.bl false, .ptr 0 12 0 0 [], .lst 1 (.fn n fun (i : Nat) => .lst 6 (.fn (L i).n fun (j : Nat) => .agg [.q ((L i).u j) 32138, .q ((L i).v j) 32138])), .i .i64 (n : Int), .i .i64 0] [some (.mk 12 (.vals [.agg [.s A.name, .agg [.agg [.q A.bx 64, .q A.by_ 64], .agg [.bl false, .q A.t 64]], .lst 16 (.fn n fun (j : Nat) => .agg [.q (A.lk j).len 64, .q (A.lk j).low 64, .q (A.lk j).high 64, .q (A.lk j).spd 64, .q (A.lk j).brk 64, .lst 6 (.fn (A.lk j).np fun (a : Nat) => .agg [.q ((A.lk j).px a) 64, .q ((A.lk j).py a) 64])])]]))]) (LS.mk [.bl false, .ptr 0 12 0 0 [], .lst 1 (.fn n fun (j : Nat) => .lst 6 (.fn (L (j + 0)).n fun (j_1 : Nat) => .agg [.q ((L (j + 0)).u j_1) 32138, .q ((L (j + 0)).v j_1) 32138])), .i .i64 (n : Int), .i .i64 0] [some (.mk 12 (.vals [armPV A]))]))) (.ok (.ret (.bl true) [])) (.no 1))) (.no 6006)) (.no 1)) (.no 6007)) (.no 1)) (.no 5003)) (.no 1))) (.no 1)) (.no 2010)) (.no 1)).run := by kernel_rfl
include hG in
theorem lawSR (hT : qx G) (l m : PV) (hl : okW l = true) (hm : okW m = true) : PC prog G 7 [.w l, .w m] [] (.bl true) [] := by
 have hA := armB_V l
 have hX := limX_V l
 have hS := shp_V l
 have p13 : PC prog G 13 [.w l] [] (armFr (armD l)) [] := by
  obtain ⟨r, hs', p, e⟩ := ok15 hG [.w l] [] (fun r hs' => .ok (.ret r hs')) (.ret (armFr (armD l)) []) (by show (Tr.br _ _ _).run = _; rw [k5 hl]; rfl)
  cases e
  exact p
 generalize armD l = A at *
 have p30 : PC prog G 30 [armPV A, .w m] [] (.fr 3 (.rats 64 (cfL A.lk m A.n))) [] := by
  obtain ⟨r, hs', p, e⟩ := ok33 hG [armPV A, .w m] [] (fun r hs' => .ok (.ret r hs')) (.ret (.fr 3 (.rats 64 (cfL A.lk m A.n))) []) (by
   show (Tr.br _ _ _).run = _
   rw [k5 (decP_iff.2 ⟨okA_arm hA, hX, hm⟩)]; rfl)
  cases e
  exact p
 obtain ⟨a1, a2, a3, a4, h1, h3, a7⟩ := armB_c hA
 have hq : (cfL A.lk m A.n).length = A.n := cfL_len _ _ _
 generalize cfL A.lk m A.n = q at *
 have p34 : PC prog G 34 [armPV A, .lst 3 (.rats 64 q)] [] (.tup [.fr 1 (.fn A.n (fun i => pgV (plR A q i))), .i .i64 0]) [] := pcPl hG hT A hA hS q hq
 have g := goesRo hG hT A hA hS q
 refine qn hG (.cons (cst_t p13) (.cons (cst_t (sam3 hG)) (.cons (ok23 hG) (.cons (cst_t p30) (.cons (cst_t (pcAoR hG hT)) (.cons (ok84 hG) (.cons (cst_t p34) .nil))))))) mix enSR (hs := []) (pol := polSR) (L := [(9, lcst (soR A A.n (plR A q) 0) (.exit 0) (soR A A.n (plR A q) A.n))])
  (lps1n (b := bSR) (b' := iSR) (live := [4, 7, 53, 54, 55]) (m := 0) (by kernel_rfl) (by kernel_rfl) (by kernel_rfl) (by kernel_rfl) (lcst_ok g)) ?_
 refine (eSR l m A (Asam [3]) q A.n (plR A q) _ _ _ _).trans ?_
 rw [k5 (decP_iff.2 ⟨rfl, trivial⟩), k5 (by rw [kG]; omega), k5 (decP_iff.2 ⟨rfl, trivial⟩), k6 (by simp)]
 simp only [List.drop_zero, List.take_length]
 repeat first | rw [k5 (by first | (simp only [kA, Bool.or_eq_true, kD, kG, Nat.blt_eq, kH, kI, kJ, kK]; omega) | exact decP_iff.2 ⟨rfl, trivial⟩ | exact decP_iff.2 rfl | exact kE rfl | decide)] | rw [k6 (by first | (simp only [Bool.and_eq_false_iff, Bool.not_eq_false', kD, kK]; omega) | exact congrArg (!·) (kE rfl) | decide)]
 rw [k7]
end
section
open Go
theorem calls_of_does {P : Program} {g : Nat} {fn : Func} {c : Code} (hg : Enters P g fn c) {vs : Array Value} {w : World} {R : Value -> World -> Prop} (h : Does P g vs w R) : Calls P g vs w fun e w' => ∃ v, e = .returned v /\ R v w' := by
 have h1 := h { dst := some 0, op := .move (.const undef), type := 0, pos := "", after := #[], guard := none } ⟨#[undef], []⟩ (fun a w' => ∃ v, a.tmps[0]? = some v /\ R v w') (fun _ _ _ => False) (fun v w' hv => ⟨v, by simp [Act.put], hv⟩)
 have : (callFunc g vs).run P w = .ok (.enter g vs) w := by
  have hname : fn.name ≠ "runtime.NumGoroutine" := by simpa using hg.name
  simp [callFunc, hg.at_, hname, hg.body]
 rw [this, Oper.upon_enter] at h1
 refine h1.mono fun e w' he => ?_
 cases e with
 | returned v =>
  obtain ⟨v', hv, hr⟩ := he
  simp [Act.put] at hv
  subst hv
  exact ⟨v, rfl, hr⟩
 | panicked chain => exact absurd he (by simp)
 | outgrown => exact absurd he (by simp [LetsOut])
theorem HRel.none (w : World) : HRel w (fun _ => False) qC (hget (([] : List Blk).map some)) :=
 ⟨fun b k h => by simp [hget] at h, fun b k a z h => by simp [hget] at h, fun b b' k k' a z z' h => by simp [hget] at h, fun a h => h.elim⟩
theorem keptBut_of_old {w w' : World} (h1 : w'.os = w.os) (h2 : w'.output = w.output) (h3 : ∀ n, n < w.heap.size -> w'.heap[n]? = w.heap[n]?) (may : MemPlace -> Prop) : w.keptBut w' may := by
 refine ⟨h1, h2, fun i hi => ?_⟩
 rw [h3 i hi]
 split
 ·rename_i e1 e2
  rw [e1] at e2
  cases e2
  exact ⟨rfl, rfl, rfl, fun _ _ => rfl⟩
 ·rename_i e1 e2
  rw [e1] at e2
  cases e2
  exact .inr ⟨rfl, rfl⟩
 ·rfl
end
section
open Go Go.ChangeShapes Go.WideShapes
set_option maxRecDepth 100000
def blkOf : Value -> Nat -> Prop
 | .slice (some a) _ _, b => b = a.block
 | _, _ => False
section
variable {H : Type} {enc : TypeId × Value -> H} {P : Program} {w : World} {t e : TypeId} {base : Nat} {v : Value} {d : DataW H} {p : List MemPlace}
theorem arg_ints (ht : P.underlying t = some (.slice e)) (he : P.underlying e = some (.int .i64)) (hc : P.cellsOf e = 1)
  (hval : Value.okWide P w .any base t v) (h : DataW.Trod enc P w 0 (fun _ => true) true t v d p) :
  ∃ u : PV, okW u = true /\ (∀ n ∈ intsW u, -9223372036854775808 <= n /\ n <= 9223372036854775807) /\ (∀ b, blkOf v b -> b < w.heap.size) /\ (∀ S : Nat -> Prop, (∀ b, blkOf v b -> S b) -> RepV w S qC (.w u) v) /\
   (∀ w' : World, (∀ n, n < w.heap.size -> w'.heap[n]? = w.heap[n]?) -> ∃ p', DataW.Trod enc P w' 0 (fun b => decide (b < w.heap.size)) true t v d p') /\
   ((intsW u = [] /\ d = .nil) \/ ∃ sp, d = .slice (lits .i64 (intsW u)) sp) := by
 have hval' := hval
 obtain ⟨a0, len, cap, rfl⟩ := okWide_slice ht hval
 obtain ⟨fuel, hf⟩ := h
 rcases open_ints ht he hc hf with ⟨hcs, hx⟩ | ⟨a, len', cap', zs, hcs, _, hl, hm, hz, hx, hcell, hwz⟩
 ·simp [Value.cells] at hcs
  obtain ⟨rfl, rfl, rfl⟩ := hcs
  simp only [Prod.mk.injEq] at hx
  obtain ⟨rfl, rfl⟩ := hx
  refine ⟨.nil, rfl, fun n hn => (nomatch hn), fun b hb => hb.elim, fun S _ => .cell _ _ _ rfl (.w _ _ _ (.nil _)), fun w' _ => ⟨[], RowKit.shut_slice_nil ht⟩, .inl ⟨rfl, rfl⟩⟩
 ·simp [Value.cells] at hcs
  obtain ⟨rfl, rfl, rfl⟩ := hcs
  simp only [Prod.mk.injEq] at hx
  obtain ⟨rfl, rfl⟩ := hx
  simp only [if_true] at hz
  unfold Value.okWide at hval'
  rw [ht] at hval'
  simp only [Cell.okWide, Cell.ok, ht] at hval'
  obtain ⟨_, _, _, hsp, row, cells, hsh, _⟩ := hval'
  obtain ⟨b, off, spot⟩ := a
  simp only at hsp
  subst hsp
  have hb : b < w.heap.size := by
   unfold World.shape? at hsh
   split at hsh
   ·rename_i hh; exact (Array.getElem?_eq_some_iff.1 hh).1
   ·cases hsh
  have hcell' : ∀ j, j < zs.length -> w.cell? ⟨b, off + j, none⟩ = some (.int .i64 (zs.getD j 0)) := fun j hj => by rw [<- add_plain]; exact hcell j hj
  have hlen : (zs.take len).length = len := by rw [List.length_take]; omega
  refine ⟨.lst 1 (.ints .i64 (zs.take len)), rfl, fun n hn => bounds_i64 (hwz n (List.mem_of_mem_take hn)), fun c hc => (by rw [show c = b from hc]; exact hb), fun S hS => ?_, fun w' hw' => ?_, .inr ⟨_, rfl⟩⟩
  ·refine .cell _ _ _ rfl (.w _ _ _ ?_)
   have := RepC.lst (w := w) (S := S) qC 1 (.ints .i64 (zs.take len)) b off cap (fun j => [.int .i64 ((zs.take len).getD j 0)]) (by show (zs.take len).length <= cap; omega) (hS b rfl)
    (fun i hi => .i _ _ _) (fun _ _ => rfl) (fun i j hi hj => by
     have hi' : i < len := by rw [<- hlen]; exact hi
     obtain rfl : j = 0 := by omega
     show w.cell? ⟨b, off + (i * 1 + 0), none⟩ = _
     rw [Nat.mul_one, Nat.add_zero, hcell' i (by omega)]
     simp [List.getD_eq_getElem?_getD, hi'])
   rw [show (Cont.ints .i64 (zs.take len)).len = len from hlen] at this
   exact this
  ·have hd : decide (b < w.heap.size) = true := kE hb
   exact ⟨_, 2, shut_ints' (enc := enc) (w := w') (base := 0) (spare := fun b => decide (b < w.heap.size)) (held := true) (len := len) (cap := cap) (zs := zs) 0 ht he hc
    (Nat.zero_le b) hl hm (by simp only [hd, if_true]; exact hz) (fun i hi => by rw [cell_block (hw' b hb)]; exact hcell' i hi) hwz⟩
end
end
section
open Go
set_option maxRecDepth 100000
theorem calls_trueG {P : Program} {G : World -> (Nat -> Prop) -> Prop} {g : Nat} {fn : Func} {c : Code} (hg : Enters P g fn c) {args : List PV} (h : PC P G g args [] (.bl true) []) {w : World} {S : Nat -> Prop} {vs : List Value} (hw : G w S) (hS : ∀ a, S a -> a < w.heap.size)
  (hv : RepVL w S qC args vs) (may : MemPlace -> Prop) :
  Calls P g vs.toArray w fun e w' => e = .returned (.bool true) /\ w.keptBut w' may /\ ∀ n, n < w.heap.size -> w'.heap[n]? = w.heap[n]? := by
 refine (calls_of_does hg (h w S qC vs hw hv ⟨fun b k h => by simp [hget] at h, fun b k a z h => by simp [hget] at h, fun b b' k k' a z z' h => by simp [hget] at h, hS⟩ (fun _ _ => rfl))).mono fun e w' he => ?_
 obtain ⟨v, rfl, S', μ', c⟩ := he
 have hr := c.rep
 have : v = .bool true := by
  cases hr with
  | cell _ _ _ _ h => cases h; rfl
  | agg _ _ _ hv h => simp [isAgg, unfr, unfrA, unfr1] at hv
 subst this
 have old : ∀ n, n < w.heap.size -> w'.heap[n]? = w.heap[n]? := fun n hn => c.old n hn (fun b z hb => by simp at hb)
 exact ⟨rfl, keptBut_of_old c.os c.output old may, old⟩
def TG (w : World) (S : Nat -> Prop) : Prop := S 1 /\ Go.Proofs.TabAt 1 Go.Lib.deBruijn64tab w
theorem tg_ok : GOk TG := fun _ _ _ _ m h => ⟨m.sub 1 h.1, fun j hj => (m.cell 1 h.1 j).trans (h.2 j hj)⟩
theorem tg_tab : qx TG := fun _ _ h => h.2
theorem tab_block {w : World} (h : Go.Proofs.TabAt 1 Go.Lib.deBruijn64tab w) : 1 < w.heap.size := by
 have h0 := h 0 (by decide)
 rcases Nat.lt_or_ge 1 w.heap.size with h1 | h1
 ·exact h1
 ·unfold World.cell? at h0
  rw [show w.heap[(⟨1, 0, none⟩ : Addr).block]? = none from Array.getElem?_eq_none h1] at h0
  cases h0
theorem tab_of_laid {laid : List (String × DataW Unit)} {W : World} (hl : laid = [("math/bits.deBruijn64tab", Go.Lib.tabData .u8 (Go.Lib.deBruijn64tab.map fun n : Nat => (n : Int)))]) (h : laidMetH Tryd.prog laid W) : Go.Proofs.TabAt 1 Go.Lib.deBruijn64tab W := by
 subst hl
 have h1 : laidMet Tryd.prog [("math/bits.deBruijn64tab", Go.Lib.tabData .u8 (Go.Lib.deBruijn64tab.map fun n : Nat => (n : Int)))] W := h
 have h2 := Go.Lib.tabIs_of_head (g := 1) (t := 199) (e := 5) (n := 64) (by kernel_rfl) (by kernel_rfl) (by kernel_rfl) (by kernel_rfl) (by kernel_rfl) (by kernel_rfl) h1
 intro j hj
 have h3 := h2.cell (g := 1) (by kernel_rfl) j (by rw [List.length_map]; exact hj)
 rw [h3, List.getD_eq_getElem?_getD, List.getD_eq_getElem?_getD, List.getElem?_map, List.getElem?_eq_getElem hj]
 rfl
end
end Go.Proofs.YtnenjkgffapplaaDoor.PE
