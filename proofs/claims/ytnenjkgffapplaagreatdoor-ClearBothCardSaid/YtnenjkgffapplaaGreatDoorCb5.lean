/-
  Part 5 of the proof: contracts of the program's functions. Conditions: those of the theorems below.
-/
import Derived.Test.YtnenjkgffapplaaGreatDoorCb4
import Derived.Test.YtnenjkgffapplaaGreatDoorCb2
import Derived.RowKit3
import GoSem.ClaimChange
import Derived.ChangeSlices
import Derived.WideShapes
import Derived.OpenShut
import Derived.Test.YtnenjkgffapplaaGreatDoorCb3
import Derived.Lib.LaidTab
set_option linter.all false
noncomputable section
namespace Go.Proofs.YtnenjkgffapplaaGreatDoor.PE
section
open Go Tryz
set_option maxRecDepth 100000
variable {G : World -> (Nat -> Prop) -> Prop} (hG : GOk G)
def Pl68 (v z : PV) (u1 u2 u3 : Nat) (c i : Int) : Prop := okW v = true /\ i = 0 /\ 1 <= c /\ c <= 3 /\ z = zArm E E E E E E E /\ u1 = 64 /\ u2 = 64 /\ u3 = 64
def l68 : qw := fun ls K => match ls with
 | ⟨[.ptr 0 1 0 0 [], .ptr 1 12 0 0 [], .ptr 2 12 0 0 [], .i .i64 c, .i .i64 i], [some ⟨1, .vals [.agg [.w v]]⟩, some ⟨12, .vals [z]⟩, some ⟨12, .vals [.agg [.s nm, .agg [.agg [.q bx u1, .q by_ u2], .agg [.bl false, .q t u3]], .nil]]⟩]⟩ =>
  .br (qh (Pl68 v z u1 u2 u3 c i)) (.br (decide (c = 1)) (K (.exit 0) (st68 (r6 v) nm bx by_ t (.sl 3 16 0 1) [some ⟨16, .vals [lkV v]⟩] c 1))
   (.br (decide (c = 2)) (K (.exit 0) (st68 (r6 (r6 v)) nm bx by_ t (.sl 3 16 0 2) [some ⟨16, .vals [lkV v, lkV (r6 v)]⟩] c 2))
    (K (.exit 0) (st68 (r6 (r6 (r6 v))) nm bx by_ t (.sl 3 16 0 3) [some ⟨16, .vals [lkV v, lkV (r6 v), lkV (r6 (r6 v))]⟩] c 3)))) (.no 1)
 | _ => .no 1
include hG in
theorem orc68 : OrcOK prog G O68 := .cons (ok45 hG) (.cons (ok81 hG) (.cons (ok104 hG) (.cons (ok105 hG) .nil)))
include hG in
theorem rnd68 {ls ls' : LS} {e : Exit} (hl : 1 <= ls.h.length) (h : (qe prog O68 [] pol68 f38.ntmps 1 [0, 4, 5, 30, 31] b68 ls).run = some (.out e ls')) : Rnd prog G f38.ntmps 1 [0, 4, 5, 30, 31] b68 ls e ls' :=
 qb hG (orc68 hG) mix (L := []) (pol := pol68) (O := O68) (k9 (by kernel_rfl)) hl h
theorem okW_r6 {v : PV} (h : okW v = true) : okW (r6 v) = true := okW_rs (okW_rs (okW_rs (okW_rs (okW_rs (okW_rs h)))))
include hG in
theorem loop68 : qv prog G f38.ntmps 1 [0, 4, 5, 30, 31] b68 l68 := by
 intro ls K y hm h
 unfold l68 at h
 split at h
 case h_2 => cases h
 rename_i c i v z nm bx u1 by_ u2 t u3
 obtain ⟨hc, hr⟩ := k8 h
 obtain ⟨hw, rfl, h1, h3, rfl, rfl, rfl, rfl⟩ := decP_iff.1 hc
 have a1 := rnd68 hG (ls := st68 v nm bx by_ t .nil [] c 0) (by simp [st68]) (step68a v hw nm bx by_ t c (by omega))
 have w1 := okW_r6 hw
 by_cases e1 : c = 1
 ·subst e1
  rw [k5 (by decide)] at hr
  have a2 := rnd68 hG (ls := st68 (r6 v) nm bx by_ t (.sl 3 16 0 1) [some ⟨16, .vals [lkV v]⟩] 1 1) (ls' := st68 (r6 v) nm bx by_ t (.sl 3 16 0 1) [some ⟨16, .vals [lkV v]⟩] 1 1) (e := .exit 0) (by simp [st68]) (by kernel_rfl)
  exact ⟨_, _, qq (.more _ _ _ _ a1 (.last _ _ _ a2 (by simp))), hr⟩
 ·rw [k6 (kF e1)] at hr
  have a2 := rnd68 hG (ls := st68 (r6 v) nm bx by_ t (.sl 3 16 0 1) [some ⟨16, .vals [lkV v]⟩] c 1) (by simp [st68]) (step68b (r6 v) w1 nm bx by_ t c _ _ _ _ _ _ (by omega))
  by_cases e2 : c = 2
  ·subst e2
   rw [k5 (by decide)] at hr
   have a3 := rnd68 hG (ls := st68 (r6 (r6 v)) nm bx by_ t (.sl 3 16 0 2) [some ⟨16, .vals [lkV v, lkV (r6 v)]⟩] 2 2) (ls' := st68 (r6 (r6 v)) nm bx by_ t (.sl 3 16 0 2) [some ⟨16, .vals [lkV v, lkV (r6 v)]⟩] 2 2) (e := .exit 0) (by simp [st68]) (by kernel_rfl)
   exact ⟨_, _, qq (.more _ _ _ _ a1 (.more _ _ _ _ a2 (.last _ _ _ a3 (by simp)))), hr⟩
  ·have e3 : c = 3 := by omega
   subst e3
   rw [k6 (by decide)] at hr
   have a3 := rnd68 hG (ls := st68 (r6 (r6 v)) nm bx by_ t (.sl 3 16 0 2) [some ⟨16, .vals [lkV v, lkV (r6 v)]⟩] 3 2) (by simp [st68]) (step68c (r6 (r6 v)) (okW_r6 w1) nm bx by_ t 3 _ _ _ _ _ _ _ _ _ _ _ _ (by omega))
   have a4 := rnd68 hG (ls := st68 (r6 (r6 (r6 v))) nm bx by_ t (.sl 3 16 0 3) [some ⟨16, .vals [lkV v, lkV (r6 v), lkV (r6 (r6 v))]⟩] 3 3) (ls' := st68 (r6 (r6 (r6 v))) nm bx by_ t (.sl 3 16 0 3) [some ⟨16, .vals [lkV v, lkV (r6 v), lkV (r6 (r6 v))]⟩] 3 3) (e := .exit 0) (by simp [st68]) (by kernel_rfl)
   exact ⟨_, _, qq (.more _ _ _ _ a1 (.more _ _ _ _ a2 (.more _ _ _ _ a3 (.last _ _ _ a4 (by simp))))), hr⟩
def lf68 (v : PV) (vs : List PV) (u : PV) : Tr := .ok (.ret (frA ⟨#[111, 110, 101]⟩ (mkRat (40 * 0) 4) (mkRat 0 4) (mkRat ([(0 : Int), 1, -1, 1].getD (nx v 4).toNat 0) (1 + nx (rs v) 3).toNat) (.fr 16 (.vals vs))) [⟨1, .vals [.agg [.w u]]⟩])
theorem e68 (v : PV) : (evF prog O68 [(4, l68)] pol68 f38 [.ptr 0 1 0 0 [], .i .i64 0] [⟨1, .vals [.agg [.w v]]⟩] qn).run =
  (Tr.br (okN v 4) (.br (ix (nx v 4) (([(0 : Int), 1, -1, 1].length : Int))) (.br (okN (rs v) 3) (.br (ovf (1 + nx (rs v) 3)) (.br (frq (1 + nx (rs v) 3) ([(0 : Int), 1, -1, 1].getD (nx v 4).toNat 0)) (.br (okN (rs (rs v)) 3) (.br (ovf (1 + nx (rs (rs v)) 3)) (.br (qh (Pl68 (rs (rs (rs v))) (zArm E E E E E E E) 64 64 64 (1 + nx (rs (rs v)) 3) 0)) (.br (decide (1 + nx (rs (rs v)) 3 = 1)) (lf68 v [lkV (rs (rs (rs v)))] (r6 (rs (rs (rs v))))) (.br (decide (1 + nx (rs (rs v)) 3 = 2)) (lf68 v [lkV (rs (rs (rs v))), lkV (r6 (rs (rs (rs v))))] (r6 (r6 (rs (rs (rs v)))))) (lf68 v [lkV (rs (rs (rs v))), lkV (r6 (rs (rs (rs v)))), lkV (r6 (r6 (rs (rs (rs v)))))] (r6 (r6 (r6 (rs (rs (rs v))))))))) (.no 1)) (.no 1)) (.no 1)) (.no 1)) (.no 1)) (.no 1)) (.no 1)) (.no 1)).run := by kernel_rfl
theorem okN_t {v : PV} {n : Int} (h : okW v = true) (h1 : 0 < n) (h2 : n <= 4294967296) : okN v n = true := by
 simp only [okN, h, Bool.true_and, kA, kD]; omega
def itR6 : Nat -> PV -> PV
 | 0, v => v
 | k + 1, v => itR6 k (r6 v)
def lkD (v : PV) : Lk := ⟨lenV v, lowV v, highV v, spdV v, brkV v, (shV v).len, fun i => dq (fldV ((shV v).get i) 0), fun i => dq (fldV ((shV v).get i) 1)⟩
def armD (v : PV) : Am := ⟨⟨#[111, 110, 101]⟩, mkRat (40 * 0) 4, mkRat 0 4, mkRat ([(0 : Int), 1, -1, 1].getD (nx v 4).toNat 0) (1 + nx (rs v) 3).toNat, (1 + nx (rs (rs v)) 3).toNat, fun j => lkD (itR6 j (rs (rs (rs v))))⟩
theorem shV_get (v : PV) (i : Nat) (h : i < (shV v).len) : (shV v).get i = .agg [.q (dq (fldV ((shV v).get i) 0)) 64, .q (dq (fldV ((shV v).get i) 1)) 64] := by
 unfold shV at *
 by_cases hb : nx (rs (rs (rs (rs (rs v))))) 3 = 2
 ·simp only [hb, if_true, Cont.len, kH, kI] at h ⊢
  match i, h with
  | 0, _ => rfl
  | 1, _ => rfl
  | 2, _ => rfl
  | i + 3, h => omega
 ·simp only [hb, if_false, Cont.len, kH, kI] at h ⊢
  match i, h with
  | 0, _ => rfl
  | 1, _ => rfl
  | 2, _ => rfl
  | 3, _ => rfl
  | i + 4, h => omega
theorem lkV_le (v : PV) : VLe (lkV v) (lkPV (lkD v)) := by
 refine VLe.agg (VLeL.cons (.refl _) (VLeL.cons (.refl _) (VLeL.cons (.refl _) (VLeL.cons (.refl _) (VLeL.cons (.refl _) (VLeL.cons ?_ .nil))))))
 refine VLe.lst rfl fun i hi => ?_
 have := shV_get v i hi
 have e : (Cont.fn (lkD v).np (pv (lkD v).px (lkD v).py)).get i = (shV v).get i := this.symm
 rw [e]
 exact .refl _
theorem rle_arm (nm : ByteArray) (bx by_ t : Rat) (vs : List PV) (n : Nat) (f : Nat -> PV) (hl : vs.length = n) (h : ∀ (i : Nat) (v : PV), vs[i]? = some v -> noRef 8 v = true /\ VLe v (f i)) :
  RLe (frA nm bx by_ t (.fr 16 (.vals vs))) (frA nm bx by_ t (.fr 16 (.fn n f))) := by
 subst hl
 exact ⟨fun m => .refl _, fun m => KsLe.one (KLe.fn rfl h)⟩
def armFr (A : Am) : PV := frA A.name A.bx A.by_ A.t (.fr 16 (.fn A.n (fun j => lkPV (A.lk j))))
def s68 : Spec := fun args hs K => match args, hs with
 | [.ptr 0 1 0 0 [], .i .i64 k], [⟨1, .vals [.agg [.w v]]⟩] => .br (okW v && decide (k = 0)) (K (armFr (armD v)) [⟨1, .vals [.agg [.w (itR6 (armD v).n (rs (rs (rs v))))]]⟩]) (.no 1)
 | _, _ => .no 1
include hG in
theorem ok68 : qc prog G 38 s68 := by
 refine qo hG (orc68 hG) mix enter68 (L := [(4, l68)]) (pol := pol68) fun args hs K x h => ?_
 unfold s68 at h
 split at h
 case h_2 => cases h
 rename_i k v
 obtain ⟨hc, hr⟩ := k8 h
 simp only [kA, kD] at hc
 obtain ⟨hw, rfl⟩ := hc
 refine ⟨lps1 (b := b68) (live := [0, 4, 5, 30, 31]) (sp := l68) (m := 1) (by kernel_rfl) (by kernel_rfl) (by kernel_rfl) (loop68 hG), ?_⟩
 have w1 := okW_rs hw
 have w2 := okW_rs w1
 have w3 := okW_rs w2
 have g0 := nx_range v (show (0 : Int) < 4 by omega)
 have g1 := nx_range (rs v) (show (0 : Int) < 3 by omega)
 have g2 := nx_range (rs (rs v)) (show (0 : Int) < 3 by omega)
 have gt : ∀ i : Nat, -2 < [(0 : Int), 1, -1, 1].getD i 0 /\ [(0 : Int), 1, -1, 1].getD i 0 < 2 := by
  intro i
  match i with
  | 0 => decide
  | 1 => decide
  | 2 => decide
  | 3 => decide
  | i + 4 => exact ⟨by show (-2 : Int) < 0; decide, by show (0 : Int) < 2; decide⟩
 have gt' := gt (nx v 4).toNat
 rw [e68]
 rw [k5 (okN_t hw (by decide) (by decide)), k5 (by simp only [kA, kD, kH, kI]; omega), k5 (okN_t w1 (by decide) (by decide)),
  k5 (by simp only [ovf, kA, kD]; omega), k5 (by simp only [frq, kA, kD]; omega), k5 (okN_t w2 (by decide) (by decide)), k5 (by simp only [ovf, kA, kD]; omega),
  k5 (decP_iff.2 ⟨w3, rfl, by omega, by omega, rfl, rfl, rfl, rfl⟩)]
 have hn : (armD v).n = (1 + nx (rs (rs v)) 3).toNat := rfl
 have one : ∀ (vs : List PV), vs.length = (armD v).n -> (∀ i u, vs[i]? = some u -> u = lkV (itR6 i (rs (rs (rs v))))) ->
   RLe (frA (armD v).name (armD v).bx (armD v).by_ (armD v).t (.fr 16 (.vals vs))) (armFr (armD v)) := by
  intro vs hl hv
  refine rle_arm _ _ _ _ _ _ _ hl fun i u hu => ?_
  rw [hv i u hu]
  exact ⟨rfl, lkV_le _⟩
 by_cases e1 : 1 + nx (rs (rs v)) 3 = 1
 ·have hn1 : (armD v).n = 1 := by omega
  rw [hn1] at hr
  rw [k5 (kE e1)]
  refine ⟨_, _, _, rfl, one [lkV (rs (rs (rs v)))] (by rw [hn1]; rfl) (fun i u hu => ?_), hr⟩
  match i, hu with
  | 0, hu => exact (Option.some.inj hu).symm
  | i + 1, hu => simp at hu
 ·rw [k6 (kF e1)]
  by_cases e2 : 1 + nx (rs (rs v)) 3 = 2
  ·have hn1 : (armD v).n = 2 := by omega
   rw [hn1] at hr
   rw [k5 (kE e2)]
   refine ⟨_, _, _, rfl, one [lkV (rs (rs (rs v))), lkV (r6 (rs (rs (rs v))))] (by rw [hn1]; rfl) (fun i u hu => ?_), hr⟩
   match i, hu with
   | 0, hu => exact (Option.some.inj hu).symm
   | 1, hu => exact (Option.some.inj hu).symm
   | i + 2, hu => simp at hu
  ·have hn1 : (armD v).n = 3 := by omega
   rw [hn1] at hr
   rw [k6 (kF e2)]
   refine ⟨_, _, _, rfl, one [lkV (rs (rs (rs v))), lkV (r6 (rs (rs (rs v)))), lkV (r6 (r6 (rs (rs (rs v)))))] (by rw [hn1]; rfl) (fun i u hu => ?_), hr⟩
   match i, hu with
   | 0, hu => exact (Option.some.inj hu).symm
   | 1, hu => exact (Option.some.inj hu).symm
   | 2, hu => exact (Option.some.inj hu).symm
   | i + 3, hu => simp at hu
theorem enter15 : Enters prog 9 f9 (qd f9) := ⟨func9, by kernel_rfl, rfl⟩
def pol15 : Pol := { own := [6], wr := [(38, [0])] }
theorem e15 (v : PV) : evF prog [(38, s68)] [] pol15 f9 [.w v] [] qn =
 Tr.br (okW v && decide ((0 : Int) = 0)) (.br ((armD v).n.ble (armD v).n) (.ok (.ret (PV.agg [PV.s (armD v).name, PV.agg [PV.agg [PV.q (armD v).bx 64, PV.q (armD v).by_ 64], PV.agg [PV.bl false, PV.q (armD v).t 64]], PV.fr 16 (.fn (armD v).n fun (j : Nat) => PV.agg [PV.q ((armD v).lk (j + 0)).len 64, PV.q ((armD v).lk (j + 0)).low 64, PV.q ((armD v).lk (j + 0)).high 64, PV.q ((armD v).lk (j + 0)).spd 64, PV.q ((armD v).lk (j + 0)).brk 64, PV.lst 6 (.fn ((armD v).lk (j + 0)).np fun (a : Nat) => PV.agg [PV.q (((armD v).lk (j + 0)).px a) 64, PV.q (((armD v).lk (j + 0)).py a) 64])])]) [])) (.no 15)) (.no 1) := by kernel_rfl
def s15 : Spec := fun args hs K => match args, hs with
 | [.w v], [] => .br (okW v) (K (armFr (armD v)) []) (.no 1)
 | _, _ => .no 1
include hG in
theorem ok15 : qc prog G 9 s15 := by
 refine qo hG (.cons (ok68 hG) .nil) mix enter15 (L := []) (pol := pol15) fun args hs K x h => ?_
 unfold s15 at h
 split at h
 case h_2 => cases h
 rename_i v
 obtain ⟨hc, hr⟩ := k8 h
 refine ⟨k9 (by kernel_rfl), _, _, _, ?_, .refl _, hr⟩
 rw [e15, k5 (by rw [hc]; decide), k5 (by rw [kG]; omega), k7]
 rfl

theorem smQ_mk {n : Int} {d : Nat} (hd : d ≠ 0) (hn : n.natAbs <= 1000000) (hd2 : d <= 1000) : smQ (mkRat n d) = true :=
 smQ_iff.2 ⟨Nat.le_trans (mkRat_num_le n hd) hn, Nat.le_trans (mkRat_den_le n hd) hd2⟩
theorem mk_posI {n : Int} {d : Nat} (hn : 0 < n) (hd : 0 < d) : (0 : Rat) < mkRat n d := by
 rw [show n = ((n.toNat : Nat) : Int) by omega]; exact Prof.mk_pos (by omega) hd
theorem mk_negI {n : Int} {d : Nat} (hn : n < 0) (hd : 0 < d) : mkRat n d < (0 : Rat) := by
 have h := mk_posI (n := -n) (d := d) (by omega) hd
 rw [<- Rat.neg_mkRat] at h
 grind
def shF (g : Int) (b : Bool) : Cont := match b with
 | true => .vals [.agg [.q (mkRat (-1) 4) 64, .q (mkRat (-1) 4) 64], .agg [.q (mkRat (4 + 2 * g + 1) 4) 64, .q (mkRat 0 4) 64], .agg [.q (mkRat (-1) 4) 64, .q (mkRat 1 4) 64]]
 | false => .vals [.agg [.q (mkRat (-1) 4) 64, .q (mkRat (-1) 4) 64], .agg [.q (mkRat (4 + 2 * g + 1) 4) 64, .q (mkRat (-1) 4) 64], .agg [.q (mkRat (4 + 2 * g + 1) 4) 64, .q (mkRat 1 4) 64], .agg [.q (mkRat (-1) 4) 64, .q (mkRat 1 4) 64]]
theorem shV_F (v : PV) : shV v = shF (nx v 4) (decide (nx (rs (rs (rs (rs (rs v))))) 3 = 2)) := by
 unfold shV
 by_cases hb : nx (rs (rs (rs (rs (rs v))))) 3 = 2
 ·rw [if_pos hb, kE hb]; rfl
 ·rw [if_neg hb, kF hb]; rfl
theorem shF_ok : ∀ (g : Nat) (b : Bool), g < 4 -> polyB (shF g b).len (fun i => dq (fldV ((shF g b).get i) 0)) (fun i => dq (fldV ((shF g b).get i) 1)) = true
 | 0, true, _ => by kernel_rfl
 | 1, true, _ => by kernel_rfl
 | 2, true, _ => by kernel_rfl
 | 3, true, _ => by kernel_rfl
 | 0, false, _ => by kernel_rfl
 | 1, false, _ => by kernel_rfl
 | 2, false, _ => by kernel_rfl
 | 3, false, _ => by kernel_rfl
theorem lkB_V (v : PV) : lkB (lkD v) = true := by
 have g0 := nx_range v (show (0 : Int) < 4 by omega)
 have g1 := nx_range (rs v) (show (0 : Int) < 6 by omega)
 have g2 := nx_range (rs (rs v)) (show (0 : Int) < 6 by omega)
 have g3 := nx_range (rs (rs (rs v))) (show (0 : Int) < 8 by omega)
 have g4 := nx_range (rs (rs (rs (rs v)))) (show (0 : Int) < 20 by omega)
 have t3 : Int.toNat 3 = 3 := rfl
 have t4 : Int.toNat 4 = 4 := rfl
 have p := shF_ok (nx v 4).toNat (decide (nx (rs (rs (rs (rs (rs v))))) 3 = 2)) (by omega)
 rw [Int.toNat_of_nonneg g0.1, <- shV_F] at p
 have hlh : lowV v < highV v := by
  have a := mk_negI (n := -1 - nx (rs v) 6) (d := 3) (by omega) (by omega)
  have b := mk_posI (n := 1 + nx (rs (rs v)) 6) (d := 3) (by omega) (by omega)
  unfold lowV highV
  rw [t3]
  grind
 simp only [lkB, kA, kD]
 refine ⟨⟨⟨⟨⟨⟨⟨⟨⟨?_, ?_⟩, ?_⟩, ?_⟩, ?_⟩, ?_⟩, hlh⟩, ?_⟩, ?_⟩, p⟩
 ·exact smQ_mk (by omega) (by omega) (by omega)
 ·exact smQ_mk (by omega) (by omega) (by omega)
 ·exact smQ_mk (by omega) (by omega) (by omega)
 ·exact smQ_mk (by omega) (by omega) (by omega)
 ·exact smQ_mk (by omega) (by omega) (by omega)
 ·exact mk_posI (by omega) (by omega)
 ·exact mk_posI (by omega) (by omega)
 ·exact mk_posI (by omega) (by omega)
theorem armB_V (v : PV) : armB (armD v) = true := by
 have g0 := nx_range v (show (0 : Int) < 4 by omega)
 have g1 := nx_range (rs v) (show (0 : Int) < 3 by omega)
 have g2 := nx_range (rs (rs v)) (show (0 : Int) < 3 by omega)
 have hn : (armD v).n = (1 + nx (rs (rs v)) 3).toNat := rfl
 simp only [armB, kA, kD, List.all_eq_true]
 refine ⟨⟨⟨⟨⟨⟨by kernel_rfl, by kernel_rfl⟩, by kernel_rfl⟩, ?_⟩, by omega⟩, by omega⟩, fun j _ => lkB_V _⟩
 have gt : ∀ i : Nat, ([(0 : Int), 1, -1, 1].getD i 0).natAbs <= 1 := by
  intro i
  match i with
  | 0 => decide
  | 1 => decide
  | 2 => decide
  | 3 => decide
  | i + 4 => show (0 : Int).natAbs <= 1; decide
 have := gt (nx v 4).toNat
 exact smQ_mk (by omega) (by omega) (by omega)
def b106a : Code := (qi (qd f74)).getD 0 .skip
def b106b : Code := (qi (qd f74)).getD 1 .skip
def pol106 : Pol := { live := [(3, [1, 4, 5, 12, 13, 14]), (8, [1, 4, 5, 26, 27, 28])] }
theorem enter106 : Enters prog 74 f74 (qd f74) := ⟨func74, by kernel_rfl, rfl⟩
def st106a (x : Rat) (w : Nat) (bl : List UInt8) (i : Nat) : LS := ⟨[.ptr 0 3 0 0 [], .i .i64 (bv (bl.take i) : Nat), .i .i64 0, .lst 1 (.ints .u8 (bl.map fun c => (c.toNat : Int))), .i .i64 (bl.length : Nat), .i .i64 (i : Nat)], [some ⟨3, .vals [.q x w]⟩]⟩
def st106b (x : Rat) (w : Nat) (a : Int) (bl : List UInt8) (i : Nat) : LS := ⟨[.ptr 0 3 0 0 [], .i .i64 a, .i .i64 (bv (bl.take i) : Nat), .lst 1 (.ints .u8 (bl.map fun c => (c.toNat : Int))), .i .i64 (bl.length : Nat), .i .i64 (i : Nat)], [some ⟨3, .vals [.q x w]⟩]⟩
theorem r106a (x : Rat) (w : Nat) (a b n i : Int) (l : List Int) : qe prog [] [] pol106 f74.ntmps 0 [1, 4, 5, 12, 13, 14] b106a ⟨[.ptr 0 3 0 0 [], .i .i64 a, .i .i64 b, .lst 1 (.ints .u8 l), .i .i64 n, .i .i64 i], [some ⟨3, .vals [.q x w]⟩]⟩ =
 Tr.br (decide (i < n)) (.br (ix (i) ((l.length : Int))) (.br (ib ((256 : Int) * a)) (.br (ib ((256 : Int) * a + IntKind.i64.wrap (l.getD i.toNat (0 : Int)))) (.br (ib (i + 1)) (.ok (.out .normal (LS.mk [.ptr 0 3 0 0 [], .i .i64 ((256 : Int) * a + IntKind.i64.wrap (l.getD i.toNat (0 : Int))), .i .i64 b, .lst 1 (.ints .u8 l), .i .i64 n, .i .i64 (i + 1)] [some (.mk 3 (.vals [.q x w]))]))) (.no 7002)) (.no 6002)) (.no 6005)) (.no 5003)) (.ok (.out (.exit 0) (LS.mk [.ptr 0 3 0 0 [], .i .i64 a, .i .i64 b, .lst 1 (.ints .u8 l), .i .i64 n, .i .i64 i] [some (.mk 3 (.vals [.q x w]))]))) := by kernel_rfl
theorem r106b (x : Rat) (w : Nat) (a b n i : Int) (l : List Int) : qe prog [] [] pol106 f74.ntmps 0 [1, 4, 5, 26, 27, 28] b106b ⟨[.ptr 0 3 0 0 [], .i .i64 a, .i .i64 b, .lst 1 (.ints .u8 l), .i .i64 n, .i .i64 i], [some ⟨3, .vals [.q x w]⟩]⟩ =
 Tr.br (decide (i < n)) (.br (ix (i) ((l.length : Int))) (.br (ib ((256 : Int) * b)) (.br (ib ((256 : Int) * b + IntKind.i64.wrap (l.getD i.toNat (0 : Int)))) (.br (ib (i + 1)) (.ok (.out .normal (LS.mk [.ptr 0 3 0 0 [], .i .i64 a, .i .i64 ((256 : Int) * b + IntKind.i64.wrap (l.getD i.toNat (0 : Int))), .lst 1 (.ints .u8 l), .i .i64 n, .i .i64 (i + 1)] [some (.mk 3 (.vals [.q x w]))]))) (.no 12002)) (.no 11002)) (.no 11005)) (.no 10003)) (.ok (.out (.exit 2) (LS.mk [.ptr 0 3 0 0 [], .i .i64 a, .i .i64 b, .lst 1 (.ints .u8 l), .i .i64 n, .i .i64 i] [some (.mk 3 (.vals [.q x w]))]))) := by kernel_rfl
def bI (l : List Int) : Int := (bv (l.map fun n => UInt8.ofNat n.toNat) : Nat)
theorem bI_map (bl : List UInt8) : bI (bl.map fun c => (c.toNat : Int)) = (bv bl : Nat) := by
 unfold bI
 rw [List.map_map]
 have : (List.map ((fun n : Int => UInt8.ofNat n.toNat) ∘ fun c : UInt8 => (c.toNat : Int)) bl) = bl := by
  rw [List.map_congr_left (g := id) (fun c _ => by simp), List.map_id]
 rw [this]
def F106 (l : List Int) (n i : Int) : Prop := ∃ bl : List UInt8, l = (bl.map fun c => (c.toNat : Int)) /\ n = (bl.length : Nat) /\ i = 0 /\ bl.length <= 2
def l106a : qw := fun ls K => match ls with
 | ⟨[.ptr 0 3 0 0 [], .i .i64 a, .i .i64 b, .lst 1 (.ints .u8 l), .i .i64 n, .i .i64 i], [some ⟨3, .vals [.q x w]⟩]⟩ => .br (qh (F106 l n i /\ a = 0 /\ b = 0)) (K (.exit 0) ⟨[.ptr 0 3 0 0 [], .i .i64 (bI l), .i .i64 b, .lst 1 (.ints .u8 l), .i .i64 n, .i .i64 n], [some ⟨3, .vals [.q x w]⟩]⟩) (.no 1)
 | _ => .no 1
def l106b : qw := fun ls K => match ls with
 | ⟨[.ptr 0 3 0 0 [], .i .i64 a, .i .i64 b, .lst 1 (.ints .u8 l), .i .i64 n, .i .i64 i], [some ⟨3, .vals [.q x w]⟩]⟩ => .br (qh (F106 l n i /\ b = 0)) (K (.exit 2) ⟨[.ptr 0 3 0 0 [], .i .i64 a, .i .i64 (bI l), .lst 1 (.ints .u8 l), .i .i64 n, .i .i64 n], [some ⟨3, .vals [.q x w]⟩]⟩) (.no 1)
 | _ => .no 1
theorem bv2_lt (bl : List UInt8) (i : Nat) (h : bl.length <= 2) : bv (bl.take i) < 65536 := by
 have h1 := bv_lt (bl.take i)
 have h2 : 256 ^ (bl.take i).length <= 256 ^ 2 := Nat.pow_le_pow_right (by omega) (by rw [List.length_take]; omega)
 omega
theorem bv_take_succ (bl : List UInt8) (i : Nat) (h : i < bl.length) : bv (bl.take (i + 1)) = bv (bl.take i) * 256 + (bl.getD i 0).toNat := by
 rw [List.take_add_one, List.getElem?_eq_getElem h, List.getD_eq_getElem?_getD, List.getElem?_eq_getElem h]
 exact bv_snoc _ _
theorem byte_get (bl : List UInt8) (i : Nat) (h : i < bl.length) : IntKind.i64.wrap ((bl.map fun c => (c.toNat : Int)).getD i 0) = ((bl.getD i 0).toNat : Int) := by
 rw [List.getD_eq_getElem?_getD, List.getD_eq_getElem?_getD, List.getElem?_map, List.getElem?_eq_getElem h]
 have := UInt8.toNat_lt (bl[i])
 show IntKind.i64.wrap ((bl[i].toNat : Nat) : Int) = ((bl[i].toNat : Nat) : Int)
 exact wi64 (by omega) (by omega)
include hG in
theorem loop106a : qv prog G f74.ntmps 0 [1, 4, 5, 12, 13, 14] b106a l106a := by
 intro ls K y hm h
 unfold l106a at h
 split at h
 case h_2 => cases h
 rename_i a b l n i x w
 obtain ⟨hc, hr⟩ := k8 h
 obtain ⟨⟨bl, rfl, rfl, rfl, hl⟩, rfl, rfl⟩ := decP_iff.1 hc
 have hg := Goes.count (R := Rnd prog G f74.ntmps 0 [1, 4, 5, 12, 13, 14] b106a) (fun i => st106a x w bl i) (e := .exit 0) (ls' := st106a x w bl bl.length) (by simp) bl.length 0
  (fun i _ hi => qb hG .nil mix (L := []) (pol := pol106) (O := []) (k9 (by kernel_rfl)) (Nat.zero_le _) (by
   have hi' : i < bl.length := by omega
   have b1 := bv2_lt bl i hl
   have b2 := bv2_lt bl (i + 1) hl
   have b3 := bv_take_succ bl i hi'
   have b4 := byte_get bl i hi'
   unfold st106a
   rw [r106a, Int.toNat_natCast, b4, k5 (kE (by omega)), k5 (by simp only [kA, kD, List.length_map]; omega), k5 (by simp only [kA, kD]; omega), k5 (by simp only [kA, kD]; omega), k5 (by simp only [kA, kD]; omega), k7]
   have e1 : 256 * ((bv (bl.take i) : Nat) : Int) + ((bl.getD i 0).toNat : Int) = ((bv (bl.take (i + 1)) : Nat) : Int) := by omega
   rw [e1]
   rfl))
  (by
   refine qb hG .nil mix (L := []) (pol := pol106) (O := []) (k9 (by kernel_rfl)) (Nat.zero_le _) ?_
   unfold st106a
   rw [Nat.zero_add, r106a, k6 (kF (by omega)), k7])
 refine ⟨_, _, qq hg, ?_⟩
 unfold st106a
 rw [List.take_length, <- bI_map]
 exact hr
include hG in
theorem loop106b : qv prog G f74.ntmps 0 [1, 4, 5, 26, 27, 28] b106b l106b := by
 intro ls K y hm h
 unfold l106b at h
 split at h
 case h_2 => cases h
 rename_i a b l n i x w
 obtain ⟨hc, hr⟩ := k8 h
 obtain ⟨⟨bl, rfl, rfl, rfl, hl⟩, rfl⟩ := decP_iff.1 hc
 have hg := Goes.count (R := Rnd prog G f74.ntmps 0 [1, 4, 5, 26, 27, 28] b106b) (fun i => st106b x w a bl i) (e := .exit 2) (ls' := st106b x w a bl bl.length) (by simp) bl.length 0
  (fun i _ hi => qb hG .nil mix (L := []) (pol := pol106) (O := []) (k9 (by kernel_rfl)) (Nat.zero_le _) (by
   have hi' : i < bl.length := by omega
   have b1 := bv2_lt bl i hl
   have b2 := bv2_lt bl (i + 1) hl
   have b3 := bv_take_succ bl i hi'
   have b4 := byte_get bl i hi'
   unfold st106b
   rw [r106b, Int.toNat_natCast, b4, k5 (kE (by omega)), k5 (by simp only [kA, kD, List.length_map]; omega), k5 (by simp only [kA, kD]; omega), k5 (by simp only [kA, kD]; omega), k5 (by simp only [kA, kD]; omega), k7]
   have e1 : 256 * ((bv (bl.take i) : Nat) : Int) + ((bl.getD i 0).toNat : Int) = ((bv (bl.take (i + 1)) : Nat) : Int) := by omega
   rw [e1]
   rfl))
  (by
   refine qb hG .nil mix (L := []) (pol := pol106) (O := []) (k9 (by kernel_rfl)) (Nat.zero_le _) ?_
   unfold st106b
   rw [Nat.zero_add, r106b, k6 (kF (by omega)), k7])
 refine ⟨_, _, qq hg, ?_⟩
 unfold st106b
 rw [List.take_length, <- bI_map]
 exact hr
theorem e106 (x : Rat) (w : Nat) : evF prog [] [(3, l106a), (8, l106b)] pol106 f74 [.q x w] [] qn =
 Tr.br (qh (F106 (List.map (fun (c : UInt8) => (c.toNat : Int)) (qa x.num.natAbs x.num.natAbs []).toArray.toList) (↑(List.map (fun (c : UInt8) => (c.toNat : Int)) (qa x.num.natAbs x.num.natAbs []).toArray.toList).length : Int) (0 : Int) /\ (0 : Int) = 0 /\ (0 : Int) = 0)) (.br (qh (F106 (List.map (fun (c : UInt8) => (c.toNat : Int)) (qa x.den x.den []).toArray.toList) (↑(List.map (fun (c : UInt8) => (c.toNat : Int)) (qa x.den x.den []).toArray.toList).length : Int) (0 : Int) /\ (0 : Int) = 0)) (.br (qm x) (.br (ib ((0 : Int) - bI (List.map (fun (c : UInt8) => (c.toNat : Int)) (qa x.num.natAbs x.num.natAbs []).toArray.toList))) (.ok (.ret (.tup [.i .i64 ((0 : Int) - bI (List.map (fun (c : UInt8) => (c.toNat : Int)) (qa x.num.natAbs x.num.natAbs []).toArray.toList)), .i .i64 (if (1 : Int) > bI (List.map (fun (c : UInt8) => (c.toNat : Int)) (qa x.den x.den []).toArray.toList) then (1 : Int) else bI (List.map (fun (c : UInt8) => (c.toNat : Int)) (qa x.den x.den []).toArray.toList))]) [])) (.no 14002)) (.ok (.ret (.tup [.i .i64 (bI (List.map (fun (c : UInt8) => (c.toNat : Int)) (qa x.num.natAbs x.num.natAbs []).toArray.toList)), .i .i64 (if (1 : Int) > bI (List.map (fun (c : UInt8) => (c.toNat : Int)) (qa x.den x.den []).toArray.toList) then (1 : Int) else bI (List.map (fun (c : UInt8) => (c.toNat : Int)) (qa x.den x.den []).toArray.toList))]) []))) (.no 1)) (.no 1) := by kernel_rfl
def smX (x : Rat) : Bool := decide (x.num.natAbs < 1000) && decide (x.den < 1000)
def s106 : Spec := fun args hs K => match args, hs with
 | [.q x _], [] => .br (smX x) (K (.tup [.i .i64 x.num, .i .i64 x.den]) []) (.no 1)
 | _, _ => .no 1


theorem bI_nbl (n : Nat) : bI (List.map (fun (c : UInt8) => (c.toNat : Int)) (qa n n []).toArray.toList) = (n : Int) := by
 rw [show (qa n n []).toArray.toList = nbl n from rfl, bI_map, bv_nbl]
theorem F106_nbl {n : Nat} (h : n < 65536) : F106 (List.map (fun (c : UInt8) => (c.toNat : Int)) (qa n n []).toArray.toList) ((List.map (fun (c : UInt8) => (c.toNat : Int)) (qa n n []).toArray.toList).length : Nat) 0 := by
 rw [show (qa n n []).toArray.toList = nbl n from rfl]
 exact ⟨nbl n, rfl, by rw [List.length_map], rfl, nbl_length_le (k := 2) (by omega)⟩
include hG in
theorem ok106 : qc prog G 74 s106 := by
 refine qo hG .nil mix enter106 (L := [(3, l106a), (8, l106b)]) (pol := pol106) fun args hs K x h => ?_
 unfold s106 at h
 split at h
 case h_2 => cases h
 rename_i x w
 obtain ⟨hc, hr⟩ := k8 h
 simp only [smX, kA, kD] at hc
 refine ⟨lps2 (b1 := b106a) (live1 := [1, 4, 5, 12, 13, 14]) (sp1 := l106a) (b2 := b106b) (live2 := [1, 4, 5, 26, 27, 28]) (sp2 := l106b) (m := 0) (by kernel_rfl) (by kernel_rfl) (by kernel_rfl) (by kernel_rfl) (by kernel_rfl) (loop106a hG) (loop106b hG), ?_⟩
 have hd := x.den_pos
 rw [e106, bI_nbl, bI_nbl, k5 (decP_iff.2 ⟨F106_nbl (by omega), rfl, rfl⟩), k5 (decP_iff.2 ⟨F106_nbl (by omega), rfl⟩)]
 have e2 : (if (1 : Int) > (x.den : Int) then (1 : Int) else (x.den : Int)) = (x.den : Int) := if_neg (by omega)
 rw [e2]
 cases hn : qm x with
 | true =>
  have hneg : x.num < 0 := of_decide_eq_true hn
  rw [k5 rfl, k5 (by simp only [kA, kD]; omega), k7, show (0 : Int) - (x.num.natAbs : Int) = x.num by omega]
  exact ⟨_, _, _, rfl, .refl _, hr⟩
 | false =>
  have hneg : ¬ x.num < 0 := of_decide_eq_false hn
  rw [k6 rfl, k7, show (x.num.natAbs : Int) = x.num by omega]
  exact ⟨_, _, _, rfl, .refl _, hr⟩
def b69 : Code := (qi (qd f39)).getD 0 .skip
def pol69 : Pol := { live := [(3, [1, 5, 14, 15, 16])], wr := [(54, [0])] }
theorem enter69 : Enters prog 39 f39 (qd f39) := ⟨func39, by kernel_rfl, rfl⟩
def O69 : Orc := [(54, s45), (66, s81), (74, s106)]
def n69 (v : PV) (n : Nat) (lk : Nat -> Lk) (i : Int) : LS := ⟨[.ptr 0 1 0 0 [], .nil, .lst 16 (.fn n (fun j => lkPV (lk j))), .i .i64 n, .i .i64 i], [some ⟨1, .vals [.agg [.w v]]⟩]⟩
def x69 (v : PV) (n : Nat) (lk : Nat -> Lk) (xs : List Rat) (i : Int) : LS := ⟨[.ptr 0 1 0 0 [], .sl 1 3 0 xs.length, .lst 16 (.fn n (fun j => lkPV (lk j))), .i .i64 n, .i .i64 i], [some ⟨1, .vals [.agg [.w v]]⟩, some ⟨3, .rats 64 xs⟩]⟩
theorem r69n (v : PV) (n : Nat) (lk : Nat -> Lk) (i : Int) : qe prog O69 [] pol69 f39.ntmps 1 [1, 5, 14, 15, 16] b69 (n69 v n lk i) =
 Tr.br (decide (i < (n : Int))) (.br (ix (i) ((n : Int))) (.br (smX (lk i.toNat).low) (.br (smX (lk i.toNat).high) (.br (okW v && decide ((0 : Int) < 9) && decide ((9 : Int) <= 4294967296)) (.br (ib ((8 : Int) * (lk i.toNat).low.num)) (.br (ib ((8 : Int) * (lk i.toNat).low.num * (↑(lk i.toNat).high.den : Int))) (.br (ib ((lk i.toNat).high.num * (↑(lk i.toNat).low.den : Int))) (.br (ib ((lk i.toNat).low.num * (↑(lk i.toNat).high.den : Int))) (.br (ib ((lk i.toNat).high.num * (↑(lk i.toNat).low.den : Int) - (lk i.toNat).low.num * (↑(lk i.toNat).high.den : Int))) (.br (ib (((lk i.toNat).high.num * (↑(lk i.toNat).low.den : Int) - (lk i.toNat).low.num * (↑(lk i.toNat).high.den : Int)) * nx v (9 : Int))) (.br (ib ((8 : Int) * (lk i.toNat).low.num * (↑(lk i.toNat).high.den : Int) + ((lk i.toNat).high.num * (↑(lk i.toNat).low.den : Int) - (lk i.toNat).low.num * (↑(lk i.toNat).high.den : Int)) * nx v (9 : Int))) (.br (ib ((8 : Int) * (↑(lk i.toNat).low.den : Int))) (.br (ib ((8 : Int) * (↑(lk i.toNat).low.den : Int) * (↑(lk i.toNat).high.den : Int))) (.br (decide ((0 : Int) < 8 * (↑(lk i.toNat).low.den : Int) * (↑(lk i.toNat).high.den : Int)) && decide ((8 : Int) * (↑(lk i.toNat).low.den : Int) * (↑(lk i.toNat).high.den : Int) < 4611686018427387904) && decide ((-4611686018427387904 : Int) < 8 * (lk i.toNat).low.num * (↑(lk i.toNat).high.den : Int) + ((lk i.toNat).high.num * (↑(lk i.toNat).low.den : Int) - (lk i.toNat).low.num * (↑(lk i.toNat).high.den : Int)) * nx v (9 : Int)) && decide ((8 : Int) * (lk i.toNat).low.num * (↑(lk i.toNat).high.den : Int) + ((lk i.toNat).high.num * (↑(lk i.toNat).low.den : Int) - (lk i.toNat).low.num * (↑(lk i.toNat).high.den : Int)) * nx v (9 : Int) < 4611686018427387904)) (.br (Nat.blt (0 : Nat) [mkRat ((8 : Int) * (lk i.toNat).low.num * (↑(lk i.toNat).high.den : Int) + ((lk i.toNat).high.num * (↑(lk i.toNat).low.den : Int) - (lk i.toNat).low.num * (↑(lk i.toNat).high.den : Int)) * nx v (9 : Int)) ((8 : Int) * (↑(lk i.toNat).low.den : Int) * (↑(lk i.toNat).high.den : Int)).toNat].length && [mkRat ((8 : Int) * (lk i.toNat).low.num * (↑(lk i.toNat).high.den : Int) + ((lk i.toNat).high.num * (↑(lk i.toNat).low.den : Int) - (lk i.toNat).low.num * (↑(lk i.toNat).high.den : Int)) * nx v (9 : Int)) ((8 : Int) * (↑(lk i.toNat).low.den : Int) * (↑(lk i.toNat).high.den : Int)).toNat].length.ble 4294967296) (.br (ib (i + 1)) (.ok (.out .normal { t := [.ptr 0 1 0 0 [], .sl 1 3 0 1, .lst 16 (.fn n fun (j : Nat) => .agg [.q (lk j).len 64, .q (lk j).low 64, .q (lk j).high 64, .q (lk j).spd 64, .q (lk j).brk 64, .lst 6 (.fn (lk j).np fun (a : Nat) => .agg [.q ((lk j).px a) 64, .q ((lk j).py a) 64])]), .i .i64 (n : Int), .i .i64 (i + 1)], h := [some { e := 1, c := Cont.vals [.agg [(rs v).w]] }, some { e := 3, c := Cont.rats 64 [mkRat ((8 : Int) * (lk i.toNat).low.num * (↑(lk i.toNat).high.den : Int) + ((lk i.toNat).high.num * (↑(lk i.toNat).low.den : Int) - (lk i.toNat).low.num * (↑(lk i.toNat).high.den : Int)) * nx v (9 : Int)) ((8 : Int) * (↑(lk i.toNat).low.den : Int) * (↑(lk i.toNat).high.den : Int)).toNat] }] })) (.no 10002)) (.no 9002)) (.no 1)) (.no 9005)) (.no 9007)) (.no 9009)) (.no 9010)) (.no 9012)) (.no 9013)) (.no 9016)) (.no 9019)) (.no 9021)) (.no 1)) (.no 1)) (.no 1)) (.no 5004)) (.ok (.out (.exit 0) { t := [.ptr 0 1 0 0 [], .nil, .lst 16 (.fn n fun (j : Nat) => .agg [.q (lk j).len 64, .q (lk j).low 64, .q (lk j).high 64, .q (lk j).spd 64, .q (lk j).brk 64, .lst 6 (.fn (lk j).np fun (a : Nat) => .agg [.q ((lk j).px a) 64, .q ((lk j).py a) 64])]), .i .i64 (n : Int), .i .i64 i], h := [some { e := 1, c := Cont.vals [.agg [v.w]] }] })) := by kernel_rfl
theorem r69 (v : PV) (n : Nat) (lk : Nat -> Lk) (xs : List Rat) (i : Int) : qe prog O69 [] pol69 f39.ntmps 1 [1, 5, 14, 15, 16] b69 (x69 v n lk xs i) =
 Tr.br (decide (i < (n : Int))) (.br (ix (i) ((n : Int))) (.br (smX (lk i.toNat).low) (.br (smX (lk i.toNat).high) (.br (okW v && decide ((0 : Int) < 9) && decide ((9 : Int) <= 4294967296)) (.br (ib ((8 : Int) * (lk i.toNat).low.num)) (.br (ib ((8 : Int) * (lk i.toNat).low.num * (↑(lk i.toNat).high.den : Int))) (.br (ib ((lk i.toNat).high.num * (↑(lk i.toNat).low.den : Int))) (.br (ib ((lk i.toNat).low.num * (↑(lk i.toNat).high.den : Int))) (.br (ib ((lk i.toNat).high.num * (↑(lk i.toNat).low.den : Int) - (lk i.toNat).low.num * (↑(lk i.toNat).high.den : Int))) (.br (ib (((lk i.toNat).high.num * (↑(lk i.toNat).low.den : Int) - (lk i.toNat).low.num * (↑(lk i.toNat).high.den : Int)) * nx v (9 : Int))) (.br (ib ((8 : Int) * (lk i.toNat).low.num * (↑(lk i.toNat).high.den : Int) + ((lk i.toNat).high.num * (↑(lk i.toNat).low.den : Int) - (lk i.toNat).low.num * (↑(lk i.toNat).high.den : Int)) * nx v (9 : Int))) (.br (ib ((8 : Int) * (↑(lk i.toNat).low.den : Int))) (.br (ib ((8 : Int) * (↑(lk i.toNat).low.den : Int) * (↑(lk i.toNat).high.den : Int))) (.br (decide ((0 : Int) < 8 * (↑(lk i.toNat).low.den : Int) * (↑(lk i.toNat).high.den : Int)) && decide ((8 : Int) * (↑(lk i.toNat).low.den : Int) * (↑(lk i.toNat).high.den : Int) < 4611686018427387904) && decide ((-4611686018427387904 : Int) < 8 * (lk i.toNat).low.num * (↑(lk i.toNat).high.den : Int) + ((lk i.toNat).high.num * (↑(lk i.toNat).low.den : Int) - (lk i.toNat).low.num * (↑(lk i.toNat).high.den : Int)) * nx v (9 : Int)) && decide ((8 : Int) * (lk i.toNat).low.num * (↑(lk i.toNat).high.den : Int) + ((lk i.toNat).high.num * (↑(lk i.toNat).low.den : Int) - (lk i.toNat).low.num * (↑(lk i.toNat).high.den : Int)) * nx v (9 : Int) < 4611686018427387904)) (.br (xs.length.ble xs.length && (xs.length + [mkRat ((8 : Int) * (lk i.toNat).low.num * (↑(lk i.toNat).high.den : Int) + ((lk i.toNat).high.num * (↑(lk i.toNat).low.den : Int) - (lk i.toNat).low.num * (↑(lk i.toNat).high.den : Int)) * nx v (9 : Int)) ((8 : Int) * (↑(lk i.toNat).low.den : Int) * (↑(lk i.toNat).high.den : Int)).toNat].length).ble 4294967296) (.br (ib (i + 1)) (.ok (.out .normal { t := [.ptr 0 1 0 0 [], .sl 1 3 0 (xs.length + [mkRat ((8 : Int) * (lk i.toNat).low.num * (↑(lk i.toNat).high.den : Int) + ((lk i.toNat).high.num * (↑(lk i.toNat).low.den : Int) - (lk i.toNat).low.num * (↑(lk i.toNat).high.den : Int)) * nx v (9 : Int)) ((8 : Int) * (↑(lk i.toNat).low.den : Int) * (↑(lk i.toNat).high.den : Int)).toNat].length), .lst 16 (.fn n fun (j : Nat) => .agg [.q (lk j).len 64, .q (lk j).low 64, .q (lk j).high 64, .q (lk j).spd 64, .q (lk j).brk 64, .lst 6 (.fn (lk j).np fun (a : Nat) => .agg [.q ((lk j).px a) 64, .q ((lk j).py a) 64])]), .i .i64 (n : Int), .i .i64 (i + 1)], h := [some { e := 1, c := Cont.vals [.agg [(rs v).w]] }, some { e := 3, c := Cont.rats 64 (List.take xs.length (List.drop (0 : Nat) xs) ++ [mkRat ((8 : Int) * (lk i.toNat).low.num * (↑(lk i.toNat).high.den : Int) + ((lk i.toNat).high.num * (↑(lk i.toNat).low.den : Int) - (lk i.toNat).low.num * (↑(lk i.toNat).high.den : Int)) * nx v (9 : Int)) ((8 : Int) * (↑(lk i.toNat).low.den : Int) * (↑(lk i.toNat).high.den : Int)).toNat]) }] })) (.no 10002)) (.no 9002)) (.no 1)) (.no 9005)) (.no 9007)) (.no 9009)) (.no 9010)) (.no 9012)) (.no 9013)) (.no 9016)) (.no 9019)) (.no 9021)) (.no 1)) (.no 1)) (.no 1)) (.no 5004)) (.ok (.out (.exit 0) { t := [.ptr 0 1 0 0 [], .sl 1 3 0 xs.length, .lst 16 (.fn n fun (j : Nat) => .agg [.q (lk j).len 64, .q (lk j).low 64, .q (lk j).high 64, .q (lk j).spd 64, .q (lk j).brk 64, .lst 6 (.fn (lk j).np fun (a : Nat) => .agg [.q ((lk j).px a) 64, .q ((lk j).py a) 64])]), .i .i64 (n : Int), .i .i64 i], h := [some { e := 1, c := Cont.vals [.agg [v.w]] }, some { e := 3, c := Cont.rats 64 xs }] })) := by kernel_rfl

def itRs : Nat -> PV -> PV
 | 0, v => v
 | k + 1, v => rs (itRs k v)
theorem okW_itRs {v : PV} (h : okW v = true) : ∀ k, okW (itRs k v) = true
 | 0 => h
 | k + 1 => okW_rs (okW_itRs h k)
def cf0 (l h : Rat) (k : Int) : Rat := mkRat ((8 : Int) * l.num * (h.den : Int) + (h.num * (l.den : Int) - l.num * (h.den : Int)) * k) ((8 : Int) * (l.den : Int) * (h.den : Int)).toNat
def cf1 (lk : Nat -> Lk) (v : PV) (j : Nat) : Rat := cf0 (lk j).low (lk j).high (nx (itRs j v) 9)
def cfL (lk : Nat -> Lk) (v : PV) (n : Nat) : List Rat := (List.range n).map (cf1 lk v)
theorem cfL_succ (lk : Nat -> Lk) (v : PV) (n : Nat) : cfL lk v (n + 1) = cfL lk v n ++ [cf1 lk v n] := by simp [cfL, List.range_succ]
theorem cfL_len (lk : Nat -> Lk) (v : PV) (n : Nat) : (cfL lk v n).length = n := by simp [cfL]
theorem nabs_mul {a b : Int} {A B : Nat} (ha : a.natAbs <= A) (hb : b.natAbs <= B) : (a * b).natAbs <= A * B := by
 rw [Int.natAbs_mul]; exact Nat.mul_le_mul ha hb
theorem smX_iff {x : Rat} : smX x = true ↔ x.num.natAbs < 1000 /\ x.den < 1000 := by simp [smX]
def st69 (v : PV) (n : Nat) (lk : Nat -> Lk) (xs : List Rat) (i : Int) : LS := match xs with
 | [] => n69 v n lk i
 | xs => x69 v n lk xs i
theorem st69_x {v : PV} {n : Nat} {lk : Nat -> Lk} {xs : List Rat} {i : Int} (h : xs ≠ []) : st69 v n lk xs i = x69 v n lk xs i := by
 cases xs with
 | nil => exact absurd rfl h
 | cons x xs => rfl
include hG in
theorem orc69 : OrcOK prog G O69 := .cons (ok45 hG) (.cons (ok81 hG) (.cons (ok106 hG) .nil))
theorem step69 (v : PV) (hw : okW v = true) (n : Nat) (lk : Nat -> Lk) (xs : List Rat) (j : Nat) (hn : n <= 3) (hj : j < n) (hx : xs.length <= 1000) (h1 : smX (lk j).low = true) (h2 : smX (lk j).high = true) :
  (qe prog O69 [] pol69 f39.ntmps 1 [1, 5, 14, 15, 16] b69 (st69 v n lk xs ((j : Nat) : Int))).run = some (.out .normal (st69 (rs v) n lk (xs ++ [cf0 (lk j).low (lk j).high (nx v 9)]) ((j + 1 : Nat) : Int))) := by
 obtain ⟨a1, a2⟩ := smX_iff.1 h1
 obtain ⟨a3, a4⟩ := smX_iff.1 h2
 have d1 := (lk j).low.den_pos
 have d2 := (lk j).high.den_pos
 have g := nx_range v (show (0 : Int) < 9 by omega)
 have b1 : ((8 : Int) * (lk j).low.num * ((lk j).high.den : Int)).natAbs <= 8 * 1000 * 1000 := nabs_mul (nabs_mul (by omega) (by omega)) (by omega)
 have b2 : ((lk j).high.num * ((lk j).low.den : Int)).natAbs <= 1000 * 1000 := nabs_mul (by omega) (by omega)
 have b3 : ((lk j).low.num * ((lk j).high.den : Int)).natAbs <= 1000 * 1000 := nabs_mul (by omega) (by omega)
 have b4 : (((lk j).high.num * ((lk j).low.den : Int) - (lk j).low.num * ((lk j).high.den : Int)) * nx v 9).natAbs <= 2000000 * 9 := nabs_mul (by omega) (by omega)
 have b5 : ((8 : Int) * ((lk j).low.den : Int) * ((lk j).high.den : Int)).natAbs <= 8 * 1000 * 1000 := nabs_mul (nabs_mul (by omega) (by omega)) (by omega)
 have b6 : 0 < (8 : Int) * ((lk j).low.den : Int) * ((lk j).high.den : Int) := Int.mul_pos (by omega) (by omega)
 rw [st69_x (xs := xs ++ [cf0 (lk j).low (lk j).high (nx v 9)]) (by simp)]
 cases xs with
 | nil =>
  show (qe prog O69 [] pol69 f39.ntmps 1 [1, 5, 14, 15, 16] b69 (n69 v n lk ((j : Nat) : Int))).run = _
  rw [r69n, Int.toNat_natCast, k5 (kE (by omega)), k5 (by simp only [kA, kD]; omega), k5 h1, k5 h2, k5 (by rw [hw]; decide)]
  repeat rw [k5 (by simp only [kA, kD, Nat.blt_eq, kG, kH, kI]; omega)]
  rw [k7]
  rfl
 | cons y ys =>
  show (qe prog O69 [] pol69 f39.ntmps 1 [1, 5, 14, 15, 16] b69 (x69 v n lk (y :: ys) ((j : Nat) : Int))).run = _
  rw [r69, Int.toNat_natCast, k5 (kE (by omega)), k5 (by simp only [kA, kD]; omega), k5 h1, k5 h2, k5 (by rw [hw]; decide)]
  simp only [kH] at hx
  repeat rw [k5 (by simp only [kA, kD, Nat.blt_eq, kG, kH, kI]; omega)]
  rw [k7, List.drop_zero, List.take_length]
  have hlen : ((y :: ys) ++ [cf0 (lk j).low (lk j).high (nx v 9)]).length = (y :: ys).length + 1 := by simp
  unfold x69
  rw [hlen]
  rfl
def Pl69 (v : PV) (n : Nat) (f : Nat -> PV) (m i : Int) : Prop := ∃ lk : Nat -> Lk, f = (fun j => lkPV (lk j)) /\ m = n /\ i = 0 /\ 1 <= n /\ n <= 3 /\ okW v = true /\ ∀ j, j < n -> smX (lk j).low = true /\ smX (lk j).high = true
def cfF (f : Nat -> PV) (v : PV) (n : Nat) : List Rat := cfL (fun j => dLk (f j)) v n
def l69 : qw := fun ls K => match ls with
 | ⟨[.ptr 0 1 0 0 [], .nil, .lst 16 (.fn n f), .i .i64 m, .i .i64 i], [some ⟨1, .vals [.agg [.w v]]⟩]⟩ => .br (qh (Pl69 v n f m i)) (K (.exit 0) ⟨[.ptr 0 1 0 0 [], .sl 1 3 0 (cfF f v n).length, .lst 16 (.fn n f), .i .i64 m, .i .i64 m], [some ⟨1, .vals [.agg [.w (itRs n v)]]⟩, some ⟨3, .rats 64 (cfF f v n)⟩]⟩) (.no 1)
 | _ => .no 1
include hG in
theorem loop69 : qv prog G f39.ntmps 1 [1, 5, 14, 15, 16] b69 l69 := by
 intro ls K y hm h
 unfold l69 at h
 split at h
 case h_2 => cases h
 rename_i n f m i v
 obtain ⟨hc, hr⟩ := k8 h
 obtain ⟨lk, rfl, rfl, rfl, hn1, hn, hw, hp⟩ := decP_iff.1 hc
 have hg := Goes.count (R := Rnd prog G f39.ntmps 1 [1, 5, 14, 15, 16] b69) (fun i => st69 (itRs i v) n lk (cfL lk v i) ((i : Nat) : Int)) (e := .exit 0) (ls' := st69 (itRs n v) n lk (cfL lk v n) n) (by simp) n 0
  (fun i _ hi => qb hG (orc69 hG) mix (L := []) (pol := pol69) (O := O69) (k9 (by kernel_rfl)) (by cases cfL lk v i <;> simp [st69, n69, x69]) (by
   rw [cfL_succ]
   exact step69 (itRs i v) (okW_itRs hw i) n lk _ i hn (by omega) (by rw [cfL_len]; omega) (hp i (by omega)).1 (hp i (by omega)).2))
  (by
   refine qb hG (orc69 hG) mix (L := []) (pol := pol69) (O := O69) (k9 (by kernel_rfl)) (by cases cfL lk v (0 + n) <;> simp [st69, n69, x69]) ?_
   rw [Nat.zero_add]
   cases hc : cfL lk v n with
   | nil =>
    show (qe prog O69 [] pol69 f39.ntmps 1 [1, 5, 14, 15, 16] b69 (n69 (itRs n v) n lk ((n : Nat) : Int))).run = _
    rw [r69n, k6 (kF (by omega)), k7]; rfl
   | cons y ys =>
    show (qe prog O69 [] pol69 f39.ntmps 1 [1, 5, 14, 15, 16] b69 (x69 (itRs n v) n lk (y :: ys) ((n : Nat) : Int))).run = _
    rw [r69, k6 (kF (by omega)), k7]; rfl)
 refine ⟨_, _, qq hg, ?_⟩
 rw [st69_x (by intro h0; have := cfL_len lk v n; rw [h0] at this; simp at this; omega)]
 exact hr
theorem e69 (A : Am) (v : PV) : evF prog O69 [(3, l69)] pol69 f39 [qj A, .ptr 0 1 0 0 []] [⟨1, .vals [.agg [.w v]]⟩] qn =
 Tr.br (qh (Pl69 v A.n (fun (j : Nat) => lkPV (A.lk j)) (A.n : Int) (0 : Int))) (.br ((cfF (fun (j : Nat) => lkPV (A.lk j)) v A.n).length.ble (cfF (fun (j : Nat) => lkPV (A.lk j)) v A.n).length) (.ok (.ret (.fr 3 (.rats 64 (List.take (cfF (fun (j : Nat) => lkPV (A.lk j)) v A.n).length (List.drop (0 : Nat) (cfF (fun (j : Nat) => lkPV (A.lk j)) v A.n))))) [{ e := 1, c := Cont.vals [.agg [(itRs A.n v).w]] }])) (.no 15)) (.no 1) := by kernel_rfl
def limX (A : Am) : Bool := (List.range A.n).all fun j => smX (A.lk j).low && smX (A.lk j).high
def P69 (arm v : PV) : Prop := okA arm /\ limX (dArm arm) = true /\ okW v = true
def s69 : Spec := fun args hs K => match args, hs with
 | [.agg [.s nm, .agg [.agg [.q bx w1, .q by_ w2], .agg [hf, .q t w3]], .lst 16 c], .ptr 0 1 0 0 []], [⟨1, .vals [.agg [.w v]]⟩] =>
  .br (qh (P69 (.agg [.s nm, .agg [.agg [.q bx w1, .q by_ w2], .agg [hf, .q t w3]], .lst 16 c]) v)) (K (.fr 3 (.rats 64 (cfF c.get v c.len))) [⟨1, .vals [.agg [.w (itRs c.len v)]]⟩]) (.no 1)
 | _, _ => .no 1
include hG in
theorem ok69 : qc prog G 39 s69 := by
 intro args hs K x h
 unfold s69 at h
 split at h
 case h_2 => cases h
 rename_i nm bx w1 by_ w2 hf t w3 c v
 obtain ⟨hc, hr⟩ := k8 h
 obtain ⟨⟨hv, hA⟩, hx, hw⟩ := decP_iff.1 hc
 generalize hA' : dArm (.agg [.s nm, .agg [.agg [.q bx w1, .q by_ w2], .agg [hf, .q t w3]], .lst 16 c]) = A at *
 have ek : cfF c.get v c.len = cfF (fun j => lkPV (A.lk j)) v A.n := by rw [<- hA']; rfl
 have en : c.len = A.n := by rw [<- hA']; rfl
 obtain ⟨h1, h2, h3, h4, h5, h6, h7⟩ := armB_c hA
 have hlim : ∀ j, j < A.n -> smX (A.lk j).low = true /\ smX (A.lk j).high = true := by
  intro j hj
  have := List.all_eq_true.1 hx j (List.mem_range.2 hj)
  rwa [kA] at this
 rw [ek, en] at hr
 refine ⟨_, _, PC.args (.cons hv (.refl _)) (ql hG (orc69 hG) mix enter69 (L := [(3, l69)]) (pol := pol69) (O := O69) (lps1 (b := b69) (live := [1, 5, 14, 15, 16]) (sp := l69) (m := 1) (by kernel_rfl) (by kernel_rfl) (by kernel_rfl) (loop69 hG)) ?_), hr⟩
 rw [e69, k5 (decP_iff.2 ⟨A.lk, rfl, rfl, rfl, h5, h6, hw, hlim⟩), k5 (by rw [kG]; omega), k7, List.drop_zero, List.take_length]
def pol33 : Pol := { wr := [(39, [1])], own := [9] }
theorem enter33 : Enters prog 10 f10 (qd f10) := ⟨func10, by kernel_rfl, rfl⟩
def s33 : Spec := fun args hs K => match args, hs with
 | [.agg [.s nm, .agg [.agg [.q bx w1, .q by_ w2], .agg [.bl hf, .q t w3]], .lst 16 c], .w v], [] =>
  .br (qh (P69 (.agg [.s nm, .agg [.agg [.q bx w1, .q by_ w2], .agg [.bl hf, .q t w3]], .lst 16 c]) v)) (K (.fr 3 (.rats 64 (cfF c.get v c.len))) []) (.no 1)
 | _, _ => .no 1
theorem e33 (nm : ByteArray) (bx by_ t : Rat) (w1 w2 w3 : Nat) (hf : Bool) (c : Cont) (v : PV) : evF prog [(39, s69)] [] pol33 f10 [.agg [.s nm, .agg [.agg [.q bx w1, .q by_ w2], .agg [.bl hf, .q t w3]], .lst 16 c], .w v] [] qn =
 Tr.br (qh (P69 (.agg [.s nm, .agg [.agg [.q bx w1, .q by_ w2], .agg [.bl hf, .q t w3]], .lst 16 c]) v)) (.br ((cfF c.get v (match c with | Cont.ints k xs => xs.length | Cont.rats n xs => xs.length | Cont.vals vs => vs.length | Cont.fn n f => n)).length.ble (cfF c.get v (match c with | Cont.ints k xs => xs.length | Cont.rats n xs => xs.length | Cont.vals vs => vs.length | Cont.fn n f => n)).length) (.ok (.ret (.fr 3 (.rats 64 (List.take (Cont.rats (64 : Nat) (cfF c.get v c.len)).len (List.drop (0 : Nat) (cfF c.get v c.len))))) [])) (.no 15)) (.no 1) := by kernel_rfl
include hG in
theorem ok33 : qc prog G 10 s33 := by
 refine qo hG (.cons (ok69 hG) .nil) mix enter33 (L := []) (pol := pol33) fun args hs K x h => ?_
 unfold s33 at h
 split at h
 case h_2 => cases h
 rename_i nm bx w1 by_ w2 hf t w3 c v
 obtain ⟨hc, hr⟩ := k8 h
 refine ⟨k9 (by kernel_rfl), _, _, _, ?_, .refl _, hr⟩
 rw [e33, k5 hc, k5 (by rw [kG]; exact Nat.le_refl _), k7, List.drop_zero]
 show some (Res.ret (.fr 3 (.rats 64 (List.take (cfF c.get v c.len).length (cfF c.get v c.len)))) []) = _
 rw [List.take_length]
theorem enter84 : Enters prog 31 f31 (qd f31) := ⟨func31, by kernel_rfl, rfl⟩
def s84 : Spec := evF prog [(30, s23)] [] {} f31
include hG in
theorem ok84 : qc prog G 31 s84 := spec_ev hG (.cons (ok23 hG) .nil) mix enter84 (fun _ => k9 (by kernel_rfl))
def b32 : Code := (qi (qd f29)).getD 0 .skip
def pol32 : Pol := { live := [(3, [2, 3, 11, 12, 13])] }
def O32 : Orc := [(30, s23), (31, s84)]
theorem enter32 : Enters prog 29 f29 (qd f29) := ⟨func29, by kernel_rfl, rfl⟩
def l32 : qw := unr prog O32 [] pol32 f29.ntmps 0 [2, 3, 11, 12, 13] b32 3
def smC (L : Int) : Cont := .vals [.agg [.q (mkRat 0 1) 64, .q (mkRat (-1) 1) 64], .agg [.q (mkRat L 1) 64, .q (mkRat (-1) 1) 64], .agg [.q (mkRat L 1) 64, .q (mkRat 1 1) 64], .agg [.q (mkRat 0 1) 64, .q (mkRat 1 1) 64]]
def smV (L : Int) : PV := lkC (mkRat L 1) (mkRat (-2) 1) (mkRat 2 1) (mkRat 1 4) (mkRat 1 10) (smC L)
def smL (L : Int) : Lk := ⟨mkRat L 1, mkRat (-2) 1, mkRat 2 1, mkRat 1 4, mkRat 1 10, 4, fun i => dq (fldV ((smC L).get i) 0), fun i => dq (fldV ((smC L).get i) 1)⟩
theorem smV_le (L : Int) : VLe (smV L) (lkPV (smL L)) := by
 refine VLe.agg (VLeL.cons (.refl _) (VLeL.cons (.refl _) (VLeL.cons (.refl _) (VLeL.cons (.refl _) (VLeL.cons (.refl _) (VLeL.cons ?_ .nil))))))
 refine VLe.lst rfl fun i hi => ?_
 have hi' : i < 4 := hi
 match i, hi' with
 | 0, _ => exact .refl _
 | 1, _ => exact .refl _
 | 2, _ => exact .refl _
 | 3, _ => exact .refl _
 | i + 4, h => omega
def OV : Orc := [(52, g21), (57, g27), (55, g29), (53, g43), (16, g133), (17, g134)]
theorem enter57 : Enters prog 112 f112 (qd f112) := ⟨func112, by kernel_rfl, rfl⟩
theorem enter121 : Enters prog 113 f113 (qd f113) := ⟨func113, by kernel_rfl, rfl⟩
theorem enter92 : Enters prog 84 f84 (qd f84) := ⟨func84, by kernel_rfl, rfl⟩
theorem enter51 : Enters prog 51 f51 (qd f51) := ⟨func51, by kernel_rfl, rfl⟩
include hG in
theorem orcV (hT : qu G) : OrcOK prog G OV := .cons (gk21 hG hT) (.cons (gk27 hG hT) (.cons (gk29 hG hT) (.cons (gk43 hG hT) (.cons (gk133 hG hT) (.cons (gk134 hG hT) .nil)))))
def g57 : Spec := evF prog OV [] {} f112
def g41 : Spec := evF prog OV [] {} f63
def g97 : Spec := evF prog OV [] {} f62
include hG in
theorem gk57 (hT : qu G) : qc prog G 112 g57 := spec_ev hG (orcV hG hT) mix enter57 (fun _ => k9 (by kernel_rfl))
include hG in
theorem gk41 (hT : qu G) : qc prog G 63 g41 := spec_ev hG (orcV hG hT) mix enter41 (fun _ => k9 (by kernel_rfl))
include hG in
theorem gk97 (hT : qu G) : qc prog G 62 g97 := spec_ev hG (orcV hG hT) mix enter97 (fun _ => k9 (by kernel_rfl))
theorem k121 (x y t : Rat) (h : Bool) (n m k : Nat) : evF prog OV [] {} f113 [.agg [.q x n, .q y m], .agg [.b h, .q t k]] [] qn =
 Tr.br (k.ble 100000 && Nat.ble 1 k) (.br (k.ble 100000 && Nat.ble 1 k) (.br ((n + ((4 : Nat) * k + 4)).ble 800000) (.br ((m + ((4 : Nat) * k + 4)).ble 800000) (.br ((n + ((4 : Nat) * k + 4) + (m + ((4 : Nat) * k + 4)) + 1).ble 800000) (.br ((n + ((4 : Nat) * k + 4)).ble 800000) (.br ((m + ((4 : Nat) * k + 4)).ble 800000) (.br ((n + ((4 : Nat) * k + 4) + (m + ((4 : Nat) * k + 4)) + 1).ble 800000) (.ok (.ret (.agg [.q (x * cosR h t - y * sinR h t) (n + ((4 : Nat) * k + 4) + (m + ((4 : Nat) * k + 4)) + 1), .q (x * sinR h t + y * cosR h t) (n + ((4 : Nat) * k + 4) + (m + ((4 : Nat) * k + 4)) + 1)]) [])) (.no 1)) (.no 1)) (.no 1)) (.no 1)) (.no 1)) (.no 1)) (.no 1)) (.no 1) := by kernel_rfl
def g121 : Spec := fun args hs K => match args, hs with
 | [.agg [.q x n, .q y m], .agg [hv, .q t k]], [] => match bof hv with
  | some h => .br (Nat.ble (n + m + 8 * k + 9) 800000 && Nat.ble 1 k) (K (.agg [.q (x * cosR h t - y * sinR h t) (n + m + 8 * k + 9), .q (x * sinR h t + y * cosR h t) (n + m + 8 * k + 9)]) []) (.no 1)
  | none => .no 1
 | _, _ => .no 1
theorem vc_rle {x y u v : Rat} {n m p r : Nat} (h1 : x = u) (h2 : y = v) (h3 : n <= p) (h4 : m <= r) : RLe (.agg [.q x n, .q y m]) (.agg [.q u p, .q v r]) := by
 subst h1; subst h2
 exact rle_of_vle (fun _ => rfl) (fun _ => rfl) (VLe.agg (vllc (vle_qm h3) (vllc (vle_qm h4) vll0)))
include hG in
theorem gk121 (hT : qu G) : qc prog G 113 g121 := by
 intro args hs K x h
 unfold g121 at h
 split at h
 case h_2 => cases h
 rename_i x n y m hv t k
 split at h
 case h_2 => cases h
 rename_i b hb
 obtain ⟨hc, hr⟩ := k8 h
 simp only [kA, kG] at hc
 have key : ∃ r, (evF prog OV [] {} f113 [.agg [.q x n, .q y m], .agg [.b b, .q t k]] [] qn).run = some (.ret r []) /\ RLe r (.agg [.q (x * cosR b t - y * sinR b t) (n + m + 8 * k + 9), .q (x * sinR b t + y * cosR b t) (n + m + 8 * k + 9)]) := by
  rw [k121]
  repeat rw [k5 (by simp only [kA, kG]; omega)]
  exact ⟨_, rfl, vc_rle rfl rfl (by omega) (by omega)⟩
 obtain ⟨r, k1, k2⟩ := key
 exact ⟨_, _, PC.args (.cons (.refl _) (.cons (tn_le hb rfl (Nat.le_refl _)) .nil)) ((ql hG (orcV hG hT) mix enter121 (L := []) (pol := {}) (k9 (by kernel_rfl)) k1).le k2 (.refl _)), hr⟩
def O92 : Orc := [(112, g57), (113, g121)]
theorem k92 (x y t u v : Rat) (h : Bool) (n m k p r : Nat) : evF prog O92 [] {} f84 [.agg [.agg [.q x n, .q y m], .agg [.b h, .q t k]], .agg [.q u p, .q v r]] [] qn =
 Tr.br ((p + r + 8 * k + 9).ble 800000 && Nat.ble 1 k) (.br ((n + (p + r + 8 * k + 9) + 1).ble 800000) (.br ((m + (p + r + 8 * k + 9) + 1).ble 800000) (.ok (.ret (.agg [.q (x + (u * cosR h t - v * sinR h t)) (n + (p + r + 8 * k + 9) + 1), .q (y + (u * sinR h t + v * cosR h t)) (m + (p + r + 8 * k + 9) + 1)]) [])) (.no 1)) (.no 1)) (.no 1) := by kernel_rfl
def g92 : Spec := fun args hs K => match args, hs with
 | [.agg [.agg [.q x n, .q y m], .agg [hv, .q t k]], .agg [.q u p, .q v r]], [] => match bof hv with
  | some h => match r with
   | 1 => match p with
    | 1 => .br (qh (u = 0 /\ v = 0 /\ n + 8 * k + 20 <= 800000 /\ m + 8 * k + 20 <= 800000)) (K (.agg [.q x n, .q y m]) []) (.no 1)
    | p => .br (qh (v = 0 /\ n + p + 8 * k + 20 <= 800000 /\ m + p + 8 * k + 20 <= 800000 /\ 1 <= k)) (K (.agg [.q (x + u * cosR h t) (n + p + 8 * k + 11), .q (y + u * sinR h t) (m + p + 8 * k + 11)]) []) (.no 1)
   | r => .br (Nat.ble (n + p + r + 8 * k + 20) 800000 && Nat.ble (m + p + r + 8 * k + 20) 800000 && Nat.ble 1 k) (K (.agg [.q (x + (u * cosR h t - v * sinR h t)) (n + p + r + 8 * k + 10), .q (y + (u * sinR h t + v * cosR h t)) (m + p + r + 8 * k + 10)]) []) (.no 1)
  | none => .no 1
 | _, _ => .no 1
include hG in
theorem orc92 (hT : qu G) : OrcOK prog G O92 := .cons (gk57 hG hT) (.cons (gk121 hG hT) .nil)
theorem put_key (x y t u v : Rat) (h : Bool) (n m k p r : Nat) (h1 : n + p + r + 8 * k + 10 <= 800000) (h2 : m + p + r + 8 * k + 10 <= 800000) (h3 : 1 <= k) : ∃ z, (evF prog O92 [] {} f84 [.agg [.agg [.q x n, .q y m], .agg [.b h, .q t k]], .agg [.q u p, .q v r]] [] qn).run = some (.ret z []) /\
  RLe z (.agg [.q (x + (u * cosR h t - v * sinR h t)) (n + p + r + 8 * k + 10), .q (y + (u * sinR h t + v * cosR h t)) (m + p + r + 8 * k + 10)]) := by
 rw [k92]
 repeat rw [k5 (by simp only [kA, kG]; omega)]
 exact ⟨_, rfl, vc_rle rfl rfl (by omega) (by omega)⟩
theorem put_sz {x y : Rat} {n m k : Nat} {t : Rat} {hv : PV} {b : PV} (w : World) (S : Nat -> Prop) (μ : Mu) (vs : List Value) (h : RepVL w S μ [.agg [.agg [.q x n, .q y m], .agg [hv, .q t k]], b] vs) : sz x <= n /\ sz y <= m /\ sz t <= k := by
 cases h with
 | cons _ _ _ _ _ h _ =>
  obtain ⟨ds, hd⟩ := RepV_agg h (.agg [.q x n, .q y m]) (by simp)
  obtain ⟨es, he⟩ := RepV_agg h (.agg [hv, .q t k]) (by simp)
  cases hd with
  | agg _ _ _ hl =>
   obtain ⟨a, ha⟩ := RepL_get hl (.q x n) (by simp)
   obtain ⟨b, hb⟩ := RepL_get hl (.q y m) (by simp)
   cases he with
   | agg _ _ _ hl2 =>
    obtain ⟨c, hc⟩ := RepL_get hl2 (.q t k) (by simp)
    exact ⟨RepC_q ha, RepC_q hb, RepC_q hc⟩
include hG in
theorem gk92 (hT : qu G) : qc prog G 84 g92 := by
 intro args hs K z h
 unfold g92 at h
 split at h
 case h_2 => cases h
 rename_i x n y m hv t k u p v r
 split at h
 case h_2 => cases h
 rename_i b hb
 have hargs : ArgsLe [.agg [.agg [.q x n, .q y m], .agg [hv, .q t k]], .agg [.q u p, .q v r]] [.agg [.agg [.q x n, .q y m], .agg [.b b, .q t k]], .agg [.q u p, .q v r]] := .cons (VLe.agg (vllc (.refl _) (vllc (tn_le hb rfl (Nat.le_refl _)) vll0))) (.cons (.refl _) .nil)
 split at h
 ·split at h
  ·obtain ⟨hc, hr⟩ := k8 h
   obtain ⟨rfl, rfl, h1, h2⟩ := decP_iff.1 hc
   refine ⟨_, _, ?_, hr⟩
   refine PC.args hargs (pc_assume _ put_sz fun hq => ?_)
   obtain ⟨r, k1, k2⟩ := put_key x y t 0 0 b n m k 1 1 (by omega) (by omega) (sz_lt hq.2.2).2.2
   refine ((ql hG (orc92 hG hT) mix enter92 (L := []) (pol := {}) (k9 (by kernel_rfl)) k1).le k2 (.refl _)).le ?_ (.refl _)
   rw [show x + (0 * cosR b t - 0 * sinR b t) = x by grind, show y + (0 * sinR b t + 0 * cosR b t) = y by grind]
   exact rle_of_vle (fun _ => rfl) (fun _ => rfl) (VLe.agg (vllc (vle_qq hq.1) (vllc (vle_qq hq.2.1) vll0)))
  ·obtain ⟨hc, hr⟩ := k8 h
   obtain ⟨rfl, h1, h2, h3⟩ := decP_iff.1 hc
   obtain ⟨r, k1, k2⟩ := put_key x y t u 0 b n m k p 1 (by omega) (by omega) h3
   refine ⟨_, _, PC.args hargs (((ql hG (orc92 hG hT) mix enter92 (L := []) (pol := {}) (k9 (by kernel_rfl)) k1).le k2 (.refl _)).le (vc_rle ?_ ?_ (by omega) (by omega)) (.refl _)), hr⟩
   ·grind
   ·grind
 ·obtain ⟨hc, hr⟩ := k8 h
  simp only [kA, kG] at hc
  obtain ⟨r, k1, k2⟩ := put_key x y t u v b n m k p r (by omega) (by omega) hc.2
  exact ⟨_, _, PC.args hargs ((ql hG (orc92 hG hT) mix enter92 (L := []) (pol := {}) (k9 (by kernel_rfl)) k1).le k2 (.refl _)), hr⟩
def O51 : Orc := [(84, g92), (85, g93)]
def g51 : Spec := evF prog O51 [] {} f51
include hG in
theorem gk51 (hT : qu G) : qc prog G 51 g51 := spec_ev hG (.cons (gk92 hG hT) (.cons (gk93 hG hT) .nil)) mix enter51 (fun _ => k9 (by kernel_rfl))
theorem enter39 : Enters prog 13 f13 (qd f13) := ⟨func13, by kernel_rfl, rfl⟩
end
section
open Go Tryz
set_option maxRecDepth 100000
variable {G : World -> (Nat -> Prop) -> Prop} (hG : GOk G)
def b39 : Code := (qi (qd f13)).getD 0 .skip
def pol39 : Pol := { live := [(9, [1, 7, 8, 9, 10, 29, 30, 31])] }
def O39 : Orc := [(50, g50), (51, g51), (49, g71), (40, s85)]
structure Fr where
 x : Rat
 y : Rat
 h : Bool
 t : Rat
def frP (f : Fr) (a b : Nat) : PV := .agg [.agg [.q f.x a, .q f.y a], .agg [.b f.h, .q f.t b]]
def n39 (qs : List Rat) (n : Nat) (lk : Nat -> Lk) (x y t : Rat) (i : Int) : LS := ⟨[.lst 3 (.rats 64 qs), .ptr 0 10 0 0 [], .ptr 1 6 0 0 [], .ptr 2 4 0 0 [], .nil, .lst 16 (.fn n (fun j => lkPV (lk j))), .i .i64 n, .i .i64 i],
 [some ⟨10, .vals [.agg [.agg [.q x 64, .q y 64], .agg [.bl false, .q t 64]]]⟩, some ⟨6, .vals [.agg [.q ((0 : Int) : Rat) 1, .q ((0 : Int) : Rat) 1]]⟩, some ⟨4, .vals [.agg [.bl false, .q ((0 : Int) : Rat) 1]]⟩]⟩
def x39 (qs : List Rat) (n : Nat) (lk : Nat -> Lk) (ys : List PV) (l : Nat) (x y : Rat) (h : Bool) (t : Rat) (a b : Nat) (i : Int) : LS := ⟨[.lst 3 (.rats 64 qs), .ptr 0 10 0 0 [], .ptr 1 6 0 0 [], .ptr 2 4 0 0 [], .sl 3 10 0 l, .lst 16 (.fn n (fun j => lkPV (lk j))), .i .i64 n, .i .i64 i],
 [some ⟨10, .vals [.agg [.agg [.q x a, .q y a], .agg [.b h, .q t b]]]⟩, some ⟨6, .vals [.agg [.q ((0 : Int) : Rat) 1, .q ((0 : Int) : Rat) 1]]⟩, some ⟨4, .vals [.agg [.bl false, .q ((0 : Int) : Rat) 1]]⟩, some ⟨10, .vals ys⟩]⟩
theorem t39n (qs : List Rat) (n : Nat) (lk : Nat -> Lk) (x y t : Rat) (i : Int) : qe prog O39 [] pol39 f13.ntmps 0 [1, 7, 8, 9, 10, 29, 30, 31] b39 (n39 qs n lk x y t i) =
 Tr.br (decide (i < (n : Int))) (.br (ix (i) ((n : Int))) (.br (ix (i) ((qs.length : Int))) (.br (Nat.ble 64 (400000 : Nat)) (.br (qh ((↑(0 : Int) : Rat) = 0 /\ (↑(0 : Int) : Rat) = 0 /\ (64 : Nat) + 8 * 64 + 20 <= 800000 /\ (64 : Nat) + 8 * 64 + 20 <= 800000)) (.br (Nat.ble 64 (50000 : Nat) && Nat.ble 1 (64 : Nat) && Nat.ble 64 (50000 : Nat) && Nat.ble 1 (64 : Nat)) (.br (Nat.blt (0 : Nat) [PV.agg [PV.agg [PV.q x 64, PV.q y 64], PV.agg [PV.b (thH false t false (qs.getD i.toNat 0)), PV.q (thT false t false (qs.getD i.toNat 0)) 259]]].length && [PV.agg [PV.agg [PV.q x 64, PV.q y 64], PV.agg [PV.b (thH false t false (qs.getD i.toNat 0)), PV.q (thT false t false (qs.getD i.toNat 0)) 259]]].length.ble 4294967296) (.br (decide ((-72057594037927936 : Int) < 0) && decide ((0 : Int) <= 9223372036854775807)) (.br (qh ((↑(0 : Int) : Rat) = 0 /\ (64 : Nat) + 64 + 8 * ((2 : Nat) * 64 + 2 * 64 + 3) + 20 <= 800000 /\ (64 : Nat) + 64 + 8 * ((2 : Nat) * 64 + 2 * 64 + 3) + 20 <= 800000 /\ (1 : Nat) <= 2 * 64 + 2 * 64 + 3)) (.br (qh (false = false /\ (↑(0 : Int) : Rat) = 0 /\ (2 : Nat) * 64 + 2 * 64 + 3 <= 50000)) (.br (ib (i + 1)) (.ok (.out .normal (LS.mk [PV.lst 3 (.rats 64 qs), PV.ptr 0 10 0 0 [], PV.ptr 1 6 0 0 [], PV.ptr 2 4 0 0 [], PV.sl 3 10 0 1, PV.lst 16 (.fn n fun (j : Nat) => PV.agg [PV.q (lk j).len 64, PV.q (lk j).low 64, PV.q (lk j).high 64, PV.q (lk j).spd 64, PV.q (lk j).brk 64, PV.lst 6 (.fn (lk j).np fun (a : Nat) => PV.agg [PV.q ((lk j).px a) 64, PV.q ((lk j).py a) 64])]), PV.i .i64 (n : Int), PV.i .i64 (i + 1)] [some (.mk 10 (.vals [PV.agg [PV.agg [PV.q (x + (lk i.toNat).len * cosR (thH false t false (qs.getD i.toNat 0)) (thT false t false (qs.getD i.toNat 0))) 2211, PV.q (y + (lk i.toNat).len * sinR (thH false t false (qs.getD i.toNat 0)) (thT false t false (qs.getD i.toNat 0))) 2211], PV.agg [PV.b (thH false t false (qs.getD i.toNat 0)), PV.q (ftT (thH false t false (qs.getD i.toNat 0)) (thT false t false (qs.getD i.toNat 0))) 259]]])), some (.mk 6 (.vals [PV.agg [PV.q (↑(0 : Int) : Rat) 1, PV.q (↑(0 : Int) : Rat) 1]])), some (.mk 4 (.vals [PV.agg [PV.bl false, PV.q (↑(0 : Int) : Rat) 1]])), some (.mk 10 (.vals [PV.agg [PV.agg [PV.q x 64, PV.q y 64], PV.agg [PV.b (thH false t false (qs.getD i.toNat 0)), PV.q (thT false t false (qs.getD i.toNat 0)) 259]]]))]))) (.no 15002)) (.no 1)) (.no 1)) (.no 1)) (.no 13002)) (.no 1)) (.no 1)) (.no 1)) (.no 12007)) (.no 11005)) (.ok (.out (.exit 0) (LS.mk [PV.lst 3 (.rats 64 qs), PV.ptr 0 10 0 0 [], PV.ptr 1 6 0 0 [], PV.ptr 2 4 0 0 [], PV.nil, PV.lst 16 (.fn n fun (j : Nat) => PV.agg [PV.q (lk j).len 64, PV.q (lk j).low 64, PV.q (lk j).high 64, PV.q (lk j).spd 64, PV.q (lk j).brk 64, PV.lst 6 (.fn (lk j).np fun (a : Nat) => PV.agg [PV.q ((lk j).px a) 64, PV.q ((lk j).py a) 64])]), PV.i .i64 (n : Int), PV.i .i64 i] [some (.mk 10 (.vals [PV.agg [PV.agg [PV.q x 64, PV.q y 64], PV.agg [PV.bl false, PV.q t 64]]])), some (.mk 6 (.vals [PV.agg [PV.q (↑(0 : Int) : Rat) 1, PV.q (↑(0 : Int) : Rat) 1]])), some (.mk 4 (.vals [PV.agg [PV.bl false, PV.q (↑(0 : Int) : Rat) 1]]))]))) := by kernel_rfl
theorem t39a (qs : List Rat) (n : Nat) (lk : Nat -> Lk) (f0 : Fr) (x y : Rat) (h : Bool) (t : Rat) (i : Int) : qe prog O39 [] pol39 f13.ntmps 0 [1, 7, 8, 9, 10, 29, 30, 31] b39 (x39 qs n lk [frP f0 64 259] 1 x y h t 2211 259 i) =
 Tr.br (decide (i < (n : Int))) (.br (ix (i) ((n : Int))) (.br (ix (i) ((qs.length : Int))) (.br (Nat.ble 64 (400000 : Nat)) (.br (qh ((↑(0 : Int) : Rat) = 0 /\ (↑(0 : Int) : Rat) = 0 /\ (2211 : Nat) + 8 * 259 + 20 <= 800000 /\ (2211 : Nat) + 8 * 259 + 20 <= 800000)) (.br (Nat.ble 259 (50000 : Nat) && Nat.ble 1 (259 : Nat) && Nat.ble 64 (50000 : Nat) && Nat.ble 1 (64 : Nat)) (.br (((1 : Nat) + [PE.PV.agg [PV.agg [PV.q x 2211, PV.q y 2211], PV.agg [PV.b (thH h t false (qs.getD i.toNat 0)), PV.q (thT h t false (qs.getD i.toNat 0)) 649]]].length).ble 4294967296) (.br (decide ((-72057594037927936 : Int) < 0) && decide ((0 : Int) <= 9223372036854775807)) (.br (qh ((↑(0 : Int) : Rat) = 0 /\ (2211 : Nat) + 64 + 8 * ((2 : Nat) * 259 + 2 * 64 + 3) + 20 <= 800000 /\ (2211 : Nat) + 64 + 8 * ((2 : Nat) * 259 + 2 * 64 + 3) + 20 <= 800000 /\ (1 : Nat) <= 2 * 259 + 2 * 64 + 3)) (.br (qh (false = false /\ (↑(0 : Int) : Rat) = 0 /\ (2 : Nat) * 259 + 2 * 64 + 3 <= 50000)) (.br (ib (i + 1)) (.ok (.out .normal (LS.mk [PV.lst 3 (.rats 64 qs), PV.ptr 0 10 0 0 [], PV.ptr 1 6 0 0 [], PV.ptr 2 4 0 0 [], PV.sl 3 10 0 2, PV.lst 16 (.fn n fun (j : Nat) => PV.agg [PV.q (lk j).len 64, PV.q (lk j).low 64, PV.q (lk j).high 64, PV.q (lk j).spd 64, PV.q (lk j).brk 64, PV.lst 6 (.fn (lk j).np fun (a : Nat) => PV.agg [PV.q ((lk j).px a) 64, PV.q ((lk j).py a) 64])]), PV.i .i64 (n : Int), PV.i .i64 (i + 1)] [some (.mk 10 (.vals [PV.agg [PV.agg [PV.q (x + (lk i.toNat).len * cosR (thH h t false (qs.getD i.toNat 0)) (thT h t false (qs.getD i.toNat 0))) 7478, PV.q (y + (lk i.toNat).len * sinR (thH h t false (qs.getD i.toNat 0)) (thT h t false (qs.getD i.toNat 0))) 7478], PV.agg [PV.b (thH h t false (qs.getD i.toNat 0)), PV.q (ftT (thH h t false (qs.getD i.toNat 0)) (thT h t false (qs.getD i.toNat 0))) 649]]])), some (.mk 6 (.vals [PV.agg [PV.q (↑(0 : Int) : Rat) 1, PV.q (↑(0 : Int) : Rat) 1]])), some (.mk 4 (.vals [PV.agg [PV.bl false, PV.q (↑(0 : Int) : Rat) 1]])), some (.mk 10 (.vals [frP f0 64 259, PV.agg [PV.agg [PV.q x 2211, PV.q y 2211], PV.agg [PV.b (thH h t false (qs.getD i.toNat 0)), PV.q (thT h t false (qs.getD i.toNat 0)) 649]]]))]))) (.no 15002)) (.no 1)) (.no 1)) (.no 1)) (.no 13002)) (.no 1)) (.no 1)) (.no 1)) (.no 12007)) (.no 11005)) (.ok (.out (.exit 0) (LS.mk [PV.lst 3 (.rats 64 qs), PV.ptr 0 10 0 0 [], PV.ptr 1 6 0 0 [], PV.ptr 2 4 0 0 [], PV.sl 3 10 0 1, PV.lst 16 (.fn n fun (j : Nat) => PV.agg [PV.q (lk j).len 64, PV.q (lk j).low 64, PV.q (lk j).high 64, PV.q (lk j).spd 64, PV.q (lk j).brk 64, PV.lst 6 (.fn (lk j).np fun (a : Nat) => PV.agg [PV.q ((lk j).px a) 64, PV.q ((lk j).py a) 64])]), PV.i .i64 (n : Int), PV.i .i64 i] [some (.mk 10 (.vals [PV.agg [PV.agg [PV.q x 2211, PV.q y 2211], PV.agg [PV.b h, PV.q t 259]]])), some (.mk 6 (.vals [PV.agg [PV.q (↑(0 : Int) : Rat) 1, PV.q (↑(0 : Int) : Rat) 1]])), some (.mk 4 (.vals [PV.agg [PV.bl false, PV.q (↑(0 : Int) : Rat) 1]])), some (.mk 10 (.vals [frP f0 64 259]))]))) := by kernel_rfl
theorem t39b (qs : List Rat) (n : Nat) (lk : Nat -> Lk) (f0 f1 : Fr) (x y : Rat) (h : Bool) (t : Rat) (i : Int) : qe prog O39 [] pol39 f13.ntmps 0 [1, 7, 8, 9, 10, 29, 30, 31] b39 (x39 qs n lk [frP f0 64 259, frP f1 2211 649] 2 x y h t 7478 649 i) =
 Tr.br (decide (i < (n : Int))) (.br (ix (i) ((n : Int))) (.br (ix (i) ((qs.length : Int))) (.br (Nat.ble 64 (400000 : Nat)) (.br (qh ((↑(0 : Int) : Rat) = 0 /\ (↑(0 : Int) : Rat) = 0 /\ (7478 : Nat) + 8 * 649 + 20 <= 800000 /\ (7478 : Nat) + 8 * 649 + 20 <= 800000)) (.br (Nat.ble 649 (50000 : Nat) && Nat.ble 1 (649 : Nat) && Nat.ble 64 (50000 : Nat) && Nat.ble 1 (64 : Nat)) (.br (((2 : Nat) + [PE.PV.agg [PV.agg [PV.q x 7478, PV.q y 7478], PV.agg [PV.b (thH h t false (qs.getD i.toNat 0)), PV.q (thT h t false (qs.getD i.toNat 0)) 1429]]].length).ble 4294967296) (.br (decide ((-72057594037927936 : Int) < 0) && decide ((0 : Int) <= 9223372036854775807)) (.br (qh ((↑(0 : Int) : Rat) = 0 /\ (7478 : Nat) + 64 + 8 * ((2 : Nat) * 649 + 2 * 64 + 3) + 20 <= 800000 /\ (7478 : Nat) + 64 + 8 * ((2 : Nat) * 649 + 2 * 64 + 3) + 20 <= 800000 /\ (1 : Nat) <= 2 * 649 + 2 * 64 + 3)) (.br (qh (false = false /\ (↑(0 : Int) : Rat) = 0 /\ (2 : Nat) * 649 + 2 * 64 + 3 <= 50000)) (.br (ib (i + 1)) (.ok (.out .normal (LS.mk [PV.lst 3 (.rats 64 qs), PV.ptr 0 10 0 0 [], PV.ptr 1 6 0 0 [], PV.ptr 2 4 0 0 [], PV.sl 3 10 0 3, PV.lst 16 (.fn n fun (j : Nat) => PV.agg [PV.q (lk j).len 64, PV.q (lk j).low 64, PV.q (lk j).high 64, PV.q (lk j).spd 64, PV.q (lk j).brk 64, PV.lst 6 (.fn (lk j).np fun (a : Nat) => PV.agg [PV.q ((lk j).px a) 64, PV.q ((lk j).py a) 64])]), PV.i .i64 (n : Int), PV.i .i64 (i + 1)] [some (.mk 10 (.vals [PV.agg [PV.agg [PV.q (x + (lk i.toNat).len * cosR (thH h t false (qs.getD i.toNat 0)) (thT h t false (qs.getD i.toNat 0))) 18985, PV.q (y + (lk i.toNat).len * sinR (thH h t false (qs.getD i.toNat 0)) (thT h t false (qs.getD i.toNat 0))) 18985], PV.agg [PV.b (thH h t false (qs.getD i.toNat 0)), PV.q (ftT (thH h t false (qs.getD i.toNat 0)) (thT h t false (qs.getD i.toNat 0))) 1429]]])), some (.mk 6 (.vals [PV.agg [PV.q (↑(0 : Int) : Rat) 1, PV.q (↑(0 : Int) : Rat) 1]])), some (.mk 4 (.vals [PV.agg [PV.bl false, PV.q (↑(0 : Int) : Rat) 1]])), some (.mk 10 (.vals [frP f0 64 259, frP f1 2211 649, PV.agg [PV.agg [PV.q x 7478, PV.q y 7478], PV.agg [PV.b (thH h t false (qs.getD i.toNat 0)), PV.q (thT h t false (qs.getD i.toNat 0)) 1429]]]))]))) (.no 15002)) (.no 1)) (.no 1)) (.no 1)) (.no 13002)) (.no 1)) (.no 1)) (.no 1)) (.no 12007)) (.no 11005)) (.ok (.out (.exit 0) (LS.mk [PV.lst 3 (.rats 64 qs), PV.ptr 0 10 0 0 [], PV.ptr 1 6 0 0 [], PV.ptr 2 4 0 0 [], PV.sl 3 10 0 2, PV.lst 16 (.fn n fun (j : Nat) => PV.agg [PV.q (lk j).len 64, PV.q (lk j).low 64, PV.q (lk j).high 64, PV.q (lk j).spd 64, PV.q (lk j).brk 64, PV.lst 6 (.fn (lk j).np fun (a : Nat) => PV.agg [PV.q ((lk j).px a) 64, PV.q ((lk j).py a) 64])]), PV.i .i64 (n : Int), PV.i .i64 i] [some (.mk 10 (.vals [PV.agg [PV.agg [PV.q x 7478, PV.q y 7478], PV.agg [PV.b h, PV.q t 649]]])), some (.mk 6 (.vals [PV.agg [PV.q (↑(0 : Int) : Rat) 1, PV.q (↑(0 : Int) : Rat) 1]])), some (.mk 4 (.vals [PV.agg [PV.bl false, PV.q (↑(0 : Int) : Rat) 1]])), some (.mk 10 (.vals [frP f0 64 259, frP f1 2211 649]))]))) := by kernel_rfl
theorem t39c (qs : List Rat) (n : Nat) (lk : Nat -> Lk) (f0 f1 f2 : Fr) (x y : Rat) (h : Bool) (t : Rat) (i : Int) : qe prog O39 [] pol39 f13.ntmps 0 [1, 7, 8, 9, 10, 29, 30, 31] b39 (x39 qs n lk [frP f0 64 259, frP f1 2211 649, frP f2 7478 1429] 3 x y h t 18985 1429 i) =
 Tr.br (decide (i < (n : Int))) (.br (ix (i) ((n : Int))) (.br (ix (i) ((qs.length : Int))) (.br (Nat.ble 64 (400000 : Nat)) (.br (qh ((↑(0 : Int) : Rat) = 0 /\ (↑(0 : Int) : Rat) = 0 /\ (18985 : Nat) + 8 * 1429 + 20 <= 800000 /\ (18985 : Nat) + 8 * 1429 + 20 <= 800000)) (.br (Nat.ble 1429 (50000 : Nat) && Nat.ble 1 (1429 : Nat) && Nat.ble 64 (50000 : Nat) && Nat.ble 1 (64 : Nat)) (.br (((3 : Nat) + [PE.PV.agg [PV.agg [PV.q x 18985, PV.q y 18985], PV.agg [PV.b (thH h t false (qs.getD i.toNat 0)), PV.q (thT h t false (qs.getD i.toNat 0)) 2989]]].length).ble 4294967296) (.br (decide ((-72057594037927936 : Int) < 0) && decide ((0 : Int) <= 9223372036854775807)) (.br (qh ((↑(0 : Int) : Rat) = 0 /\ (18985 : Nat) + 64 + 8 * ((2 : Nat) * 1429 + 2 * 64 + 3) + 20 <= 800000 /\ (18985 : Nat) + 64 + 8 * ((2 : Nat) * 1429 + 2 * 64 + 3) + 20 <= 800000 /\ (1 : Nat) <= 2 * 1429 + 2 * 64 + 3)) (.br (qh (false = false /\ (↑(0 : Int) : Rat) = 0 /\ (2 : Nat) * 1429 + 2 * 64 + 3 <= 50000)) (.br (ib (i + 1)) (.ok (.out .normal (LS.mk [PV.lst 3 (.rats 64 qs), PV.ptr 0 10 0 0 [], PV.ptr 1 6 0 0 [], PV.ptr 2 4 0 0 [], PV.sl 3 10 0 4, PV.lst 16 (.fn n fun (j : Nat) => PV.agg [PV.q (lk j).len 64, PV.q (lk j).low 64, PV.q (lk j).high 64, PV.q (lk j).spd 64, PV.q (lk j).brk 64, PV.lst 6 (.fn (lk j).np fun (a : Nat) => PV.agg [PV.q ((lk j).px a) 64, PV.q ((lk j).py a) 64])]), PV.i .i64 (n : Int), PV.i .i64 (i + 1)] [some (.mk 10 (.vals [PV.agg [PV.agg [PV.q (x + (lk i.toNat).len * cosR (thH h t false (qs.getD i.toNat 0)) (thT h t false (qs.getD i.toNat 0))) 42972, PV.q (y + (lk i.toNat).len * sinR (thH h t false (qs.getD i.toNat 0)) (thT h t false (qs.getD i.toNat 0))) 42972], PV.agg [PV.b (thH h t false (qs.getD i.toNat 0)), PV.q (ftT (thH h t false (qs.getD i.toNat 0)) (thT h t false (qs.getD i.toNat 0))) 2989]]])), some (.mk 6 (.vals [PV.agg [PV.q (↑(0 : Int) : Rat) 1, PV.q (↑(0 : Int) : Rat) 1]])), some (.mk 4 (.vals [PV.agg [PV.bl false, PV.q (↑(0 : Int) : Rat) 1]])), some (.mk 10 (.vals [frP f0 64 259, frP f1 2211 649, frP f2 7478 1429, PV.agg [PV.agg [PV.q x 18985, PV.q y 18985], PV.agg [PV.b (thH h t false (qs.getD i.toNat 0)), PV.q (thT h t false (qs.getD i.toNat 0)) 2989]]]))]))) (.no 15002)) (.no 1)) (.no 1)) (.no 1)) (.no 13002)) (.no 1)) (.no 1)) (.no 1)) (.no 12007)) (.no 11005)) (.ok (.out (.exit 0) (LS.mk [PV.lst 3 (.rats 64 qs), PV.ptr 0 10 0 0 [], PV.ptr 1 6 0 0 [], PV.ptr 2 4 0 0 [], PV.sl 3 10 0 3, PV.lst 16 (.fn n fun (j : Nat) => PV.agg [PV.q (lk j).len 64, PV.q (lk j).low 64, PV.q (lk j).high 64, PV.q (lk j).spd 64, PV.q (lk j).brk 64, PV.lst 6 (.fn (lk j).np fun (a : Nat) => PV.agg [PV.q ((lk j).px a) 64, PV.q ((lk j).py a) 64])]), PV.i .i64 (n : Int), PV.i .i64 i] [some (.mk 10 (.vals [PV.agg [PV.agg [PV.q x 18985, PV.q y 18985], PV.agg [PV.b h, PV.q t 1429]]])), some (.mk 6 (.vals [PV.agg [PV.q (↑(0 : Int) : Rat) 1, PV.q (↑(0 : Int) : Rat) 1]])), some (.mk 4 (.vals [PV.agg [PV.bl false, PV.q (↑(0 : Int) : Rat) 1]])), some (.mk 10 (.vals [frP f0 64 259, frP f1 2211 649, frP f2 7478 1429]))]))) := by kernel_rfl
theorem e39a (A : Am) (qs : List Rat) (f0 e : Fr) (i : Int) : evF prog O39 [(9, lcst (n39 qs A.n A.lk A.bx A.by_ A.t 0) (.exit 0) (x39 qs A.n A.lk [frP f0 64 259] 1 e.x e.y e.h e.t 2211 259 i))] pol39 f13 [qj A, .lst 3 (.rats 64 qs)] [] qn =
 Tr.br (qh (P85 [qj A, PV.i .i64 (qs.length : Int)])) (.br (!decide ((0 : Int) = 0)) (.ok (.ret (PV.tup [PV.nil, PV.i .i64 0]) [])) (.br (decide ((-72057594037927936 : Int) < 0) && decide ((0 : Int) <= 9223372036854775807)) (.br (decide ((-72057594037927936 : Int) < 0) && decide ((0 : Int) <= 9223372036854775807)) (.br (decide ((-72057594037927936 : Int) < 0) && decide ((0 : Int) <= 9223372036854775807)) (.br (((Int.natAbs (0 : Int)).log2 + 1).ble 400000) (.br (qh (isLS (LS.mk [PV.lst 3 (.rats 64 qs), PV.ptr 0 10 0 0 [], PV.ptr 1 6 0 0 [], PV.ptr 2 4 0 0 [], PV.nil, PV.lst 16 (.fn A.n fun (j : Nat) => PV.agg [PV.q (A.lk j).len 64, PV.q (A.lk j).low 64, PV.q (A.lk j).high 64, PV.q (A.lk j).spd 64, PV.q (A.lk j).brk 64, PV.lst 6 (.fn (A.lk j).np fun (a : Nat) => PV.agg [PV.q ((A.lk j).px a) 64, PV.q ((A.lk j).py a) 64])]), PV.i .i64 (A.n : Int), PV.i .i64 0] [some (.mk 10 (.vals [PV.agg [PV.agg [PV.q A.bx 64, PV.q A.by_ 64], PV.agg [PV.bl false, PV.q A.t 64]]])), some (.mk 6 (.vals [PV.agg [PV.q (↑(0 : Int) : Rat) 1, PV.q (↑(0 : Int) : Rat) 1]])), some (.mk 4 (.vals [PV.agg [PV.bl false, PV.q (↑(0 : Int) : Rat) 1]]))]) (LS.mk [PV.lst 3 (.rats 64 qs), PV.ptr 0 10 0 0 [], PV.ptr 1 6 0 0 [], PV.ptr 2 4 0 0 [], PV.nil, PV.lst 16 (.fn A.n fun (j : Nat) => PV.agg [PV.q (A.lk j).len 64, PV.q (A.lk j).low 64, PV.q (A.lk j).high 64, PV.q (A.lk j).spd 64, PV.q (A.lk j).brk 64, PV.lst 6 (.fn (A.lk j).np fun (a : Nat) => PV.agg [PV.q ((A.lk j).px a) 64, PV.q ((A.lk j).py a) 64])]), PV.i .i64 (A.n : Int), PV.i .i64 0] [some (.mk 10 (.vals [PV.agg [PV.agg [PV.q A.bx 64, PV.q A.by_ 64], PV.agg [PV.bl false, PV.q A.t 64]]])), some (.mk 6 (.vals [PV.agg [PV.q (↑(0 : Int) : Rat) 1, PV.q (↑(0 : Int) : Rat) 1]])), some (.mk 4 (.vals [PV.agg [PV.bl false, PV.q (↑(0 : Int) : Rat) 1]]))]))) (.br (((1 : Nat) + [frP e 2211 259].length).ble 4294967296) (.ok (.ret (PV.tup [PV.fr 10 (.vals [frP f0 64 259, frP e 2211 259]), PV.i .i64 0]) [])) (.no 16003)) (.no 1)) (.no 1)) (.no 1)) (.no 1)) (.no 1))) (.no 1) := by kernel_rfl
theorem e39b (A : Am) (qs : List Rat) (f0 f1 e : Fr) (i : Int) : evF prog O39 [(9, lcst (n39 qs A.n A.lk A.bx A.by_ A.t 0) (.exit 0) (x39 qs A.n A.lk [frP f0 64 259, frP f1 2211 649] 2 e.x e.y e.h e.t 7478 649 i))] pol39 f13 [qj A, .lst 3 (.rats 64 qs)] [] qn =
 Tr.br (qh (P85 [qj A, PV.i .i64 (qs.length : Int)])) (.br (!decide ((0 : Int) = 0)) (.ok (.ret (PV.tup [PV.nil, PV.i .i64 0]) [])) (.br (decide ((-72057594037927936 : Int) < 0) && decide ((0 : Int) <= 9223372036854775807)) (.br (decide ((-72057594037927936 : Int) < 0) && decide ((0 : Int) <= 9223372036854775807)) (.br (decide ((-72057594037927936 : Int) < 0) && decide ((0 : Int) <= 9223372036854775807)) (.br (((Int.natAbs (0 : Int)).log2 + 1).ble 400000) (.br (qh (isLS (LS.mk [PV.lst 3 (.rats 64 qs), PV.ptr 0 10 0 0 [], PV.ptr 1 6 0 0 [], PV.ptr 2 4 0 0 [], PV.nil, PV.lst 16 (.fn A.n fun (j : Nat) => PV.agg [PV.q (A.lk j).len 64, PV.q (A.lk j).low 64, PV.q (A.lk j).high 64, PV.q (A.lk j).spd 64, PV.q (A.lk j).brk 64, PV.lst 6 (.fn (A.lk j).np fun (a : Nat) => PV.agg [PV.q ((A.lk j).px a) 64, PV.q ((A.lk j).py a) 64])]), PV.i .i64 (A.n : Int), PV.i .i64 0] [some (.mk 10 (.vals [PV.agg [PV.agg [PV.q A.bx 64, PV.q A.by_ 64], PV.agg [PV.bl false, PV.q A.t 64]]])), some (.mk 6 (.vals [PV.agg [PV.q (↑(0 : Int) : Rat) 1, PV.q (↑(0 : Int) : Rat) 1]])), some (.mk 4 (.vals [PV.agg [PV.bl false, PV.q (↑(0 : Int) : Rat) 1]]))]) (LS.mk [PV.lst 3 (.rats 64 qs), PV.ptr 0 10 0 0 [], PV.ptr 1 6 0 0 [], PV.ptr 2 4 0 0 [], PV.nil, PV.lst 16 (.fn A.n fun (j : Nat) => PV.agg [PV.q (A.lk j).len 64, PV.q (A.lk j).low 64, PV.q (A.lk j).high 64, PV.q (A.lk j).spd 64, PV.q (A.lk j).brk 64, PV.lst 6 (.fn (A.lk j).np fun (a : Nat) => PV.agg [PV.q ((A.lk j).px a) 64, PV.q ((A.lk j).py a) 64])]), PV.i .i64 (A.n : Int), PV.i .i64 0] [some (.mk 10 (.vals [PV.agg [PV.agg [PV.q A.bx 64, PV.q A.by_ 64], PV.agg [PV.bl false, PV.q A.t 64]]])), some (.mk 6 (.vals [PV.agg [PV.q (↑(0 : Int) : Rat) 1, PV.q (↑(0 : Int) : Rat) 1]])), some (.mk 4 (.vals [PV.agg [PV.bl false, PV.q (↑(0 : Int) : Rat) 1]]))]))) (.br (((2 : Nat) + [frP e 7478 649].length).ble 4294967296) (.ok (.ret (PV.tup [PV.fr 10 (.vals [frP f0 64 259, frP f1 2211 649, frP e 7478 649]), PV.i .i64 0]) [])) (.no 16003)) (.no 1)) (.no 1)) (.no 1)) (.no 1)) (.no 1))) (.no 1) := by kernel_rfl
theorem e39c (A : Am) (qs : List Rat) (f0 f1 f2 e : Fr) (i : Int) : evF prog O39 [(9, lcst (n39 qs A.n A.lk A.bx A.by_ A.t 0) (.exit 0) (x39 qs A.n A.lk [frP f0 64 259, frP f1 2211 649, frP f2 7478 1429] 3 e.x e.y e.h e.t 18985 1429 i))] pol39 f13 [qj A, .lst 3 (.rats 64 qs)] [] qn =
 Tr.br (qh (P85 [qj A, PV.i .i64 (qs.length : Int)])) (.br (!decide ((0 : Int) = 0)) (.ok (.ret (PV.tup [PV.nil, PV.i .i64 0]) [])) (.br (decide ((-72057594037927936 : Int) < 0) && decide ((0 : Int) <= 9223372036854775807)) (.br (decide ((-72057594037927936 : Int) < 0) && decide ((0 : Int) <= 9223372036854775807)) (.br (decide ((-72057594037927936 : Int) < 0) && decide ((0 : Int) <= 9223372036854775807)) (.br (((Int.natAbs (0 : Int)).log2 + 1).ble 400000) (.br (qh (isLS (LS.mk [PV.lst 3 (.rats 64 qs), PV.ptr 0 10 0 0 [], PV.ptr 1 6 0 0 [], PV.ptr 2 4 0 0 [], PV.nil, PV.lst 16 (.fn A.n fun (j : Nat) => PV.agg [PV.q (A.lk j).len 64, PV.q (A.lk j).low 64, PV.q (A.lk j).high 64, PV.q (A.lk j).spd 64, PV.q (A.lk j).brk 64, PV.lst 6 (.fn (A.lk j).np fun (a : Nat) => PV.agg [PV.q ((A.lk j).px a) 64, PV.q ((A.lk j).py a) 64])]), PV.i .i64 (A.n : Int), PV.i .i64 0] [some (.mk 10 (.vals [PV.agg [PV.agg [PV.q A.bx 64, PV.q A.by_ 64], PV.agg [PV.bl false, PV.q A.t 64]]])), some (.mk 6 (.vals [PV.agg [PV.q (↑(0 : Int) : Rat) 1, PV.q (↑(0 : Int) : Rat) 1]])), some (.mk 4 (.vals [PV.agg [PV.bl false, PV.q (↑(0 : Int) : Rat) 1]]))]) (LS.mk [PV.lst 3 (.rats 64 qs), PV.ptr 0 10 0 0 [], PV.ptr 1 6 0 0 [], PV.ptr 2 4 0 0 [], PV.nil, PV.lst 16 (.fn A.n fun (j : Nat) => PV.agg [PV.q (A.lk j).len 64, PV.q (A.lk j).low 64, PV.q (A.lk j).high 64, PV.q (A.lk j).spd 64, PV.q (A.lk j).brk 64, PV.lst 6 (.fn (A.lk j).np fun (a : Nat) => PV.agg [PV.q ((A.lk j).px a) 64, PV.q ((A.lk j).py a) 64])]), PV.i .i64 (A.n : Int), PV.i .i64 0] [some (.mk 10 (.vals [PV.agg [PV.agg [PV.q A.bx 64, PV.q A.by_ 64], PV.agg [PV.bl false, PV.q A.t 64]]])), some (.mk 6 (.vals [PV.agg [PV.q (↑(0 : Int) : Rat) 1, PV.q (↑(0 : Int) : Rat) 1]])), some (.mk 4 (.vals [PV.agg [PV.bl false, PV.q (↑(0 : Int) : Rat) 1]]))]))) (.br (((3 : Nat) + [frP e 18985 1429].length).ble 4294967296) (.ok (.ret (PV.tup [PV.fr 10 (.vals [frP f0 64 259, frP f1 2211 649, frP f2 7478 1429, frP e 18985 1429]), PV.i .i64 0]) [])) (.no 16003)) (.no 1)) (.no 1)) (.no 1)) (.no 1)) (.no 1))) (.no 1) := by kernel_rfl
def fstep (q : Rat) (E : Fr) : Fr := ⟨E.x, E.y, thH E.h E.t false q, thT E.h E.t false q⟩
def estep (L : Rat) (F : Fr) : Fr := ⟨F.x + L * cosR F.h F.t, F.y + L * sinR F.h F.t, F.h, ftT F.h F.t⟩
def endR (b : Fr) (q L : Nat -> Rat) : Nat -> Fr
 | 0 => b
 | i + 1 => estep (L i) (fstep (q i) (endR b q L i))
def frmF (b : Fr) (q L : Nat -> Rat) (i : Nat) : Fr := fstep (q i) (endR b q L i)
def allF (b : Fr) (q L : Nat -> Rat) (n i : Nat) : Fr := if i < n then frmF b q L i else endR b q L n
include hG in
theorem orc39 (hT : qu G) : OrcOK prog G O39 := .cons (gk50 hG hT) (.cons (gk51 hG hT) (.cons (gk71 hG) (.cons (ok85 hG) .nil)))
def qf (qs : List Rat) (i : Nat) : Rat := qs.getD i 0
def bsF (A : Am) : Fr := ⟨A.bx, A.by_, false, A.t⟩
def Fq (qs : List Rat) (lk : Nat -> Lk) (b : Fr) (i : Nat) : Fr := frmF b (qf qs) (fun j => (lk j).len) i
def Eq' (qs : List Rat) (lk : Nat -> Lk) (b : Fr) (i : Nat) : Fr := endR b (qf qs) (fun j => (lk j).len) i
section
variable (qs : List Rat) (n : Nat) (lk : Nat -> Lk) (b : Fr)
include hG in
theorem r39_0 (hT : qu G) (hb : b.h = false) (hn : 1 <= n) (hq : qs.length = n) : Rnd prog G f13.ntmps 0 [1, 7, 8, 9, 10, 29, 30, 31] b39 (n39 qs n lk b.x b.y b.t 0) .normal (x39 qs n lk [frP (Fq qs lk b 0) 64 259] 1 (Eq' qs lk b 1).x (Eq' qs lk b 1).y (Eq' qs lk b 1).h (Eq' qs lk b 1).t 2211 259 1) := by
 refine qb hG (orc39 hG hT) mix (L := []) (pol := pol39) (O := O39) (k9 (by kernel_rfl)) (Nat.zero_le _) ?_
 rw [t39n, k5 (kE (by omega)), k5 (by simp only [kA, kD]; omega), k5 (by simp only [kA, kD]; omega), k5 (by decide), k5 (decP_iff.2 ⟨rfl, rfl, by decide, by decide⟩), k5 (by decide), k5 (by simp), k5 (by decide),
  k5 (decP_iff.2 ⟨rfl, by decide, by decide, by decide⟩), k5 (decP_iff.2 ⟨rfl, rfl, by decide⟩), k5 (by decide), k7]
 obtain ⟨bx, by_, bh, bt⟩ := b
 simp only at hb
 subst hb
 rfl
include hG in
theorem r39_1 (hT : qu G) (hn : 2 <= n) (hq : qs.length = n) : Rnd prog G f13.ntmps 0 [1, 7, 8, 9, 10, 29, 30, 31] b39 (x39 qs n lk [frP (Fq qs lk b 0) 64 259] 1 (Eq' qs lk b 1).x (Eq' qs lk b 1).y (Eq' qs lk b 1).h (Eq' qs lk b 1).t 2211 259 1) .normal
  (x39 qs n lk [frP (Fq qs lk b 0) 64 259, frP (Fq qs lk b 1) 2211 649] 2 (Eq' qs lk b 2).x (Eq' qs lk b 2).y (Eq' qs lk b 2).h (Eq' qs lk b 2).t 7478 649 2) := by
 refine qb hG (orc39 hG hT) mix (L := []) (pol := pol39) (O := O39) (k9 (by kernel_rfl)) (Nat.zero_le _) ?_
 rw [t39a, k5 (kE (by omega)), k5 (by simp only [kA, kD]; omega), k5 (by simp only [kA, kD]; omega), k5 (by decide), k5 (decP_iff.2 ⟨rfl, rfl, by decide, by decide⟩), k5 (by decide), k5 (by simp), k5 (by decide),
  k5 (decP_iff.2 ⟨rfl, by decide, by decide, by decide⟩), k5 (decP_iff.2 ⟨rfl, rfl, by decide⟩), k5 (by decide), k7]
 rfl
include hG in
theorem r39_2 (hT : qu G) (hn : 3 <= n) (hq : qs.length = n) : Rnd prog G f13.ntmps 0 [1, 7, 8, 9, 10, 29, 30, 31] b39 (x39 qs n lk [frP (Fq qs lk b 0) 64 259, frP (Fq qs lk b 1) 2211 649] 2 (Eq' qs lk b 2).x (Eq' qs lk b 2).y (Eq' qs lk b 2).h (Eq' qs lk b 2).t 7478 649 2) .normal
  (x39 qs n lk [frP (Fq qs lk b 0) 64 259, frP (Fq qs lk b 1) 2211 649, frP (Fq qs lk b 2) 7478 1429] 3 (Eq' qs lk b 3).x (Eq' qs lk b 3).y (Eq' qs lk b 3).h (Eq' qs lk b 3).t 18985 1429 3) := by
 refine qb hG (orc39 hG hT) mix (L := []) (pol := pol39) (O := O39) (k9 (by kernel_rfl)) (Nat.zero_le _) ?_
 rw [t39b, k5 (kE (by omega)), k5 (by simp only [kA, kD]; omega), k5 (by simp only [kA, kD]; omega), k5 (by decide), k5 (decP_iff.2 ⟨rfl, rfl, by decide, by decide⟩), k5 (by decide), k5 (by simp), k5 (by decide),
  k5 (decP_iff.2 ⟨rfl, by decide, by decide, by decide⟩), k5 (decP_iff.2 ⟨rfl, rfl, by decide⟩), k5 (by decide), k7]
 rfl
end
def frs (A : Am) (qs : List Rat) : Cont := .fn (A.n + 1) (fun i => frP (allF (bsF A) (qf qs) (fun j => (A.lk j).len) A.n i) 20000 1500)
def P39 (arm : PV) (qs : List Rat) : Prop := okA arm /\ qs.length = (dArm arm).n
def g39 : Spec := fun args hs K => match args, hs with
 | [arm, .lst 3 (.rats w qs)], [] => .br (qh (P39 arm qs /\ w = 64)) (K (.tup [.fr 10 (frs (dArm arm) qs), .i .i64 0]) []) (.no 1)
 | _, _ => .no 1
theorem frP_le {f g : Fr} (h : f = g) {a b c d : Nat} (h1 : a <= c) (h2 : b <= d) : VLe (frP f a b) (frP g c d) := by
 subst h
 exact VLe.agg (vllc (VLe.agg (vllc (vle_qm h1) (vllc (vle_qm h1) vll0))) (vllc (VLe.agg (vllc (.refl _) (vllc (vle_qm h2) vll0))) vll0))
theorem frs_le0 (e n : Nat) (f : Nat -> PV) (vs : List PV) (hl : vs.length = n) (h : ∀ (i : Nat) (v : PV), vs[i]? = some v -> noRef 8 v = true /\ VLe v (f i)) :
  RLe (.tup [.fr e (.vals vs), .i .i64 0]) (.tup [.fr e (.fn n f), .i .i64 0]) := by
 subst hl
 exact ⟨fun m => .refl _, fun m => KsLe.one (KLe.fn rfl h)⟩
theorem frs_le (A : Am) (qs : List Rat) (vs : List PV) (hl : vs.length = A.n + 1) (h : ∀ (i : Nat) (v : PV), vs[i]? = some v -> noRef 8 v = true /\ VLe v (frP (allF (bsF A) (qf qs) (fun j => (A.lk j).len) A.n i) 20000 1500)) :
  RLe (.tup [.fr 10 (.vals vs), .i .i64 0]) (.tup [.fr 10 (frs A qs), .i .i64 0]) := frs_le0 _ _ _ vs hl h
section
variable (qs : List Rat) (n : Nat) (lk : Nat -> Lk) (b : Fr)
include hG in
theorem goes39a (hT : qu G) (hb : b.h = false) (hn : n = 1) (hq : qs.length = n) : Goes (Rnd prog G f13.ntmps 0 [1, 7, 8, 9, 10, 29, 30, 31] b39) (n39 qs n lk b.x b.y b.t 0) (.exit 0) (x39 qs n lk [frP (Fq qs lk b 0) 64 259] 1 (Eq' qs lk b 1).x (Eq' qs lk b 1).y (Eq' qs lk b 1).h (Eq' qs lk b 1).t 2211 259 1) := by
 refine .more _ _ _ _ (r39_0 hG qs n lk b hT hb (by omega) hq) (.last _ _ _ (qb hG (orc39 hG hT) mix (L := []) (pol := pol39) (O := O39) (k9 (by kernel_rfl)) (Nat.zero_le _) ?_) (by simp))
 rw [t39a, k6 (kF (by omega)), k7]
 rfl
include hG in
theorem goes39b (hT : qu G) (hb : b.h = false) (hn : n = 2) (hq : qs.length = n) : Goes (Rnd prog G f13.ntmps 0 [1, 7, 8, 9, 10, 29, 30, 31] b39) (n39 qs n lk b.x b.y b.t 0) (.exit 0) (x39 qs n lk [frP (Fq qs lk b 0) 64 259, frP (Fq qs lk b 1) 2211 649] 2 (Eq' qs lk b 2).x (Eq' qs lk b 2).y (Eq' qs lk b 2).h (Eq' qs lk b 2).t 7478 649 2) := by
 refine .more _ _ _ _ (r39_0 hG qs n lk b hT hb (by omega) hq) (.more _ _ _ _ (r39_1 hG qs n lk b hT (by omega) hq) (.last _ _ _ (qb hG (orc39 hG hT) mix (L := []) (pol := pol39) (O := O39) (k9 (by kernel_rfl)) (Nat.zero_le _) ?_) (by simp)))
 rw [t39b, k6 (kF (by omega)), k7]
 rfl
include hG in
theorem goes39c (hT : qu G) (hb : b.h = false) (hn : n = 3) (hq : qs.length = n) : Goes (Rnd prog G f13.ntmps 0 [1, 7, 8, 9, 10, 29, 30, 31] b39) (n39 qs n lk b.x b.y b.t 0) (.exit 0) (x39 qs n lk [frP (Fq qs lk b 0) 64 259, frP (Fq qs lk b 1) 2211 649, frP (Fq qs lk b 2) 7478 1429] 3 (Eq' qs lk b 3).x (Eq' qs lk b 3).y (Eq' qs lk b 3).h (Eq' qs lk b 3).t 18985 1429 3) := by
 refine .more _ _ _ _ (r39_0 hG qs n lk b hT hb (by omega) hq) (.more _ _ _ _ (r39_1 hG qs n lk b hT (by omega) hq) (.more _ _ _ _ (r39_2 hG qs n lk b hT (by omega) hq) (.last _ _ _ (qb hG (orc39 hG hT) mix (L := []) (pol := pol39) (O := O39) (k9 (by kernel_rfl)) (Nat.zero_le _) ?_) (by simp))))
 rw [t39c, k6 (kF (by omega)), k7]
 rfl
end
theorem allF_lt {b : Fr} {q L : Nat -> Rat} {n i : Nat} (h : i < n) : allF b q L n i = frmF b q L i := if_pos h
theorem allF_n {b : Fr} {q L : Nat -> Rat} {n : Nat} : allF b q L n n = endR b q L n := if_neg (Nat.lt_irrefl n)
include hG in
theorem gk39 (hT : qu G) : qc prog G 13 g39 := by
 intro args hs K x h
 unfold g39 at h
 split at h
 case h_2 => cases h
 rename_i arm w qs
 obtain ⟨hc, hr⟩ := k8 h
 obtain ⟨⟨⟨hv, hA⟩, hq⟩, rfl⟩ := decP_iff.1 hc
 generalize dArm arm = A at *
 obtain ⟨h1, h2, h3, h4, h5, h6, h7⟩ := armB_c hA
 have z0 : ((Int.natAbs (0 : Int)).log2 + 1).ble 400000 = true := by decide
 have hcs : A.n = 1 \/ A.n = 2 \/ A.n = 3 := by omega
 refine ⟨_, _, PC.args (.cons hv (.cons (.refl _) .nil)) ?_, hr⟩
 rcases hcs with hn | hn | hn
 ·have g := goes39a hG qs A.n A.lk (bsF A) hT rfl hn hq
  refine (ql hG (orc39 hG hT) mix enter39 (hs := []) (pol := pol39) (L := [(9, lcst (n39 qs A.n A.lk A.bx A.by_ A.t 0) (.exit 0) (x39 qs A.n A.lk [frP (Fq qs A.lk (bsF A) 0) 64 259] 1 (Eq' qs A.lk (bsF A) 1).x (Eq' qs A.lk (bsF A) 1).y (Eq' qs A.lk (bsF A) 1).h (Eq' qs A.lk (bsF A) 1).t 2211 259 1))]) (lps1 (b := b39) (live := [1, 7, 8, 9, 10, 29, 30, 31]) (m := 0) (by kernel_rfl) (by kernel_rfl) (by kernel_rfl) (lcst_ok g)) (r := .tup [.fr 10 (.vals [frP (Fq qs A.lk (bsF A) 0) 64 259, frP (Eq' qs A.lk (bsF A) 1) 2211 259]), .i .i64 0]) (hs' := []) ?_).le ?_ (.refl _)
  ·refine (congrArg Tr.run (e39a A qs (Fq qs A.lk (bsF A) 0) (Eq' qs A.lk (bsF A) 1) 1)).trans ?_
   rw [k5 (decP_iff.2 ⟨qj A, A, by first | (rw [hq]; done) | (rw [hq]; rfl), .refl _, hA⟩), k6 (by decide), k5 (by decide), k5 (by decide), k5 (by decide), k5 z0, k5 isLS_t, k5 (by simp), k7]
   all_goals rfl
  ·refine frs_le A qs _ (by rw [hn]; rfl) fun i v hi => ?_
   match i, hi with
   | 0, hi => simp at hi; subst hi; exact ⟨rfl, frP_le (by rw [hn, allF_lt (by omega)]; rfl) (by omega) (by omega)⟩
   | 1, hi => simp at hi; subst hi; exact ⟨rfl, frP_le (by rw [hn, allF_n]; rfl) (by omega) (by omega)⟩
   | i + 2, hi => simp at hi
 ·have g := goes39b hG qs A.n A.lk (bsF A) hT rfl hn hq
  refine (ql hG (orc39 hG hT) mix enter39 (hs := []) (pol := pol39) (L := [(9, lcst (n39 qs A.n A.lk A.bx A.by_ A.t 0) (.exit 0) (x39 qs A.n A.lk [frP (Fq qs A.lk (bsF A) 0) 64 259, frP (Fq qs A.lk (bsF A) 1) 2211 649] 2 (Eq' qs A.lk (bsF A) 2).x (Eq' qs A.lk (bsF A) 2).y (Eq' qs A.lk (bsF A) 2).h (Eq' qs A.lk (bsF A) 2).t 7478 649 2))]) (lps1 (b := b39) (live := [1, 7, 8, 9, 10, 29, 30, 31]) (m := 0) (by kernel_rfl) (by kernel_rfl) (by kernel_rfl) (lcst_ok g)) (r := .tup [.fr 10 (.vals [frP (Fq qs A.lk (bsF A) 0) 64 259, frP (Fq qs A.lk (bsF A) 1) 2211 649, frP (Eq' qs A.lk (bsF A) 2) 7478 649]), .i .i64 0]) (hs' := []) ?_).le ?_ (.refl _)
  ·refine (congrArg Tr.run (e39b A qs (Fq qs A.lk (bsF A) 0) (Fq qs A.lk (bsF A) 1) (Eq' qs A.lk (bsF A) 2) 2)).trans ?_
   rw [k5 (decP_iff.2 ⟨qj A, A, by first | (rw [hq]; done) | (rw [hq]; rfl), .refl _, hA⟩), k6 (by decide), k5 (by decide), k5 (by decide), k5 (by decide), k5 z0, k5 isLS_t, k5 (by simp), k7]
   all_goals rfl
  ·refine frs_le A qs _ (by rw [hn]; rfl) fun i v hi => ?_
   match i, hi with
   | 0, hi => simp at hi; subst hi; exact ⟨rfl, frP_le (by rw [hn, allF_lt (by omega)]; rfl) (by omega) (by omega)⟩
   | 1, hi => simp at hi; subst hi; exact ⟨rfl, frP_le (by rw [hn, allF_lt (by omega)]; rfl) (by omega) (by omega)⟩
   | 2, hi => simp at hi; subst hi; exact ⟨rfl, frP_le (by rw [hn, allF_n]; rfl) (by omega) (by omega)⟩
   | i + 3, hi => simp at hi
 ·have g := goes39c hG qs A.n A.lk (bsF A) hT rfl hn hq
  refine (ql hG (orc39 hG hT) mix enter39 (hs := []) (pol := pol39) (L := [(9, lcst (n39 qs A.n A.lk A.bx A.by_ A.t 0) (.exit 0) (x39 qs A.n A.lk [frP (Fq qs A.lk (bsF A) 0) 64 259, frP (Fq qs A.lk (bsF A) 1) 2211 649, frP (Fq qs A.lk (bsF A) 2) 7478 1429] 3 (Eq' qs A.lk (bsF A) 3).x (Eq' qs A.lk (bsF A) 3).y (Eq' qs A.lk (bsF A) 3).h (Eq' qs A.lk (bsF A) 3).t 18985 1429 3))]) (lps1 (b := b39) (live := [1, 7, 8, 9, 10, 29, 30, 31]) (m := 0) (by kernel_rfl) (by kernel_rfl) (by kernel_rfl) (lcst_ok g)) (r := .tup [.fr 10 (.vals [frP (Fq qs A.lk (bsF A) 0) 64 259, frP (Fq qs A.lk (bsF A) 1) 2211 649, frP (Fq qs A.lk (bsF A) 2) 7478 1429, frP (Eq' qs A.lk (bsF A) 3) 18985 1429]), .i .i64 0]) (hs' := []) ?_).le ?_ (.refl _)
  ·refine (congrArg Tr.run (e39c A qs (Fq qs A.lk (bsF A) 0) (Fq qs A.lk (bsF A) 1) (Fq qs A.lk (bsF A) 2) (Eq' qs A.lk (bsF A) 3) 3)).trans ?_
   rw [k5 (decP_iff.2 ⟨qj A, A, by first | (rw [hq]; done) | (rw [hq]; rfl), .refl _, hA⟩), k6 (by decide), k5 (by decide), k5 (by decide), k5 (by decide), k5 z0, k5 isLS_t, k5 (by simp), k7]
   all_goals rfl
  ·refine frs_le A qs _ (by rw [hn]; rfl) fun i v hi => ?_
   match i, hi with
   | 0, hi => simp at hi; subst hi; exact ⟨rfl, frP_le (by rw [hn, allF_lt (by omega)]; rfl) (by omega) (by omega)⟩
   | 1, hi => simp at hi; subst hi; exact ⟨rfl, frP_le (by rw [hn, allF_lt (by omega)]; rfl) (by omega) (by omega)⟩
   | 2, hi => simp at hi; subst hi; exact ⟨rfl, frP_le (by rw [hn, allF_lt (by omega)]; rfl) (by omega) (by omega)⟩
   | 3, hi => simp at hi; subst hi; exact ⟨rfl, frP_le (by rw [hn, allF_n]; rfl) (by omega) (by omega)⟩
   | i + 4, hi => simp at hi
end
section
open Go
set_option maxRecDepth 100000
variable {G : World -> (Nat -> Prop) -> Prop} (hG : GOk G)
theorem limX_V (v : PV) : limX (armD v) = true := by
 refine List.all_eq_true.2 fun j _ => ?_
 rw [kA]
 have small : ∀ (n : Int), n.natAbs < 1000 -> smX (mkRat n (Int.toNat 3)) = true := fun n hn => smX_iff.2 ⟨Nat.lt_of_le_of_lt (mkRat_num_le n (by decide)) hn, Nat.lt_of_le_of_lt (mkRat_den_le n (by decide)) (by decide)⟩
 have g1 := nx_range (rs (itR6 j (rs (rs (rs v))))) (show (0 : Int) < 6 by omega)
 have g2 := nx_range (rs (rs (itR6 j (rs (rs (rs v)))))) (show (0 : Int) < 6 by omega)
 exact ⟨small _ (by omega), small _ (by omega)⟩
theorem cst_t {P : Program} {G : World -> (Nat -> Prop) -> Prop} {g : Nat} {as' : List PV} {r : PV} (h : PC P G g as' [] r []) : qc P G g (cst as' True r) := cst_ok fun _ => h
include hG in
theorem pc39 (hT : qu G) (A : Am) (hA : armB A = true) (qs : List Rat) (hq : qs.length = A.n) :
  PC Tryz.prog G 13 [qj A, .lst 3 (.rats 64 qs)] [] (.tup [.fr 10 (.fn (A.n + 1) (fun i => frP (allF (bsF A) (qf qs) (fun j => (A.lk j).len) A.n i) 20000 1500)), .i .i64 0]) [] := by
 obtain ⟨r, hs', p, e⟩ := gk39 hG hT [qj A, .lst 3 (.rats 64 qs)] [] (fun r hs' => .ok (.ret r hs')) (.ret (.tup [.fr 10 (frs A qs), .i .i64 0]) []) (by
  show (Tr.br _ _ _).run = _
  rw [k5 (decP_iff.2 ⟨⟨okA_arm hA, hq⟩, rfl⟩)]; rfl)
 cases e
 exact p
end
section
open Go
end
section
open Go Tryz
set_option maxRecDepth 100000
variable {G : World -> (Nat -> Prop) -> Prop} (hG : GOk G)
theorem ArgsLe.ofL : ∀ {us vs : List PV}, VLeL us vs -> ArgsLe us vs
 | [], [], _ => .nil
 | [], v :: vs, h => by have := h.1; simp at this
 | u :: us, [], h => by have := h.1; simp at this
 | u :: us, v :: vs, h => .cons (h.2 0 u v rfl rfl) (ArgsLe.ofL ⟨by have := h.1; simpa using this, fun j a b e1 e2 => h.2 (j + 1) a b e1 e2⟩)
theorem VLe.tup {us vs : List PV} (h : VLeL us vs) : VLe (.tup us) (.tup vs) := by
 refine ⟨rfl, fun w S μ => ⟨fun cs hc => (by cases hc), fun x hx => ?_⟩⟩
 cases hx with
 | cell _ _ _ _ hc => cases hc
 | agg _ _ _ hv _ => cases hv
 | tup _ _ xs hl => exact .tup _ _ _ (ArgsLe.ofL h w S μ xs hl)
def mxR (x y : Rat) : Rat := if y <= x then x else y
def mnR (x y : Rat) : Rat := if x <= y then x else y

theorem k86 (x y : Rat) (n m : Nat) : evF prog [(57, g27), (64, g74)] [] {} f27 [.q x n, .q y m] [] qn =
 Tr.br ((n + m).ble 800000) (.br (decide ((0 : Int) <= rcmp x y)) (.br (n.ble 800000) (.ok (.ret (.q x n) [])) (.no 1)) (.br (m.ble 800000) (.ok (.ret (.q y m) [])) (.no 1))) (.no 1) := by kernel_rfl
theorem k80m (x y : Rat) (n m : Nat) : evF prog [(57, g27), (64, g74)] [] {} f48 [.q x n, .q y m] [] qn =
 Tr.br ((n + m).ble 800000) (.br (decide (rcmp x y <= 0)) (.br (n.ble 800000) (.ok (.ret (.q x n) [])) (.no 1)) (.br (m.ble 800000) (.ok (.ret (.q y m) [])) (.no 1))) (.no 1) := by kernel_rfl
def g86 : Spec := fun args hs K => match args, hs with
 | [.q x n, .q y m], [] => .br (Nat.ble (n + m) 400000) (K (.q (mxR x y) (Nat.max n m)) []) (.no 1)
 | _, _ => .no 1
def g80 : Spec := fun args hs K => match args, hs with
 | [.q x n, .q y m], [] => .br (Nat.ble (n + m) 400000) (K (.q (mnR x y) (Nat.max n m)) []) (.no 1)
 | _, _ => .no 1
include hG in
theorem gk86 (hT : qu G) : qc prog G 27 g86 := by
 refine qo hG (orcg80 hG hT) mix enter86 (L := []) (pol := {}) fun args hs K x h => ?_
 unfold g86 at h
 split at h
 case h_2 => cases h
 rename_i x n y m
 obtain ⟨hc, hr⟩ := k8 h
 rw [kG] at hc
 by_cases g : y <= x
 ·refine ⟨k9 (by kernel_rfl), _, _, _, ?_, q_rle (x := x) (n := n) (by rw [mxR, if_pos g]) (Nat.le_max_left n m), hr⟩
  rw [k86, k5 (by rw [kG]; omega), k5 (kE (rcmp_ge.2 g)), k5 (by rw [kG]; omega), k7]
 ·refine ⟨k9 (by kernel_rfl), _, _, _, ?_, q_rle (x := y) (n := m) (by rw [mxR, if_neg g]) (Nat.le_max_right n m), hr⟩
  rw [k86, k5 (by rw [kG]; omega), k6 (kF fun h => g (rcmp_ge.1 h)), k5 (by rw [kG]; omega), k7]
include hG in
theorem gk80 (hT : qu G) : qc prog G 48 g80 := by
 refine qo hG (orcg80 hG hT) mix enter80 (L := []) (pol := {}) fun args hs K x h => ?_
 unfold g80 at h
 split at h
 case h_2 => cases h
 rename_i x n y m
 obtain ⟨hc, hr⟩ := k8 h
 rw [kG] at hc
 by_cases g : x <= y
 ·refine ⟨k9 (by kernel_rfl), _, _, _, ?_, q_rle (x := x) (n := n) (by rw [mnR, if_pos g]) (Nat.le_max_left n m), hr⟩
  rw [k80m, k5 (by rw [kG]; omega), k5 (kE (rcmp_le.2 g)), k5 (by rw [kG]; omega), k7]
 ·refine ⟨k9 (by kernel_rfl), _, _, _, ?_, q_rle (x := y) (n := m) (by rw [mnR, if_neg g]) (Nat.le_max_right n m), hr⟩
  rw [k80m, k5 (by rw [kG]; omega), k6 (kF fun h => g (rcmp_le.1 h)), k5 (by rw [kG]; omega), k7]
end
section
open Go
set_option maxRecDepth 100000
structure Sp where
 lo : Rat
 hi : Rat
 ok : lo <= hi
def Sp.has (s : Sp) (x : Rat) : Prop := s.lo <= x /\ x <= s.hi
theorem mnR_l (a b : Rat) : mnR a b <= a := by unfold mnR; split <;> grind
theorem mxR_l (a b : Rat) : a <= mxR a b := by unfold mxR; split <;> grind
def subS (A B : Sp) : Sp := ⟨A.lo - B.hi, A.hi - B.lo, by have := A.ok; have := B.ok; grind⟩
structure Lz where
 X : Sp
 Y : Sp
 C : Sp
 S : Sp
def ptX (f : Fr) (x y : Rat) : Rat := f.x + (x * cosR f.h f.t - y * sinR f.h f.t)
def ptY (f : Fr) (x y : Rat) : Rat := f.y + (x * sinR f.h f.t + y * cosR f.h f.t)
end
section
open Go Tryz
set_option maxRecDepth 100000
variable {G : World -> (Nat -> Prop) -> Prop} (hG : GOk G)
theorem enLi : Enters prog 69 f69 (qd f69) := ⟨func69, by kernel_rfl, rfl⟩
theorem enPl : Enters prog 33 f33 (qd f33) := ⟨func33, by kernel_rfl, rfl⟩
def bLi : Code := (qi (qd f69)).getD 0 .skip
def polLi : Pol := { live := [(3, [2, 5, 11, 12, 13])] }
def OLi : Orc := [(84, g92)]
def lLi : qw := unr prog OLi [] polLi f69.ntmps 0 [2, 5, 11, 12, 13] bLi 5
theorem eLi3 (f : Fr) (px py : Nat -> Rat) : (evF prog OLi [(3, lLi)] polLi f69 [frP f 20000 1500, .lst 6 (.fn 3 (pv px py))] [] qn).run =
 (Tr.ok (.ret (.fr 6 (.fn 3 fun (j : Nat) => bif (j + 0).beq (2 : Nat) then .agg [.q (f.x + (px (2 : Nat) * cosR f.h f.t - py (2 : Nat) * sinR f.h f.t)) 32138, .q (f.y + (px (2 : Nat) * sinR f.h f.t + py (2 : Nat) * cosR f.h f.t)) 32138] else bif (j + 0).beq (1 : Nat) then .agg [.q (f.x + (px (1 : Nat) * cosR f.h f.t - py (1 : Nat) * sinR f.h f.t)) 32138, .q (f.y + (px (1 : Nat) * sinR f.h f.t + py (1 : Nat) * cosR f.h f.t)) 32138] else bif (j + 0).beq (0 : Nat) then .agg [.q (f.x + (px (0 : Nat) * cosR f.h f.t - py (0 : Nat) * sinR f.h f.t)) 32138, .q (f.y + (px (0 : Nat) * sinR f.h f.t + py (0 : Nat) * cosR f.h f.t)) 32138] else .agg [.agg [.bl false, .s (ByteArray.mk #[]), .s (ByteArray.mk #[])], .agg [.bl false, .s (ByteArray.mk #[]), .s (ByteArray.mk #[])]])) [])).run := by kernel_rfl
theorem eLi4 (f : Fr) (px py : Nat -> Rat) : (evF prog OLi [(3, lLi)] polLi f69 [frP f 20000 1500, .lst 6 (.fn 4 (pv px py))] [] qn).run =
 (Tr.ok (.ret (.fr 6 (.fn 4 fun (j : Nat) => bif (j + 0).beq (3 : Nat) then .agg [.q (f.x + (px (3 : Nat) * cosR f.h f.t - py (3 : Nat) * sinR f.h f.t)) 32138, .q (f.y + (px (3 : Nat) * sinR f.h f.t + py (3 : Nat) * cosR f.h f.t)) 32138] else bif (j + 0).beq (2 : Nat) then .agg [.q (f.x + (px (2 : Nat) * cosR f.h f.t - py (2 : Nat) * sinR f.h f.t)) 32138, .q (f.y + (px (2 : Nat) * sinR f.h f.t + py (2 : Nat) * cosR f.h f.t)) 32138] else bif (j + 0).beq (1 : Nat) then .agg [.q (f.x + (px (1 : Nat) * cosR f.h f.t - py (1 : Nat) * sinR f.h f.t)) 32138, .q (f.y + (px (1 : Nat) * sinR f.h f.t + py (1 : Nat) * cosR f.h f.t)) 32138] else bif (j + 0).beq (0 : Nat) then .agg [.q (f.x + (px (0 : Nat) * cosR f.h f.t - py (0 : Nat) * sinR f.h f.t)) 32138, .q (f.y + (px (0 : Nat) * sinR f.h f.t + py (0 : Nat) * cosR f.h f.t)) 32138] else .agg [.agg [.bl false, .s (ByteArray.mk #[]), .s (ByteArray.mk #[])], .agg [.bl false, .s (ByteArray.mk #[]), .s (ByteArray.mk #[])]])) [])).run := by kernel_rfl
def dF : PV -> Fr
 | .agg [.agg [.q x _, .q y _], .agg [hv, .q t _]] => ⟨x, y, (bof hv).getD false, t⟩
 | _ => ⟨0, 0, false, 0⟩
def plP (f : Fr) (px py : Nat -> Rat) (j : Nat) : PV := .agg [.q (ptX f (px j) (py j)) 32138, .q (ptY f (px j) (py j)) 32138]
def plF (v : PV) (g : Nat -> PV) : Nat -> PV := plP (dF v) (fun j => dq (fldV (g j) 0)) (fun j => dq (fldV (g j) 1))
def isLi (v : PV) (n : Nat) (g : Nat -> PV) : Prop := ∃ f px py, v = frP f 20000 1500 /\ g = pv px py /\ (n = 3 \/ n = 4)
def gLi : Spec := fun args hs K => match args, hs with
 | [v, .lst 6 (.fn n g)], [] => .br (qh (isLi v n g)) (K (.fr 6 (.fn n (plF v g))) []) (.no 1)
 | _, _ => .no 1
def armQ (A : Am) (n : Nat) : PV := .agg [.s A.name, .agg [.agg [.q A.bx 64, .q A.by_ 64], .agg [.bl false, .q A.t 64]], .lst 16 (.fn n (fun j => lkPV (A.lk j)))]
def bPl : Code := (qi (qd f33)).getD 0 .skip
def polPl : Pol := { live := [(6, [6, 8, 21, 22, 23])] }
def lPl : qw := unr prog [(69, gLi)] [] polPl f33.ntmps 0 [6, 8, 21, 22, 23] bPl 4
def OPl (A : Am) (n N : Nat) (q : List Rat) (ff : Nat -> Fr) : Orc := [(13, cst [armQ A n, .lst 3 (.rats 64 q)] True (.tup [.fr 10 (.fn N (fun i => frP (ff i) 20000 1500)), .i .i64 0])), (69, gLi)]
theorem ePl1 (A : Am) (q : List Rat) (ff : Nat -> Fr) : (evF prog (OPl A 1 2 q ff) [(6, lPl)] polPl f33 [armQ A 1, .lst 3 (.rats 64 q)] [] qn).run =
 (Tr.br (qh (isA [.agg [.s A.name, .agg [.agg [.q A.bx 64, .q A.by_ 64], .agg [.bl false, .q A.t 64]], .lst 16 (.fn 1 fun (j : Nat) => .agg [.q (A.lk j).len 64, .q (A.lk j).low 64, .q (A.lk j).high 64, .q (A.lk j).spd 64, .q (A.lk j).brk 64, .lst 6 (.fn (A.lk j).np fun (a : Nat) => .agg [.q ((A.lk j).px a) 64, .q ((A.lk j).py a) 64])])], .lst 3 (.rats 64 q)] True [.agg [.s A.name, .agg [.agg [.q A.bx 64, .q A.by_ 64], .agg [.bl false, .q A.t 64]], .lst 16 (.fn 1 fun (j : Nat) => .agg [.q (A.lk j).len 64, .q (A.lk j).low 64, .q (A.lk j).high 64, .q (A.lk j).spd 64, .q (A.lk j).brk 64, .lst 6 (.fn (A.lk j).np fun (a : Nat) => .agg [.q ((A.lk j).px a) 64, .q ((A.lk j).py a) 64])])], .lst 3 (.rats 64 q)])) (.br (qh (isLi (frP (ff (0 : Nat)) 20000 1500) (A.lk (0 : Nat)).np (pv (A.lk (0 : Nat)).px (A.lk (0 : Nat)).py))) (.br (((0 : Nat) + (A.lk (0 : Nat)).np).ble (A.lk (0 : Nat)).np) (.ok (.ret (.tup [.fr 1 (.vals [.lst 6 (.fn (A.lk (0 : Nat)).np fun (j : Nat) => .agg [.q (ptX (dF (frP (ff (0 : Nat)) 20000 1500)) (dq (.q ((A.lk (0 : Nat)).px (j + 0)) 64)) (dq (.q ((A.lk (0 : Nat)).py (j + 0)) 64))) 32138, .q (ptY (dF (frP (ff (0 : Nat)) 20000 1500)) (dq (.q ((A.lk (0 : Nat)).px (j + 0)) 64)) (dq (.q ((A.lk (0 : Nat)).py (j + 0)) 64))) 32138])]), .i .i64 0]) [])) (.no 9004)) (.no 1)) (.no 1)).run := by kernel_rfl
theorem ePl2 (A : Am) (q : List Rat) (ff : Nat -> Fr) : (evF prog (OPl A 2 3 q ff) [(6, lPl)] polPl f33 [armQ A 2, .lst 3 (.rats 64 q)] [] qn).run =
 (Tr.br (qh (isA [.agg [.s A.name, .agg [.agg [.q A.bx 64, .q A.by_ 64], .agg [.bl false, .q A.t 64]], .lst 16 (.fn 2 fun (j : Nat) => .agg [.q (A.lk j).len 64, .q (A.lk j).low 64, .q (A.lk j).high 64, .q (A.lk j).spd 64, .q (A.lk j).brk 64, .lst 6 (.fn (A.lk j).np fun (a : Nat) => .agg [.q ((A.lk j).px a) 64, .q ((A.lk j).py a) 64])])], .lst 3 (.rats 64 q)] True [.agg [.s A.name, .agg [.agg [.q A.bx 64, .q A.by_ 64], .agg [.bl false, .q A.t 64]], .lst 16 (.fn 2 fun (j : Nat) => .agg [.q (A.lk j).len 64, .q (A.lk j).low 64, .q (A.lk j).high 64, .q (A.lk j).spd 64, .q (A.lk j).brk 64, .lst 6 (.fn (A.lk j).np fun (a : Nat) => .agg [.q ((A.lk j).px a) 64, .q ((A.lk j).py a) 64])])], .lst 3 (.rats 64 q)])) (.br (qh (isLi (frP (ff (0 : Nat)) 20000 1500) (A.lk (0 : Nat)).np (pv (A.lk (0 : Nat)).px (A.lk (0 : Nat)).py))) (.br (((0 : Nat) + (A.lk (0 : Nat)).np).ble (A.lk (0 : Nat)).np) (.br (qh (isLi (frP (ff (1 : Nat)) 20000 1500) (A.lk (1 : Nat)).np (pv (A.lk (1 : Nat)).px (A.lk (1 : Nat)).py))) (.br (((0 : Nat) + (A.lk (1 : Nat)).np).ble (A.lk (1 : Nat)).np) (.ok (.ret (.tup [.fr 1 (.vals [.lst 6 (.fn (A.lk (0 : Nat)).np fun (j : Nat) => .agg [.q (ptX (dF (frP (ff (0 : Nat)) 20000 1500)) (dq (.q ((A.lk (0 : Nat)).px (j + 0)) 64)) (dq (.q ((A.lk (0 : Nat)).py (j + 0)) 64))) 32138, .q (ptY (dF (frP (ff (0 : Nat)) 20000 1500)) (dq (.q ((A.lk (0 : Nat)).px (j + 0)) 64)) (dq (.q ((A.lk (0 : Nat)).py (j + 0)) 64))) 32138]), .lst 6 (.fn (A.lk (1 : Nat)).np fun (j : Nat) => .agg [.q (ptX (dF (frP (ff (1 : Nat)) 20000 1500)) (dq (.q ((A.lk (1 : Nat)).px (j + 0)) 64)) (dq (.q ((A.lk (1 : Nat)).py (j + 0)) 64))) 32138, .q (ptY (dF (frP (ff (1 : Nat)) 20000 1500)) (dq (.q ((A.lk (1 : Nat)).px (j + 0)) 64)) (dq (.q ((A.lk (1 : Nat)).py (j + 0)) 64))) 32138])]), .i .i64 0]) [])) (.no 9004)) (.no 1)) (.no 9004)) (.no 1)) (.no 1)).run := by kernel_rfl
theorem ePl3 (A : Am) (q : List Rat) (ff : Nat -> Fr) : (evF prog (OPl A 3 4 q ff) [(6, lPl)] polPl f33 [armQ A 3, .lst 3 (.rats 64 q)] [] qn).run =
 (Tr.br (qh (isA [.agg [.s A.name, .agg [.agg [.q A.bx 64, .q A.by_ 64], .agg [.bl false, .q A.t 64]], .lst 16 (.fn 3 fun (j : Nat) => .agg [.q (A.lk j).len 64, .q (A.lk j).low 64, .q (A.lk j).high 64, .q (A.lk j).spd 64, .q (A.lk j).brk 64, .lst 6 (.fn (A.lk j).np fun (a : Nat) => .agg [.q ((A.lk j).px a) 64, .q ((A.lk j).py a) 64])])], .lst 3 (.rats 64 q)] True [.agg [.s A.name, .agg [.agg [.q A.bx 64, .q A.by_ 64], .agg [.bl false, .q A.t 64]], .lst 16 (.fn 3 fun (j : Nat) => .agg [.q (A.lk j).len 64, .q (A.lk j).low 64, .q (A.lk j).high 64, .q (A.lk j).spd 64, .q (A.lk j).brk 64, .lst 6 (.fn (A.lk j).np fun (a : Nat) => .agg [.q ((A.lk j).px a) 64, .q ((A.lk j).py a) 64])])], .lst 3 (.rats 64 q)])) (.br (qh (isLi (frP (ff (0 : Nat)) 20000 1500) (A.lk (0 : Nat)).np (pv (A.lk (0 : Nat)).px (A.lk (0 : Nat)).py))) (.br (((0 : Nat) + (A.lk (0 : Nat)).np).ble (A.lk (0 : Nat)).np) (.br (qh (isLi (frP (ff (1 : Nat)) 20000 1500) (A.lk (1 : Nat)).np (pv (A.lk (1 : Nat)).px (A.lk (1 : Nat)).py))) (.br (((0 : Nat) + (A.lk (1 : Nat)).np).ble (A.lk (1 : Nat)).np) (.br (qh (isLi (frP (ff (2 : Nat)) 20000 1500) (A.lk (2 : Nat)).np (pv (A.lk (2 : Nat)).px (A.lk (2 : Nat)).py))) (.br (((0 : Nat) + (A.lk (2 : Nat)).np).ble (A.lk (2 : Nat)).np) (.ok (.ret (.tup [.fr 1 (.vals [.lst 6 (.fn (A.lk (0 : Nat)).np fun (j : Nat) => .agg [.q (ptX (dF (frP (ff (0 : Nat)) 20000 1500)) (dq (.q ((A.lk (0 : Nat)).px (j + 0)) 64)) (dq (.q ((A.lk (0 : Nat)).py (j + 0)) 64))) 32138, .q (ptY (dF (frP (ff (0 : Nat)) 20000 1500)) (dq (.q ((A.lk (0 : Nat)).px (j + 0)) 64)) (dq (.q ((A.lk (0 : Nat)).py (j + 0)) 64))) 32138]), .lst 6 (.fn (A.lk (1 : Nat)).np fun (j : Nat) => .agg [.q (ptX (dF (frP (ff (1 : Nat)) 20000 1500)) (dq (.q ((A.lk (1 : Nat)).px (j + 0)) 64)) (dq (.q ((A.lk (1 : Nat)).py (j + 0)) 64))) 32138, .q (ptY (dF (frP (ff (1 : Nat)) 20000 1500)) (dq (.q ((A.lk (1 : Nat)).px (j + 0)) 64)) (dq (.q ((A.lk (1 : Nat)).py (j + 0)) 64))) 32138]), .lst 6 (.fn (A.lk (2 : Nat)).np fun (j : Nat) => .agg [.q (ptX (dF (frP (ff (2 : Nat)) 20000 1500)) (dq (.q ((A.lk (2 : Nat)).px (j + 0)) 64)) (dq (.q ((A.lk (2 : Nat)).py (j + 0)) 64))) 32138, .q (ptY (dF (frP (ff (2 : Nat)) 20000 1500)) (dq (.q ((A.lk (2 : Nat)).px (j + 0)) 64)) (dq (.q ((A.lk (2 : Nat)).py (j + 0)) 64))) 32138])]), .i .i64 0]) [])) (.no 9004)) (.no 1)) (.no 9004)) (.no 1)) (.no 9004)) (.no 1)) (.no 1)).run := by kernel_rfl
theorem kl_ff {e n : Nat} {f g : Nat -> PV} (h : ∀ i, i < n -> noRef 8 (f i) = true /\ VLe (f i) (g i)) : KLe ⟨e, .fn n f⟩ ⟨e, .fn n g⟩ := by
 intro w S μ a z hb
 obtain ⟨c, T, cs, h1, h2, h3, h4, h5, h6⟩ := hb
 refine ⟨c, T, cs, h1, h2, h3, fun i hi => ?_, h5, h6⟩
 have h7 := h4 i hi
 simp only [Cont.get, qy] at h7 ⊢
 exact ((h i hi).2.2 w S qE).1 _ h7
theorem fr_ff (e n : Nat) {f g : Nat -> PV} (h : ∀ i, i < n -> noRef 8 (f i) = true /\ VLe (f i) (g i)) : RLe (.fr e (.fn n f)) (.fr e (.fn n g)) :=
 ⟨fun m => .refl _, fun m => KsLe.one (kl_ff h)⟩
include hG in
theorem gkLi (hT : qu G) : qc prog G 69 gLi := by
 intro args hs K x h
 unfold gLi at h
 split at h
 case h_2 => cases h
 rename_i v n g
 obtain ⟨hc, hr⟩ := k8 h
 obtain ⟨f, px, py, rfl, rfl, hn⟩ := decP_iff.1 hc
 have orc : OrcOK prog G OLi := .cons (gk92 hG hT) .nil
 have hl := lps1 (P := prog) (G := G) (pol := polLi) (n := f69.ntmps) (m := 0) (L := [(3, lLi)]) (c := qd f69) (b := bLi) (live := [2, 5, 11, 12, 13]) (sp := lLi) (by kernel_rfl) (by kernel_rfl) (by kernel_rfl) (unr_ok hG orc mix (k9 (by kernel_rfl)) 5)
 refine ⟨_, _, ?_, hr⟩
 rcases hn with rfl | rfl
 ·refine (ql hG orc mix enLi (hs := []) (pol := polLi) (L := [(3, lLi)]) hl ((eLi3 f px py).trans k7)).le (fr_ff 6 3 fun i hi => ?_) (.refl _)
  match i, hi with
  | 0, _ => exact ⟨rfl, .refl _⟩
  | 1, _ => exact ⟨rfl, .refl _⟩
  | 2, _ => exact ⟨rfl, .refl _⟩
  | i + 3, hi => exact absurd hi (by omega)
 ·refine (ql hG orc mix enLi (hs := []) (pol := polLi) (L := [(3, lLi)]) hl ((eLi4 f px py).trans k7)).le (fr_ff 6 4 fun i hi => ?_) (.refl _)
  match i, hi with
  | 0, _ => exact ⟨rfl, .refl _⟩
  | 1, _ => exact ⟨rfl, .refl _⟩
  | 2, _ => exact ⟨rfl, .refl _⟩
  | 3, _ => exact ⟨rfl, .refl _⟩
  | i + 4, hi => exact absurd hi (by omega)
def plC (A : Am) (ff : Nat -> Fr) (i : Nat) : PV := .lst 6 (.fn (A.lk i).np (plP (ff i) (A.lk i).px (A.lk i).py))
def shp (A : Am) : Prop := ∀ j, j < A.n -> (A.lk j).np = 3 \/ (A.lk j).np = 4
include hG in
theorem pcPl (hT : qu G) (A : Am) (hA : armB A = true) (hS : shp A) (q : List Rat) (hq : q.length = A.n) :
  PC prog G 33 [qj A, .lst 3 (.rats 64 q)] [] (.tup [.fr 1 (.fn A.n (plC A (allF (bsF A) (qf q) (fun j => (A.lk j).len) A.n))), .i .i64 0]) [] := by
 have p13 := pc39 hG hT A hA q hq
 unfold frs at p13
 obtain ⟨a1, a2, a3, a4, h1, h3, a7⟩ := armB_c hA
 generalize allF (bsF A) (qf q) (fun j => (A.lk j).len) A.n = ff at *
 have hl := lps1 (P := prog) (G := G) (pol := polPl) (n := f33.ntmps) (m := 0) (L := [(6, lPl)]) (c := qd f33) (b := bPl) (live := [6, 8, 21, 22, 23]) (sp := lPl) (by kernel_rfl) (by kernel_rfl) (by kernel_rfl) (unr_ok hG (.cons (gkLi hG hT) .nil) mix (k9 (by kernel_rfl)) 4)
 have ha : qj A = armQ A A.n := rfl
 rw [ha] at p13 ⊢
 unfold shp at hS
 rcases (show A.n = 1 \/ A.n = 2 \/ A.n = 3 by omega) with hn | hn | hn
 ·rw [hn] at p13 hS ⊢
  refine (ql hG (.cons (cst_t p13) (.cons (gkLi hG hT) .nil)) mix enPl (hs := []) (pol := polPl) (L := [(6, lPl)]) hl (r := .tup [.fr 1 (.vals [plC A ff 0]), .i .i64 0]) (hs' := []) ?_).le (frs_le0 _ _ _ _ rfl fun i v hi => ?_) (.refl _)
  ·refine (ePl1 A q ff).trans ?_
   repeat (refine Eq.trans (k5 ?_) ?_; first | exact decP_iff.2 ⟨rfl, trivial⟩ | exact decP_iff.2 ⟨_, _, _, rfl, rfl, hS _ (by omega)⟩ | (rw [kG]; omega))
   rw [k7]; rfl
  ·match i, hi with
   | 0, hi => simp at hi; subst hi; exact ⟨rfl, .refl _⟩
   | i + 1, hi => simp at hi
 ·rw [hn] at p13 hS ⊢
  refine (ql hG (.cons (cst_t p13) (.cons (gkLi hG hT) .nil)) mix enPl (hs := []) (pol := polPl) (L := [(6, lPl)]) hl (r := .tup [.fr 1 (.vals [plC A ff 0, plC A ff 1]), .i .i64 0]) (hs' := []) ?_).le (frs_le0 _ _ _ _ rfl fun i v hi => ?_) (.refl _)
  ·refine (ePl2 A q ff).trans ?_
   repeat (refine Eq.trans (k5 ?_) ?_; first | exact decP_iff.2 ⟨rfl, trivial⟩ | exact decP_iff.2 ⟨_, _, _, rfl, rfl, hS _ (by omega)⟩ | (rw [kG]; omega))
   rw [k7]; rfl
  ·match i, hi with
   | 0, hi => simp at hi; subst hi; exact ⟨rfl, .refl _⟩
   | 1, hi => simp at hi; subst hi; exact ⟨rfl, .refl _⟩
   | i + 2, hi => simp at hi
 ·rw [hn] at p13 hS ⊢
  refine (ql hG (.cons (cst_t p13) (.cons (gkLi hG hT) .nil)) mix enPl (hs := []) (pol := polPl) (L := [(6, lPl)]) hl (r := .tup [.fr 1 (.vals [plC A ff 0, plC A ff 1, plC A ff 2]), .i .i64 0]) (hs' := []) ?_).le (frs_le0 _ _ _ _ rfl fun i v hi => ?_) (.refl _)
  ·refine (ePl3 A q ff).trans ?_
   repeat (refine Eq.trans (k5 ?_) ?_; first | exact decP_iff.2 ⟨rfl, trivial⟩ | exact decP_iff.2 ⟨_, _, _, rfl, rfl, hS _ (by omega)⟩ | (rw [kG]; omega))
   rw [k7]; rfl
  ·match i, hi with
   | 0, hi => simp at hi; subst hi; exact ⟨rfl, .refl _⟩
   | 1, hi => simp at hi; subst hi; exact ⟨rfl, .refl _⟩
   | 2, hi => simp at hi; subst hi; exact ⟨rfl, .refl _⟩
   | i + 3, hi => simp at hi
theorem shp_V (v : PV) : shp (armD v) := by
 intro j _
 show (shV _).len = 3 \/ (shV _).len = 4
 unfold shV
 split
 ·exact .inl rfl
 ·exact .inr rfl
structure Pg where
 n : Nat
 u : Nat -> Rat
 v : Nat -> Rat
def pw (x y : Rat) : PV := .agg [.q x 32138, .q y 32138]
def pgC (P : Pg) : Cont := .fn P.n (fun j => pw (P.u j) (P.v j))
def pgV (P : Pg) : PV := .lst 6 (pgC P)
theorem enLf : Enters prog 142 f142 (qd f142) := ⟨func142, by kernel_rfl, rfl⟩
def OLf : Orc := [(62, g97), (63, g41), (101, g26)]
theorem eLf (a b c d e f : Rat) : (evF prog OLf [] {} f142 [pw a b, pw c d, pw e f] [] qn).run = some (.ret (.i .i64 (rcmp (tri a b c d e f) 0)) []) := by kernel_rfl
def gLf : Spec := fun args hs K => match args, hs with
 | [.agg [.q a 32138, .q b 32138], .agg [.q c 32138, .q d 32138], .agg [.q e 32138, .q f 32138]], [] => K (.i .i64 (rcmp (tri a b c d e f) 0)) []
 | _, _ => .no 1
include hG in
theorem gkLf (hT : qu G) : qc prog G 142 gLf := by
 intro args hs K x h
 unfold gLf at h
 split at h
 case h_2 => cases h
 rename_i a b c d e f
 exact ⟨_, _, ql hG (.cons (gk97 hG hT) (.cons (gk41 hG hT) (.cons (gk26 hG hT) .nil))) mix enLf (hs := []) (L := []) (pol := {}) (k9 (by kernel_rfl)) (eLf a b c d e f), h⟩
theorem enPk : Enters prog 129 f129 (qd f129) := ⟨func129, by kernel_rfl, rfl⟩
def bCk : Code := (qi (qd f129)).getD 0 .skip
def iCk : Code := (qi (qd f129)).getD 1 .skip
def polCk : Pol := { live := [(7, [0, 4, 5, 18, 19, 20]), (10, [0, 4, 5, 6, 7, 8, 18, 19, 20])] }
def siCk (P : Pg) (e i k : Int) : LS := ⟨[pgV P, .i .i64 e, .i .i64 P.n, .i .i64 i, .ptr 0 6 0 0 [], .i .i64 k, pgV P, .i .i64 P.n, .i .i64 i], [some ⟨6, .vals [pw (P.u i.toNat) (P.v i.toNat)]⟩]⟩
def soCk (P : Pg) (e i : Int) : LS := ⟨[pgV P, .i .i64 e, .i .i64 P.n, pgV P, .i .i64 P.n, .i .i64 i], []⟩
def trP (P : Pg) (i j k : Nat) : Rat := tri (P.u i) (P.v i) (P.u j) (P.v j) (P.u k) (P.v k)
theorem tiCk (P : Pg) (i k : Int) : (qe prog [(142, gLf)] [] polCk f129.ntmps 0 [0, 4, 5, 6, 7, 8, 18, 19, 20] iCk (siCk P 0 i k)).run =
  (Tr.br (decide (k < (P.n : Int))) (.br (ovf (i + 1)) (.br (!decide ((P.n : Int) = 0)) (.br (ix ((i + 1).tmod P.n) ((P.n : Int))) (.br (ovf (i + k)) (.br (!decide ((P.n : Int) = 0)) (.br (ix ((i + k).tmod P.n) ((P.n : Int))) (.br (decide (rcmp (trP P i.toNat ((i + 1).tmod P.n).toNat ((i + k).tmod P.n).toNat) 0 <= 0)) (.ok (.out .ret (siCk P 3 i k))) (.br (ovf (k + 1)) (.ok (.out .normal (siCk P 0 i (k + 1)))) (.no 1))) (.no 1)) (.no 1)) (.no 1)) (.no 1)) (.no 1)) (.no 1)) (.ok (.out (.exit 3) (siCk P 0 i k)))).run := by kernel_rfl
theorem toCk (P : Pg) (i j k : Int) : (qe prog [(142, gLf)] [(10, lcst (siCk P 0 j 2) (.exit 3) (siCk P 0 j k))] polCk f129.ntmps 0 [0, 4, 5, 18, 19, 20] bCk (soCk P 0 i)).run =
  (Tr.br (decide (i < (P.n : Int))) (.br (ix (i) ((P.n : Int))) (.br (qh (isLS (siCk P 0 j 2) (siCk P 0 i 2))) (.br (ovf (j + 1)) (.ok (.out .normal (soCk P 0 (j + 1)))) (.no 1)) (.no 1)) (.no 1)) (.ok (.out (.exit 1) (soCk P 0 i)))).run := by kernel_rfl
theorem toCkb (P : Pg) (i j k : Int) : (qe prog [(142, gLf)] [(10, lcst (siCk P 0 j 2) .ret (siCk P 3 j k))] polCk f129.ntmps 0 [0, 4, 5, 18, 19, 20] bCk (soCk P 0 i)).run =
  (Tr.br (decide (i < (P.n : Int))) (.br (ix (i) ((P.n : Int))) (.br (qh (isLS (siCk P 0 j 2) (siCk P 0 i 2))) (.ok (.out .ret (soCk P 3 j))) (.no 1)) (.no 1)) (.ok (.out (.exit 1) (soCk P 0 i)))).run := by kernel_rfl
theorem eCkg (P : Pg) (m : Int) : (evF prog [(142, gLf)] [(7, lcst (soCk P 0 0) (.exit 1) (soCk P 0 P.n))] polCk f129 [pgV P, .i .i64 m] [] qn).run =
  (Tr.br (decide (m < (P.n : Int))) (.ok (.ret (.i .i64 2) [])) (.br (decide ((P.n : Int) < 3)) (.ok (.ret (.i .i64 3) [])) (.br (qh (isLS (soCk P 0 0) (soCk P 0 0))) (.ok (.ret (.i .i64 0) [])) (.no 1)))).run := by kernel_rfl
theorem eCkb (P : Pg) (m i : Int) : (evF prog [(142, gLf)] [(7, lcst (soCk P 0 0) .ret (soCk P 3 i))] polCk f129 [pgV P, .i .i64 m] [] qn).run =
  (Tr.br (decide (m < (P.n : Int))) (.ok (.ret (.i .i64 2) [])) (.br (decide ((P.n : Int) < 3)) (.ok (.ret (.i .i64 3) [])) (.br (qh (isLS (soCk P 0 0) (soCk P 0 0))) (.ok (.ret (.i .i64 3) [])) (.no 1)))).run := by kernel_rfl
def pkR (P : Pg) (i k : Nat) : Bool := decide (0 < trP P i ((i + 1) % P.n) ((i + k) % P.n))
def pkI (P : Pg) (i : Nat) : Bool := (List.range (P.n - 2)).all fun j => pkR P i (j + 2)
def pkB (P : Pg) : Bool := (List.range P.n).all (pkI P)
def pkE (P : Pg) : Int := if pkB P = true then 0 else 3
theorem all_r {n : Nat} {f : Nat -> Bool} : (List.range n).all f = true ↔ ∀ j, 0 <= j -> j < n -> f j = true := by
 simp [List.all_eq_true, List.mem_range]
include hG in
theorem goesCi (hT : qu G) (P : Pg) (h3 : 3 <= P.n) (h8 : P.n <= 8) (i : Nat) (hi : i < P.n) :
  (pkI P i = true -> Goes (Rnd prog G f129.ntmps 0 [0, 4, 5, 6, 7, 8, 18, 19, 20] iCk) (siCk P 0 i 2) (.exit 3) (siCk P 0 i P.n)) /\
  (pkI P i = false -> ∃ k : Int, Goes (Rnd prog G f129.ntmps 0 [0, 4, 5, 6, 7, 8, 18, 19, 20] iCk) (siCk P 0 i 2) .ret (siCk P 3 i k)) := by
 have rd : ∀ (k : Int) (e : Exit) (ls : LS), (qe prog [(142, gLf)] [] polCk f129.ntmps 0 [0, 4, 5, 6, 7, 8, 18, 19, 20] iCk (siCk P 0 i k)).run = some (.out e ls) ->
   Rnd prog G f129.ntmps 0 [0, 4, 5, 6, 7, 8, 18, 19, 20] iCk (siCk P 0 i k) e ls := fun k e ls h =>
  qb hG (.cons (gkLf hG hT) .nil) mix (L := []) (pol := polCk) (k9 (by kernel_rfl)) (Nat.zero_le _) h
 have e1 : (((i : Nat) : Int) + 1).tmod P.n = (((i + 1) % P.n : Nat) : Int) := tmod_nat (i + 1) P.n
 have m1 := Nat.mod_lt (i + 1) (show 0 < P.n by omega)
 have st : ∀ j, j < P.n - 2 -> ∀ r, (Tr.br (decide (rcmp (trP P i ((i + 1) % P.n) ((i + (j + 2)) % P.n)) 0 <= (0 : Int))) (.ok (.out .ret (siCk P 3 i ((j + 2 : Nat) : Int)))) (.br (ovf (((j + 2 : Nat) : Int) + 1)) (.ok (.out .normal (siCk P 0 i (((j + 2 : Nat) : Int) + 1)))) (.no 1))).run = some r ->
   (qe prog [(142, gLf)] [] polCk f129.ntmps 0 [0, 4, 5, 6, 7, 8, 18, 19, 20] iCk (siCk P 0 i ((j + 2 : Nat) : Int))).run = some r := fun j hj r h => by
  have e2 : (((i : Nat) : Int) + ((j + 2 : Nat) : Int)).tmod P.n = (((i + (j + 2)) % P.n : Nat) : Int) := tmod_nat (i + (j + 2)) P.n
  have m2 := Nat.mod_lt (i + (j + 2)) (show 0 < P.n by omega)
  refine (tiCk P i ((j + 2 : Nat) : Int)).trans ?_
  rw [e1, e2, Int.toNat_natCast, Int.toNat_natCast, Int.toNat_natCast]
  generalize (i + 1) % P.n = a at *
  generalize (i + (j + 2)) % P.n = b at *
  rw [k5 (kE (by omega)), k5 (by simp only [ovf, kA, kD]; omega), k5 (by rw [kJ, kK]; omega), k5 (by simp only [kA, kD]; omega), k5 (by simp only [ovf, kA, kD]; omega), k5 (by rw [kJ, kK]; omega),
   k5 (by simp only [kA, kD]; omega)]
  exact h
 obtain ⟨w1, w2⟩ := Goes.search (R := Rnd prog G f129.ntmps 0 [0, 4, 5, 6, 7, 8, 18, 19, 20] iCk) (fun j => siCk P 0 i ((j + 2 : Nat) : Int)) (fun j => siCk P 3 i ((j + 2 : Nat) : Int)) (fun j => pkR P i (j + 2)) (P.n - 2) (e0 := .exit 3) (e1 := .ret) (fin := siCk P 0 i P.n) (by simp) (by simp)
  (fun j hj ok => by
   refine rd _ _ _ (st j hj _ ?_)
   rw [k6 (kF (by rw [rcmp_le]; exact Rat.not_le.2 (of_decide_eq_true ok))), k5 (by simp only [ovf, kA, kD]; omega), k7]
   rfl)
  (fun j hj ok => by
   refine rd _ _ _ (st j hj _ ?_)
   rw [k5 (kE (by rw [rcmp_le]; exact Rat.not_lt.1 (of_decide_eq_false ok))), k7])
  (by
   refine rd _ _ _ ((tiCk P i ((P.n - 2 + 2 : Nat) : Int)).trans ?_)
   rw [k6 (kF (by omega)), k7, show ((P.n - 2 + 2 : Nat) : Int) = (P.n : Int) by omega]) (P.n - 2) 0 (by omega)
 refine ⟨fun h => w1 (all_r.1 h), fun h => ⟨_, w2 fun h' => ?_⟩⟩
 have := all_r.2 h'
 rw [pkI] at h
 rw [this] at h
 cases h
include hG in
theorem pcCk (hT : qu G) (P : Pg) (h3 : 3 <= P.n) (h8 : P.n <= 8) (m : Int) (hm : (P.n : Int) <= m) : PC prog G 129 [pgV P, .i .i64 m] [] (.i .i64 (pkE P)) [] := by
 have gi := goesCi hG hT P h3 h8
 have orc : OrcOK prog G [(142, gLf)] := .cons (gkLf hG hT) .nil
 have rd : ∀ (i : Nat) (e : Exit) (ls S0 S1 : LS) (e' : Exit), Goes (Rnd prog G f129.ntmps 0 [0, 4, 5, 6, 7, 8, 18, 19, 20] iCk) S0 e' S1 -> (qe prog [(142, gLf)] [(10, lcst S0 e' S1)] polCk f129.ntmps 0 [0, 4, 5, 18, 19, 20] bCk (soCk P 0 i)).run = some (.out e ls) ->
   Rnd prog G f129.ntmps 0 [0, 4, 5, 18, 19, 20] bCk (soCk P 0 i) e ls := fun i e ls S0 S1 e' g h =>
  qb hG orc mix (pol := polCk) (lps1 (b := iCk) (live := [0, 4, 5, 6, 7, 8, 18, 19, 20]) (m := 0) (by kernel_rfl) (by kernel_rfl) (by kernel_rfl) (lcst_ok g)) (Nat.zero_le _) h
 have hl : ∀ (sp : qw), qv prog G f129.ntmps 0 [0, 4, 5, 18, 19, 20] bCk sp -> LpsOK prog G polCk f129.ntmps 0 [(7, sp)] (qd f129) := fun sp h =>
  lps1n (b := bCk) (b' := iCk) (live := [0, 4, 5, 18, 19, 20]) (m := 0) (by kernel_rfl) (by kernel_rfl) (by kernel_rfl) (by kernel_rfl) h
 have hx : Rnd prog G f129.ntmps 0 [0, 4, 5, 18, 19, 20] bCk (soCk P 0 P.n) (.exit 1) (soCk P 0 P.n) := by
  cases hB : pkI P 0 with
  | true =>
   refine rd P.n _ _ _ _ _ ((gi 0 (by omega)).1 hB) ((toCk P P.n ((0 : Nat) : Int) P.n).trans ?_)
   rw [k6 (kF (by omega)), k7]
  | false =>
   obtain ⟨k, g⟩ := (gi 0 (by omega)).2 hB
   refine rd P.n _ _ _ _ _ g ((toCkb P P.n ((0 : Nat) : Int) k).trans ?_)
   rw [k6 (kF (by omega)), k7]
 obtain ⟨w1, w2⟩ := Goes.search (R := Rnd prog G f129.ntmps 0 [0, 4, 5, 18, 19, 20] bCk) (fun i => soCk P 0 ((i : Nat) : Int)) (fun i => soCk P 3 ((i : Nat) : Int)) (pkI P) P.n (e0 := .exit 1) (e1 := .ret) (fin := soCk P 0 P.n) (by simp) (by simp)
  (fun i hi ok => by
   refine rd i _ _ _ _ _ ((gi i hi).1 ok) ((toCk P i i P.n).trans ?_)
   rw [k5 (kE (by omega)), k5 (by simp only [kA, kD]; omega), k5 isLS_t, k5 (by simp only [ovf, kA, kD]; omega), k7]
   rfl)
  (fun i hi ok => by
   obtain ⟨k, g⟩ := (gi i hi).2 ok
   refine rd i _ _ _ _ _ g ((toCkb P i i k).trans ?_)
   rw [k5 (kE (by omega)), k5 (by simp only [kA, kD]; omega), k5 isLS_t, k7])
  hx P.n 0 (by omega)
 unfold pkE
 cases hB : pkB P with
 | true =>
  rw [if_pos rfl]
  have g : Goes (Rnd prog G f129.ntmps 0 [0, 4, 5, 18, 19, 20] bCk) (soCk P 0 0) (.exit 1) (soCk P 0 P.n) := w1 (all_r.1 hB)
  refine ql hG orc mix enPk (hs := []) (pol := polCk) (L := [(7, lcst (soCk P 0 0) (.exit 1) (soCk P 0 P.n))]) (hl _ (lcst_ok g)) ?_
  refine (eCkg P m).trans ?_
  rw [k6 (kF (by omega)), k6 (kF (by omega)), k5 isLS_t, k7]
 | false =>
  rw [if_neg (by decide)]
  have hn : ¬ ∀ j, 0 <= j -> j < P.n -> pkI P j = true := fun h => by
   have := all_r.2 h
   rw [pkB, this] at hB
   cases hB
  have g : Goes (Rnd prog G f129.ntmps 0 [0, 4, 5, 18, 19, 20] bCk) (soCk P 0 0) .ret (soCk P 3 ((fbad (pkI P) P.n 0 : Nat) : Int)) := w2 hn
  generalize ((fbad (pkI P) P.n 0 : Nat) : Int) = q at g
  refine ql hG orc mix enPk (hs := []) (pol := polCk) (L := [(7, lcst (soCk P 0 0) .ret (soCk P 3 q))]) (hl _ (lcst_ok g)) ?_
  refine (eCkb P m q).trans ?_
  rw [k6 (kF (by omega)), k6 (kF (by omega)), k5 isLS_t, k7]
theorem enCv : Enters prog 130 f130 (qd f130) := ⟨func130, by kernel_rfl, rfl⟩
theorem enCh : Enters prog 118 f118 (qd f118) := ⟨func118, by kernel_rfl, rfl⟩
theorem eCv (P : Pg) (e : Int) : (evF prog [(129, cst [pgV P, .i .i64 64] True (.i .i64 e))] [] {} f130 [pgV P] [] qn).run = (Tr.br (qh (isA [pgV P, .i .i64 64] True [pgV P, .i .i64 64])) (.ok (.ret (.i .i64 e) [])) (.no 1)).run := by kernel_rfl
theorem eCh (P : Pg) (e : Int) : (evF prog [(129, cst [pgV P, .i .i64 8] True (.i .i64 e))] [] {} f118 [pgV P] [] qn).run = (Tr.br (qh (isA [pgV P, .i .i64 8] True [pgV P, .i .i64 8])) (.ok (.ret (.i .i64 e) [])) (.no 1)).run := by kernel_rfl
include hG in
theorem pcCv (hT : qu G) (P : Pg) (h3 : 3 <= P.n) (h8 : P.n <= 8) : PC prog G 130 [pgV P] [] (.i .i64 (pkE P)) [] := by
 refine ql hG (.cons (cst_t (pcCk hG hT P h3 h8 64 (by omega))) .nil) mix enCv (hs := []) (L := []) (pol := {}) (k9 (by kernel_rfl)) ((eCv P (pkE P)).trans ?_)
 rw [k5 (decP_iff.2 ⟨rfl, trivial⟩), k7]
include hG in
theorem pcCh (hT : qu G) (P : Pg) (h3 : 3 <= P.n) (h8 : P.n <= 8) : PC prog G 118 [pgV P] [] (.i .i64 (pkE P)) [] := by
 refine ql hG (.cons (cst_t (pcCk hG hT P h3 h8 8 (by omega))) .nil) mix enCh (hs := []) (L := []) (pol := {}) (k9 (by kernel_rfl)) ((eCh P (pkE P)).trans ?_)
 rw [k5 (decP_iff.2 ⟨rfl, trivial⟩), k7]
def rz : PV := .agg [.bl false, .s ⟨#[]⟩, .s ⟨#[]⟩]
def rzV : PV := .agg [rz, rz]
def rzB : PV := .agg [rzV, rzV]
theorem eGdR : (evF prog [] [] {} f92 [rz] [] qn).run = some (.ret (.bl false) []) := by kernel_rfl
theorem eFtR : (evF prog [(92, cst [rz] True (.bl false)), (93, s110)] [] {} f64 [rz] [] qn).run = (Tr.br (qh (isA [rz] True [rz])) (.ok (.ret (.agg [.bl false, .s ⟨#[]⟩, .s ⟨#[1]⟩]) [])) (.no 1)).run := by kernel_rfl
theorem eAdR : (evF prog [(64, cst [rz] True (.q 0 1)), (86, g75), (81, g76 1), (87, h77)] [] {} f52 [rz, rz] [] qn).run =
  (Tr.br (qh (isA [rz] True [rz])) (.br (qh (isA [rz] True [rz])) (.br (qh (M76 (sgV (qm (0 : Rat)) (qt (0 : Rat)) (qm (0 : Rat)) (qt (0 : Rat))) (qp (0 : Rat)) 1)) (.ok (.ret (.q (mkq (sgB (qm (0 : Rat)) (qt (0 : Rat)) (qm (0 : Rat)) (qt (0 : Rat))) (sgV (qm (0 : Rat)) (qt (0 : Rat)) (qm (0 : Rat)) (qt (0 : Rat))) (qp (0 : Rat))) 1) [])) (.no 1)) (.no 1)) (.no 1)).run := by kernel_rfl
theorem eVaR : (evF prog [(52, cst [rz, rz] True (.q 0 1))] [] {} f112 [rzV, rzV] [] qn).run = (Tr.br (qh (isA [rz, rz] True [rz, rz])) (.br (qh (isA [rz, rz] True [rz, rz])) (.ok (.ret (.agg [.q 0 1, .q 0 1]) [])) (.no 1)) (.no 1)).run := by kernel_rfl
include hG in
theorem pcVaR (hT : qu G) : PC prog G 112 [rzV, rzV] [] (.agg [.q 0 1, .q 0 1]) [] := by
 have p92 : PC prog G 92 [rz] [] (.bl false) [] := ql hG .nil mix enter109 (hs := []) (L := []) (pol := {}) (k9 (by kernel_rfl)) eGdR
 have p64 : PC prog G 64 [rz] [] (.q 0 1) [] := by
  refine (ql hG (.cons (cst_t p92) (.cons (ok110 hG) .nil)) mix enter74 (hs := []) (L := []) (pol := {}) (k9 (by kernel_rfl)) (eFtR.trans (k5 (decP_iff.2 ⟨rfl, trivial⟩)))).le ?_ (.refl _)
  have h := made_z (nv := .bl false) (neg := false) rfl 1 (W := 1) (by omega)
  rw [show mkz false 0 1 = 0 by rfl] at h
  exact h
 have p52 : PC prog G 52 [rz, rz] [] (.q 0 1) [] := by
  refine ql hG (.cons (cst_t p64) (.cons (gk75 hG) (.cons (gk76 hG hT 1) (.cons (hk77 hG) .nil)))) mix enter21 (hs := []) (L := []) (pol := {}) (k9 (by kernel_rfl)) (eAdR.trans ?_)
  rw [k5 (decP_iff.2 ⟨rfl, trivial⟩), k5 (decP_iff.2 ⟨rfl, trivial⟩)]
  simp only [rnum_eq, rden_eq, sgB_nb, sgV_nb]
  have hb := sgn2_le (qm (0 : Rat)) (0 : Rat).num.natAbs (qm (0 : Rat)) (0 : Rat).num.natAbs
  have z0 : (0 : Rat).num.natAbs = 0 := rfl
  have z1 : (0 : Rat).den = 1 := rfl
  rw [k5 (decP_iff.2 ⟨by rw [qD], by rw [qD], by rw [qD]; omega, by rw [qD]; omega, by rw [qD]; omega, by omega, by omega⟩), k7, mkq_nb, <- rat_add_same 0 0 rfl, Rat.add_zero]
 exact ql hG (.cons (cst_t p52) .nil) mix enter57 (hs := []) (L := []) (pol := {}) (k9 (by kernel_rfl)) (eVaR.trans ((k5 (decP_iff.2 ⟨rfl, trivial⟩)).trans (k5 (decP_iff.2 ⟨rfl, trivial⟩))))
def gVa : Spec := fun args hs K => match args with
 | [.agg [.agg a, b], c] => cst [rzV, rzV] True (.agg [.q 0 1, .q 0 1]) [.agg [.agg a, b], c] hs K
 | args => g57 args hs K
include hG in
theorem gkVa (hT : qu G) : qc prog G 112 gVa := by
 intro args hs K x h
 unfold gVa at h
 split at h
 ·exact cst_t (pcVaR hG hT) _ _ _ _ h
 ·exact gk57 hG hT _ _ _ _ h
theorem enBo' : Enters prog 97 f97 (qd f97) := ⟨func97, by kernel_rfl, rfl⟩
def bBo : Code := (qi (qd f97)).getD 0 .skip
def polBo : Pol := { live := [(7, [2, 5, 26, 27, 28])] }
def bb (a b c d : Rat) : PV := .agg [.agg [.q a 32140, .q b 32140], .agg [.q c 32140, .q d 32140]]
def stBo (P : Pg) (a b c d : Rat) (i : Int) : LS := ⟨[.ptr 0 12 0 0 [], .ptr 1 12 0 0 [], .lst 6 (.fn (P.n - 1) (fun j => pw (P.u (j + 1)) (P.v (j + 1)))), .i .i64 ((P.n - 1 : Nat) : Int), .i .i64 i], [some ⟨12, .vals [rzB]⟩, some ⟨12, .vals [bb a b c d]⟩]⟩
theorem tBo (P : Pg) (a b c d : Rat) (i : Int) : (qe prog [(27, g86), (48, g80)] [] polBo f97.ntmps 0 [2, 5, 26, 27, 28] bBo (stBo P a b c d i)).run =
  (Tr.br (decide (i < ((P.n - 1 : Nat) : Int))) (.br (ix (i) (((P.n - 1 : Nat) : Int))) (.br (ovf (i + 1)) (.ok (.out .normal (stBo P (mnR a (P.u (i.toNat + 1))) (mnR b (P.v (i.toNat + 1))) (mxR c (P.u (i.toNat + 1))) (mxR d (P.v (i.toNat + 1))) (i + 1)))) (.no 1)) (.no 1)) (.ok (.out (.exit 0) (stBo P a b c d i)))).run := by kernel_rfl
theorem eBo (P : Pg) (a b c d : Rat) : (evF prog [(112, gVa)] [(7, lcst (stBo P (P.u 0 + 0) (P.v 0 + 0) (P.u 0 + 0) (P.v 0 + 0) 0) (.exit 0) (stBo P a b c d ((P.n - 1 : Nat) : Int)))] polBo f97 [pgV P] [] qn).run =
  (Tr.br (qh (isA [rzV, rzV] True [rzV, rzV])) (.br (decide ((P.n : Int) = 0)) (.ok (.ret (.agg [.agg [.q 0 1, .q 0 1], .agg [.q 0 1, .q 0 1]]) [])) (.br (decide ((0 : Int) <= 0) && decide ((0 : Int) < (P.n : Int))) (.br (decide ((0 : Int) <= 1) && decide ((1 : Int) <= (P.n : Int))) (.br (qh (isLS (stBo P (P.u 0 + 0) (P.v 0 + 0) (P.u 0 + 0) (P.v 0 + 0) 0) (stBo P (P.u 0 + 0) (P.v 0 + 0) (P.u 0 + 0) (P.v 0 + 0) 0))) (.ok (.ret (bb a b c d) [])) (.no 1)) (.no 1)) (.no 1))) (.no 1)).run := by kernel_rfl
def mnF (u : Nat -> Rat) : Nat -> Rat
 | 0 => u 0 + 0
 | k + 1 => mnR (mnF u k) (u (k + 1))
def mxF (u : Nat -> Rat) : Nat -> Rat
 | 0 => u 0 + 0
 | k + 1 => mxR (mxF u k) (u (k + 1))
def bxV (P : Pg) : PV := bb (mnF P.u (P.n - 1)) (mnF P.v (P.n - 1)) (mxF P.u (P.n - 1)) (mxF P.v (P.n - 1))
include hG in
theorem pcBo (hT : qu G) (P : Pg) (h3 : 3 <= P.n) (h8 : P.n <= 8) : PC prog G 97 [pgV P] [] (bxV P) [] := by
 have orc : OrcOK prog G [(27, g86), (48, g80)] := .cons (gk86 hG hT) (.cons (gk80 hG hT) .nil)
 have w := Goes.count (R := Rnd prog G f97.ntmps 0 [2, 5, 26, 27, 28] bBo) (fun i => stBo P (mnF P.u i) (mnF P.v i) (mxF P.u i) (mxF P.v i) ((i : Nat) : Int)) (e := .exit 0) (ls' := stBo P (mnF P.u (P.n - 1)) (mnF P.v (P.n - 1)) (mxF P.u (P.n - 1)) (mxF P.v (P.n - 1)) ((P.n - 1 : Nat) : Int)) (by simp) (P.n - 1) 0
  (fun i _ hi => by
   refine qb hG orc mix (L := []) (pol := polBo) (k9 (by kernel_rfl)) (Nat.zero_le _) ((tBo P _ _ _ _ i).trans ?_)
   rw [k5 (kE (by omega)), k5 (by simp only [kA, kD]; omega), k5 (by simp only [ovf, kA, kD]; omega), k7]
   rfl)
  (by
   refine qb hG orc mix (L := []) (pol := polBo) (k9 (by kernel_rfl)) (Nat.zero_le _) ((tBo P _ _ _ _ _).trans ?_)
   rw [Nat.zero_add, k6 (kF (by omega)), k7])
 have g : Goes (Rnd prog G f97.ntmps 0 [2, 5, 26, 27, 28] bBo) (stBo P (P.u 0 + 0) (P.v 0 + 0) (P.u 0 + 0) (P.v 0 + 0) 0) (.exit 0) (stBo P (mnF P.u (P.n - 1)) (mnF P.v (P.n - 1)) (mxF P.u (P.n - 1)) (mxF P.v (P.n - 1)) ((P.n - 1 : Nat) : Int)) := w
 refine ql hG (.cons (gkVa hG hT) .nil) mix enBo' (hs := []) (pol := polBo) (L := [(7, lcst (stBo P (P.u 0 + 0) (P.v 0 + 0) (P.u 0 + 0) (P.v 0 + 0) 0) (.exit 0) (stBo P (mnF P.u (P.n - 1)) (mnF P.v (P.n - 1)) (mxF P.u (P.n - 1)) (mxF P.v (P.n - 1)) ((P.n - 1 : Nat) : Int)))]) (lps1 (b := bBo) (live := [2, 5, 26, 27, 28]) (m := 0) (by kernel_rfl) (by kernel_rfl) (by kernel_rfl) (lcst_ok g)) ((eBo P _ _ _ _).trans ?_)
 rw [k5 (decP_iff.2 ⟨rfl, trivial⟩), k6 (kF (by omega)), k5 (by simp only [kA, kD]; omega), k5 (by simp only [kA, kD]; omega), k5 isLS_t, k7]
 rfl
theorem enVl : Enters prog 119 f119 (qd f119) := ⟨func119, by kernel_rfl, rfl⟩
theorem enAb : Enters prog 96 f96 (qd f96) := ⟨func96, by kernel_rfl, rfl⟩
def gVl : Spec := evF prog [(57, g27)] [] {} f119
def rl (x y : Rat) : Bool := decide (rcmp x y <= (0 : Int))
def trA (c1 c2 c3 c4 c5 c6 c7 c8 : Bool) : Tr :=
 .br c1 (.br c2 (.br c3 (.br c4 (.br c5 (.br c6 (.br c7 (.ok (.ret (.b c8) [])) (.ok (.ret (.bl false) []))) (.ok (.ret (.bl false) []))) (.ok (.ret (.bl false) []))) (.ok (.ret (.bl false) []))) (.ok (.ret (.bl false) []))) (.ok (.ret (.bl false) []))) (.ok (.ret (.bl false) []))
theorem eAb (a b c d p q r s : Rat) : (evF prog [(57, g27), (119, gVl)] [] {} f96 [bb a b c d, bb p q r s] [] qn).run = (trA (rl a c) (rl b d) (rl p r) (rl q s) (rl a r) (rl p c) (rl b s) (rl q d)).run := by kernel_rfl
theorem trA_run : ∀ (c1 c2 c3 c4 c5 c6 c7 c8 : Bool), ∃ r, (trA c1 c2 c3 c4 c5 c6 c7 c8).run = some (.ret r []) /\ RLe r (.bl (c1 && c2 && c3 && c4 && c5 && c6 && c7 && c8))
 | false, _, _, _, _, _, _, _ => ⟨_, rfl, .refl _⟩
 | true, false, _, _, _, _, _, _ => ⟨_, rfl, .refl _⟩
 | true, true, false, _, _, _, _, _ => ⟨_, rfl, .refl _⟩
 | true, true, true, false, _, _, _, _ => ⟨_, rfl, .refl _⟩
 | true, true, true, true, false, _, _, _ => ⟨_, rfl, .refl _⟩
 | true, true, true, true, true, false, _, _ => ⟨_, rfl, .refl _⟩
 | true, true, true, true, true, true, false, _ => ⟨_, rfl, .refl _⟩
 | true, true, true, true, true, true, true, _ => ⟨_, rfl, rle_b rfl⟩
def bxB (P Q : Pg) : Bool := rl (mnF P.u (P.n - 1)) (mxF P.u (P.n - 1)) && rl (mnF P.v (P.n - 1)) (mxF P.v (P.n - 1)) && rl (mnF Q.u (Q.n - 1)) (mxF Q.u (Q.n - 1)) && rl (mnF Q.v (Q.n - 1)) (mxF Q.v (Q.n - 1)) &&
 rl (mnF P.u (P.n - 1)) (mxF Q.u (Q.n - 1)) && rl (mnF Q.u (Q.n - 1)) (mxF P.u (P.n - 1)) && rl (mnF P.v (P.n - 1)) (mxF Q.v (Q.n - 1)) && rl (mnF Q.v (Q.n - 1)) (mxF P.v (P.n - 1))
include hG in
theorem pcAb (hT : qu G) (P Q : Pg) : PC prog G 96 [bxV P, bxV Q] [] (.bl (bxB P Q)) [] := by
 obtain ⟨r, h1, h2⟩ := trA_run (rl (mnF P.u (P.n - 1)) (mxF P.u (P.n - 1))) (rl (mnF P.v (P.n - 1)) (mxF P.v (P.n - 1))) (rl (mnF Q.u (Q.n - 1)) (mxF Q.u (Q.n - 1))) (rl (mnF Q.v (Q.n - 1)) (mxF Q.v (Q.n - 1)))
  (rl (mnF P.u (P.n - 1)) (mxF Q.u (Q.n - 1))) (rl (mnF Q.u (Q.n - 1)) (mxF P.u (P.n - 1))) (rl (mnF P.v (P.n - 1)) (mxF Q.v (Q.n - 1))) (rl (mnF Q.v (Q.n - 1)) (mxF P.v (P.n - 1)))
 exact (ql hG (.cons (gk27 hG hT) (.cons (spec_ev hG (.cons (gk27 hG hT) .nil) mix enVl (fun _ => k9 (by kernel_rfl))) .nil)) mix enAb (hs := []) (L := []) (pol := {}) (k9 (by kernel_rfl)) ((eAb _ _ _ _ _ _ _ _).trans h1)).le h2 (.refl _)
theorem enBy : Enters prog 121 f121 (qd f121) := ⟨func121, by kernel_rfl, rfl⟩
def bBy : Code := (qi (qd f121)).getD 0 .skip
def iBy : Code := (qi (qd f121)).getD 1 .skip
def polBy : Pol := { live := [(2, [0, 1, 4, 5, 13, 14, 15]), (8, [0, 1, 4, 5, 7, 9, 10, 13, 14, 15, 36, 37, 38])] }
def gDt : Spec := evF prog [(52, g21), (53, g43)] [] {} f131
theorem enDt : Enters prog 131 f131 (qd f131) := ⟨func131, by kernel_rfl, rfl⟩
def RBy : Orc := [(63, g41), (65, g83), (101, g26), (131, gDt)]
include hG in
theorem orcBy (hT : qu G) : OrcOK prog G RBy := .cons (gk41 hG hT) (.cons (gk83 hG hT) (.cons (gk26 hG hT) (.cons (spec_ev hG (.cons (gk21 hG hT) (.cons (gk43 hG hT) .nil)) mix enDt (fun _ => k9 (by kernel_rfl))) .nil)))
def nv (a b : Rat) : PV := .agg [.q a 64277, .q b 64277]
def siBy (P Q : Pg) (i : Int) (k : Nat) (a b : Rat) (far : PV) (j : Int) : LS := ⟨[pgV P, pgV Q, .ptr 0 6 0 0 [], .bl false, .ptr 1 6 0 0 [], .ptr 2 6 0 0 [], far, pgV P, .i .i64 P.n, .i .i64 i, pgV Q, .i .i64 Q.n, .i .i64 j], [some ⟨6, .vals [rzV]⟩, some ⟨6, .vals [pw (P.u k) (P.v k)]⟩, some ⟨6, .vals [nv a b]⟩]⟩
def soBy (P Q : Pg) (i : Int) (r : PV) (v : PV) : LS := ⟨[pgV P, pgV Q, .ptr 0 6 0 0 [], r, pgV P, .i .i64 P.n, .i .i64 i], [some ⟨6, .vals [v]⟩]⟩
def trB (P Q : Pg) (i : Int) (k : Nat) (a b : Rat) (j : Int) (far far' : PV) : Tr :=
 .br (decide (j < (Q.n : Int))) (.br (decide ((0 : Int) <= j) && decide (j < (Q.n : Int))) (.br (ovf (j + 1)) (.ok (.out .normal (siBy P Q i k a b far' (j + 1)))) (.no 1)) (.no 1)) (.ok (.out (.exit 2) (siBy P Q i k a b far j)))
def dV (P Q : Pg) (k : Nat) (a b : Rat) (j : Nat) : Bool := decide ((0 : Int) < rcmp (a * (Q.u j - P.u k) + b * (Q.v j - P.v k)) 0)
theorem tiA (P Q : Pg) (i : Int) (k : Nat) (a b : Rat) (j : Int) : (qe prog RBy [] polBy f121.ntmps 0 [0, 1, 4, 5, 7, 9, 10, 13, 14, 15, 36, 37, 38] iBy (siBy P Q i k a b (.bl true) j)).run = (trB P Q i k a b j (.bl true) (.b (dV P Q k a b j.toNat))).run := by kernel_rfl
theorem tiB (P Q : Pg) (i : Int) (k : Nat) (a b : Rat) (j : Int) : (qe prog RBy [] polBy f121.ntmps 0 [0, 1, 4, 5, 7, 9, 10, 13, 14, 15, 36, 37, 38] iBy (siBy P Q i k a b (.b true) j)).run = (trB P Q i k a b j (.b true) (.b (dV P Q k a b j.toNat))).run := by kernel_rfl
theorem tiC (P Q : Pg) (i : Int) (k : Nat) (a b : Rat) (j : Int) : (qe prog RBy [] polBy f121.ntmps 0 [0, 1, 4, 5, 7, 9, 10, 13, 14, 15, 36, 37, 38] iBy (siBy P Q i k a b (.b false) j)).run = (trB P Q i k a b j (.b false) (.bl false)).run := by kernel_rfl
theorem tiD (P Q : Pg) (i : Int) (k : Nat) (a b : Rat) (j : Int) : (qe prog RBy [] polBy f121.ntmps 0 [0, 1, 4, 5, 7, 9, 10, 13, 14, 15, 36, 37, 38] iBy (siBy P Q i k a b (.bl false) j)).run = (trB P Q i k a b j (.bl false) (.bl false)).run := by kernel_rfl
def nX (P : Pg) (i k : Nat) : Rat := P.v k - P.v i
def nY (P : Pg) (i k : Nat) : Rat := -(P.u k - P.u i)
def trOB (P Q : Pg) (i : Int) (S0 : LS) (res : Tr) : Tr :=
 .br (decide (i < (P.n : Int))) (.br (decide ((0 : Int) <= i) && decide (i < (P.n : Int))) (.br (ovf (i + 1)) (.br (!decide ((P.n : Int) = 0)) (.br (decide ((0 : Int) <= (i + 1).tmod P.n) && decide ((i + 1).tmod P.n < (P.n : Int)))
  (.br (qh (isLS S0 (siBy P Q i i.toNat (nX P i.toNat ((i + 1).tmod P.n).toNat) (nY P i.toNat ((i + 1).tmod P.n).toNat) (.bl true) 0))) res (.no 1)) (.no 1)) (.no 1)) (.no 1)) (.no 1)) (.ok (.out (.exit 0) (soBy P Q i (.bl false) rzV)))
theorem toT (P Q : Pg) (i q : Int) (k : Nat) (a b : Rat) : (qe prog RBy [(8, lcst (siBy P Q q k a b (.bl true) 0) (.exit 2) (siBy P Q q k a b (.b true) Q.n))] polBy f121.ntmps 0 [0, 1, 4, 5, 13, 14, 15] bBy (soBy P Q i (.bl false) rzV)).run =
  (trOB P Q i (siBy P Q q k a b (.bl true) 0) (.ok (.out .ret (soBy P Q q (.bl true) (nv a b))))).run := by kernel_rfl
theorem toF (P Q : Pg) (i q : Int) (k : Nat) (a b : Rat) : (qe prog RBy [(8, lcst (siBy P Q q k a b (.bl true) 0) (.exit 2) (siBy P Q q k a b (.b false) Q.n))] polBy f121.ntmps 0 [0, 1, 4, 5, 13, 14, 15] bBy (soBy P Q i (.bl false) rzV)).run =
  (trOB P Q i (siBy P Q q k a b (.bl true) 0) (.br (ovf (q + 1)) (.ok (.out .normal (soBy P Q (q + 1) (.bl false) rzV))) (.no 1))).run := by kernel_rfl
theorem toG (P Q : Pg) (i q : Int) (k : Nat) (a b : Rat) : (qe prog RBy [(8, lcst (siBy P Q q k a b (.bl true) 0) (.exit 2) (siBy P Q q k a b (.bl false) Q.n))] polBy f121.ntmps 0 [0, 1, 4, 5, 13, 14, 15] bBy (soBy P Q i (.bl false) rzV)).run =
  (trOB P Q i (siBy P Q q k a b (.bl true) 0) (.br (ovf (q + 1)) (.ok (.out .normal (soBy P Q (q + 1) (.bl false) rzV))) (.no 1))).run := by kernel_rfl
theorem eByT (P Q : Pg) (q : Int) (a b : Rat) : (evF prog RBy [(2, lcst (soBy P Q 0 (.bl false) rzV) .ret (soBy P Q q (.bl true) (nv a b)))] polBy f121 [pgV P, pgV Q] [] qn).run =
  (Tr.br (qh (isLS (soBy P Q 0 (.bl false) rzV) (soBy P Q 0 (.bl false) rzV))) (.ok (.ret (.tup [nv a b, .bl true]) [])) (.no 1)).run := by kernel_rfl
theorem eByF (P Q : Pg) : (evF prog RBy [(2, lcst (soBy P Q 0 (.bl false) rzV) (.exit 0) (soBy P Q P.n (.bl false) rzV))] polBy f121 [pgV P, pgV Q] [] qn).run =
  (Tr.br (qh (isLS (soBy P Q 0 (.bl false) rzV) (soBy P Q 0 (.bl false) rzV))) (.ok (.ret (.tup [rzV, .bl false]) [])) (.no 1)).run := by kernel_rfl
def dB (P Q : Pg) (i j : Nat) : Bool := dV P Q i (nX P i ((i + 1) % P.n)) (nY P i ((i + 1) % P.n)) j
def bgB (P Q : Pg) (i : Nat) : Bool := (List.range Q.n).all (dB P Q i)
def byB (P Q : Pg) : Bool := !(List.range P.n).all (fun i => !bgB P Q i)
def fa (P Q : Pg) (i : Nat) : Nat -> PV
 | 0 => .bl true
 | j + 1 => if (List.range j).all (dB P Q i) = true then .b (dB P Q i j) else .bl false
theorem fa_succ (P Q : Pg) (i j : Nat) : fa P Q i (j + 1) = if (List.range j).all (dB P Q i) = true then .b (dB P Q i j) else .bl false := rfl
theorem all_succ {f : Nat -> Bool} {j : Nat} : (List.range (j + 1)).all f = ((List.range j).all f && f j) := by
 rw [List.range_succ, List.all_append]
 simp
include hG in
theorem goesBi (hT : qu G) (P Q : Pg) (h3 : 1 <= Q.n) (h8 : Q.n <= 8) (i : Nat) :
  Goes (Rnd prog G f121.ntmps 0 [0, 1, 4, 5, 7, 9, 10, 13, 14, 15, 36, 37, 38] iBy) (siBy P Q i i (nX P i ((i + 1) % P.n)) (nY P i ((i + 1) % P.n)) (.bl true) 0) (.exit 2) (siBy P Q i i (nX P i ((i + 1) % P.n)) (nY P i ((i + 1) % P.n)) (fa P Q i Q.n) Q.n) := by
 have key : ∀ (j : Nat), ∃ far', (qe prog RBy [] polBy f121.ntmps 0 [0, 1, 4, 5, 7, 9, 10, 13, 14, 15, 36, 37, 38] iBy (siBy P Q i i (nX P i ((i + 1) % P.n)) (nY P i ((i + 1) % P.n)) (fa P Q i j) j)).run = (trB P Q i i (nX P i ((i + 1) % P.n)) (nY P i ((i + 1) % P.n)) j (fa P Q i j) far').run /\ far' = fa P Q i (j + 1) := by
  intro j
  match j with
  | 0 => exact ⟨_, tiA P Q i i _ _ _, rfl⟩
  | k + 1 =>
   rw [fa_succ P Q i k, fa_succ P Q i (k + 1), all_succ]
   cases h1 : (List.range k).all (dB P Q i) with
   | false =>
    rw [if_neg (by decide), if_neg (by simp)]
    exact ⟨_, tiD P Q i i _ _ _, rfl⟩
   | true =>
    rw [if_pos rfl]
    cases h2 : dB P Q i k with
    | false =>
     rw [if_neg (by decide)]
     exact ⟨_, tiC P Q i i _ _ _, rfl⟩
    | true =>
     rw [if_pos (by decide)]
     exact ⟨_, tiB P Q i i _ _ _, rfl⟩
 have w := Goes.count (R := Rnd prog G f121.ntmps 0 [0, 1, 4, 5, 7, 9, 10, 13, 14, 15, 36, 37, 38] iBy) (fun j => siBy P Q i i (nX P i ((i + 1) % P.n)) (nY P i ((i + 1) % P.n)) (fa P Q i j) ((j : Nat) : Int)) (e := .exit 2) (ls' := siBy P Q i i (nX P i ((i + 1) % P.n)) (nY P i ((i + 1) % P.n)) (fa P Q i Q.n) Q.n) (by simp) Q.n 0
  (fun j _ hj => by
   obtain ⟨f', k1, rfl⟩ := key j
   refine qb hG (orcBy hG hT) mix (L := []) (pol := polBy) (k9 (by kernel_rfl)) (Nat.zero_le _) (k1.trans ?_)
   unfold trB
   rw [k5 (kE (by omega)), k5 (by simp only [kA, kD]; omega), k5 (by simp only [ovf, kA, kD]; omega), k7]
   rfl)
  (by
   obtain ⟨f', k1, rfl⟩ := key Q.n
   rw [Nat.zero_add]
   refine qb hG (orcBy hG hT) mix (L := []) (pol := polBy) (k9 (by kernel_rfl)) (Nat.zero_le _) (k1.trans ?_)
   unfold trB
   rw [k6 (kF (by omega)), k7])
 exact w
theorem fa_t {P Q : Pg} {i : Nat} (h1 : 1 <= Q.n) (h : bgB P Q i = true) : fa P Q i Q.n = .b true := by
 obtain ⟨m, hm⟩ : ∃ m, Q.n = m + 1 := ⟨Q.n - 1, by omega⟩
 unfold bgB at h
 rw [hm] at h ⊢
 rw [all_succ, kA] at h
 rw [fa_succ, if_pos h.1, h.2]
theorem fa_f {P Q : Pg} {i : Nat} (h1 : 1 <= Q.n) (h : bgB P Q i = false) : fa P Q i Q.n = .b false \/ fa P Q i Q.n = .bl false := by
 obtain ⟨m, hm⟩ : ∃ m, Q.n = m + 1 := ⟨Q.n - 1, by omega⟩
 unfold bgB at h
 rw [hm] at h ⊢
 rw [all_succ] at h
 rw [fa_succ]
 cases h2 : (List.range m).all (dB P Q i) with
 | false => exact .inr rfl
 | true =>
  rw [h2] at h
  exact .inl (by rw [if_pos rfl, show dB P Q i m = false from h])
def nA (P Q : Pg) : Rat := nX P (fbad (fun i => !bgB P Q i) P.n 0) ((fbad (fun i => !bgB P Q i) P.n 0 + 1) % P.n)
def nB (P Q : Pg) : Rat := nY P (fbad (fun i => !bgB P Q i) P.n 0) ((fbad (fun i => !bgB P Q i) P.n 0 + 1) % P.n)
include hG in
theorem pcBy (hT : qu G) (P Q : Pg) (p3 : 3 <= P.n) (p8 : P.n <= 8) (q3 : 3 <= Q.n) (q8 : Q.n <= 8) :
  (byB P Q = true -> PC prog G 121 [pgV P, pgV Q] [] (.tup [nv (nA P Q) (nB P Q), .bl true]) []) /\ (byB P Q = false -> PC prog G 121 [pgV P, pgV Q] [] (.tup [rzV, .bl false]) []) := by
 have gi := goesBi hG hT P Q (by omega) q8
 have rd : ∀ (i : Int) (e : Exit) (ls S0 S1 : LS), Goes (Rnd prog G f121.ntmps 0 [0, 1, 4, 5, 7, 9, 10, 13, 14, 15, 36, 37, 38] iBy) S0 (.exit 2) S1 -> (qe prog RBy [(8, lcst S0 (.exit 2) S1)] polBy f121.ntmps 0 [0, 1, 4, 5, 13, 14, 15] bBy (soBy P Q i (.bl false) rzV)).run = some (.out e ls) ->
   Rnd prog G f121.ntmps 0 [0, 1, 4, 5, 13, 14, 15] bBy (soBy P Q i (.bl false) rzV) e ls := fun i e ls S0 S1 g h =>
  qb hG (orcBy hG hT) mix (pol := polBy) (lps1 (b := iBy) (live := [0, 1, 4, 5, 7, 9, 10, 13, 14, 15, 36, 37, 38]) (m := 0) (by kernel_rfl) (by kernel_rfl) (by kernel_rfl) (lcst_ok g)) (Nat.zero_le _) h
 have hl : ∀ (sp : qw), qv prog G f121.ntmps 0 [0, 1, 4, 5, 13, 14, 15] bBy sp -> LpsOK prog G polBy f121.ntmps 0 [(2, sp)] (qd f121) := fun sp h =>
  lps1n (b := bBy) (b' := iBy) (live := [0, 1, 4, 5, 13, 14, 15]) (m := 0) (by kernel_rfl) (by kernel_rfl) (by kernel_rfl) (by kernel_rfl) h
 have step : ∀ (i : Nat) (res : Tr) (r : Res), i < P.n -> res.run = some r -> (trOB P Q i (siBy P Q i i (nX P i ((i + 1) % P.n)) (nY P i ((i + 1) % P.n)) (.bl true) 0) res).run = some r := fun i res r hi h => by
  have e1 : (((i : Nat) : Int) + 1).tmod P.n = (((i + 1) % P.n : Nat) : Int) := tmod_nat (i + 1) P.n
  have m1 := Nat.mod_lt (i + 1) (show 0 < P.n by omega)
  unfold trOB
  rw [e1, Int.toNat_natCast, Int.toNat_natCast]
  generalize (i + 1) % P.n = a at *
  rw [k5 (kE (by omega)), k5 (by simp only [kA, kD]; omega), k5 (by simp only [ovf, kA, kD]; omega), k5 (by rw [kJ, kK]; omega), k5 (by simp only [kA, kD]; omega), k5 isLS_t]
  exact h
 have ext : ∀ (S0 : LS) (res : Tr), (trOB P Q P.n S0 res).run = some (.out (.exit 0) (soBy P Q P.n (.bl false) rzV)) := fun S0 res => by
  unfold trOB
  rw [k6 (kF (by omega)), k7]
 have hx : Rnd prog G f121.ntmps 0 [0, 1, 4, 5, 13, 14, 15] bBy (soBy P Q P.n (.bl false) rzV) (.exit 0) (soBy P Q P.n (.bl false) rzV) := by
  have g := gi 0
  cases hB : bgB P Q 0 with
  | true => rw [fa_t (by omega) hB] at g; exact rd P.n _ _ _ _ g ((toT P Q P.n _ _ _ _).trans (ext _ _))
  | false =>
   rcases fa_f (by omega) hB with hf | hf
   ·rw [hf] at g; exact rd P.n _ _ _ _ g ((toF P Q P.n _ _ _ _).trans (ext _ _))
   ·rw [hf] at g; exact rd P.n _ _ _ _ g ((toG P Q P.n _ _ _ _).trans (ext _ _))
 obtain ⟨w1, w2⟩ := Goes.search (R := Rnd prog G f121.ntmps 0 [0, 1, 4, 5, 13, 14, 15] bBy) (fun i => soBy P Q ((i : Nat) : Int) (.bl false) rzV) (fun i => soBy P Q ((i : Nat) : Int) (.bl true) (nv (nX P i ((i + 1) % P.n)) (nY P i ((i + 1) % P.n)))) (fun i => !bgB P Q i) P.n (e0 := .exit 0) (e1 := .ret) (fin := soBy P Q P.n (.bl false) rzV) (by simp) (by simp)
  (fun i hi ok => by
   have g := gi i
   rcases fa_f (by omega) (show bgB P Q i = false by simpa using ok) with hf | hf
   ·rw [hf] at g
    refine rd i _ _ _ _ g ((toF P Q i i i _ _).trans (step i _ _ hi ?_))
    rw [k5 (by simp only [ovf, kA, kD]; omega), k7]
    rfl
   ·rw [hf] at g
    refine rd i _ _ _ _ g ((toG P Q i i i _ _).trans (step i _ _ hi ?_))
    rw [k5 (by simp only [ovf, kA, kD]; omega), k7]
    rfl)
  (fun i hi ok => by
   have g := gi i
   rw [fa_t (by omega) (show bgB P Q i = true by simpa using ok)] at g
   exact rd i _ _ _ _ g ((toT P Q i i i _ _).trans (step i _ _ hi rfl)))
  hx P.n 0 (by omega)
 refine ⟨fun h => ?_, fun h => ?_⟩
 ·have hn : ¬ ∀ j, 0 <= j -> j < P.n -> (!bgB P Q j) = true := fun h' => by
   have := all_r.2 h'
   rw [byB, this] at h
   cases h
  have g : Goes (Rnd prog G f121.ntmps 0 [0, 1, 4, 5, 13, 14, 15] bBy) (soBy P Q 0 (.bl false) rzV) .ret (soBy P Q ((fbad (fun i => !bgB P Q i) P.n 0 : Nat) : Int) (.bl true) (nv (nA P Q) (nB P Q))) := w2 hn
  generalize ((fbad (fun i => !bgB P Q i) P.n 0 : Nat) : Int) = q at g
  refine ql hG (orcBy hG hT) mix enBy (hs := []) (pol := polBy) (L := [(2, lcst (soBy P Q 0 (.bl false) rzV) .ret (soBy P Q q (.bl true) (nv (nA P Q) (nB P Q))))]) (hl _ (lcst_ok g)) ((eByT P Q q _ _).trans ?_)
  rw [k5 isLS_t, k7]
 ·have hn : ∀ j, 0 <= j -> j < P.n -> (!bgB P Q j) = true := all_r.1 (by simpa [byB] using h)
  have g : Goes (Rnd prog G f121.ntmps 0 [0, 1, 4, 5, 13, 14, 15] bBy) (soBy P Q 0 (.bl false) rzV) (.exit 0) (soBy P Q P.n (.bl false) rzV) := w1 hn
  refine ql hG (orcBy hG hT) mix enBy (hs := []) (pol := polBy) (L := [(2, lcst (soBy P Q 0 (.bl false) rzV) (.exit 0) (soBy P Q P.n (.bl false) rzV))]) (hl _ (lcst_ok g)) ((eByF P Q).trans ?_)
  rw [k5 isLS_t, k7]
def dPg : PV -> Pg
 | .lst 6 (.fn n g) => ⟨n, fun j => dq (fldV (g j) 0), fun j => dq (fldV (g j) 1)⟩
 | _ => ⟨0, fun _ => 0, fun _ => 0⟩
def okP (P : Pg) : Prop := 3 <= P.n /\ P.n <= 8
def isPg (p : PV) : Prop := ∃ P, p = pgV P /\ okP P
def gCv : Spec := fun args hs K => match args, hs with
 | [p], [] => .br (qh (isPg p)) (K (.i .i64 (pkE (dPg p))) []) (.no 1)
 | _, _ => .no 1
include hG in
theorem gkCv (hT : qu G) : qc prog G 130 gCv := by
 intro args hs K x h
 unfold gCv at h
 split at h
 case h_2 => cases h
 obtain ⟨hc, hr⟩ := k8 h
 obtain ⟨P, rfl, h3, h8⟩ := decP_iff.1 hc
 exact ⟨_, _, pcCv hG hT P h3 h8, hr⟩
def gBx : Spec := fun args hs K => match args, hs with
 | [p], [] => .br (qh (isPg p)) (K (bxV (dPg p)) []) (.no 1)
 | _, _ => .no 1
include hG in
theorem gkBx (hT : qu G) : qc prog G 97 gBx := by
 intro args hs K x h
 unfold gBx at h
 split at h
 case h_2 => cases h
 obtain ⟨hc, hr⟩ := k8 h
 obtain ⟨P, rfl, h3, h8⟩ := decP_iff.1 hc
 exact ⟨_, _, pcBo hG hT P h3 h8, hr⟩
def gBy : Spec := fun args hs K => match args, hs with
 | [p, q], [] => .br (qh (isPg p /\ isPg q)) (.br (byB (dPg p) (dPg q)) (K (.tup [nv (nA (dPg p) (dPg q)) (nB (dPg p) (dPg q)), .bl true]) []) (K (.tup [rzV, .bl false]) [])) (.no 1)
 | _, _ => .no 1
include hG in
theorem gkBy (hT : qu G) : qc prog G 121 gBy := by
 intro args hs K x h
 unfold gBy at h
 split at h
 case h_2 => cases h
 obtain ⟨hc, hr⟩ := k8 h
 obtain ⟨⟨P, rfl, h3, h8⟩, Q, rfl, q3, q8⟩ := decP_iff.1 hc
 obtain ⟨h1, h2⟩ := pcBy hG hT P Q h3 h8 q3 q8
 have e1 : dPg (pgV P) = P := rfl
 have e2 : dPg (pgV Q) = Q := rfl
 rw [e1, e2] at hr
 cases hB : byB P Q with
 | true => rw [k5 hB] at hr; exact ⟨_, _, h1 hB, hr⟩
 | false => rw [k6 hB] at hr; exact ⟨_, _, h2 hB, hr⟩
theorem enBoth : Enters prog 120 f120 (qd f120) := ⟨func120, by kernel_rfl, rfl⟩
theorem enMt : Enters prog 98 f98 (qd f98) := ⟨func98, by kernel_rfl, rfl⟩
theorem eBoth (P Q : Pg) : (evF prog [(130, gCv)] [] {} f120 [pgV P, pgV Q] [] qn).run =
  (Tr.br (qh (isPg (pgV P))) (.br (!decide (pkE P = 0)) (.ok (.ret (.i .i64 (pkE P)) [])) (.br (qh (isPg (pgV Q))) (.ok (.ret (.i .i64 (pkE Q)) [])) (.no 1))) (.no 1)).run := by kernel_rfl
def mtE (P Q : Pg) : Int := if pkE P = 0 then pkE Q else pkE P
include hG in
theorem pcBtt (hT : qu G) (P Q : Pg) (hp : okP P) (hq : okP Q) : PC prog G 120 [pgV P, pgV Q] [] (.i .i64 (mtE P Q)) [] := by
 refine ql hG (.cons (gkCv hG hT) .nil) mix enBoth (hs := []) (L := []) (pol := {}) (k9 (by kernel_rfl)) ((eBoth P Q).trans ?_)
 rw [k5 (decP_iff.2 ⟨P, rfl, hp⟩)]
 unfold mtE
 by_cases h : pkE P = 0
 ·rw [k6 (by simp [h]), k5 (decP_iff.2 ⟨Q, rfl, hq⟩), k7, if_pos h]
 ·rw [k5 (by simp [h]), k7, if_neg h]
theorem eMt (P Q : Pg) (e : Int) : (evF prog [(120, cst [pgV P, pgV Q] True (.i .i64 e)), (121, gBy)] [] {} f98 [pgV P, pgV Q] [] qn).run =
  (Tr.br (qh (isA [pgV P, pgV Q] True [pgV P, pgV Q])) (.br (!decide (e = 0)) (.ok (.ret (.tup [.bl false, .i .i64 e]) [])) (.br (qh (isPg (pgV P) /\ isPg (pgV Q))) (.br (byB P Q) (.br (qh (isPg (pgV Q) /\ isPg (pgV P))) (.br (byB Q P) (.ok (.ret (.tup [.bl false, .i .i64 0]) [])) (.ok (.ret (.tup [.bl false, .i .i64 0]) []))) (.no 1)) (.br (qh (isPg (pgV Q) /\ isPg (pgV P))) (.br (byB Q P) (.ok (.ret (.tup [.bl false, .i .i64 0]) [])) (.ok (.ret (.tup [.bl true, .i .i64 0]) []))) (.no 1))) (.no 1))) (.no 1)).run := by kernel_rfl
def mtB (P Q : Pg) : Bool := decide (mtE P Q = 0) && !byB P Q && !byB Q P
include hG in
theorem pcMt (hT : qu G) (P Q : Pg) (hp : okP P) (hq : okP Q) : PC prog G 98 [pgV P, pgV Q] [] (.tup [.bl (mtB P Q), .i .i64 (mtE P Q)]) [] := by
 refine ql hG (.cons (cst_t (pcBtt hG hT P Q hp hq)) (.cons (gkBy hG hT) .nil)) mix enMt (hs := []) (L := []) (pol := {}) (k9 (by kernel_rfl)) ((eMt P Q (mtE P Q)).trans ?_)
 rw [k5 (decP_iff.2 ⟨rfl, trivial⟩)]
 unfold mtB
 by_cases h : mtE P Q = 0
 ·rw [k6 (by simp [h]), k5 (decP_iff.2 ⟨⟨P, rfl, hp⟩, Q, rfl, hq⟩), h]
  cases h1 : byB P Q <;> cases h2 : byB Q P <;> simp only [Tr.run, decP_iff.2 (show isPg (pgV Q) /\ isPg (pgV P) from ⟨⟨Q, rfl, hq⟩, P, rfl, hp⟩)] <;> rfl
 ·rw [k5 (by simp [h]), k7, kF h]
  rfl
theorem enFr : Enters prog 71 f71 (qd f71) := ⟨func71, by kernel_rfl, rfl⟩
def bFr : Code := (qi (qd f71)).getD 0 .skip
def iFr : Code := (qi (qd f71)).getD 1 .skip
def polFr : Pol := { live := [(2, [1, 4, 11, 12, 13]), (5, [1, 4, 6, 11, 12, 13, 17, 18, 19])] }
def lsV (n : Nat) (L : Nat -> Pg) : PV := .lst 1 (.fn n (fun i => pgV (L i)))
def siFr (n : Nat) (L : Nat -> Pg) (m : Nat) (M : Nat -> Pg) (i j : Int) : LS := ⟨[lsV m M, .bl false, pgV (L i.toNat), lsV n L, .i .i64 n, .i .i64 i, lsV m M, .i .i64 m, .i .i64 j], []⟩
def soFr (n : Nat) (L : Nat -> Pg) (m : Nat) (M : Nat -> Pg) (i : Int) : LS := ⟨[lsV m M, .bl false, lsV n L, .i .i64 n, .i .i64 i], []⟩
def RFr (P Q : Pg) (b mm : Bool) (e : Int) : Orc := [(96, cst [bxV P, bxV Q] True (.bl b)), (97, gBx), (98, cst [pgV P, pgV Q] True (.tup [.bl mm, .i .i64 e]))]
def trF (n : Nat) (L : Nat -> Pg) (m : Nat) (M : Nat -> Pg) (i j : Int) (P Q : Pg) (res : Tr) : Tr :=
 .br (decide (j < (m : Int))) (.br (decide ((0 : Int) <= j) && decide (j < (m : Int))) (.br (qh (isPg (pgV (L i.toNat)))) (.br (qh (isPg (pgV (M j.toNat))))
  (.br (qh (isA [bxV P, bxV Q] True [bxV (L i.toNat), bxV (M j.toNat)])) res (.no 1)) (.no 1)) (.no 1)) (.no 1)) (.ok (.out (.exit 2) (siFr n L m M i j)))
def trM (L : Nat -> Pg) (M : Nat -> Pg) (i j : Int) (P Q : Pg) (res : Tr) : Tr := .br (qh (isA [pgV P, pgV Q] True [pgV (L i.toNat), pgV (M j.toNat)])) res (.no 1)
theorem tfA (n : Nat) (L : Nat -> Pg) (m : Nat) (M : Nat -> Pg) (i j : Int) (P Q : Pg) (mm : Bool) (e : Int) : (qe prog (RFr P Q false mm e) [] polFr f71.ntmps 0 [1, 4, 6, 11, 12, 13, 17, 18, 19] iFr (siFr n L m M i j)).run = (trF n L m M i j P Q (.br (ovf (j + 1)) (.ok (.out .normal (siFr n L m M i (j + 1)))) (.no 1))).run := by kernel_rfl
theorem tfB (n : Nat) (L : Nat -> Pg) (m : Nat) (M : Nat -> Pg) (i j : Int) (P Q : Pg) (e : Int) : (qe prog (RFr P Q true true e) [] polFr f71.ntmps 0 [1, 4, 6, 11, 12, 13, 17, 18, 19] iFr (siFr n L m M i j)).run = (trF n L m M i j P Q (trM L M i j P Q (.ok (.out .ret (siFr n L m M i j))))).run := by kernel_rfl
theorem tfC (n : Nat) (L : Nat -> Pg) (m : Nat) (M : Nat -> Pg) (i j : Int) (P Q : Pg) (e : Int) : (qe prog (RFr P Q true false e) [] polFr f71.ntmps 0 [1, 4, 6, 11, 12, 13, 17, 18, 19] iFr (siFr n L m M i j)).run =
  (trF n L m M i j P Q (trM L M i j P Q (.br (!decide (e = 0)) (.ok (.out .ret (siFr n L m M i j))) (.br (ovf (j + 1)) (.ok (.out .normal (siFr n L m M i (j + 1)))) (.no 1))))).run := by kernel_rfl
def trG (n : Nat) (L : Nat -> Pg) (m : Nat) (M : Nat -> Pg) (i q : Int) (res : Tr) : Tr :=
 .br (decide (i < (n : Int))) (.br (decide ((0 : Int) <= i) && decide (i < (n : Int))) (.br (qh (isLS (siFr n L m M q 0) (siFr n L m M i 0))) res (.no 1)) (.no 1)) (.ok (.out (.exit 0) (soFr n L m M i)))
theorem toFt (n : Nat) (L : Nat -> Pg) (m : Nat) (M : Nat -> Pg) (i q : Int) : (qe prog [] [(5, lcst (siFr n L m M q 0) (.exit 2) (siFr n L m M q m))] polFr f71.ntmps 0 [1, 4, 11, 12, 13] bFr (soFr n L m M i)).run =
  (trG n L m M i q (.br (ovf (q + 1)) (.ok (.out .normal (soFr n L m M (q + 1)))) (.no 1))).run := by kernel_rfl
theorem toFb (n : Nat) (L : Nat -> Pg) (m : Nat) (M : Nat -> Pg) (i q k : Int) : (qe prog [] [(5, lcst (siFr n L m M q 0) .ret (siFr n L m M q k))] polFr f71.ntmps 0 [1, 4, 11, 12, 13] bFr (soFr n L m M i)).run =
  (trG n L m M i q (.ok (.out .ret (soFr n L m M q)))).run := by kernel_rfl
theorem eFrT (n : Nat) (L : Nat -> Pg) (m : Nat) (M : Nat -> Pg) : (evF prog [] [(2, lcst (soFr n L m M 0) (.exit 0) (soFr n L m M n))] polFr f71 [lsV n L, lsV m M] [] qn).run = (Tr.br (qh (isLS (soFr n L m M 0) (soFr n L m M 0))) (.ok (.ret (.bl true) [])) (.no 1)).run := by kernel_rfl
theorem eFrF (n : Nat) (L : Nat -> Pg) (m : Nat) (M : Nat -> Pg) (q : Int) : (evF prog [] [(2, lcst (soFr n L m M 0) .ret (soFr n L m M q))] polFr f71 [lsV n L, lsV m M] [] qn).run = (Tr.br (qh (isLS (soFr n L m M 0) (soFr n L m M 0))) (.ok (.ret (.bl false) [])) (.no 1)).run := by kernel_rfl
def frB (P Q : Pg) : Bool := !bxB P Q || (decide (mtE P Q = 0) && !mtB P Q)
def frI (L : Nat -> Pg) (m : Nat) (M : Nat -> Pg) (i : Nat) : Bool := (List.range m).all fun j => frB (L i) (M j)
def freeB (n : Nat) (L : Nat -> Pg) (m : Nat) (M : Nat -> Pg) : Bool := (List.range n).all (frI L m M)
include hG in
theorem orcFr (hT : qu G) (P Q : Pg) (hp : okP P) (hq : okP Q) : OrcOK prog G (RFr P Q (bxB P Q) (mtB P Q) (mtE P Q)) := .cons (cst_t (pcAb hG hT P Q)) (.cons (gkBx hG hT) (.cons (cst_t (pcMt hG hT P Q hp hq)) .nil))
include hG in
theorem goesFi (hT : qu G) (n : Nat) (L : Nat -> Pg) (m : Nat) (M : Nat -> Pg) (hm : m <= 100) (i : Nat) (hp : okP (L i)) (hq : ∀ j, j < m -> okP (M j)) :
  (frI L m M i = true -> Goes (Rnd prog G f71.ntmps 0 [1, 4, 6, 11, 12, 13, 17, 18, 19] iFr) (siFr n L m M i 0) (.exit 2) (siFr n L m M i m)) /\ (frI L m M i = false -> ∃ k : Int, Goes (Rnd prog G f71.ntmps 0 [1, 4, 6, 11, 12, 13, 17, 18, 19] iFr) (siFr n L m M i 0) .ret (siFr n L m M i k)) := by
 have pre : ∀ (j : Nat) (res : Tr) (r : Res), j < m -> res.run = some r -> (trF n L m M i j (L i) (M j) res).run = some r := fun j res r hj h => by
  unfold trF
  rw [Int.toNat_natCast, Int.toNat_natCast, k5 (kE (by omega)), k5 (by simp only [kA, kD]; omega), k5 (decP_iff.2 ⟨_, rfl, hp⟩), k5 (decP_iff.2 ⟨_, rfl, hq j hj⟩), k5 (decP_iff.2 ⟨rfl, trivial⟩)]
  exact h
 have prm : ∀ (j : Nat) (res : Tr) (r : Res), res.run = some r -> (trM L M i j (L i) (M j) res).run = some r := fun j res r h => by
  unfold trM
  rw [Int.toNat_natCast, Int.toNat_natCast, k5 (decP_iff.2 ⟨rfl, trivial⟩)]
  exact h
 have nx : ∀ (j : Nat), j < m -> (Tr.br (ovf ((j : Int) + 1)) (.ok (.out .normal (siFr n L m M i ((j : Int) + 1)))) (.no 1)).run = some (.out .normal (siFr n L m M i ((j + 1 : Nat) : Int))) := fun j hj => by
  rw [k5 (by simp only [ovf, kA, kD]; omega), k7]
  rfl
 have rd : ∀ (j : Nat) (e : Exit) (ls : LS), j < m -> (qe prog (RFr (L i) (M j) (bxB (L i) (M j)) (mtB (L i) (M j)) (mtE (L i) (M j))) [] polFr f71.ntmps 0 [1, 4, 6, 11, 12, 13, 17, 18, 19] iFr (siFr n L m M i j)).run = some (.out e ls) ->
   Rnd prog G f71.ntmps 0 [1, 4, 6, 11, 12, 13, 17, 18, 19] iFr (siFr n L m M i j) e ls := fun j e ls hj h =>
  qb hG (orcFr hG hT (L i) (M j) hp (hq j hj)) mix (L := []) (pol := polFr) (k9 (by kernel_rfl)) (Nat.zero_le _) h
 have ho : OrcOK prog G [] := .nil
 obtain ⟨w1, w2⟩ := Goes.search (R := Rnd prog G f71.ntmps 0 [1, 4, 6, 11, 12, 13, 17, 18, 19] iFr) (fun j => siFr n L m M i ((j : Nat) : Int)) (fun j => siFr n L m M i ((j : Nat) : Int)) (fun j => frB (L i) (M j)) m (e0 := .exit 2) (e1 := .ret) (fin := siFr n L m M i m) (by simp) (by simp)
  (fun j hj ok => by
   refine rd j _ _ hj ?_
   unfold frB at ok
   cases h1 : bxB (L i) (M j) with
   | false => exact (tfA n L m M i j _ _ _ _).trans (pre j _ _ hj (nx j hj))
   | true =>
    rw [h1] at ok
    simp only [Bool.not_true, Bool.false_or, kA, kD, kJ] at ok
    rw [ok.2]
    refine (tfC n L m M i j _ _ _).trans (pre j _ _ hj (prm j _ _ ?_))
    rw [k6 (by simp [ok.1])]
    exact nx j hj)
  (fun j hj ok => by
   refine rd j _ _ hj ?_
   unfold frB at ok
   cases h1 : bxB (L i) (M j) with
   | false => rw [h1] at ok; cases ok
   | true =>
    rw [h1] at ok
    cases h2 : mtB (L i) (M j) with
    | true => exact (tfB n L m M i j _ _ _).trans (pre j _ _ hj (prm j _ _ rfl))
    | false =>
     rw [h2] at ok
     refine (tfC n L m M i j _ _ _).trans (pre j _ _ hj (prm j _ _ ?_))
     rw [k5 (by simpa using ok), k7])
  (by
   refine qb hG (O := RFr (L i) (L i) (bxB (L i) (L i)) (mtB (L i) (L i)) (mtE (L i) (L i))) (orcFr hG hT (L i) (L i) hp hp) mix (L := []) (pol := polFr) (k9 (by kernel_rfl)) (Nat.zero_le _) ?_
   have ex : ∀ res, (trF n L m M i m (L i) (L i) res).run = some (.out (.exit 2) (siFr n L m M i m)) := fun res => by
    unfold trF
    rw [k6 (kF (by omega)), k7]
   cases h1 : bxB (L i) (L i) with
   | false => exact (tfA n L m M i m _ _ _ _).trans (ex _)
   | true =>
    cases h2 : mtB (L i) (L i) with
    | true => exact (tfB n L m M i m _ _ _).trans (ex _)
    | false => exact (tfC n L m M i m _ _ _).trans (ex _)) m 0 (by omega)
 refine ⟨fun h => w1 (all_r.1 h), fun h => ⟨_, w2 fun h' => ?_⟩⟩
 have := all_r.2 h'
 rw [frI, this] at h
 cases h
include hG in
theorem pcFr (hT : qu G) (n : Nat) (L : Nat -> Pg) (m : Nat) (M : Nat -> Pg) (h1 : 1 <= n) (hn : n <= 100) (hm : m <= 100) (hp : ∀ i, i < n -> okP (L i)) (hq : ∀ j, j < m -> okP (M j)) : PC prog G 71 [lsV n L, lsV m M] [] (.bl (freeB n L m M)) [] := by
 have gi := fun i hi => goesFi hG hT n L m M hm i (hp i hi) hq
 have rd : ∀ (i : Int) (e : Exit) (ls S0 S1 : LS) (e' : Exit), Goes (Rnd prog G f71.ntmps 0 [1, 4, 6, 11, 12, 13, 17, 18, 19] iFr) S0 e' S1 -> (qe prog [] [(5, lcst S0 e' S1)] polFr f71.ntmps 0 [1, 4, 11, 12, 13] bFr (soFr n L m M i)).run = some (.out e ls) ->
   Rnd prog G f71.ntmps 0 [1, 4, 11, 12, 13] bFr (soFr n L m M i) e ls := fun i e ls S0 S1 e' g h =>
  qb hG .nil mix (pol := polFr) (lps1 (b := iFr) (live := [1, 4, 6, 11, 12, 13, 17, 18, 19]) (m := 0) (by kernel_rfl) (by kernel_rfl) (by kernel_rfl) (lcst_ok g)) (Nat.zero_le _) h
 have hl : ∀ (sp : qw), qv prog G f71.ntmps 0 [1, 4, 11, 12, 13] bFr sp -> LpsOK prog G polFr f71.ntmps 0 [(2, sp)] (qd f71) := fun sp h =>
  lps1n (b := bFr) (b' := iFr) (live := [1, 4, 11, 12, 13]) (m := 0) (by kernel_rfl) (by kernel_rfl) (by kernel_rfl) (by kernel_rfl) h
 have step : ∀ (i : Nat) (res : Tr) (r : Res), i < n -> res.run = some r -> (trG n L m M i i res).run = some r := fun i res r hi h => by
  unfold trG
  rw [k5 (kE (by omega)), k5 (by simp only [kA, kD]; omega), k5 isLS_t]
  exact h
 have ext : ∀ (q : Int) (res : Tr), (trG n L m M n q res).run = some (.out (.exit 0) (soFr n L m M n)) := fun q res => by
  unfold trG
  rw [k6 (kF (by omega)), k7]
 have hx : Rnd prog G f71.ntmps 0 [1, 4, 11, 12, 13] bFr (soFr n L m M n) (.exit 0) (soFr n L m M n) := by
  cases hB : frI L m M 0 with
  | true => exact rd n _ _ _ _ _ ((gi 0 (by omega)).1 hB) ((toFt n L m M n _).trans (ext _ _))
  | false =>
   obtain ⟨k, g⟩ := (gi 0 (by omega)).2 hB
   exact rd n _ _ _ _ _ g ((toFb n L m M n _ k).trans (ext _ _))
 obtain ⟨w1, w2⟩ := Goes.search (R := Rnd prog G f71.ntmps 0 [1, 4, 11, 12, 13] bFr) (fun i => soFr n L m M ((i : Nat) : Int)) (fun i => soFr n L m M ((i : Nat) : Int)) (frI L m M) n (e0 := .exit 0) (e1 := .ret) (fin := soFr n L m M n) (by simp) (by simp)
  (fun i hi ok => by
   refine rd i _ _ _ _ _ ((gi i hi).1 ok) ((toFt n L m M i i).trans (step i _ _ hi ?_))
   rw [k5 (by simp only [ovf, kA, kD]; omega), k7]
   rfl)
  (fun i hi ok => by
   obtain ⟨k, g⟩ := (gi i hi).2 ok
   exact rd i _ _ _ _ _ g ((toFb n L m M i i k).trans (step i _ _ hi rfl)))
  hx n 0 (by omega)
 cases hB : freeB n L m M with
 | true =>
  have g : Goes (Rnd prog G f71.ntmps 0 [1, 4, 11, 12, 13] bFr) (soFr n L m M 0) (.exit 0) (soFr n L m M n) := w1 (all_r.1 hB)
  refine ql hG .nil mix enFr (hs := []) (pol := polFr) (L := [(2, lcst (soFr n L m M 0) (.exit 0) (soFr n L m M n))]) (hl _ (lcst_ok g)) ((eFrT n L m M).trans ?_)
  rw [k5 isLS_t, k7]
 | false =>
  have hn' : ¬ ∀ j, 0 <= j -> j < n -> frI L m M j = true := fun h => by
   have := all_r.2 h
   rw [freeB, this] at hB
   cases hB
  have g : Goes (Rnd prog G f71.ntmps 0 [1, 4, 11, 12, 13] bFr) (soFr n L m M 0) .ret (soFr n L m M ((fbad (frI L m M) n 0 : Nat) : Int)) := w2 hn'
  generalize ((fbad (frI L m M) n 0 : Nat) : Int) = q at g
  refine ql hG .nil mix enFr (hs := []) (pol := polFr) (L := [(2, lcst (soFr n L m M 0) .ret (soFr n L m M q))]) (hl _ (lcst_ok g)) ((eFrF n L m M q).trans ?_)
  rw [k5 isLS_t, k7]
end
section
open Go
set_option maxRecDepth 100000
variable {G : World -> (Nat -> Prop) -> Prop} (hG : GOk G)
def Asam (l : List Int) : Am := ⟨⟨#[111, 110, 101]⟩, mkRat 0 1, mkRat 0 1, mkRat 0 1, l.length, fun j => smL (l.getD j 0)⟩
include hG in
theorem sam_ok (l : List Int) (h : (evF Tryz.prog O32 [(3, l32)] pol32 Tryz.f29 [.lst 1 (.ints .i64 l)] [] qn).run = some (.ret (frA ⟨#[111, 110, 101]⟩ (mkRat 0 1) (mkRat 0 1) (mkRat 0 1) (.fr 16 (.vals (l.map smV)))) [])) : PC Tryz.prog G 29 [.lst 1 (.ints .i64 l)] [] (armFr (Asam l)) [] := by
 refine (ql hG (.cons (ok23 hG) (.cons (ok84 hG) .nil)) mix enter32 (O := O32) (L := [(3, l32)]) (pol := pol32) (lps1 (b := b32) (live := [2, 3, 11, 12, 13]) (sp := l32) (m := 0) (by kernel_rfl) (by kernel_rfl) (by kernel_rfl) (unr_ok hG (.cons (ok23 hG) (.cons (ok84 hG) .nil)) mix (k9 (by kernel_rfl)) 3)) h).le ?_ (.refl _)
 refine rle_arm _ _ _ _ _ _ _ (by rw [List.length_map]; rfl) fun i u hu => ?_
 rw [List.getElem?_map] at hu
 cases hx : l[i]? with
 | none => rw [hx] at hu; cases hu
 | some x =>
  rw [hx] at hu
  obtain rfl := Option.some.inj hu
  refine ⟨rfl, ?_⟩
  show VLe _ (lkPV (smL (l.getD i 0)))
  rw [List.getD_eq_getElem?_getD, hx]
  exact smV_le x
include hG in
theorem sam3 : PC Tryz.prog G 29 [.lst 1 (.ints .i64 [3])] [] (armFr (Asam [3])) [] := sam_ok hG [3] (by kernel_rfl)
theorem armB_3 : armB (Asam [3]) = true := by kernel_rfl
end
section
open Go Tryz
set_option maxRecDepth 100000
variable {G : World -> (Nat -> Prop) -> Prop} (hG : GOk G)
theorem enWk : Enters prog 95 f95 (qd f95) := ⟨func95, by kernel_rfl, rfl⟩
theorem enWl : Enters prog 70 f70 (qd f70) := ⟨func70, by kernel_rfl, rfl⟩
theorem enCl : Enters prog 35 f35 (qd f35) := ⟨func35, by kernel_rfl, rfl⟩
theorem enAm : Enters prog 36 f36 (qd f36) := ⟨func36, by kernel_rfl, rfl⟩
theorem enCB : Enters prog 7 f7 (qd f7) := ⟨func7, by kernel_rfl, rfl⟩
def gCh : Spec := fun args hs K => match args, hs with
 | [p], [] => .br (qh (isPg p)) (K (.i .i64 (pkE (dPg p))) []) (.no 1)
 | _, _ => .no 1
def bWk : Code := (qi (qd f95)).getD 0 .skip
def polWk : Pol := { live := [(4, [2, 9, 10, 11])] }
def stWk (m : Nat) (M : Nat -> Pg) (e j : Int) : LS := ⟨[.i .i64 e, lsV m M, .i .i64 m, .i .i64 j], []⟩
theorem tWk (m : Nat) (M : Nat -> Pg) (j : Int) : (qe prog [(118, gCh)] [] polWk f95.ntmps 0 [2, 9, 10, 11] bWk (stWk m M 0 j)).run =
  (Tr.br (decide (j < (m : Int))) (.br (ix (j) ((m : Int))) (.br (qh (isPg (pgV (M j.toNat)))) (.br (!decide (pkE (M j.toNat) = 0)) (.ok (.out .ret (stWk m M (pkE (M j.toNat)) j))) (.br (ovf (j + 1)) (.ok (.out .normal (stWk m M 0 (j + 1)))) (.no 1))) (.no 1)) (.no 1)) (.ok (.out (.exit 0) (stWk m M 0 j)))).run := by kernel_rfl
theorem eWkT (m : Nat) (M : Nat -> Pg) : (evF prog [(118, gCh)] [(4, lcst (stWk m M 0 0) (.exit 0) (stWk m M 0 m))] polWk f95 [lsV m M] [] qn).run =
  (Tr.br (decide ((20 : Int) < (m : Int))) (.ok (.ret (.i .i64 2) [])) (.br (qh (isLS (stWk m M 0 0) (stWk m M 0 0))) (.ok (.ret (.i .i64 0) [])) (.no 1))).run := by kernel_rfl
def plG (A : Am) (q : List Rat) (i : Nat) : Pg :=
 ⟨(A.lk i).np, fun k => ptX (allF (bsF A) (qf q) (fun j => (A.lk j).len) A.n i) ((A.lk i).px k) ((A.lk i).py k), fun k => ptY (allF (bsF A) (qf q) (fun j => (A.lk j).len) A.n i) ((A.lk i).px k) ((A.lk i).py k)⟩
theorem eWl (A : Am) (q : List Rat) (n : Nat) (L : Nat -> Pg) (m : Nat) (M : Nat -> Pg) (f : Bool) : (evF prog [(33, cst [qj A, .lst 3 (.rats 64 q)] True (.tup [.fr 1 (.fn n (fun i => pgV (L i))), .i .i64 0])), (71, cst [lsV n L, lsV m M] True (.bl f)), (95, cst [lsV m M] True (.i .i64 0))] [] {} f70 [qj A, .lst 3 (.rats 64 q), lsV m M] [] qn).run =
  (Tr.br (qh (isA [qj A, .lst 3 (.rats 64 q)] True [qj A, .lst 3 (.rats 64 q)])) (.br ((0 + n).ble n) (.br (qh (isA [lsV m M] True [lsV m M])) (.br (qh (isA [lsV n L, lsV m M] True [lsV n L, lsV m M])) (.ok (.ret (.tup [.bl f, .i .i64 0]) [])) (.no 1)) (.no 1)) (.no 1)) (.no 1)).run := by kernel_rfl
def isPl (a : PV) (q : List Rat) : Prop := ∃ A, a = qj A /\ armB A = true /\ shp A /\ q.length = A.n
def gPlc : Spec := fun args hs K => match args, hs with
 | [a, .lst 3 (.rats 64 q)], [] => .br (qh (isPl a q)) (K (.tup [.fr 1 (.fn (dArm a).n (fun i => pgV (plG (dArm a) q i))), .i .i64 0]) []) (.no 1)
 | _, _ => .no 1
theorem eAm (A B : Am) (p q : List Rat) (f : Bool) : (evF prog [(33, gPlc), (71, cst [lsV A.n (plG A p), lsV B.n (plG B q)] True (.bl f))] [] {} f36 [qj A, qj B, .lst 3 (.rats 64 p), .lst 3 (.rats 64 q)] [] qn).run =
  (Tr.br (qh (isPl (qj A) p)) (.br ((0 + A.n).ble A.n) (.br (qh (isPl (qj B) q)) (.br ((0 + B.n).ble B.n) (.br (qh (isA [lsV A.n (plG A p), lsV B.n (plG B q)] True [lsV A.n (plG A p), lsV B.n (plG B q)])) (.ok (.ret (.tup [.bl f, .i .i64 0]) [])) (.no 1)) (.no 1)) (.no 1)) (.no 1)) (.no 1)).run := by kernel_rfl
include hG in
theorem gkCh (hT : qu G) : qc prog G 118 gCh := by
 intro args hs K x h
 unfold gCh at h
 split at h
 case h_2 => cases h
 obtain ⟨hc, hr⟩ := k8 h
 obtain ⟨P, rfl, h3, h8⟩ := decP_iff.1 hc
 exact ⟨_, _, pcCh hG hT P h3 h8, hr⟩
include hG in
theorem pcWk (hT : qu G) (m : Nat) (M : Nat -> Pg) (hm : m <= 20) (hq : ∀ j, j < m -> okP (M j) /\ pkE (M j) = 0) : PC prog G 95 [lsV m M] [] (.i .i64 0) [] := by
 have orc : OrcOK prog G [(118, gCh)] := .cons (gkCh hG hT) .nil
 have w := Goes.count (R := Rnd prog G f95.ntmps 0 [2, 9, 10, 11] bWk) (fun j => stWk m M 0 ((j : Nat) : Int)) (e := .exit 0) (ls' := stWk m M 0 m) (by simp) m 0
  (fun j _ hj => by
   obtain ⟨h1, h2⟩ := hq j (by omega)
   refine qb hG orc mix (L := []) (pol := polWk) (k9 (by kernel_rfl)) (Nat.zero_le _) ((tWk m M j).trans ?_)
   rw [Int.toNat_natCast, k5 (kE (by omega)), k5 (by simp only [kA, kD]; omega), k5 (decP_iff.2 ⟨_, rfl, h1⟩), k6 (by simp [h2]), k5 (by simp only [ovf, kA, kD]; omega), k7]
   rfl)
  (by
   refine qb hG orc mix (L := []) (pol := polWk) (k9 (by kernel_rfl)) (Nat.zero_le _) ((tWk m M _).trans ?_)
   rw [Nat.zero_add, k6 (kF (by omega)), k7])
 have g : Goes (Rnd prog G f95.ntmps 0 [2, 9, 10, 11] bWk) (stWk m M 0 0) (.exit 0) (stWk m M 0 m) := w
 refine ql hG orc mix enWk (hs := []) (pol := polWk) (L := [(4, lcst (stWk m M 0 0) (.exit 0) (stWk m M 0 m))]) (lps1 (b := bWk) (live := [2, 9, 10, 11]) (m := 0) (by kernel_rfl) (by kernel_rfl) (by kernel_rfl) (lcst_ok g)) ((eWkT m M).trans ?_)
 rw [k6 (kF (by omega)), k5 isLS_t, k7]
theorem plG_ok {A : Am} (hS : shp A) {q : List Rat} {i : Nat} (hi : i < A.n) : okP (plG A q i) := by
 have := hS i hi
 show 3 <= (A.lk i).np /\ (A.lk i).np <= 8
 omega
include hG in
theorem pcWl (hT : qu G) (A : Am) (hA : armB A = true) (hS : shp A) (q : List Rat) (hl : q.length = A.n) (m : Nat) (M : Nat -> Pg) (hm : m <= 20) (hq : ∀ j, j < m -> okP (M j) /\ pkE (M j) = 0) :
  PC prog G 70 [qj A, .lst 3 (.rats 64 q), lsV m M] [] (.tup [.bl (freeB A.n (plG A q) m M), .i .i64 0]) [] := by
 obtain ⟨a1, a2, a3, a4, h1, h3, a7⟩ := armB_c hA
 have p33 : PC prog G 33 [qj A, .lst 3 (.rats 64 q)] [] (.tup [.fr 1 (.fn A.n (fun i => pgV (plG A q i))), .i .i64 0]) [] := pcPl hG hT A hA hS q hl
 have p71 := pcFr hG hT A.n (plG A q) m M h1 (by omega) (by omega) (fun i hi => plG_ok hS hi) (fun j hj => (hq j hj).1)
 refine ql hG (.cons (cst_t p33) (.cons (cst_t p71) (.cons (cst_t (pcWk hG hT m M hm hq)) .nil))) mix enWl (hs := []) (L := []) (pol := {}) (k9 (by kernel_rfl)) ((eWl A q A.n (plG A q) m M _).trans ?_)
 rw [k5 (decP_iff.2 ⟨rfl, trivial⟩), k5 (by rw [kG]; omega), k5 (decP_iff.2 ⟨rfl, trivial⟩), k5 (decP_iff.2 ⟨rfl, trivial⟩), k7]
include hG in
theorem gkPlc (hT : qu G) : qc prog G 33 gPlc := by
 intro args hs K x h
 unfold gPlc at h
 split at h
 case h_2 => cases h
 obtain ⟨hc, hr⟩ := k8 h
 obtain ⟨A, rfl, hA, hS, hl⟩ := decP_iff.1 hc
 exact ⟨_, _, pcPl hG hT A hA hS _ hl, hr⟩
include hG in
theorem pcAm (hT : qu G) (A B : Am) (hA : armB A = true) (hB : armB B = true) (sA : shp A) (sB : shp B) (p q : List Rat) (hp : p.length = A.n) (hq : q.length = B.n) :
  PC prog G 36 [qj A, qj B, .lst 3 (.rats 64 p), .lst 3 (.rats 64 q)] [] (.tup [.bl (freeB A.n (plG A p) B.n (plG B q)), .i .i64 0]) [] := by
 obtain ⟨a1, a2, a3, a4, h1, h3, a7⟩ := armB_c hA
 obtain ⟨b1, b2, b3, b4, k1, k3, b7⟩ := armB_c hB
 have p71 := pcFr hG hT A.n (plG A p) B.n (plG B q) h1 (by omega) (by omega) (fun i hi => plG_ok sA hi) (fun j hj => plG_ok sB hj)
 refine ql hG (.cons (gkPlc hG hT) (.cons (cst_t p71) .nil)) mix enAm (hs := []) (L := []) (pol := {}) (k9 (by kernel_rfl)) ((eAm A B p q _).trans ?_)
 rw [k5 (decP_iff.2 ⟨A, rfl, hA, sA, hp⟩), k5 (by rw [kG]; omega), k5 (decP_iff.2 ⟨B, rfl, hB, sB, hq⟩), k5 (by rw [kG]; omega), k5 (decP_iff.2 ⟨rfl, trivial⟩), k7]
def wlV : PV := .lst 1 (.vals [.lst 6 (.vals [.agg [.q (mkRat 2 1) 64, .q (mkRat 0 1) 64], .agg [.q (mkRat 4 1) 64, .q (mkRat 0 1) 64], .agg [.q (mkRat 4 1) 64, .q (mkRat 1 1) 64]])])
def wlP : Pg := ⟨3, fun j => [mkRat 2 1, mkRat 4 1, mkRat 4 1].getD j 0, fun j => [mkRat 0 1, mkRat 0 1, mkRat 1 1].getD j 0⟩
theorem wl_le : VLe wlV (lsV 1 (fun _ => wlP)) := by
 refine VLe.lst rfl fun i hi => ?_
 have hi' : i < 1 := hi
 match i, hi' with
 | 0, _ =>
  refine VLe.lst rfl fun i hi => ?_
  have hi' : i < 3 := hi
  match i, hi' with
  | 0, _ => exact VLe.agg (vllc (vle_qm (show 64 <= 32138 by omega)) (vllc (vle_qm (show 64 <= 32138 by omega)) vll0))
  | 1, _ => exact VLe.agg (vllc (vle_qm (show 64 <= 32138 by omega)) (vllc (vle_qm (show 64 <= 32138 by omega)) vll0))
  | 2, _ => exact VLe.agg (vllc (vle_qm (show 64 <= 32138 by omega)) (vllc (vle_qm (show 64 <= 32138 by omega)) vll0))
  | i + 3, h => omega
 | i + 1, h => omega
def fq (q : Rat) : Fr := allF (bsF (Asam [3])) (qf [q]) (fun j => ((Asam [3]).lk j).len) (Asam [3]).n 0
def pgS (c s : Rat) : Pg := ⟨4, fun k => 0 + (((Asam [3]).lk 0).px k * c - ((Asam [3]).lk 0).py k * s), fun k => 0 + (((Asam [3]).lk 0).px k * s + ((Asam [3]).lk 0).py k * c)⟩
theorem plG_s {q c s : Rat} (h1 : (fq q).x = 0) (h2 : (fq q).y = 0) (h3 : cosR (fq q).h (fq q).t = c) (h4 : sinR (fq q).h (fq q).t = s) : plG (Asam [3]) [q] 0 = pgS c s := by
 show (⟨4, fun k => ptX (fq q) (((Asam [3]).lk 0).px k) (((Asam [3]).lk 0).py k), fun k => ptY (fq q) (((Asam [3]).lk 0).px k) (((Asam [3]).lk 0).py k)⟩ : Pg) = _
 simp only [ptX, ptY, h1, h2, h3, h4]
 rfl
theorem pg0 : plG (Asam [3]) [0] 0 = pgS 1 0 := by
 refine plG_s ?_ ?_ ?_ ?_ <;> simp only [fq, allF, frmF, endR, fstep, thH, thT, cosR, sinR, ftT, qg] <;> kernel_rfl
theorem pg2 : plG (Asam [3]) [2] 0 = pgS (-3 / 5) (4 / 5) := by
 refine plG_s ?_ ?_ ?_ ?_ <;> simp only [fq, allF, frmF, endR, fstep, thH, thT, cosR, sinR, ftT, qg] <;> kernel_rfl
theorem free_1 (L M : Nat -> Pg) : freeB 1 L 1 M = frB (L 0) (M 0) := by simp [freeB, frI, List.range_succ]
theorem fr0 : freeB 1 (plG (Asam [3]) [0]) 1 (fun _ => wlP) = false := by
 rw [free_1, pg0]
 kernel_rfl
theorem fr2 : freeB 1 (plG (Asam [3]) [2]) 1 (fun _ => wlP) = true := by
 rw [free_1, pg2]
 kernel_rfl
theorem wlK : pkE wlP = 0 := by kernel_rfl
def isWl (a w : PV) (q : Rat) : Prop := a = qj (Asam [3]) /\ w = wlV /\ (q = 0 \/ q = 2)
def vWl : Spec := fun args hs K => match args, hs with
 | [a, .lst 3 (.rats 64 [q]), w], [] => .br (qh (isWl a w q)) (match decide (q = 2) with | true => K (.tup [.bl true, .i .i64 0]) [] | false => K (.tup [.bl false, .i .i64 0]) []) (.no 1)
 | _, _ => .no 1
include hG in
theorem vkWl (hT : qu G) : qc prog G 70 vWl := by
 intro args hs K x h
 unfold vWl at h
 split at h
 case h_2 => cases h
 obtain ⟨hc, hr⟩ := k8 h
 obtain ⟨rfl, rfl, hq⟩ := decP_iff.1 hc
 have p := fun (q : Rat) => PC.args (.cons (.refl _) (.cons (.refl _) (.cons wl_le .nil))) (pcWl hG hT (Asam [3]) armB_3 (fun _ _ => .inr rfl) [q] rfl 1 (fun _ => wlP) (by omega) (fun _ _ => ⟨⟨by decide, by decide⟩, wlK⟩))
 rcases hq with rfl | rfl
 ·have p0 := p 0
  rw [show (Asam [3]).n = 1 from rfl, fr0] at p0
  exact ⟨_, _, p0, hr⟩
 ·have p2 := p 2
  rw [show (Asam [3]).n = 1 from rfl, fr2] at p2
  exact ⟨_, _, p2, hr⟩
theorem eCl : (evF prog [(29, cst [.lst 1 (.ints .i64 [3])] True (armFr (Asam [3]))), (30, s23), (31, s84), (70, vWl)] [] {} f35 [] [] qn).run =
  (Tr.br (qh (isA [.lst 1 (.ints .i64 [3])] True [.lst 1 (.ints .i64 [3])])) (.br (qh (isWl (qj (Asam [3])) wlV (mkRat 0 1))) (.br (qh (isA [.lst 1 (.ints .i64 [3])] True [.lst 1 (.ints .i64 [3])])) (.br (qh (isWl (qj (Asam [3])) wlV (mkRat 2 1))) (.ok (.ret (.bl true) [])) (.no 1)) (.no 1)) (.no 1)) (.no 1)).run := by kernel_rfl
include hG in
theorem pcCl (hT : qu G) : PC prog G 35 [] [] (.bl true) [] := by
 refine ql hG (.cons (cst_t (sam3 hG)) (.cons (ok23 hG) (.cons (ok84 hG) (.cons (vkWl hG hT) .nil)))) mix enCl (hs := []) (L := []) (pol := {}) (k9 (by kernel_rfl)) (eCl.trans ?_)
 rw [k5 (decP_iff.2 ⟨rfl, trivial⟩), k5 (decP_iff.2 ⟨rfl, rfl, .inl (by kernel_rfl)⟩), k5 (decP_iff.2 ⟨rfl, trivial⟩), k5 (decP_iff.2 ⟨rfl, rfl, .inr (by kernel_rfl)⟩), k7]
theorem bx_sym (P Q : Pg) : bxB P Q = bxB Q P := by
 unfold bxB
 generalize rl (mnF P.u (P.n - 1)) (mxF P.u (P.n - 1)) = a
 generalize rl (mnF P.v (P.n - 1)) (mxF P.v (P.n - 1)) = b
 generalize rl (mnF Q.u (Q.n - 1)) (mxF Q.u (Q.n - 1)) = c
 generalize rl (mnF Q.v (Q.n - 1)) (mxF Q.v (Q.n - 1)) = d
 generalize rl (mnF P.u (P.n - 1)) (mxF Q.u (Q.n - 1)) = e
 generalize rl (mnF Q.u (Q.n - 1)) (mxF P.u (P.n - 1)) = f
 generalize rl (mnF P.v (P.n - 1)) (mxF Q.v (Q.n - 1)) = g
 generalize rl (mnF Q.v (Q.n - 1)) (mxF P.v (P.n - 1)) = h
 revert a b c d e f g h
 decide
theorem mtE_sym {P Q : Pg} : mtE P Q = 0 ↔ mtE Q P = 0 := by
 unfold mtE
 by_cases h : pkE P = 0 <;> by_cases h' : pkE Q = 0 <;> simp [h, h']
theorem fr_sym (P Q : Pg) : frB P Q = frB Q P := by
 unfold frB mtB
 rw [bx_sym P Q]
 by_cases h : mtE P Q = 0
 ·rw [h, mtE_sym.1 h]
  cases byB P Q <;> cases byB Q P <;> rfl
 ·rw [kF h, kF (fun h' => h (mtE_sym.1 h'))]
  simp
theorem free_sym (n : Nat) (L : Nat -> Pg) (m : Nat) (M : Nat -> Pg) : freeB n L m M = freeB m M n L := by
 apply Bool.eq_iff_iff.2
 simp only [freeB, frI, List.all_eq_true, List.mem_range]
 exact ⟨fun h j hj i hi => by rw [fr_sym]; exact h i hi j hj, fun h i hi j hj => by rw [fr_sym]; exact h j hj i hi⟩
theorem mn_mxF (u : Nat -> Rat) : ∀ k, mnF u k <= mxF u k
 | 0 => Rat.le_refl
 | k + 1 => Rat.le_trans (mnR_l _ _) (Rat.le_trans (mn_mxF u k) (mxR_l _ _))
theorem by_self (P : Pg) : byB P P = false := by
 unfold byB
 rw [all_r.2 fun i _ hi => ?_]
 ·rfl
 ·unfold bgB
  cases h : (List.range P.n).all (dB P P i) with
  | false => rfl
  | true =>
   have h2 := all_r.1 h i (Nat.zero_le _) hi
   unfold dB dV at h2
   have e : nX P i ((i + 1) % P.n) * (P.u i - P.u i) + nY P i ((i + 1) % P.n) * (P.v i - P.v i) = 0 := by grind
   rw [e] at h2
   exact absurd h2 (by decide)
theorem fr_self (P : Pg) : frB P P = false := by
 unfold frB mtB
 have h1 : ∀ (u : Nat -> Rat) k, rl (mnF u k) (mxF u k) = true := fun u k => kE (rcmp_le.2 (mn_mxF u k))
 have hb : bxB P P = true := by unfold bxB; simp only [h1, Bool.and_self]
 rw [hb, by_self]
 by_cases h : mtE P P = 0
 ·rw [h]; rfl
 ·rw [kF h]; rfl
theorem free_self {n : Nat} (h : 1 <= n) (L : Nat -> Pg) : freeB n L n L = false := by
 cases h1 : freeB n L n L with
 | false => rfl
 | true =>
  have h2 := all_r.1 (all_r.1 h1 0 (Nat.le_refl _) h) 0 (Nat.le_refl _) h
  rw [fr_self] at h2
  cases h2
def isAm (a b : PV) (p q : List Rat) : Prop := ∃ A B, a = qj A /\ b = qj B /\ armB A = true /\ armB B = true /\ shp A /\ shp B /\ p.length = A.n /\ q.length = B.n
def amB (a b : PV) (p q : List Rat) : Bool := freeB (dArm a).n (plG (dArm a) p) (dArm b).n (plG (dArm b) q)
def gAm : Spec := fun args hs K => match args, hs with
 | [a, b, .lst 3 (.rats 64 p), .lst 3 (.rats 64 q)], [] => .br (qh (isAm a b p q)) (.br (amB a b p q) (K (.tup [.bl true, .i .i64 0]) []) (K (.tup [.bl false, .i .i64 0]) [])) (.no 1)
 | _, _ => .no 1
include hG in
theorem gkAm (hT : qu G) : qc prog G 36 gAm := by
 intro args hs K x h
 unfold gAm at h
 split at h
 case h_2 => cases h
 rename_i a b p q
 obtain ⟨hc, hr⟩ := k8 h
 obtain ⟨A, B, rfl, rfl, hA, hB, sA, sB, hp, hq⟩ := decP_iff.1 hc
 have pc := pcAm hG hT A B hA hB sA sB p q hp hq
 have e : freeB A.n (plG A p) B.n (plG B q) = amB (qj A) (qj B) p q := rfl
 rw [e] at pc
 cases h1 : amB (qj A) (qj B) p q with
 | true => rw [h1] at pc; rw [k5 h1] at hr; exact ⟨_, _, pc, hr⟩
 | false => rw [h1] at pc; rw [k6 h1] at hr; exact ⟨_, _, pc, hr⟩
def vAr (AD : PV -> Am) : Spec := fun args hs K => match args, hs with
 | [.w v], [] => .br (okW v) (K (armFr (AD v)) []) (.no 1)
 | _, _ => .no 1
def isC2 (a m : PV) : Prop := ∃ A, a = qj A /\ armB A = true /\ limX A = true /\ okW m = true
def vC2 (CF : PV -> PV -> List Rat) : Spec := fun args hs K => match args, hs with
 | [a, .w m], [] => .br (qh (isC2 a m)) (K (.fr 3 (.rats 64 (CF a m))) []) (.no 1)
 | _, _ => .no 1
include hG in
theorem vkAr : qc prog G 9 (vAr armD) := by
 intro args hs K x h
 unfold vAr at h
 split at h
 case h_2 => cases h
 exact ok15 hG _ _ _ _ h
include hG in
theorem vkC2 : qc prog G 10 (vC2 fun a m => cfL (dArm a).lk m (dArm a).n) := by
 intro args hs K x h
 unfold vC2 at h
 split at h
 case h_2 => cases h
 rename_i a m
 obtain ⟨hc, hr⟩ := k8 h
 obtain ⟨A, rfl, hA, hX, hm⟩ := decP_iff.1 hc
 obtain ⟨r, hs', p, e⟩ := ok33 hG [qj A, .w m] [] (fun r hs' => .ok (.ret r hs')) (.ret (.fr 3 (.rats 64 (cfL A.lk m A.n))) []) (by
  show (Tr.br _ _ _).run = _
  rw [k5 (decP_iff.2 ⟨okA_arm hA, hX, hm⟩)]; rfl)
 cases e
 exact ⟨_, _, p, hr⟩
def lfC (x y z : Bool) : Tr := .ok (.ret (.bl ((x == y) && !z)) [])
def tkd (l : List Rat) : List Rat := List.take l.length (List.drop 0 l)
theorem eCB (l m k n : PV) (AD : PV -> Am) (CF : PV -> PV -> List Rat) : (evF prog [(9, vAr AD), (10, vC2 CF), (35, cst [] True (.bl true)), (36, gAm)] [] {} f7 [.w l, .w m, .w k, .w n] [] qn).run =
  (Tr.br (qh (isA [] True [])) (.br (okW l) (.br ((0 + (AD l).n).ble (AD l).n) (.br (okW m) (.br ((0 + (AD m).n).ble (AD m).n) (.br (qh (isC2 (qj (AD l)) k)) (.br ((0 + (CF (qj (AD l)) k).length).ble (CF (qj (AD l)) k).length) (.br (qh (isC2 (qj (AD m)) n)) (.br ((0 + (CF (qj (AD m)) n).length).ble (CF (qj (AD m)) n).length) (.br (qh (isAm (qj (AD l)) (qj (AD m)) (tkd (CF (qj (AD l)) k)) (tkd (CF (qj (AD m)) n)))) (.br (amB (qj (AD l)) (qj (AD m)) (tkd (CF (qj (AD l)) k)) (tkd (CF (qj (AD m)) n))) (.br (qh (isAm (qj (AD m)) (qj (AD l)) (tkd (CF (qj (AD m)) n)) (tkd (CF (qj (AD l)) k)))) (.br (amB (qj (AD m)) (qj (AD l)) (tkd (CF (qj (AD m)) n)) (tkd (CF (qj (AD l)) k))) (.br (qh (isAm (qj (AD l)) (qj (AD l)) (tkd (CF (qj (AD l)) k)) (tkd (CF (qj (AD l)) k)))) (.br (amB (qj (AD l)) (qj (AD l)) (tkd (CF (qj (AD l)) k)) (tkd (CF (qj (AD l)) k))) (lfC true true true) (lfC true true false)) (.no 1)) (.br (qh (isAm (qj (AD l)) (qj (AD l)) (tkd (CF (qj (AD l)) k)) (tkd (CF (qj (AD l)) k)))) (.br (amB (qj (AD l)) (qj (AD l)) (tkd (CF (qj (AD l)) k)) (tkd (CF (qj (AD l)) k))) (lfC true false true) (lfC true false false)) (.no 1))) (.no 1)) (.br (qh (isAm (qj (AD m)) (qj (AD l)) (tkd (CF (qj (AD m)) n)) (tkd (CF (qj (AD l)) k)))) (.br (amB (qj (AD m)) (qj (AD l)) (tkd (CF (qj (AD m)) n)) (tkd (CF (qj (AD l)) k))) (.br (qh (isAm (qj (AD l)) (qj (AD l)) (tkd (CF (qj (AD l)) k)) (tkd (CF (qj (AD l)) k)))) (.br (amB (qj (AD l)) (qj (AD l)) (tkd (CF (qj (AD l)) k)) (tkd (CF (qj (AD l)) k))) (lfC false true true) (lfC false true false)) (.no 1)) (.br (qh (isAm (qj (AD l)) (qj (AD l)) (tkd (CF (qj (AD l)) k)) (tkd (CF (qj (AD l)) k)))) (.br (amB (qj (AD l)) (qj (AD l)) (tkd (CF (qj (AD l)) k)) (tkd (CF (qj (AD l)) k))) (lfC false false true) (lfC false false false)) (.no 1))) (.no 1))) (.no 1)) (.no 1)) (.no 1)) (.no 1)) (.no 1)) (.no 1)) (.no 1)) (.no 1)) (.no 1)) (.no 1)).run := by kernel_rfl
include hG in
theorem lawCB (hT : qu G) (l m k n : PV) (hl : okW l = true) (hm : okW m = true) (hk : okW k = true) (hn : okW n = true) : PC prog G 7 [.w l, .w m, .w k, .w n] [] (.bl true) [] := by
 refine ql hG (.cons (vkAr hG) (.cons (vkC2 hG) (.cons (cst_t (pcCl hG hT)) (.cons (gkAm hG hT) .nil)))) mix enCB (hs := []) (L := []) (pol := {}) (k9 (by kernel_rfl)) ((eCB l m k n armD _).trans ?_)
 have hA := armB_V l
 have hX := limX_V l
 have sA := shp_V l
 have hB := armB_V m
 have hY := limX_V m
 have sB := shp_V m
 generalize armD l = A at *
 generalize armD m = B at *
 obtain ⟨a1, a2, a3, a4, h1, h3, a7⟩ := armB_c hA
 obtain ⟨b1, b2, b3, b4, k1, k3, b7⟩ := armB_c hB
 have lp : (cfL (dArm (qj A)).lk k (dArm (qj A)).n).length = A.n := cfL_len _ _ _
 have lq : (cfL (dArm (qj B)).lk n (dArm (qj B)).n).length = B.n := cfL_len _ _ _
 simp only [tkd, List.drop_zero, List.take_length]
 generalize cfL (dArm (qj A)).lk k (dArm (qj A)).n = p at *
 generalize cfL (dArm (qj B)).lk n (dArm (qj B)).n = q at *
 have hs : amB (qj B) (qj A) q p = amB (qj A) (qj B) p q := free_sym _ _ _ _
 have hz : amB (qj A) (qj A) p p = false := free_self (n := A.n) h1 (plG A p)
 rw [k5 (decP_iff.2 ⟨rfl, trivial⟩), k5 hl, k5 (by rw [kG]; omega), k5 hm, k5 (by rw [kG]; omega), k5 (decP_iff.2 ⟨_, rfl, hA, hX, hk⟩), k5 (by rw [kG]; omega), k5 (decP_iff.2 ⟨_, rfl, hB, hY, hn⟩), k5 (by rw [kG]; omega),
  k5 (decP_iff.2 ⟨_, _, rfl, rfl, hA, hB, sA, sB, lp, lq⟩), hs, hz]
 cases hx : amB (qj A) (qj B) p q with
 | true => rw [k5 rfl, k5 (decP_iff.2 ⟨_, _, rfl, rfl, hB, hA, sB, sA, lq, lp⟩), k5 rfl, k5 (decP_iff.2 ⟨_, _, rfl, rfl, hA, hA, sA, sA, lp, lp⟩)]; rfl
 | false => rw [k6 rfl, k5 (decP_iff.2 ⟨_, _, rfl, rfl, hB, hA, sB, sA, lq, lp⟩), k6 rfl, k5 (decP_iff.2 ⟨_, _, rfl, rfl, hA, hA, sA, sA, lp, lp⟩)]; rfl
end
section
open Go
theorem calls_of_does {P : Program} {g : Nat} {fn : Func} {c : Code} (hg : Enters P g fn c) {vs : Array Value} {w : World} {R : Value -> World -> Prop} (h : Does P g vs w R) : Calls P g vs w fun e w' => ∃ v, e = .returned v /\ R v w' := by
 have h1 := h { dst := some 0, op := .move (.const undef), type := 0, pos := "", after := #[], guard := none } ⟨#[undef], []⟩ (fun a w' => ∃ v, a.tmps[0]? = some v /\ R v w') (fun _ _ _ => False) (fun v w' hv => ⟨v, by simp [Act.put], hv⟩)
 have : (callFunc g vs).run P w = .ok (.enter g vs) w := by
  have hname : fn.name ≠ "runtime.NumGoroutine" := by simpa using hg.name
  simp [callFunc, hg.at_, hname, hg.body]
 rw [this, Oper.upon_enter] at h1
 refine h1.mono fun e w' he => ?_
 cases e with
 | returned v =>
  obtain ⟨v', hv, hr⟩ := he
  simp [Act.put] at hv
  subst hv
  exact ⟨v, rfl, hr⟩
 | panicked chain => exact absurd he (by simp)
 | outgrown => exact absurd he (by simp [LetsOut])
theorem HRel.none (w : World) : HRel w (fun _ => False) qE (hget (([] : List Blk).map some)) :=
 ⟨fun b k h => by simp [hget] at h, fun b k a z h => by simp [hget] at h, fun b b' k k' a z z' h => by simp [hget] at h, fun a h => h.elim⟩
theorem keptBut_of_old {w w' : World} (h1 : w'.os = w.os) (h2 : w'.output = w.output) (h3 : ∀ n, n < w.heap.size -> w'.heap[n]? = w.heap[n]?) (may : MemPlace -> Prop) : w.keptBut w' may := by
 refine ⟨h1, h2, fun i hi => ?_⟩
 rw [h3 i hi]
 split
 ·rename_i e1 e2
  rw [e1] at e2
  cases e2
  exact ⟨rfl, rfl, rfl, fun _ _ => rfl⟩
 ·rename_i e1 e2
  rw [e1] at e2
  cases e2
  exact .inr ⟨rfl, rfl⟩
 ·rfl
end
section
open Go Go.ChangeShapes Go.WideShapes
set_option maxRecDepth 100000
def blkOf : Value -> Nat -> Prop
 | .slice (some a) _ _, b => b = a.block
 | _, _ => False
section
variable {H : Type} {enc : TypeId × Value -> H} {P : Program} {w : World} {t e : TypeId} {base : Nat} {v : Value} {d : DataW H} {p : List MemPlace}
theorem arg_ints (ht : P.underlying t = some (.slice e)) (he : P.underlying e = some (.int .i64)) (hc : P.cellsOf e = 1)
  (hval : Value.okWide P w .any base t v) (h : DataW.Trod enc P w 0 (fun _ => true) true t v d p) :
  ∃ u : PV, okW u = true /\ (∀ n ∈ intsW u, -9223372036854775808 <= n /\ n <= 9223372036854775807) /\ (∀ b, blkOf v b -> b < w.heap.size) /\ (∀ S : Nat -> Prop, (∀ b, blkOf v b -> S b) -> RepV w S qE (.w u) v) /\
   (∀ w' : World, (∀ n, n < w.heap.size -> w'.heap[n]? = w.heap[n]?) -> ∃ p', DataW.Trod enc P w' 0 (fun b => decide (b < w.heap.size)) true t v d p') /\
   ((intsW u = [] /\ d = .nil) \/ ∃ sp, d = .slice (lits .i64 (intsW u)) sp) := by
 have hval' := hval
 obtain ⟨a0, len, cap, rfl⟩ := okWide_slice ht hval
 obtain ⟨fuel, hf⟩ := h
 rcases open_ints ht he hc hf with ⟨hcs, hx⟩ | ⟨a, len', cap', zs, hcs, _, hl, hm, hz, hx, hcell, hwz⟩
 ·simp [Value.cells] at hcs
  obtain ⟨rfl, rfl, rfl⟩ := hcs
  simp only [Prod.mk.injEq] at hx
  obtain ⟨rfl, rfl⟩ := hx
  refine ⟨.nil, rfl, fun n hn => (nomatch hn), fun b hb => hb.elim, fun S _ => .cell _ _ _ rfl (.w _ _ _ (.nil _)), fun w' _ => ⟨[], RowKit.shut_slice_nil ht⟩, .inl ⟨rfl, rfl⟩⟩
 ·simp [Value.cells] at hcs
  obtain ⟨rfl, rfl, rfl⟩ := hcs
  simp only [Prod.mk.injEq] at hx
  obtain ⟨rfl, rfl⟩ := hx
  simp only [if_true] at hz
  unfold Value.okWide at hval'
  rw [ht] at hval'
  simp only [Cell.okWide, Cell.ok, ht] at hval'
  obtain ⟨_, _, _, hsp, row, cells, hsh, _⟩ := hval'
  obtain ⟨b, off, spot⟩ := a
  simp only at hsp
  subst hsp
  have hb : b < w.heap.size := by
   unfold World.shape? at hsh
   split at hsh
   ·rename_i hh; exact (Array.getElem?_eq_some_iff.1 hh).1
   ·cases hsh
  have hcell' : ∀ j, j < zs.length -> w.cell? ⟨b, off + j, none⟩ = some (.int .i64 (zs.getD j 0)) := fun j hj => by rw [<- add_plain]; exact hcell j hj
  have hlen : (zs.take len).length = len := by rw [List.length_take]; omega
  refine ⟨.lst 1 (.ints .i64 (zs.take len)), rfl, fun n hn => bounds_i64 (hwz n (List.mem_of_mem_take hn)), fun c hc => (by rw [show c = b from hc]; exact hb), fun S hS => ?_, fun w' hw' => ?_, .inr ⟨_, rfl⟩⟩
  ·refine .cell _ _ _ rfl (.w _ _ _ ?_)
   have := RepC.lst (w := w) (S := S) qE 1 (.ints .i64 (zs.take len)) b off cap (fun j => [.int .i64 ((zs.take len).getD j 0)]) (by show (zs.take len).length <= cap; omega) (hS b rfl)
    (fun i hi => .i _ _ _) (fun _ _ => rfl) (fun i j hi hj => by
     have hi' : i < len := by rw [<- hlen]; exact hi
     obtain rfl : j = 0 := by omega
     show w.cell? ⟨b, off + (i * 1 + 0), none⟩ = _
     rw [Nat.mul_one, Nat.add_zero, hcell' i (by omega)]
     simp [List.getD_eq_getElem?_getD, hi'])
   rw [show (Cont.ints .i64 (zs.take len)).len = len from hlen] at this
   exact this
  ·have hd : decide (b < w.heap.size) = true := kE hb
   exact ⟨_, 2, shut_ints' (enc := enc) (w := w') (base := 0) (spare := fun b => decide (b < w.heap.size)) (held := true) (len := len) (cap := cap) (zs := zs) 0 ht he hc
    (Nat.zero_le b) hl hm (by simp only [hd, if_true]; exact hz) (fun i hi => by rw [cell_block (hw' b hb)]; exact hcell' i hi) hwz⟩
end
end
section
open Go
set_option maxRecDepth 100000
theorem calls_trueG {P : Program} {G : World -> (Nat -> Prop) -> Prop} {g : Nat} {fn : Func} {c : Code} (hg : Enters P g fn c) {args : List PV} (h : PC P G g args [] (.bl true) []) {w : World} {S : Nat -> Prop} {vs : List Value} (hw : G w S) (hS : ∀ a, S a -> a < w.heap.size)
  (hv : RepVL w S qE args vs) (may : MemPlace -> Prop) :
  Calls P g vs.toArray w fun e w' => e = .returned (.bool true) /\ w.keptBut w' may /\ ∀ n, n < w.heap.size -> w'.heap[n]? = w.heap[n]? := by
 refine (calls_of_does hg (h w S qE vs hw hv ⟨fun b k h => by simp [hget] at h, fun b k a z h => by simp [hget] at h, fun b b' k k' a z z' h => by simp [hget] at h, hS⟩ (fun _ _ => rfl))).mono fun e w' he => ?_
 obtain ⟨v, rfl, S', μ', c⟩ := he
 have hr := c.rep
 have : v = .bool true := by
  cases hr with
  | cell _ _ _ _ h => cases h; rfl
  | agg _ _ _ hv h => simp [isAgg, unfr, unfrA, unfr1] at hv
 subst this
 have old : ∀ n, n < w.heap.size -> w'.heap[n]? = w.heap[n]? := fun n hn => c.old n hn (fun b z hb => by simp at hb)
 exact ⟨rfl, keptBut_of_old c.os c.output old may, old⟩
def TG (w : World) (S : Nat -> Prop) : Prop := S 1 /\ Go.Proofs.TabAt 1 Go.Lib.deBruijn64tab w
theorem tg_ok : GOk TG := fun _ _ _ _ m h => ⟨m.sub 1 h.1, fun j hj => (m.cell 1 h.1 j).trans (h.2 j hj)⟩
theorem tg_tab : qu TG := fun _ _ h => h.2
theorem tab_block {w : World} (h : Go.Proofs.TabAt 1 Go.Lib.deBruijn64tab w) : 1 < w.heap.size := by
 have h0 := h 0 (by decide)
 rcases Nat.lt_or_ge 1 w.heap.size with h1 | h1
 ·exact h1
 ·unfold World.cell? at h0
  rw [show w.heap[(⟨1, 0, none⟩ : Addr).block]? = none from Array.getElem?_eq_none h1] at h0
  cases h0
theorem tab_of_laid {laid : List (String × DataW Unit)} {W : World} (hl : laid = [("math/bits.deBruijn64tab", Go.Lib.tabData .u8 (Go.Lib.deBruijn64tab.map fun n : Nat => (n : Int)))]) (h : laidMetH Tryz.prog laid W) : Go.Proofs.TabAt 1 Go.Lib.deBruijn64tab W := by
 subst hl
 have h1 : laidMet Tryz.prog [("math/bits.deBruijn64tab", Go.Lib.tabData .u8 (Go.Lib.deBruijn64tab.map fun n : Nat => (n : Int)))] W := h
 have h2 := Go.Lib.tabIs_of_head (g := 1) (t := 182) (e := 5) (n := 64) (by kernel_rfl) (by kernel_rfl) (by kernel_rfl) (by kernel_rfl) (by kernel_rfl) (by kernel_rfl) h1
 intro j hj
 have h3 := h2.cell (g := 1) (by kernel_rfl) j (by rw [List.length_map]; exact hj)
 rw [h3, List.getD_eq_getElem?_getD, List.getD_eq_getElem?_getD, List.getElem?_map, List.getElem?_eq_getElem hj]
 rfl
end
end Go.Proofs.YtnenjkgffapplaaGreatDoor.PE
