/-
  Part 5 of the proof: contracts of the program's functions. Conditions: those of the theorems below.
-/
import Derived.Test.YtnenjkgffapplaaGreatDoorSi4
import Derived.Test.YtnenjkgffapplaaGreatDoorSi2
set_option linter.all false
noncomputable section
namespace Go.Proofs.YtnenjkgffapplaaGreatDoor.PE
section
open Go Tryz
set_option maxRecDepth 100000
variable {G : World -> (Nat -> Prop) -> Prop} (hG : GOk G)
def Pl68 (v z : PV) (u1 u2 u3 : Nat) (c i : Int) : Prop := okW v = true /\ i = 0 /\ 1 <= c /\ c <= 3 /\ z = zArm E E E E E E E /\ u1 = 64 /\ u2 = 64 /\ u3 = 64
def l68 : qx := fun ls K => match ls with
 | ⟨[.ptr 0 1 0 0 [], .ptr 1 12 0 0 [], .ptr 2 12 0 0 [], .i .i64 c, .i .i64 i], [some ⟨1, .vals [.agg [.w v]]⟩, some ⟨12, .vals [z]⟩, some ⟨12, .vals [.agg [.s nm, .agg [.agg [.q bx u1, .q by_ u2], .agg [.bl false, .q t u3]], .nil]]⟩]⟩ =>
  .br (qe (Pl68 v z u1 u2 u3 c i)) (.br (decide (c = 1)) (K (.exit 0) (st68 (r6 v) nm bx by_ t (.sl 3 16 0 1) [some ⟨16, .vals [lkV v]⟩] c 1))
   (.br (decide (c = 2)) (K (.exit 0) (st68 (r6 (r6 v)) nm bx by_ t (.sl 3 16 0 2) [some ⟨16, .vals [lkV v, lkV (r6 v)]⟩] c 2))
    (K (.exit 0) (st68 (r6 (r6 (r6 v))) nm bx by_ t (.sl 3 16 0 3) [some ⟨16, .vals [lkV v, lkV (r6 v), lkV (r6 (r6 v))]⟩] c 3)))) (.no 1)
 | _ => .no 1
include hG in
theorem orc68 : OrcOK prog G O68 := .cons (ok45 hG) (.cons (ok81 hG) (.cons (ok104 hG) (.cons (ok105 hG) .nil)))
include hG in
theorem rnd68 {ls ls' : LS} {e : Exit} (hl : 1 <= ls.h.length) (h : (qh prog O68 [] pol68 f38.ntmps 1 [0, 4, 5, 30, 31] b68 ls).run = some (.out e ls')) : Rnd prog G f38.ntmps 1 [0, 4, 5, 30, 31] b68 ls e ls' :=
 qb hG (orc68 hG) mix (L := []) (pol := pol68) (O := O68) (k9 (by kernel_rfl)) hl h
theorem okW_r6 {v : PV} (h : okW v = true) : okW (r6 v) = true := okW_rs (okW_rs (okW_rs (okW_rs (okW_rs (okW_rs h)))))
include hG in
theorem loop68 : qw prog G f38.ntmps 1 [0, 4, 5, 30, 31] b68 l68 := by
 intro ls K y hm h
 unfold l68 at h
 split at h
 case h_2 => cases h
 rename_i c i v z nm bx u1 by_ u2 t u3
 obtain ⟨hc, hr⟩ := k8 h
 obtain ⟨hw, rfl, h1, h3, rfl, rfl, rfl, rfl⟩ := decP_iff.1 hc
 have a1 := rnd68 hG (ls := st68 v nm bx by_ t .nil [] c 0) (by simp [st68]) (step68a v hw nm bx by_ t c (by omega))
 have w1 := okW_r6 hw
 by_cases e1 : c = 1
 ·subst e1
  rw [k5 (by decide)] at hr
  have a2 := rnd68 hG (ls := st68 (r6 v) nm bx by_ t (.sl 3 16 0 1) [some ⟨16, .vals [lkV v]⟩] 1 1) (ls' := st68 (r6 v) nm bx by_ t (.sl 3 16 0 1) [some ⟨16, .vals [lkV v]⟩] 1 1) (e := .exit 0) (by simp [st68]) (by kernel_rfl)
  exact ⟨_, _, qt (.more _ _ _ _ a1 (.last _ _ _ a2 (by simp))), hr⟩
 ·rw [k6 (kF e1)] at hr
  have a2 := rnd68 hG (ls := st68 (r6 v) nm bx by_ t (.sl 3 16 0 1) [some ⟨16, .vals [lkV v]⟩] c 1) (by simp [st68]) (step68b (r6 v) w1 nm bx by_ t c _ _ _ _ _ _ (by omega))
  by_cases e2 : c = 2
  ·subst e2
   rw [k5 (by decide)] at hr
   have a3 := rnd68 hG (ls := st68 (r6 (r6 v)) nm bx by_ t (.sl 3 16 0 2) [some ⟨16, .vals [lkV v, lkV (r6 v)]⟩] 2 2) (ls' := st68 (r6 (r6 v)) nm bx by_ t (.sl 3 16 0 2) [some ⟨16, .vals [lkV v, lkV (r6 v)]⟩] 2 2) (e := .exit 0) (by simp [st68]) (by kernel_rfl)
   exact ⟨_, _, qt (.more _ _ _ _ a1 (.more _ _ _ _ a2 (.last _ _ _ a3 (by simp)))), hr⟩
  ·have e3 : c = 3 := by omega
   subst e3
   rw [k6 (by decide)] at hr
   have a3 := rnd68 hG (ls := st68 (r6 (r6 v)) nm bx by_ t (.sl 3 16 0 2) [some ⟨16, .vals [lkV v, lkV (r6 v)]⟩] 3 2) (by simp [st68]) (step68c (r6 (r6 v)) (okW_r6 w1) nm bx by_ t 3 _ _ _ _ _ _ _ _ _ _ _ _ (by omega))
   have a4 := rnd68 hG (ls := st68 (r6 (r6 (r6 v))) nm bx by_ t (.sl 3 16 0 3) [some ⟨16, .vals [lkV v, lkV (r6 v), lkV (r6 (r6 v))]⟩] 3 3) (ls' := st68 (r6 (r6 (r6 v))) nm bx by_ t (.sl 3 16 0 3) [some ⟨16, .vals [lkV v, lkV (r6 v), lkV (r6 (r6 v))]⟩] 3 3) (e := .exit 0) (by simp [st68]) (by kernel_rfl)
   exact ⟨_, _, qt (.more _ _ _ _ a1 (.more _ _ _ _ a2 (.more _ _ _ _ a3 (.last _ _ _ a4 (by simp))))), hr⟩
def lf68 (v : PV) (vs : List PV) (u : PV) : Tr := .ok (.ret (frA ⟨#[111, 110, 101]⟩ (mkRat (40 * 0) 4) (mkRat 0 4) (mkRat ([(0 : Int), 1, -1, 1].getD (nx v 4).toNat 0) (1 + nx (rs v) 3).toNat) (.fr 16 (.vals vs))) [⟨1, .vals [.agg [.w u]]⟩])
theorem e68 (v : PV) : (evF prog O68 [(4, l68)] pol68 f38 [.ptr 0 1 0 0 [], .i .i64 0] [⟨1, .vals [.agg [.w v]]⟩] qm).run =
  (Tr.br (okN v 4) (.br (ix (nx v 4) (([(0 : Int), 1, -1, 1].length : Int))) (.br (okN (rs v) 3) (.br (ovf (1 + nx (rs v) 3)) (.br (frq (1 + nx (rs v) 3) ([(0 : Int), 1, -1, 1].getD (nx v 4).toNat 0)) (.br (okN (rs (rs v)) 3) (.br (ovf (1 + nx (rs (rs v)) 3)) (.br (qe (Pl68 (rs (rs (rs v))) (zArm E E E E E E E) 64 64 64 (1 + nx (rs (rs v)) 3) 0)) (.br (decide (1 + nx (rs (rs v)) 3 = 1)) (lf68 v [lkV (rs (rs (rs v)))] (r6 (rs (rs (rs v))))) (.br (decide (1 + nx (rs (rs v)) 3 = 2)) (lf68 v [lkV (rs (rs (rs v))), lkV (r6 (rs (rs (rs v))))] (r6 (r6 (rs (rs (rs v)))))) (lf68 v [lkV (rs (rs (rs v))), lkV (r6 (rs (rs (rs v)))), lkV (r6 (r6 (rs (rs (rs v)))))] (r6 (r6 (r6 (rs (rs (rs v))))))))) (.no 1)) (.no 1)) (.no 1)) (.no 1)) (.no 1)) (.no 1)) (.no 1)) (.no 1)).run := by kernel_rfl
theorem okN_t {v : PV} {n : Int} (h : okW v = true) (h1 : 0 < n) (h2 : n <= 4294967296) : okN v n = true := by
 simp only [okN, h, Bool.true_and, kA, kD]; omega
def itR6 : Nat -> PV -> PV
 | 0, v => v
 | k + 1, v => itR6 k (r6 v)
def lkD (v : PV) : Lk := ⟨lenV v, lowV v, highV v, spdV v, brkV v, (shV v).len, fun i => dq (fldV ((shV v).get i) 0), fun i => dq (fldV ((shV v).get i) 1)⟩
def armD (v : PV) : Am := ⟨⟨#[111, 110, 101]⟩, mkRat (40 * 0) 4, mkRat 0 4, mkRat ([(0 : Int), 1, -1, 1].getD (nx v 4).toNat 0) (1 + nx (rs v) 3).toNat, (1 + nx (rs (rs v)) 3).toNat, fun j => lkD (itR6 j (rs (rs (rs v))))⟩
theorem shV_get (v : PV) (i : Nat) (h : i < (shV v).len) : (shV v).get i = .agg [.q (dq (fldV ((shV v).get i) 0)) 64, .q (dq (fldV ((shV v).get i) 1)) 64] := by
 unfold shV at *
 by_cases hb : nx (rs (rs (rs (rs (rs v))))) 3 = 2
 ·simp only [hb, if_true, Cont.len, kH, kI] at h ⊢
  match i, h with
  | 0, _ => rfl
  | 1, _ => rfl
  | 2, _ => rfl
  | i + 3, h => omega
 ·simp only [hb, if_false, Cont.len, kH, kI] at h ⊢
  match i, h with
  | 0, _ => rfl
  | 1, _ => rfl
  | 2, _ => rfl
  | 3, _ => rfl
  | i + 4, h => omega
theorem lkV_le (v : PV) : VLe (lkV v) (lkPV (lkD v)) := by
 refine VLe.agg (VLeL.cons (.refl _) (VLeL.cons (.refl _) (VLeL.cons (.refl _) (VLeL.cons (.refl _) (VLeL.cons (.refl _) (VLeL.cons ?_ .nil))))))
 refine VLe.lst rfl fun i hi => ?_
 have := shV_get v i hi
 have e : (Cont.fn (lkD v).np (pv (lkD v).px (lkD v).py)).get i = (shV v).get i := this.symm
 rw [e]
 exact .refl _
theorem rle_arm (nm : ByteArray) (bx by_ t : Rat) (vs : List PV) (n : Nat) (f : Nat -> PV) (hl : vs.length = n) (h : ∀ (i : Nat) (v : PV), vs[i]? = some v -> noRef 8 v = true /\ VLe v (f i)) :
  RLe (frA nm bx by_ t (.fr 16 (.vals vs))) (frA nm bx by_ t (.fr 16 (.fn n f))) := by
 subst hl
 exact ⟨fun m => .refl _, fun m => KsLe.one (KLe.fn rfl h)⟩
def armFr (A : Am) : PV := frA A.name A.bx A.by_ A.t (.fr 16 (.fn A.n (fun j => lkPV (A.lk j))))
def s68 : Spec := fun args hs K => match args, hs with
 | [.ptr 0 1 0 0 [], .i .i64 k], [⟨1, .vals [.agg [.w v]]⟩] => .br (okW v && decide (k = 0)) (K (armFr (armD v)) [⟨1, .vals [.agg [.w (itR6 (armD v).n (rs (rs (rs v))))]]⟩]) (.no 1)
 | _, _ => .no 1
include hG in
theorem ok68 : qc prog G 38 s68 := by
 refine qo hG (orc68 hG) mix enter68 (L := [(4, l68)]) (pol := pol68) fun args hs K x h => ?_
 unfold s68 at h
 split at h
 case h_2 => cases h
 rename_i k v
 obtain ⟨hc, hr⟩ := k8 h
 simp only [kA, kD] at hc
 obtain ⟨hw, rfl⟩ := hc
 refine ⟨lps1 (b := b68) (live := [0, 4, 5, 30, 31]) (sp := l68) (m := 1) (by kernel_rfl) (by kernel_rfl) (by kernel_rfl) (loop68 hG), ?_⟩
 have w1 := okW_rs hw
 have w2 := okW_rs w1
 have w3 := okW_rs w2
 have g0 := qB v (show (0 : Int) < 4 by omega)
 have g1 := qB (rs v) (show (0 : Int) < 3 by omega)
 have g2 := qB (rs (rs v)) (show (0 : Int) < 3 by omega)
 have gt : ∀ i : Nat, -2 < [(0 : Int), 1, -1, 1].getD i 0 /\ [(0 : Int), 1, -1, 1].getD i 0 < 2 := by
  intro i
  match i with
  | 0 => decide
  | 1 => decide
  | 2 => decide
  | 3 => decide
  | i + 4 => exact ⟨by show (-2 : Int) < 0; decide, by show (0 : Int) < 2; decide⟩
 have gt' := gt (nx v 4).toNat
 rw [e68]
 rw [k5 (okN_t hw (by decide) (by decide)), k5 (by simp only [kA, kD, kH, kI]; omega), k5 (okN_t w1 (by decide) (by decide)),
  k5 (by simp only [ovf, kA, kD]; omega), k5 (by simp only [frq, kA, kD]; omega), k5 (okN_t w2 (by decide) (by decide)), k5 (by simp only [ovf, kA, kD]; omega),
  k5 (decP_iff.2 ⟨w3, rfl, by omega, by omega, rfl, rfl, rfl, rfl⟩)]
 have hn : (armD v).n = (1 + nx (rs (rs v)) 3).toNat := rfl
 have one : ∀ (vs : List PV), vs.length = (armD v).n -> (∀ i u, vs[i]? = some u -> u = lkV (itR6 i (rs (rs (rs v))))) ->
   RLe (frA (armD v).name (armD v).bx (armD v).by_ (armD v).t (.fr 16 (.vals vs))) (armFr (armD v)) := by
  intro vs hl hv
  refine rle_arm _ _ _ _ _ _ _ hl fun i u hu => ?_
  rw [hv i u hu]
  exact ⟨rfl, lkV_le _⟩
 by_cases e1 : 1 + nx (rs (rs v)) 3 = 1
 ·have hn1 : (armD v).n = 1 := by omega
  rw [hn1] at hr
  rw [k5 (kE e1)]
  refine ⟨_, _, _, rfl, one [lkV (rs (rs (rs v)))] (by rw [hn1]; rfl) (fun i u hu => ?_), hr⟩
  match i, hu with
  | 0, hu => exact (Option.some.inj hu).symm
  | i + 1, hu => simp at hu
 ·rw [k6 (kF e1)]
  by_cases e2 : 1 + nx (rs (rs v)) 3 = 2
  ·have hn1 : (armD v).n = 2 := by omega
   rw [hn1] at hr
   rw [k5 (kE e2)]
   refine ⟨_, _, _, rfl, one [lkV (rs (rs (rs v))), lkV (r6 (rs (rs (rs v))))] (by rw [hn1]; rfl) (fun i u hu => ?_), hr⟩
   match i, hu with
   | 0, hu => exact (Option.some.inj hu).symm
   | 1, hu => exact (Option.some.inj hu).symm
   | i + 2, hu => simp at hu
  ·have hn1 : (armD v).n = 3 := by omega
   rw [hn1] at hr
   rw [k6 (kF e2)]
   refine ⟨_, _, _, rfl, one [lkV (rs (rs (rs v))), lkV (r6 (rs (rs (rs v)))), lkV (r6 (r6 (rs (rs (rs v)))))] (by rw [hn1]; rfl) (fun i u hu => ?_), hr⟩
   match i, hu with
   | 0, hu => exact (Option.some.inj hu).symm
   | 1, hu => exact (Option.some.inj hu).symm
   | 2, hu => exact (Option.some.inj hu).symm
   | i + 3, hu => simp at hu
theorem enter15 : Enters prog 9 f9 (qg f9) := ⟨func9, by kernel_rfl, rfl⟩
def pol15 : Pol := { own := [6], wr := [(38, [0])] }
theorem e15 (v : PV) : evF prog [(38, s68)] [] pol15 f9 [.w v] [] qm =
 Tr.br (okW v && decide ((0 : Int) = 0)) (.br ((armD v).n.ble (armD v).n) (.ok (.ret (PV.agg [PV.s (armD v).name, PV.agg [PV.agg [PV.q (armD v).bx 64, PV.q (armD v).by_ 64], PV.agg [PV.bl false, PV.q (armD v).t 64]], PV.fr 16 (.fn (armD v).n fun (j : Nat) => PV.agg [PV.q ((armD v).lk (j + 0)).len 64, PV.q ((armD v).lk (j + 0)).low 64, PV.q ((armD v).lk (j + 0)).high 64, PV.q ((armD v).lk (j + 0)).spd 64, PV.q ((armD v).lk (j + 0)).brk 64, PV.lst 6 (.fn ((armD v).lk (j + 0)).np fun (a : Nat) => PV.agg [PV.q (((armD v).lk (j + 0)).px a) 64, PV.q (((armD v).lk (j + 0)).py a) 64])])]) [])) (.no 15)) (.no 1) := by kernel_rfl
def s15 : Spec := fun args hs K => match args, hs with
 | [.w v], [] => .br (okW v) (K (armFr (armD v)) []) (.no 1)
 | _, _ => .no 1
include hG in
theorem ok15 : qc prog G 9 s15 := by
 refine qo hG (.cons (ok68 hG) .nil) mix enter15 (L := []) (pol := pol15) fun args hs K x h => ?_
 unfold s15 at h
 split at h
 case h_2 => cases h
 rename_i v
 obtain ⟨hc, hr⟩ := k8 h
 refine ⟨k9 (by kernel_rfl), _, _, _, ?_, .refl _, hr⟩
 rw [e15, k5 (by rw [hc]; decide), k5 (by rw [kG]; omega), k7]
 rfl

theorem smQ_mk {n : Int} {d : Nat} (hd : d ≠ 0) (hn : n.natAbs <= 1000000) (hd2 : d <= 1000) : smQ (mkRat n d) = true :=
 smQ_iff.2 ⟨Nat.le_trans (mkRat_num_le n hd) hn, Nat.le_trans (mkRat_den_le n hd) hd2⟩
theorem mk_posI {n : Int} {d : Nat} (hn : 0 < n) (hd : 0 < d) : (0 : Rat) < mkRat n d := by
 rw [show n = ((n.toNat : Nat) : Int) by omega]; exact Prof.mk_pos (by omega) hd
theorem mk_negI {n : Int} {d : Nat} (hn : n < 0) (hd : 0 < d) : mkRat n d < (0 : Rat) := by
 have h := mk_posI (n := -n) (d := d) (by omega) hd
 rw [<- Rat.neg_mkRat] at h
 grind
def shF (g : Int) (b : Bool) : Cont := match b with
 | true => .vals [.agg [.q (mkRat (-1) 4) 64, .q (mkRat (-1) 4) 64], .agg [.q (mkRat (4 + 2 * g + 1) 4) 64, .q (mkRat 0 4) 64], .agg [.q (mkRat (-1) 4) 64, .q (mkRat 1 4) 64]]
 | false => .vals [.agg [.q (mkRat (-1) 4) 64, .q (mkRat (-1) 4) 64], .agg [.q (mkRat (4 + 2 * g + 1) 4) 64, .q (mkRat (-1) 4) 64], .agg [.q (mkRat (4 + 2 * g + 1) 4) 64, .q (mkRat 1 4) 64], .agg [.q (mkRat (-1) 4) 64, .q (mkRat 1 4) 64]]
theorem shV_F (v : PV) : shV v = shF (nx v 4) (decide (nx (rs (rs (rs (rs (rs v))))) 3 = 2)) := by
 unfold shV
 by_cases hb : nx (rs (rs (rs (rs (rs v))))) 3 = 2
 ·rw [if_pos hb, kE hb]; rfl
 ·rw [if_neg hb, kF hb]; rfl
theorem shF_ok : ∀ (g : Nat) (b : Bool), g < 4 -> polyB (shF g b).len (fun i => dq (fldV ((shF g b).get i) 0)) (fun i => dq (fldV ((shF g b).get i) 1)) = true
 | 0, true, _ => by kernel_rfl
 | 1, true, _ => by kernel_rfl
 | 2, true, _ => by kernel_rfl
 | 3, true, _ => by kernel_rfl
 | 0, false, _ => by kernel_rfl
 | 1, false, _ => by kernel_rfl
 | 2, false, _ => by kernel_rfl
 | 3, false, _ => by kernel_rfl
theorem lkB_V (v : PV) : lkB (lkD v) = true := by
 have g0 := qB v (show (0 : Int) < 4 by omega)
 have g1 := qB (rs v) (show (0 : Int) < 6 by omega)
 have g2 := qB (rs (rs v)) (show (0 : Int) < 6 by omega)
 have g3 := qB (rs (rs (rs v))) (show (0 : Int) < 8 by omega)
 have g4 := qB (rs (rs (rs (rs v)))) (show (0 : Int) < 20 by omega)
 have t3 : Int.toNat 3 = 3 := rfl
 have t4 : Int.toNat 4 = 4 := rfl
 have p := shF_ok (nx v 4).toNat (decide (nx (rs (rs (rs (rs (rs v))))) 3 = 2)) (by omega)
 rw [Int.toNat_of_nonneg g0.1, <- shV_F] at p
 have hlh : lowV v < highV v := by
  have a := mk_negI (n := -1 - nx (rs v) 6) (d := 3) (by omega) (by omega)
  have b := mk_posI (n := 1 + nx (rs (rs v)) 6) (d := 3) (by omega) (by omega)
  unfold lowV highV
  rw [t3]
  grind
 simp only [lkB, kA, kD]
 refine ⟨⟨⟨⟨⟨⟨⟨⟨⟨?_, ?_⟩, ?_⟩, ?_⟩, ?_⟩, ?_⟩, hlh⟩, ?_⟩, ?_⟩, p⟩
 ·exact smQ_mk (by omega) (by omega) (by omega)
 ·exact smQ_mk (by omega) (by omega) (by omega)
 ·exact smQ_mk (by omega) (by omega) (by omega)
 ·exact smQ_mk (by omega) (by omega) (by omega)
 ·exact smQ_mk (by omega) (by omega) (by omega)
 ·exact mk_posI (by omega) (by omega)
 ·exact mk_posI (by omega) (by omega)
 ·exact mk_posI (by omega) (by omega)
theorem armB_V (v : PV) : armB (armD v) = true := by
 have g0 := qB v (show (0 : Int) < 4 by omega)
 have g1 := qB (rs v) (show (0 : Int) < 3 by omega)
 have g2 := qB (rs (rs v)) (show (0 : Int) < 3 by omega)
 have hn : (armD v).n = (1 + nx (rs (rs v)) 3).toNat := rfl
 simp only [armB, kA, kD, List.all_eq_true]
 refine ⟨⟨⟨⟨⟨⟨by kernel_rfl, by kernel_rfl⟩, by kernel_rfl⟩, ?_⟩, by omega⟩, by omega⟩, fun j _ => lkB_V _⟩
 have gt : ∀ i : Nat, ([(0 : Int), 1, -1, 1].getD i 0).natAbs <= 1 := by
  intro i
  match i with
  | 0 => decide
  | 1 => decide
  | 2 => decide
  | 3 => decide
  | i + 4 => show (0 : Int).natAbs <= 1; decide
 have := gt (nx v 4).toNat
 exact smQ_mk (by omega) (by omega) (by omega)
def b106a : Code := (qi (qg f74)).getD 0 .skip
def b106b : Code := (qi (qg f74)).getD 1 .skip
def pol106 : Pol := { live := [(3, [1, 4, 5, 12, 13, 14]), (8, [1, 4, 5, 26, 27, 28])] }
theorem enter106 : Enters prog 74 f74 (qg f74) := ⟨func74, by kernel_rfl, rfl⟩
def st106a (x : Rat) (w : Nat) (bl : List UInt8) (i : Nat) : LS := ⟨[.ptr 0 3 0 0 [], .i .i64 (bv (bl.take i) : Nat), .i .i64 0, .lst 1 (.ints .u8 (bl.map fun c => (c.toNat : Int))), .i .i64 (bl.length : Nat), .i .i64 (i : Nat)], [some ⟨3, .vals [.q x w]⟩]⟩
def st106b (x : Rat) (w : Nat) (a : Int) (bl : List UInt8) (i : Nat) : LS := ⟨[.ptr 0 3 0 0 [], .i .i64 a, .i .i64 (bv (bl.take i) : Nat), .lst 1 (.ints .u8 (bl.map fun c => (c.toNat : Int))), .i .i64 (bl.length : Nat), .i .i64 (i : Nat)], [some ⟨3, .vals [.q x w]⟩]⟩
theorem r106a (x : Rat) (w : Nat) (a b n i : Int) (l : List Int) : qh prog [] [] pol106 f74.ntmps 0 [1, 4, 5, 12, 13, 14] b106a ⟨[.ptr 0 3 0 0 [], .i .i64 a, .i .i64 b, .lst 1 (.ints .u8 l), .i .i64 n, .i .i64 i], [some ⟨3, .vals [.q x w]⟩]⟩ =
 Tr.br (decide (i < n)) (.br (ix (i) ((l.length : Int))) (.br (ib ((256 : Int) * a)) (.br (ib ((256 : Int) * a + IntKind.i64.wrap (l.getD i.toNat (0 : Int)))) (.br (ib (i + 1)) (.ok (.out .normal (LS.mk [.ptr 0 3 0 0 [], .i .i64 ((256 : Int) * a + IntKind.i64.wrap (l.getD i.toNat (0 : Int))), .i .i64 b, .lst 1 (.ints .u8 l), .i .i64 n, .i .i64 (i + 1)] [some (.mk 3 (.vals [.q x w]))]))) (.no 7002)) (.no 6002)) (.no 6005)) (.no 5003)) (.ok (.out (.exit 0) (LS.mk [.ptr 0 3 0 0 [], .i .i64 a, .i .i64 b, .lst 1 (.ints .u8 l), .i .i64 n, .i .i64 i] [some (.mk 3 (.vals [.q x w]))]))) := by kernel_rfl
theorem r106b (x : Rat) (w : Nat) (a b n i : Int) (l : List Int) : qh prog [] [] pol106 f74.ntmps 0 [1, 4, 5, 26, 27, 28] b106b ⟨[.ptr 0 3 0 0 [], .i .i64 a, .i .i64 b, .lst 1 (.ints .u8 l), .i .i64 n, .i .i64 i], [some ⟨3, .vals [.q x w]⟩]⟩ =
 Tr.br (decide (i < n)) (.br (ix (i) ((l.length : Int))) (.br (ib ((256 : Int) * b)) (.br (ib ((256 : Int) * b + IntKind.i64.wrap (l.getD i.toNat (0 : Int)))) (.br (ib (i + 1)) (.ok (.out .normal (LS.mk [.ptr 0 3 0 0 [], .i .i64 a, .i .i64 ((256 : Int) * b + IntKind.i64.wrap (l.getD i.toNat (0 : Int))), .lst 1 (.ints .u8 l), .i .i64 n, .i .i64 (i + 1)] [some (.mk 3 (.vals [.q x w]))]))) (.no 12002)) (.no 11002)) (.no 11005)) (.no 10003)) (.ok (.out (.exit 2) (LS.mk [.ptr 0 3 0 0 [], .i .i64 a, .i .i64 b, .lst 1 (.ints .u8 l), .i .i64 n, .i .i64 i] [some (.mk 3 (.vals [.q x w]))]))) := by kernel_rfl
def bI (l : List Int) : Int := (bv (l.map fun n => UInt8.ofNat n.toNat) : Nat)
theorem bI_map (bl : List UInt8) : bI (bl.map fun c => (c.toNat : Int)) = (bv bl : Nat) := by
 unfold bI
 rw [List.map_map]
 have : (List.map ((fun n : Int => UInt8.ofNat n.toNat) ∘ fun c : UInt8 => (c.toNat : Int)) bl) = bl := by
  rw [List.map_congr_left (g := id) (fun c _ => by simp), List.map_id]
 rw [this]
def F106 (l : List Int) (n i : Int) : Prop := ∃ bl : List UInt8, l = (bl.map fun c => (c.toNat : Int)) /\ n = (bl.length : Nat) /\ i = 0 /\ bl.length <= 2
def l106a : qx := fun ls K => match ls with
 | ⟨[.ptr 0 3 0 0 [], .i .i64 a, .i .i64 b, .lst 1 (.ints .u8 l), .i .i64 n, .i .i64 i], [some ⟨3, .vals [.q x w]⟩]⟩ => .br (qe (F106 l n i /\ a = 0 /\ b = 0)) (K (.exit 0) ⟨[.ptr 0 3 0 0 [], .i .i64 (bI l), .i .i64 b, .lst 1 (.ints .u8 l), .i .i64 n, .i .i64 n], [some ⟨3, .vals [.q x w]⟩]⟩) (.no 1)
 | _ => .no 1
def l106b : qx := fun ls K => match ls with
 | ⟨[.ptr 0 3 0 0 [], .i .i64 a, .i .i64 b, .lst 1 (.ints .u8 l), .i .i64 n, .i .i64 i], [some ⟨3, .vals [.q x w]⟩]⟩ => .br (qe (F106 l n i /\ b = 0)) (K (.exit 2) ⟨[.ptr 0 3 0 0 [], .i .i64 a, .i .i64 (bI l), .lst 1 (.ints .u8 l), .i .i64 n, .i .i64 n], [some ⟨3, .vals [.q x w]⟩]⟩) (.no 1)
 | _ => .no 1
theorem bv2_lt (bl : List UInt8) (i : Nat) (h : bl.length <= 2) : bv (bl.take i) < 65536 := by
 have h1 := bv_lt (bl.take i)
 have h2 : 256 ^ (bl.take i).length <= 256 ^ 2 := Nat.pow_le_pow_right (by omega) (by rw [List.length_take]; omega)
 omega
theorem bv_take_succ (bl : List UInt8) (i : Nat) (h : i < bl.length) : bv (bl.take (i + 1)) = bv (bl.take i) * 256 + (bl.getD i 0).toNat := by
 rw [List.take_add_one, List.getElem?_eq_getElem h, List.getD_eq_getElem?_getD, List.getElem?_eq_getElem h]
 exact bv_snoc _ _
theorem byte_get (bl : List UInt8) (i : Nat) (h : i < bl.length) : IntKind.i64.wrap ((bl.map fun c => (c.toNat : Int)).getD i 0) = ((bl.getD i 0).toNat : Int) := by
 rw [List.getD_eq_getElem?_getD, List.getD_eq_getElem?_getD, List.getElem?_map, List.getElem?_eq_getElem h]
 have := UInt8.toNat_lt (bl[i])
 show IntKind.i64.wrap ((bl[i].toNat : Nat) : Int) = ((bl[i].toNat : Nat) : Int)
 exact wi64 (by omega) (by omega)
include hG in
theorem loop106a : qw prog G f74.ntmps 0 [1, 4, 5, 12, 13, 14] b106a l106a := by
 intro ls K y hm h
 unfold l106a at h
 split at h
 case h_2 => cases h
 rename_i a b l n i x w
 obtain ⟨hc, hr⟩ := k8 h
 obtain ⟨⟨bl, rfl, rfl, rfl, hl⟩, rfl, rfl⟩ := decP_iff.1 hc
 have hg := Goes.count (R := Rnd prog G f74.ntmps 0 [1, 4, 5, 12, 13, 14] b106a) (fun i => st106a x w bl i) (e := .exit 0) (ls' := st106a x w bl bl.length) (by simp) bl.length 0
  (fun i _ hi => qb hG .nil mix (L := []) (pol := pol106) (O := []) (k9 (by kernel_rfl)) (Nat.zero_le _) (by
   have hi' : i < bl.length := by omega
   have b1 := bv2_lt bl i hl
   have b2 := bv2_lt bl (i + 1) hl
   have b3 := bv_take_succ bl i hi'
   have b4 := byte_get bl i hi'
   unfold st106a
   rw [r106a, Int.toNat_natCast, b4, k5 (kE (by omega)), k5 (by simp only [kA, kD, List.length_map]; omega), k5 (by simp only [kA, kD]; omega), k5 (by simp only [kA, kD]; omega), k5 (by simp only [kA, kD]; omega), k7]
   have e1 : 256 * ((bv (bl.take i) : Nat) : Int) + ((bl.getD i 0).toNat : Int) = ((bv (bl.take (i + 1)) : Nat) : Int) := by omega
   rw [e1]
   rfl))
  (by
   refine qb hG .nil mix (L := []) (pol := pol106) (O := []) (k9 (by kernel_rfl)) (Nat.zero_le _) ?_
   unfold st106a
   rw [Nat.zero_add, r106a, k6 (kF (by omega)), k7])
 refine ⟨_, _, qt hg, ?_⟩
 unfold st106a
 rw [List.take_length, <- bI_map]
 exact hr
include hG in
theorem loop106b : qw prog G f74.ntmps 0 [1, 4, 5, 26, 27, 28] b106b l106b := by
 intro ls K y hm h
 unfold l106b at h
 split at h
 case h_2 => cases h
 rename_i a b l n i x w
 obtain ⟨hc, hr⟩ := k8 h
 obtain ⟨⟨bl, rfl, rfl, rfl, hl⟩, rfl⟩ := decP_iff.1 hc
 have hg := Goes.count (R := Rnd prog G f74.ntmps 0 [1, 4, 5, 26, 27, 28] b106b) (fun i => st106b x w a bl i) (e := .exit 2) (ls' := st106b x w a bl bl.length) (by simp) bl.length 0
  (fun i _ hi => qb hG .nil mix (L := []) (pol := pol106) (O := []) (k9 (by kernel_rfl)) (Nat.zero_le _) (by
   have hi' : i < bl.length := by omega
   have b1 := bv2_lt bl i hl
   have b2 := bv2_lt bl (i + 1) hl
   have b3 := bv_take_succ bl i hi'
   have b4 := byte_get bl i hi'
   unfold st106b
   rw [r106b, Int.toNat_natCast, b4, k5 (kE (by omega)), k5 (by simp only [kA, kD, List.length_map]; omega), k5 (by simp only [kA, kD]; omega), k5 (by simp only [kA, kD]; omega), k5 (by simp only [kA, kD]; omega), k7]
   have e1 : 256 * ((bv (bl.take i) : Nat) : Int) + ((bl.getD i 0).toNat : Int) = ((bv (bl.take (i + 1)) : Nat) : Int) := by omega
   rw [e1]
   rfl))
  (by
   refine qb hG .nil mix (L := []) (pol := pol106) (O := []) (k9 (by kernel_rfl)) (Nat.zero_le _) ?_
   unfold st106b
   rw [Nat.zero_add, r106b, k6 (kF (by omega)), k7])
 refine ⟨_, _, qt hg, ?_⟩
 unfold st106b
 rw [List.take_length, <- bI_map]
 exact hr
theorem e106 (x : Rat) (w : Nat) : evF prog [] [(3, l106a), (8, l106b)] pol106 f74 [.q x w] [] qm =
 Tr.br (qe (F106 (List.map (fun (c : UInt8) => (c.toNat : Int)) (qa x.num.natAbs x.num.natAbs []).toArray.toList) (↑(List.map (fun (c : UInt8) => (c.toNat : Int)) (qa x.num.natAbs x.num.natAbs []).toArray.toList).length : Int) (0 : Int) /\ (0 : Int) = 0 /\ (0 : Int) = 0)) (.br (qe (F106 (List.map (fun (c : UInt8) => (c.toNat : Int)) (qa x.den x.den []).toArray.toList) (↑(List.map (fun (c : UInt8) => (c.toNat : Int)) (qa x.den x.den []).toArray.toList).length : Int) (0 : Int) /\ (0 : Int) = 0)) (.br (qn x) (.br (ib ((0 : Int) - bI (List.map (fun (c : UInt8) => (c.toNat : Int)) (qa x.num.natAbs x.num.natAbs []).toArray.toList))) (.ok (.ret (.tup [.i .i64 ((0 : Int) - bI (List.map (fun (c : UInt8) => (c.toNat : Int)) (qa x.num.natAbs x.num.natAbs []).toArray.toList)), .i .i64 (if (1 : Int) > bI (List.map (fun (c : UInt8) => (c.toNat : Int)) (qa x.den x.den []).toArray.toList) then (1 : Int) else bI (List.map (fun (c : UInt8) => (c.toNat : Int)) (qa x.den x.den []).toArray.toList))]) [])) (.no 14002)) (.ok (.ret (.tup [.i .i64 (bI (List.map (fun (c : UInt8) => (c.toNat : Int)) (qa x.num.natAbs x.num.natAbs []).toArray.toList)), .i .i64 (if (1 : Int) > bI (List.map (fun (c : UInt8) => (c.toNat : Int)) (qa x.den x.den []).toArray.toList) then (1 : Int) else bI (List.map (fun (c : UInt8) => (c.toNat : Int)) (qa x.den x.den []).toArray.toList))]) []))) (.no 1)) (.no 1) := by kernel_rfl
def smX (x : Rat) : Bool := decide (x.num.natAbs < 1000) && decide (x.den < 1000)
def s106 : Spec := fun args hs K => match args, hs with
 | [.q x _], [] => .br (smX x) (K (.tup [.i .i64 x.num, .i .i64 x.den]) []) (.no 1)
 | _, _ => .no 1


theorem bI_nbl (n : Nat) : bI (List.map (fun (c : UInt8) => (c.toNat : Int)) (qa n n []).toArray.toList) = (n : Int) := by
 rw [show (qa n n []).toArray.toList = nbl n from rfl, bI_map, bv_nbl]
theorem F106_nbl {n : Nat} (h : n < 65536) : F106 (List.map (fun (c : UInt8) => (c.toNat : Int)) (qa n n []).toArray.toList) ((List.map (fun (c : UInt8) => (c.toNat : Int)) (qa n n []).toArray.toList).length : Nat) 0 := by
 rw [show (qa n n []).toArray.toList = nbl n from rfl]
 exact ⟨nbl n, rfl, by rw [List.length_map], rfl, nbl_length_le (k := 2) (by omega)⟩
include hG in
theorem ok106 : qc prog G 74 s106 := by
 refine qo hG .nil mix enter106 (L := [(3, l106a), (8, l106b)]) (pol := pol106) fun args hs K x h => ?_
 unfold s106 at h
 split at h
 case h_2 => cases h
 rename_i x w
 obtain ⟨hc, hr⟩ := k8 h
 simp only [smX, kA, kD] at hc
 refine ⟨lps2 (b1 := b106a) (live1 := [1, 4, 5, 12, 13, 14]) (sp1 := l106a) (b2 := b106b) (live2 := [1, 4, 5, 26, 27, 28]) (sp2 := l106b) (m := 0) (by kernel_rfl) (by kernel_rfl) (by kernel_rfl) (by kernel_rfl) (by kernel_rfl) (loop106a hG) (loop106b hG), ?_⟩
 have hd := x.den_pos
 rw [e106, bI_nbl, bI_nbl, k5 (decP_iff.2 ⟨F106_nbl (by omega), rfl, rfl⟩), k5 (decP_iff.2 ⟨F106_nbl (by omega), rfl⟩)]
 have e2 : (if (1 : Int) > (x.den : Int) then (1 : Int) else (x.den : Int)) = (x.den : Int) := if_neg (by omega)
 rw [e2]
 cases hn : qn x with
 | true =>
  have hneg : x.num < 0 := of_decide_eq_true hn
  rw [k5 rfl, k5 (by simp only [kA, kD]; omega), k7, show (0 : Int) - (x.num.natAbs : Int) = x.num by omega]
  exact ⟨_, _, _, rfl, .refl _, hr⟩
 | false =>
  have hneg : ¬ x.num < 0 := of_decide_eq_false hn
  rw [k6 rfl, k7, show (x.num.natAbs : Int) = x.num by omega]
  exact ⟨_, _, _, rfl, .refl _, hr⟩
def b69 : Code := (qi (qg f39)).getD 0 .skip
def pol69 : Pol := { live := [(3, [1, 5, 14, 15, 16])], wr := [(54, [0])] }
theorem enter69 : Enters prog 39 f39 (qg f39) := ⟨func39, by kernel_rfl, rfl⟩
def O69 : Orc := [(54, s45), (66, s81), (74, s106)]
def n69 (v : PV) (n : Nat) (lk : Nat -> Lk) (i : Int) : LS := ⟨[.ptr 0 1 0 0 [], .nil, .lst 16 (.fn n (fun j => lkPV (lk j))), .i .i64 n, .i .i64 i], [some ⟨1, .vals [.agg [.w v]]⟩]⟩
def x69 (v : PV) (n : Nat) (lk : Nat -> Lk) (xs : List Rat) (i : Int) : LS := ⟨[.ptr 0 1 0 0 [], .sl 1 3 0 xs.length, .lst 16 (.fn n (fun j => lkPV (lk j))), .i .i64 n, .i .i64 i], [some ⟨1, .vals [.agg [.w v]]⟩, some ⟨3, .rats 64 xs⟩]⟩
theorem r69n (v : PV) (n : Nat) (lk : Nat -> Lk) (i : Int) : qh prog O69 [] pol69 f39.ntmps 1 [1, 5, 14, 15, 16] b69 (n69 v n lk i) =
 Tr.br (decide (i < (n : Int))) (.br (ix (i) ((n : Int))) (.br (smX (lk i.toNat).low) (.br (smX (lk i.toNat).high) (.br (okW v && decide ((0 : Int) < 9) && decide ((9 : Int) <= 4294967296)) (.br (ib ((8 : Int) * (lk i.toNat).low.num)) (.br (ib ((8 : Int) * (lk i.toNat).low.num * (↑(lk i.toNat).high.den : Int))) (.br (ib ((lk i.toNat).high.num * (↑(lk i.toNat).low.den : Int))) (.br (ib ((lk i.toNat).low.num * (↑(lk i.toNat).high.den : Int))) (.br (ib ((lk i.toNat).high.num * (↑(lk i.toNat).low.den : Int) - (lk i.toNat).low.num * (↑(lk i.toNat).high.den : Int))) (.br (ib (((lk i.toNat).high.num * (↑(lk i.toNat).low.den : Int) - (lk i.toNat).low.num * (↑(lk i.toNat).high.den : Int)) * nx v (9 : Int))) (.br (ib ((8 : Int) * (lk i.toNat).low.num * (↑(lk i.toNat).high.den : Int) + ((lk i.toNat).high.num * (↑(lk i.toNat).low.den : Int) - (lk i.toNat).low.num * (↑(lk i.toNat).high.den : Int)) * nx v (9 : Int))) (.br (ib ((8 : Int) * (↑(lk i.toNat).low.den : Int))) (.br (ib ((8 : Int) * (↑(lk i.toNat).low.den : Int) * (↑(lk i.toNat).high.den : Int))) (.br (decide ((0 : Int) < 8 * (↑(lk i.toNat).low.den : Int) * (↑(lk i.toNat).high.den : Int)) && decide ((8 : Int) * (↑(lk i.toNat).low.den : Int) * (↑(lk i.toNat).high.den : Int) < 4611686018427387904) && decide ((-4611686018427387904 : Int) < 8 * (lk i.toNat).low.num * (↑(lk i.toNat).high.den : Int) + ((lk i.toNat).high.num * (↑(lk i.toNat).low.den : Int) - (lk i.toNat).low.num * (↑(lk i.toNat).high.den : Int)) * nx v (9 : Int)) && decide ((8 : Int) * (lk i.toNat).low.num * (↑(lk i.toNat).high.den : Int) + ((lk i.toNat).high.num * (↑(lk i.toNat).low.den : Int) - (lk i.toNat).low.num * (↑(lk i.toNat).high.den : Int)) * nx v (9 : Int) < 4611686018427387904)) (.br (Nat.blt (0 : Nat) [mkRat ((8 : Int) * (lk i.toNat).low.num * (↑(lk i.toNat).high.den : Int) + ((lk i.toNat).high.num * (↑(lk i.toNat).low.den : Int) - (lk i.toNat).low.num * (↑(lk i.toNat).high.den : Int)) * nx v (9 : Int)) ((8 : Int) * (↑(lk i.toNat).low.den : Int) * (↑(lk i.toNat).high.den : Int)).toNat].length && [mkRat ((8 : Int) * (lk i.toNat).low.num * (↑(lk i.toNat).high.den : Int) + ((lk i.toNat).high.num * (↑(lk i.toNat).low.den : Int) - (lk i.toNat).low.num * (↑(lk i.toNat).high.den : Int)) * nx v (9 : Int)) ((8 : Int) * (↑(lk i.toNat).low.den : Int) * (↑(lk i.toNat).high.den : Int)).toNat].length.ble 4294967296) (.br (ib (i + 1)) (.ok (.out .normal { t := [.ptr 0 1 0 0 [], .sl 1 3 0 1, .lst 16 (.fn n fun (j : Nat) => .agg [.q (lk j).len 64, .q (lk j).low 64, .q (lk j).high 64, .q (lk j).spd 64, .q (lk j).brk 64, .lst 6 (.fn (lk j).np fun (a : Nat) => .agg [.q ((lk j).px a) 64, .q ((lk j).py a) 64])]), .i .i64 (n : Int), .i .i64 (i + 1)], h := [some { e := 1, c := Cont.vals [.agg [(rs v).w]] }, some { e := 3, c := Cont.rats 64 [mkRat ((8 : Int) * (lk i.toNat).low.num * (↑(lk i.toNat).high.den : Int) + ((lk i.toNat).high.num * (↑(lk i.toNat).low.den : Int) - (lk i.toNat).low.num * (↑(lk i.toNat).high.den : Int)) * nx v (9 : Int)) ((8 : Int) * (↑(lk i.toNat).low.den : Int) * (↑(lk i.toNat).high.den : Int)).toNat] }] })) (.no 10002)) (.no 9002)) (.no 1)) (.no 9005)) (.no 9007)) (.no 9009)) (.no 9010)) (.no 9012)) (.no 9013)) (.no 9016)) (.no 9019)) (.no 9021)) (.no 1)) (.no 1)) (.no 1)) (.no 5004)) (.ok (.out (.exit 0) { t := [.ptr 0 1 0 0 [], .nil, .lst 16 (.fn n fun (j : Nat) => .agg [.q (lk j).len 64, .q (lk j).low 64, .q (lk j).high 64, .q (lk j).spd 64, .q (lk j).brk 64, .lst 6 (.fn (lk j).np fun (a : Nat) => .agg [.q ((lk j).px a) 64, .q ((lk j).py a) 64])]), .i .i64 (n : Int), .i .i64 i], h := [some { e := 1, c := Cont.vals [.agg [v.w]] }] })) := by kernel_rfl
theorem r69 (v : PV) (n : Nat) (lk : Nat -> Lk) (xs : List Rat) (i : Int) : qh prog O69 [] pol69 f39.ntmps 1 [1, 5, 14, 15, 16] b69 (x69 v n lk xs i) =
 Tr.br (decide (i < (n : Int))) (.br (ix (i) ((n : Int))) (.br (smX (lk i.toNat).low) (.br (smX (lk i.toNat).high) (.br (okW v && decide ((0 : Int) < 9) && decide ((9 : Int) <= 4294967296)) (.br (ib ((8 : Int) * (lk i.toNat).low.num)) (.br (ib ((8 : Int) * (lk i.toNat).low.num * (↑(lk i.toNat).high.den : Int))) (.br (ib ((lk i.toNat).high.num * (↑(lk i.toNat).low.den : Int))) (.br (ib ((lk i.toNat).low.num * (↑(lk i.toNat).high.den : Int))) (.br (ib ((lk i.toNat).high.num * (↑(lk i.toNat).low.den : Int) - (lk i.toNat).low.num * (↑(lk i.toNat).high.den : Int))) (.br (ib (((lk i.toNat).high.num * (↑(lk i.toNat).low.den : Int) - (lk i.toNat).low.num * (↑(lk i.toNat).high.den : Int)) * nx v (9 : Int))) (.br (ib ((8 : Int) * (lk i.toNat).low.num * (↑(lk i.toNat).high.den : Int) + ((lk i.toNat).high.num * (↑(lk i.toNat).low.den : Int) - (lk i.toNat).low.num * (↑(lk i.toNat).high.den : Int)) * nx v (9 : Int))) (.br (ib ((8 : Int) * (↑(lk i.toNat).low.den : Int))) (.br (ib ((8 : Int) * (↑(lk i.toNat).low.den : Int) * (↑(lk i.toNat).high.den : Int))) (.br (decide ((0 : Int) < 8 * (↑(lk i.toNat).low.den : Int) * (↑(lk i.toNat).high.den : Int)) && decide ((8 : Int) * (↑(lk i.toNat).low.den : Int) * (↑(lk i.toNat).high.den : Int) < 4611686018427387904) && decide ((-4611686018427387904 : Int) < 8 * (lk i.toNat).low.num * (↑(lk i.toNat).high.den : Int) + ((lk i.toNat).high.num * (↑(lk i.toNat).low.den : Int) - (lk i.toNat).low.num * (↑(lk i.toNat).high.den : Int)) * nx v (9 : Int)) && decide ((8 : Int) * (lk i.toNat).low.num * (↑(lk i.toNat).high.den : Int) + ((lk i.toNat).high.num * (↑(lk i.toNat).low.den : Int) - (lk i.toNat).low.num * (↑(lk i.toNat).high.den : Int)) * nx v (9 : Int) < 4611686018427387904)) (.br (xs.length.ble xs.length && (xs.length + [mkRat ((8 : Int) * (lk i.toNat).low.num * (↑(lk i.toNat).high.den : Int) + ((lk i.toNat).high.num * (↑(lk i.toNat).low.den : Int) - (lk i.toNat).low.num * (↑(lk i.toNat).high.den : Int)) * nx v (9 : Int)) ((8 : Int) * (↑(lk i.toNat).low.den : Int) * (↑(lk i.toNat).high.den : Int)).toNat].length).ble 4294967296) (.br (ib (i + 1)) (.ok (.out .normal { t := [.ptr 0 1 0 0 [], .sl 1 3 0 (xs.length + [mkRat ((8 : Int) * (lk i.toNat).low.num * (↑(lk i.toNat).high.den : Int) + ((lk i.toNat).high.num * (↑(lk i.toNat).low.den : Int) - (lk i.toNat).low.num * (↑(lk i.toNat).high.den : Int)) * nx v (9 : Int)) ((8 : Int) * (↑(lk i.toNat).low.den : Int) * (↑(lk i.toNat).high.den : Int)).toNat].length), .lst 16 (.fn n fun (j : Nat) => .agg [.q (lk j).len 64, .q (lk j).low 64, .q (lk j).high 64, .q (lk j).spd 64, .q (lk j).brk 64, .lst 6 (.fn (lk j).np fun (a : Nat) => .agg [.q ((lk j).px a) 64, .q ((lk j).py a) 64])]), .i .i64 (n : Int), .i .i64 (i + 1)], h := [some { e := 1, c := Cont.vals [.agg [(rs v).w]] }, some { e := 3, c := Cont.rats 64 (List.take xs.length (List.drop (0 : Nat) xs) ++ [mkRat ((8 : Int) * (lk i.toNat).low.num * (↑(lk i.toNat).high.den : Int) + ((lk i.toNat).high.num * (↑(lk i.toNat).low.den : Int) - (lk i.toNat).low.num * (↑(lk i.toNat).high.den : Int)) * nx v (9 : Int)) ((8 : Int) * (↑(lk i.toNat).low.den : Int) * (↑(lk i.toNat).high.den : Int)).toNat]) }] })) (.no 10002)) (.no 9002)) (.no 1)) (.no 9005)) (.no 9007)) (.no 9009)) (.no 9010)) (.no 9012)) (.no 9013)) (.no 9016)) (.no 9019)) (.no 9021)) (.no 1)) (.no 1)) (.no 1)) (.no 5004)) (.ok (.out (.exit 0) { t := [.ptr 0 1 0 0 [], .sl 1 3 0 xs.length, .lst 16 (.fn n fun (j : Nat) => .agg [.q (lk j).len 64, .q (lk j).low 64, .q (lk j).high 64, .q (lk j).spd 64, .q (lk j).brk 64, .lst 6 (.fn (lk j).np fun (a : Nat) => .agg [.q ((lk j).px a) 64, .q ((lk j).py a) 64])]), .i .i64 (n : Int), .i .i64 i], h := [some { e := 1, c := Cont.vals [.agg [v.w]] }, some { e := 3, c := Cont.rats 64 xs }] })) := by kernel_rfl

def itRs : Nat -> PV -> PV
 | 0, v => v
 | k + 1, v => rs (itRs k v)
theorem okW_itRs {v : PV} (h : okW v = true) : ∀ k, okW (itRs k v) = true
 | 0 => h
 | k + 1 => okW_rs (okW_itRs h k)
def cf0 (l h : Rat) (k : Int) : Rat := mkRat ((8 : Int) * l.num * (h.den : Int) + (h.num * (l.den : Int) - l.num * (h.den : Int)) * k) ((8 : Int) * (l.den : Int) * (h.den : Int)).toNat
def cf1 (lk : Nat -> Lk) (v : PV) (j : Nat) : Rat := cf0 (lk j).low (lk j).high (nx (itRs j v) 9)
def cfL (lk : Nat -> Lk) (v : PV) (n : Nat) : List Rat := (List.range n).map (cf1 lk v)
theorem cfL_succ (lk : Nat -> Lk) (v : PV) (n : Nat) : cfL lk v (n + 1) = cfL lk v n ++ [cf1 lk v n] := by simp [cfL, List.range_succ]
theorem cfL_len (lk : Nat -> Lk) (v : PV) (n : Nat) : (cfL lk v n).length = n := by simp [cfL]
theorem nabs_mul {a b : Int} {A B : Nat} (ha : a.natAbs <= A) (hb : b.natAbs <= B) : (a * b).natAbs <= A * B := by
 rw [Int.natAbs_mul]; exact Nat.mul_le_mul ha hb
theorem smX_iff {x : Rat} : smX x = true ↔ x.num.natAbs < 1000 /\ x.den < 1000 := by simp [smX]
def st69 (v : PV) (n : Nat) (lk : Nat -> Lk) (xs : List Rat) (i : Int) : LS := match xs with
 | [] => n69 v n lk i
 | xs => x69 v n lk xs i
theorem st69_x {v : PV} {n : Nat} {lk : Nat -> Lk} {xs : List Rat} {i : Int} (h : xs ≠ []) : st69 v n lk xs i = x69 v n lk xs i := by
 cases xs with
 | nil => exact absurd rfl h
 | cons x xs => rfl
include hG in
theorem orc69 : OrcOK prog G O69 := .cons (ok45 hG) (.cons (ok81 hG) (.cons (ok106 hG) .nil))
theorem step69 (v : PV) (hw : okW v = true) (n : Nat) (lk : Nat -> Lk) (xs : List Rat) (j : Nat) (hn : n <= 3) (hj : j < n) (hx : xs.length <= 1000) (h1 : smX (lk j).low = true) (h2 : smX (lk j).high = true) :
  (qh prog O69 [] pol69 f39.ntmps 1 [1, 5, 14, 15, 16] b69 (st69 v n lk xs ((j : Nat) : Int))).run = some (.out .normal (st69 (rs v) n lk (xs ++ [cf0 (lk j).low (lk j).high (nx v 9)]) ((j + 1 : Nat) : Int))) := by
 obtain ⟨a1, a2⟩ := smX_iff.1 h1
 obtain ⟨a3, a4⟩ := smX_iff.1 h2
 have d1 := (lk j).low.den_pos
 have d2 := (lk j).high.den_pos
 have g := qB v (show (0 : Int) < 9 by omega)
 have b1 : ((8 : Int) * (lk j).low.num * ((lk j).high.den : Int)).natAbs <= 8 * 1000 * 1000 := nabs_mul (nabs_mul (by omega) (by omega)) (by omega)
 have b2 : ((lk j).high.num * ((lk j).low.den : Int)).natAbs <= 1000 * 1000 := nabs_mul (by omega) (by omega)
 have b3 : ((lk j).low.num * ((lk j).high.den : Int)).natAbs <= 1000 * 1000 := nabs_mul (by omega) (by omega)
 have b4 : (((lk j).high.num * ((lk j).low.den : Int) - (lk j).low.num * ((lk j).high.den : Int)) * nx v 9).natAbs <= 2000000 * 9 := nabs_mul (by omega) (by omega)
 have b5 : ((8 : Int) * ((lk j).low.den : Int) * ((lk j).high.den : Int)).natAbs <= 8 * 1000 * 1000 := nabs_mul (nabs_mul (by omega) (by omega)) (by omega)
 have b6 : 0 < (8 : Int) * ((lk j).low.den : Int) * ((lk j).high.den : Int) := Int.mul_pos (by omega) (by omega)
 rw [st69_x (xs := xs ++ [cf0 (lk j).low (lk j).high (nx v 9)]) (by simp)]
 cases xs with
 | nil =>
  show (qh prog O69 [] pol69 f39.ntmps 1 [1, 5, 14, 15, 16] b69 (n69 v n lk ((j : Nat) : Int))).run = _
  rw [r69n, Int.toNat_natCast, k5 (kE (by omega)), k5 (by simp only [kA, kD]; omega), k5 h1, k5 h2, k5 (by rw [hw]; decide)]
  repeat rw [k5 (by simp only [kA, kD, Nat.blt_eq, kG, kH, kI]; omega)]
  rw [k7]
  rfl
 | cons y ys =>
  show (qh prog O69 [] pol69 f39.ntmps 1 [1, 5, 14, 15, 16] b69 (x69 v n lk (y :: ys) ((j : Nat) : Int))).run = _
  rw [r69, Int.toNat_natCast, k5 (kE (by omega)), k5 (by simp only [kA, kD]; omega), k5 h1, k5 h2, k5 (by rw [hw]; decide)]
  simp only [kH] at hx
  repeat rw [k5 (by simp only [kA, kD, Nat.blt_eq, kG, kH, kI]; omega)]
  rw [k7, List.drop_zero, List.take_length]
  have hlen : ((y :: ys) ++ [cf0 (lk j).low (lk j).high (nx v 9)]).length = (y :: ys).length + 1 := by simp
  unfold x69
  rw [hlen]
  rfl
def Pl69 (v : PV) (n : Nat) (f : Nat -> PV) (m i : Int) : Prop := ∃ lk : Nat -> Lk, f = (fun j => lkPV (lk j)) /\ m = n /\ i = 0 /\ 1 <= n /\ n <= 3 /\ okW v = true /\ ∀ j, j < n -> smX (lk j).low = true /\ smX (lk j).high = true
def cfF (f : Nat -> PV) (v : PV) (n : Nat) : List Rat := cfL (fun j => dLk (f j)) v n
def l69 : qx := fun ls K => match ls with
 | ⟨[.ptr 0 1 0 0 [], .nil, .lst 16 (.fn n f), .i .i64 m, .i .i64 i], [some ⟨1, .vals [.agg [.w v]]⟩]⟩ => .br (qe (Pl69 v n f m i)) (K (.exit 0) ⟨[.ptr 0 1 0 0 [], .sl 1 3 0 (cfF f v n).length, .lst 16 (.fn n f), .i .i64 m, .i .i64 m], [some ⟨1, .vals [.agg [.w (itRs n v)]]⟩, some ⟨3, .rats 64 (cfF f v n)⟩]⟩) (.no 1)
 | _ => .no 1
include hG in
theorem loop69 : qw prog G f39.ntmps 1 [1, 5, 14, 15, 16] b69 l69 := by
 intro ls K y hm h
 unfold l69 at h
 split at h
 case h_2 => cases h
 rename_i n f m i v
 obtain ⟨hc, hr⟩ := k8 h
 obtain ⟨lk, rfl, rfl, rfl, hn1, hn, hw, hp⟩ := decP_iff.1 hc
 have hg := Goes.count (R := Rnd prog G f39.ntmps 1 [1, 5, 14, 15, 16] b69) (fun i => st69 (itRs i v) n lk (cfL lk v i) ((i : Nat) : Int)) (e := .exit 0) (ls' := st69 (itRs n v) n lk (cfL lk v n) n) (by simp) n 0
  (fun i _ hi => qb hG (orc69 hG) mix (L := []) (pol := pol69) (O := O69) (k9 (by kernel_rfl)) (by cases cfL lk v i <;> simp [st69, n69, x69]) (by
   rw [cfL_succ]
   exact step69 (itRs i v) (okW_itRs hw i) n lk _ i hn (by omega) (by rw [cfL_len]; omega) (hp i (by omega)).1 (hp i (by omega)).2))
  (by
   refine qb hG (orc69 hG) mix (L := []) (pol := pol69) (O := O69) (k9 (by kernel_rfl)) (by cases cfL lk v (0 + n) <;> simp [st69, n69, x69]) ?_
   rw [Nat.zero_add]
   cases hc : cfL lk v n with
   | nil =>
    show (qh prog O69 [] pol69 f39.ntmps 1 [1, 5, 14, 15, 16] b69 (n69 (itRs n v) n lk ((n : Nat) : Int))).run = _
    rw [r69n, k6 (kF (by omega)), k7]; rfl
   | cons y ys =>
    show (qh prog O69 [] pol69 f39.ntmps 1 [1, 5, 14, 15, 16] b69 (x69 (itRs n v) n lk (y :: ys) ((n : Nat) : Int))).run = _
    rw [r69, k6 (kF (by omega)), k7]; rfl)
 refine ⟨_, _, qt hg, ?_⟩
 rw [st69_x (by intro h0; have := cfL_len lk v n; rw [h0] at this; simp at this; omega)]
 exact hr
theorem e69 (A : Am) (v : PV) : evF prog O69 [(3, l69)] pol69 f39 [qz A, .ptr 0 1 0 0 []] [⟨1, .vals [.agg [.w v]]⟩] qm =
 Tr.br (qe (Pl69 v A.n (fun (j : Nat) => lkPV (A.lk j)) (A.n : Int) (0 : Int))) (.br ((cfF (fun (j : Nat) => lkPV (A.lk j)) v A.n).length.ble (cfF (fun (j : Nat) => lkPV (A.lk j)) v A.n).length) (.ok (.ret (.fr 3 (.rats 64 (List.take (cfF (fun (j : Nat) => lkPV (A.lk j)) v A.n).length (List.drop (0 : Nat) (cfF (fun (j : Nat) => lkPV (A.lk j)) v A.n))))) [{ e := 1, c := Cont.vals [.agg [(itRs A.n v).w]] }])) (.no 15)) (.no 1) := by kernel_rfl
def limX (A : Am) : Bool := (List.range A.n).all fun j => smX (A.lk j).low && smX (A.lk j).high
def P69 (arm v : PV) : Prop := okA arm /\ limX (dArm arm) = true /\ okW v = true
def s69 : Spec := fun args hs K => match args, hs with
 | [.agg [.s nm, .agg [.agg [.q bx w1, .q by_ w2], .agg [hf, .q t w3]], .lst 16 c], .ptr 0 1 0 0 []], [⟨1, .vals [.agg [.w v]]⟩] =>
  .br (qe (P69 (.agg [.s nm, .agg [.agg [.q bx w1, .q by_ w2], .agg [hf, .q t w3]], .lst 16 c]) v)) (K (.fr 3 (.rats 64 (cfF c.get v c.len))) [⟨1, .vals [.agg [.w (itRs c.len v)]]⟩]) (.no 1)
 | _, _ => .no 1
include hG in
theorem ok69 : qc prog G 39 s69 := by
 intro args hs K x h
 unfold s69 at h
 split at h
 case h_2 => cases h
 rename_i nm bx w1 by_ w2 hf t w3 c v
 obtain ⟨hc, hr⟩ := k8 h
 obtain ⟨⟨hv, hA⟩, hx, hw⟩ := decP_iff.1 hc
 generalize hA' : dArm (.agg [.s nm, .agg [.agg [.q bx w1, .q by_ w2], .agg [hf, .q t w3]], .lst 16 c]) = A at *
 have ek : cfF c.get v c.len = cfF (fun j => lkPV (A.lk j)) v A.n := by rw [<- hA']; rfl
 have en : c.len = A.n := by rw [<- hA']; rfl
 obtain ⟨h1, h2, h3, h4, h5, h6, h7⟩ := armB_c hA
 have hlim : ∀ j, j < A.n -> smX (A.lk j).low = true /\ smX (A.lk j).high = true := by
  intro j hj
  have := List.all_eq_true.1 hx j (List.mem_range.2 hj)
  rwa [kA] at this
 rw [ek, en] at hr
 refine ⟨_, _, PC.args (.cons hv (.refl _)) (qk hG (orc69 hG) mix enter69 (L := [(3, l69)]) (pol := pol69) (O := O69) (lps1 (b := b69) (live := [1, 5, 14, 15, 16]) (sp := l69) (m := 1) (by kernel_rfl) (by kernel_rfl) (by kernel_rfl) (loop69 hG)) ?_), hr⟩
 rw [e69, k5 (decP_iff.2 ⟨A.lk, rfl, rfl, rfl, h5, h6, hw, hlim⟩), k5 (by rw [kG]; omega), k7, List.drop_zero, List.take_length]
def pol33 : Pol := { wr := [(39, [1])], own := [9] }
theorem enter33 : Enters prog 10 f10 (qg f10) := ⟨func10, by kernel_rfl, rfl⟩
def s33 : Spec := fun args hs K => match args, hs with
 | [.agg [.s nm, .agg [.agg [.q bx w1, .q by_ w2], .agg [.bl hf, .q t w3]], .lst 16 c], .w v], [] =>
  .br (qe (P69 (.agg [.s nm, .agg [.agg [.q bx w1, .q by_ w2], .agg [.bl hf, .q t w3]], .lst 16 c]) v)) (K (.fr 3 (.rats 64 (cfF c.get v c.len))) []) (.no 1)
 | _, _ => .no 1
theorem e33 (nm : ByteArray) (bx by_ t : Rat) (w1 w2 w3 : Nat) (hf : Bool) (c : Cont) (v : PV) : evF prog [(39, s69)] [] pol33 f10 [.agg [.s nm, .agg [.agg [.q bx w1, .q by_ w2], .agg [.bl hf, .q t w3]], .lst 16 c], .w v] [] qm =
 Tr.br (qe (P69 (.agg [.s nm, .agg [.agg [.q bx w1, .q by_ w2], .agg [.bl hf, .q t w3]], .lst 16 c]) v)) (.br ((cfF c.get v (match c with | Cont.ints k xs => xs.length | Cont.rats n xs => xs.length | Cont.vals vs => vs.length | Cont.fn n f => n)).length.ble (cfF c.get v (match c with | Cont.ints k xs => xs.length | Cont.rats n xs => xs.length | Cont.vals vs => vs.length | Cont.fn n f => n)).length) (.ok (.ret (.fr 3 (.rats 64 (List.take (Cont.rats (64 : Nat) (cfF c.get v c.len)).len (List.drop (0 : Nat) (cfF c.get v c.len))))) [])) (.no 15)) (.no 1) := by kernel_rfl
include hG in
theorem ok33 : qc prog G 10 s33 := by
 refine qo hG (.cons (ok69 hG) .nil) mix enter33 (L := []) (pol := pol33) fun args hs K x h => ?_
 unfold s33 at h
 split at h
 case h_2 => cases h
 rename_i nm bx w1 by_ w2 hf t w3 c v
 obtain ⟨hc, hr⟩ := k8 h
 refine ⟨k9 (by kernel_rfl), _, _, _, ?_, .refl _, hr⟩
 rw [e33, k5 hc, k5 (by rw [kG]; exact Nat.le_refl _), k7, List.drop_zero]
 show some (Res.ret (.fr 3 (.rats 64 (List.take (cfF c.get v c.len).length (cfF c.get v c.len)))) []) = _
 rw [List.take_length]
theorem enter84 : Enters prog 31 f31 (qg f31) := ⟨func31, by kernel_rfl, rfl⟩
def s84 : Spec := evF prog [(30, s23)] [] {} f31
include hG in
theorem ok84 : qc prog G 31 s84 := spec_ev hG (.cons (ok23 hG) .nil) mix enter84 (fun _ => k9 (by kernel_rfl))
def b32 : Code := (qi (qg f29)).getD 0 .skip
def pol32 : Pol := { live := [(3, [2, 3, 11, 12, 13])] }
def O32 : Orc := [(30, s23), (31, s84)]
theorem enter32 : Enters prog 29 f29 (qg f29) := ⟨func29, by kernel_rfl, rfl⟩
def l32 : qx := unr prog O32 [] pol32 f29.ntmps 0 [2, 3, 11, 12, 13] b32 3
def smC (L : Int) : Cont := .vals [.agg [.q (mkRat 0 1) 64, .q (mkRat (-1) 1) 64], .agg [.q (mkRat L 1) 64, .q (mkRat (-1) 1) 64], .agg [.q (mkRat L 1) 64, .q (mkRat 1 1) 64], .agg [.q (mkRat 0 1) 64, .q (mkRat 1 1) 64]]
def smV (L : Int) : PV := lkC (mkRat L 1) (mkRat (-2) 1) (mkRat 2 1) (mkRat 1 4) (mkRat 1 10) (smC L)
def smL (L : Int) : Lk := ⟨mkRat L 1, mkRat (-2) 1, mkRat 2 1, mkRat 1 4, mkRat 1 10, 4, fun i => dq (fldV ((smC L).get i) 0), fun i => dq (fldV ((smC L).get i) 1)⟩
theorem smV_le (L : Int) : VLe (smV L) (lkPV (smL L)) := by
 refine VLe.agg (VLeL.cons (.refl _) (VLeL.cons (.refl _) (VLeL.cons (.refl _) (VLeL.cons (.refl _) (VLeL.cons (.refl _) (VLeL.cons ?_ .nil))))))
 refine VLe.lst rfl fun i hi => ?_
 have hi' : i < 4 := hi
 match i, hi' with
 | 0, _ => exact .refl _
 | 1, _ => exact .refl _
 | 2, _ => exact .refl _
 | 3, _ => exact .refl _
 | i + 4, h => omega
def OV : Orc := [(52, g21), (57, g27), (55, g29), (53, g43), (16, g133), (17, g134)]
theorem enter57 : Enters prog 112 f112 (qg f112) := ⟨func112, by kernel_rfl, rfl⟩
theorem enter121 : Enters prog 113 f113 (qg f113) := ⟨func113, by kernel_rfl, rfl⟩
theorem enter92 : Enters prog 84 f84 (qg f84) := ⟨func84, by kernel_rfl, rfl⟩
theorem enter51 : Enters prog 51 f51 (qg f51) := ⟨func51, by kernel_rfl, rfl⟩
include hG in
theorem orcV (hT : qr G) : OrcOK prog G OV := .cons (gk21 hG hT) (.cons (gk27 hG hT) (.cons (gk29 hG hT) (.cons (gk43 hG hT) (.cons (gk133 hG hT) (.cons (gk134 hG hT) .nil)))))
def g57 : Spec := evF prog OV [] {} f112
include hG in
theorem gk57 (hT : qr G) : qc prog G 112 g57 := spec_ev hG (orcV hG hT) mix enter57 (fun _ => k9 (by kernel_rfl))
theorem k121 (x y t : Rat) (h : Bool) (n m k : Nat) : evF prog OV [] {} f113 [.agg [.q x n, .q y m], .agg [.b h, .q t k]] [] qm =
 Tr.br (k.ble 100000 && Nat.ble 1 k) (.br (k.ble 100000 && Nat.ble 1 k) (.br ((n + ((4 : Nat) * k + 4)).ble 800000) (.br ((m + ((4 : Nat) * k + 4)).ble 800000) (.br ((n + ((4 : Nat) * k + 4) + (m + ((4 : Nat) * k + 4)) + 1).ble 800000) (.br ((n + ((4 : Nat) * k + 4)).ble 800000) (.br ((m + ((4 : Nat) * k + 4)).ble 800000) (.br ((n + ((4 : Nat) * k + 4) + (m + ((4 : Nat) * k + 4)) + 1).ble 800000) (.ok (.ret (.agg [.q (x * qD h t - y * qv h t) (n + ((4 : Nat) * k + 4) + (m + ((4 : Nat) * k + 4)) + 1), .q (x * qv h t + y * qD h t) (n + ((4 : Nat) * k + 4) + (m + ((4 : Nat) * k + 4)) + 1)]) [])) (.no 1)) (.no 1)) (.no 1)) (.no 1)) (.no 1)) (.no 1)) (.no 1)) (.no 1) := by kernel_rfl
def g121 : Spec := fun args hs K => match args, hs with
 | [.agg [.q x n, .q y m], .agg [hv, .q t k]], [] => match bof hv with
  | some h => .br (Nat.ble (n + m + 8 * k + 9) 800000 && Nat.ble 1 k) (K (.agg [.q (x * qD h t - y * qv h t) (n + m + 8 * k + 9), .q (x * qv h t + y * qD h t) (n + m + 8 * k + 9)]) []) (.no 1)
  | none => .no 1
 | _, _ => .no 1
theorem vc_rle {x y u v : Rat} {n m p r : Nat} (h1 : x = u) (h2 : y = v) (h3 : n <= p) (h4 : m <= r) : RLe (.agg [.q x n, .q y m]) (.agg [.q u p, .q v r]) := by
 subst h1; subst h2
 exact rle_of_vle (fun _ => rfl) (fun _ => rfl) (VLe.agg (vllc (vle_qm h3) (vllc (vle_qm h4) vll0)))
include hG in
theorem gk121 (hT : qr G) : qc prog G 113 g121 := by
 intro args hs K x h
 unfold g121 at h
 split at h
 case h_2 => cases h
 rename_i x n y m hv t k
 split at h
 case h_2 => cases h
 rename_i b hb
 obtain ⟨hc, hr⟩ := k8 h
 simp only [kA, kG] at hc
 have key : ∃ r, (evF prog OV [] {} f113 [.agg [.q x n, .q y m], .agg [.b b, .q t k]] [] qm).run = some (.ret r []) /\ RLe r (.agg [.q (x * qD b t - y * qv b t) (n + m + 8 * k + 9), .q (x * qv b t + y * qD b t) (n + m + 8 * k + 9)]) := by
  rw [k121]
  repeat rw [k5 (by simp only [kA, kG]; omega)]
  exact ⟨_, rfl, vc_rle rfl rfl (by omega) (by omega)⟩
 obtain ⟨r, k1, k2⟩ := key
 exact ⟨_, _, PC.args (.cons (.refl _) (.cons (tn_le hb rfl (Nat.le_refl _)) .nil)) ((qk hG (orcV hG hT) mix enter121 (L := []) (pol := {}) (k9 (by kernel_rfl)) k1).le k2 (.refl _)), hr⟩
def O92 : Orc := [(112, g57), (113, g121)]
theorem k92 (x y t u v : Rat) (h : Bool) (n m k p r : Nat) : evF prog O92 [] {} f84 [.agg [.agg [.q x n, .q y m], .agg [.b h, .q t k]], .agg [.q u p, .q v r]] [] qm =
 Tr.br ((p + r + 8 * k + 9).ble 800000 && Nat.ble 1 k) (.br ((n + (p + r + 8 * k + 9) + 1).ble 800000) (.br ((m + (p + r + 8 * k + 9) + 1).ble 800000) (.ok (.ret (.agg [.q (x + (u * qD h t - v * qv h t)) (n + (p + r + 8 * k + 9) + 1), .q (y + (u * qv h t + v * qD h t)) (m + (p + r + 8 * k + 9) + 1)]) [])) (.no 1)) (.no 1)) (.no 1) := by kernel_rfl
def g92 : Spec := fun args hs K => match args, hs with
 | [.agg [.agg [.q x n, .q y m], .agg [hv, .q t k]], .agg [.q u p, .q v r]], [] => match bof hv with
  | some h => match r with
   | 1 => match p with
    | 1 => .br (qe (u = 0 /\ v = 0 /\ n + 8 * k + 20 <= 800000 /\ m + 8 * k + 20 <= 800000)) (K (.agg [.q x n, .q y m]) []) (.no 1)
    | p => .br (qe (v = 0 /\ n + p + 8 * k + 20 <= 800000 /\ m + p + 8 * k + 20 <= 800000 /\ 1 <= k)) (K (.agg [.q (x + u * qD h t) (n + p + 8 * k + 11), .q (y + u * qv h t) (m + p + 8 * k + 11)]) []) (.no 1)
   | r => .br (Nat.ble (n + p + r + 8 * k + 20) 800000 && Nat.ble (m + p + r + 8 * k + 20) 800000 && Nat.ble 1 k) (K (.agg [.q (x + (u * qD h t - v * qv h t)) (n + p + r + 8 * k + 10), .q (y + (u * qv h t + v * qD h t)) (m + p + r + 8 * k + 10)]) []) (.no 1)
  | none => .no 1
 | _, _ => .no 1
include hG in
theorem orc92 (hT : qr G) : OrcOK prog G O92 := .cons (gk57 hG hT) (.cons (gk121 hG hT) .nil)
theorem put_key (x y t u v : Rat) (h : Bool) (n m k p r : Nat) (h1 : n + p + r + 8 * k + 10 <= 800000) (h2 : m + p + r + 8 * k + 10 <= 800000) (h3 : 1 <= k) : ∃ z, (evF prog O92 [] {} f84 [.agg [.agg [.q x n, .q y m], .agg [.b h, .q t k]], .agg [.q u p, .q v r]] [] qm).run = some (.ret z []) /\
  RLe z (.agg [.q (x + (u * qD h t - v * qv h t)) (n + p + r + 8 * k + 10), .q (y + (u * qv h t + v * qD h t)) (m + p + r + 8 * k + 10)]) := by
 rw [k92]
 repeat rw [k5 (by simp only [kA, kG]; omega)]
 exact ⟨_, rfl, vc_rle rfl rfl (by omega) (by omega)⟩
theorem put_sz {x y : Rat} {n m k : Nat} {t : Rat} {hv : PV} {b : PV} (w : World) (S : Nat -> Prop) (μ : Mu) (vs : List Value) (h : RepVL w S μ [.agg [.agg [.q x n, .q y m], .agg [hv, .q t k]], b] vs) : sz x <= n /\ sz y <= m /\ sz t <= k := by
 cases h with
 | cons _ _ _ _ _ h _ =>
  obtain ⟨ds, hd⟩ := RepV_agg h (.agg [.q x n, .q y m]) (by simp)
  obtain ⟨es, he⟩ := RepV_agg h (.agg [hv, .q t k]) (by simp)
  cases hd with
  | agg _ _ _ hl =>
   obtain ⟨a, ha⟩ := RepL_get hl (.q x n) (by simp)
   obtain ⟨b, hb⟩ := RepL_get hl (.q y m) (by simp)
   cases he with
   | agg _ _ _ hl2 =>
    obtain ⟨c, hc⟩ := RepL_get hl2 (.q t k) (by simp)
    exact ⟨RepC_q ha, RepC_q hb, RepC_q hc⟩
include hG in
theorem gk92 (hT : qr G) : qc prog G 84 g92 := by
 intro args hs K z h
 unfold g92 at h
 split at h
 case h_2 => cases h
 rename_i x n y m hv t k u p v r
 split at h
 case h_2 => cases h
 rename_i b hb
 have hargs : ArgsLe [.agg [.agg [.q x n, .q y m], .agg [hv, .q t k]], .agg [.q u p, .q v r]] [.agg [.agg [.q x n, .q y m], .agg [.b b, .q t k]], .agg [.q u p, .q v r]] := .cons (VLe.agg (vllc (.refl _) (vllc (tn_le hb rfl (Nat.le_refl _)) vll0))) (.cons (.refl _) .nil)
 split at h
 ·split at h
  ·obtain ⟨hc, hr⟩ := k8 h
   obtain ⟨rfl, rfl, h1, h2⟩ := decP_iff.1 hc
   refine ⟨_, _, ?_, hr⟩
   refine PC.args hargs (pc_assume _ put_sz fun hq => ?_)
   obtain ⟨r, k1, k2⟩ := put_key x y t 0 0 b n m k 1 1 (by omega) (by omega) (sz_lt hq.2.2).2.2
   refine ((qk hG (orc92 hG hT) mix enter92 (L := []) (pol := {}) (k9 (by kernel_rfl)) k1).le k2 (.refl _)).le ?_ (.refl _)
   rw [show x + (0 * qD b t - 0 * qv b t) = x by grind, show y + (0 * qv b t + 0 * qD b t) = y by grind]
   exact rle_of_vle (fun _ => rfl) (fun _ => rfl) (VLe.agg (vllc (vle_qq hq.1) (vllc (vle_qq hq.2.1) vll0)))
  ·obtain ⟨hc, hr⟩ := k8 h
   obtain ⟨rfl, h1, h2, h3⟩ := decP_iff.1 hc
   obtain ⟨r, k1, k2⟩ := put_key x y t u 0 b n m k p 1 (by omega) (by omega) h3
   refine ⟨_, _, PC.args hargs (((qk hG (orc92 hG hT) mix enter92 (L := []) (pol := {}) (k9 (by kernel_rfl)) k1).le k2 (.refl _)).le (vc_rle ?_ ?_ (by omega) (by omega)) (.refl _)), hr⟩
   ·grind
   ·grind
 ·obtain ⟨hc, hr⟩ := k8 h
  simp only [kA, kG] at hc
  obtain ⟨r, k1, k2⟩ := put_key x y t u v b n m k p r (by omega) (by omega) hc.2
  exact ⟨_, _, PC.args hargs ((qk hG (orc92 hG hT) mix enter92 (L := []) (pol := {}) (k9 (by kernel_rfl)) k1).le k2 (.refl _)), hr⟩
def O51 : Orc := [(84, g92), (85, g93)]
def g51 : Spec := evF prog O51 [] {} f51
include hG in
theorem gk51 (hT : qr G) : qc prog G 51 g51 := spec_ev hG (.cons (gk92 hG hT) (.cons (gk93 hG hT) .nil)) mix enter51 (fun _ => k9 (by kernel_rfl))
theorem enter39 : Enters prog 13 f13 (qg f13) := ⟨func13, by kernel_rfl, rfl⟩
end
section
open Go Tryz
set_option maxRecDepth 100000
variable {G : World -> (Nat -> Prop) -> Prop} (hG : GOk G)
def b39 : Code := (qi (qg f13)).getD 0 .skip
def pol39 : Pol := { live := [(9, [1, 7, 8, 9, 10, 29, 30, 31])] }
def O39 : Orc := [(50, g50), (51, g51), (49, g71), (40, s85)]
structure Fr where
 x : Rat
 y : Rat
 h : Bool
 t : Rat
def frP (f : Fr) (a b : Nat) : PV := .agg [.agg [.q f.x a, .q f.y a], .agg [.b f.h, .q f.t b]]
def n39 (qs : List Rat) (n : Nat) (lk : Nat -> Lk) (x y t : Rat) (i : Int) : LS := ⟨[.lst 3 (.rats 64 qs), .ptr 0 10 0 0 [], .ptr 1 6 0 0 [], .ptr 2 4 0 0 [], .nil, .lst 16 (.fn n (fun j => lkPV (lk j))), .i .i64 n, .i .i64 i],
 [some ⟨10, .vals [.agg [.agg [.q x 64, .q y 64], .agg [.bl false, .q t 64]]]⟩, some ⟨6, .vals [.agg [.q ((0 : Int) : Rat) 1, .q ((0 : Int) : Rat) 1]]⟩, some ⟨4, .vals [.agg [.bl false, .q ((0 : Int) : Rat) 1]]⟩]⟩
def x39 (qs : List Rat) (n : Nat) (lk : Nat -> Lk) (ys : List PV) (l : Nat) (x y : Rat) (h : Bool) (t : Rat) (a b : Nat) (i : Int) : LS := ⟨[.lst 3 (.rats 64 qs), .ptr 0 10 0 0 [], .ptr 1 6 0 0 [], .ptr 2 4 0 0 [], .sl 3 10 0 l, .lst 16 (.fn n (fun j => lkPV (lk j))), .i .i64 n, .i .i64 i],
 [some ⟨10, .vals [.agg [.agg [.q x a, .q y a], .agg [.b h, .q t b]]]⟩, some ⟨6, .vals [.agg [.q ((0 : Int) : Rat) 1, .q ((0 : Int) : Rat) 1]]⟩, some ⟨4, .vals [.agg [.bl false, .q ((0 : Int) : Rat) 1]]⟩, some ⟨10, .vals ys⟩]⟩
theorem t39n (qs : List Rat) (n : Nat) (lk : Nat -> Lk) (x y t : Rat) (i : Int) : qh prog O39 [] pol39 f13.ntmps 0 [1, 7, 8, 9, 10, 29, 30, 31] b39 (n39 qs n lk x y t i) =
 Tr.br (decide (i < (n : Int))) (.br (ix (i) ((n : Int))) (.br (ix (i) ((qs.length : Int))) (.br (Nat.ble 64 (400000 : Nat)) (.br (qe ((↑(0 : Int) : Rat) = 0 /\ (↑(0 : Int) : Rat) = 0 /\ (64 : Nat) + 8 * 64 + 20 <= 800000 /\ (64 : Nat) + 8 * 64 + 20 <= 800000)) (.br (Nat.ble 64 (50000 : Nat) && Nat.ble 1 (64 : Nat) && Nat.ble 64 (50000 : Nat) && Nat.ble 1 (64 : Nat)) (.br (Nat.blt (0 : Nat) [PV.agg [PV.agg [PV.q x 64, PV.q y 64], PV.agg [PV.b (thH false t false (qs.getD i.toNat 0)), PV.q (thT false t false (qs.getD i.toNat 0)) 259]]].length && [PV.agg [PV.agg [PV.q x 64, PV.q y 64], PV.agg [PV.b (thH false t false (qs.getD i.toNat 0)), PV.q (thT false t false (qs.getD i.toNat 0)) 259]]].length.ble 4294967296) (.br (decide ((-72057594037927936 : Int) < 0) && decide ((0 : Int) <= 9223372036854775807)) (.br (qe ((↑(0 : Int) : Rat) = 0 /\ (64 : Nat) + 64 + 8 * ((2 : Nat) * 64 + 2 * 64 + 3) + 20 <= 800000 /\ (64 : Nat) + 64 + 8 * ((2 : Nat) * 64 + 2 * 64 + 3) + 20 <= 800000 /\ (1 : Nat) <= 2 * 64 + 2 * 64 + 3)) (.br (qe (false = false /\ (↑(0 : Int) : Rat) = 0 /\ (2 : Nat) * 64 + 2 * 64 + 3 <= 50000)) (.br (ib (i + 1)) (.ok (.out .normal (LS.mk [PV.lst 3 (.rats 64 qs), PV.ptr 0 10 0 0 [], PV.ptr 1 6 0 0 [], PV.ptr 2 4 0 0 [], PV.sl 3 10 0 1, PV.lst 16 (.fn n fun (j : Nat) => PV.agg [PV.q (lk j).len 64, PV.q (lk j).low 64, PV.q (lk j).high 64, PV.q (lk j).spd 64, PV.q (lk j).brk 64, PV.lst 6 (.fn (lk j).np fun (a : Nat) => PV.agg [PV.q ((lk j).px a) 64, PV.q ((lk j).py a) 64])]), PV.i .i64 (n : Int), PV.i .i64 (i + 1)] [some (.mk 10 (.vals [PV.agg [PV.agg [PV.q (x + (lk i.toNat).len * qD (thH false t false (qs.getD i.toNat 0)) (thT false t false (qs.getD i.toNat 0))) 2211, PV.q (y + (lk i.toNat).len * qv (thH false t false (qs.getD i.toNat 0)) (thT false t false (qs.getD i.toNat 0))) 2211], PV.agg [PV.b (thH false t false (qs.getD i.toNat 0)), PV.q (ftT (thH false t false (qs.getD i.toNat 0)) (thT false t false (qs.getD i.toNat 0))) 259]]])), some (.mk 6 (.vals [PV.agg [PV.q (↑(0 : Int) : Rat) 1, PV.q (↑(0 : Int) : Rat) 1]])), some (.mk 4 (.vals [PV.agg [PV.bl false, PV.q (↑(0 : Int) : Rat) 1]])), some (.mk 10 (.vals [PV.agg [PV.agg [PV.q x 64, PV.q y 64], PV.agg [PV.b (thH false t false (qs.getD i.toNat 0)), PV.q (thT false t false (qs.getD i.toNat 0)) 259]]]))]))) (.no 15002)) (.no 1)) (.no 1)) (.no 1)) (.no 13002)) (.no 1)) (.no 1)) (.no 1)) (.no 12007)) (.no 11005)) (.ok (.out (.exit 0) (LS.mk [PV.lst 3 (.rats 64 qs), PV.ptr 0 10 0 0 [], PV.ptr 1 6 0 0 [], PV.ptr 2 4 0 0 [], PV.nil, PV.lst 16 (.fn n fun (j : Nat) => PV.agg [PV.q (lk j).len 64, PV.q (lk j).low 64, PV.q (lk j).high 64, PV.q (lk j).spd 64, PV.q (lk j).brk 64, PV.lst 6 (.fn (lk j).np fun (a : Nat) => PV.agg [PV.q ((lk j).px a) 64, PV.q ((lk j).py a) 64])]), PV.i .i64 (n : Int), PV.i .i64 i] [some (.mk 10 (.vals [PV.agg [PV.agg [PV.q x 64, PV.q y 64], PV.agg [PV.bl false, PV.q t 64]]])), some (.mk 6 (.vals [PV.agg [PV.q (↑(0 : Int) : Rat) 1, PV.q (↑(0 : Int) : Rat) 1]])), some (.mk 4 (.vals [PV.agg [PV.bl false, PV.q (↑(0 : Int) : Rat) 1]]))]))) := by kernel_rfl
theorem t39a (qs : List Rat) (n : Nat) (lk : Nat -> Lk) (f0 : Fr) (x y : Rat) (h : Bool) (t : Rat) (i : Int) : qh prog O39 [] pol39 f13.ntmps 0 [1, 7, 8, 9, 10, 29, 30, 31] b39 (x39 qs n lk [frP f0 64 259] 1 x y h t 2211 259 i) =
 Tr.br (decide (i < (n : Int))) (.br (ix (i) ((n : Int))) (.br (ix (i) ((qs.length : Int))) (.br (Nat.ble 64 (400000 : Nat)) (.br (qe ((↑(0 : Int) : Rat) = 0 /\ (↑(0 : Int) : Rat) = 0 /\ (2211 : Nat) + 8 * 259 + 20 <= 800000 /\ (2211 : Nat) + 8 * 259 + 20 <= 800000)) (.br (Nat.ble 259 (50000 : Nat) && Nat.ble 1 (259 : Nat) && Nat.ble 64 (50000 : Nat) && Nat.ble 1 (64 : Nat)) (.br (((1 : Nat) + [PE.PV.agg [PV.agg [PV.q x 2211, PV.q y 2211], PV.agg [PV.b (thH h t false (qs.getD i.toNat 0)), PV.q (thT h t false (qs.getD i.toNat 0)) 649]]].length).ble 4294967296) (.br (decide ((-72057594037927936 : Int) < 0) && decide ((0 : Int) <= 9223372036854775807)) (.br (qe ((↑(0 : Int) : Rat) = 0 /\ (2211 : Nat) + 64 + 8 * ((2 : Nat) * 259 + 2 * 64 + 3) + 20 <= 800000 /\ (2211 : Nat) + 64 + 8 * ((2 : Nat) * 259 + 2 * 64 + 3) + 20 <= 800000 /\ (1 : Nat) <= 2 * 259 + 2 * 64 + 3)) (.br (qe (false = false /\ (↑(0 : Int) : Rat) = 0 /\ (2 : Nat) * 259 + 2 * 64 + 3 <= 50000)) (.br (ib (i + 1)) (.ok (.out .normal (LS.mk [PV.lst 3 (.rats 64 qs), PV.ptr 0 10 0 0 [], PV.ptr 1 6 0 0 [], PV.ptr 2 4 0 0 [], PV.sl 3 10 0 2, PV.lst 16 (.fn n fun (j : Nat) => PV.agg [PV.q (lk j).len 64, PV.q (lk j).low 64, PV.q (lk j).high 64, PV.q (lk j).spd 64, PV.q (lk j).brk 64, PV.lst 6 (.fn (lk j).np fun (a : Nat) => PV.agg [PV.q ((lk j).px a) 64, PV.q ((lk j).py a) 64])]), PV.i .i64 (n : Int), PV.i .i64 (i + 1)] [some (.mk 10 (.vals [PV.agg [PV.agg [PV.q (x + (lk i.toNat).len * qD (thH h t false (qs.getD i.toNat 0)) (thT h t false (qs.getD i.toNat 0))) 7478, PV.q (y + (lk i.toNat).len * qv (thH h t false (qs.getD i.toNat 0)) (thT h t false (qs.getD i.toNat 0))) 7478], PV.agg [PV.b (thH h t false (qs.getD i.toNat 0)), PV.q (ftT (thH h t false (qs.getD i.toNat 0)) (thT h t false (qs.getD i.toNat 0))) 649]]])), some (.mk 6 (.vals [PV.agg [PV.q (↑(0 : Int) : Rat) 1, PV.q (↑(0 : Int) : Rat) 1]])), some (.mk 4 (.vals [PV.agg [PV.bl false, PV.q (↑(0 : Int) : Rat) 1]])), some (.mk 10 (.vals [frP f0 64 259, PV.agg [PV.agg [PV.q x 2211, PV.q y 2211], PV.agg [PV.b (thH h t false (qs.getD i.toNat 0)), PV.q (thT h t false (qs.getD i.toNat 0)) 649]]]))]))) (.no 15002)) (.no 1)) (.no 1)) (.no 1)) (.no 13002)) (.no 1)) (.no 1)) (.no 1)) (.no 12007)) (.no 11005)) (.ok (.out (.exit 0) (LS.mk [PV.lst 3 (.rats 64 qs), PV.ptr 0 10 0 0 [], PV.ptr 1 6 0 0 [], PV.ptr 2 4 0 0 [], PV.sl 3 10 0 1, PV.lst 16 (.fn n fun (j : Nat) => PV.agg [PV.q (lk j).len 64, PV.q (lk j).low 64, PV.q (lk j).high 64, PV.q (lk j).spd 64, PV.q (lk j).brk 64, PV.lst 6 (.fn (lk j).np fun (a : Nat) => PV.agg [PV.q ((lk j).px a) 64, PV.q ((lk j).py a) 64])]), PV.i .i64 (n : Int), PV.i .i64 i] [some (.mk 10 (.vals [PV.agg [PV.agg [PV.q x 2211, PV.q y 2211], PV.agg [PV.b h, PV.q t 259]]])), some (.mk 6 (.vals [PV.agg [PV.q (↑(0 : Int) : Rat) 1, PV.q (↑(0 : Int) : Rat) 1]])), some (.mk 4 (.vals [PV.agg [PV.bl false, PV.q (↑(0 : Int) : Rat) 1]])), some (.mk 10 (.vals [frP f0 64 259]))]))) := by kernel_rfl
theorem t39b (qs : List Rat) (n : Nat) (lk : Nat -> Lk) (f0 f1 : Fr) (x y : Rat) (h : Bool) (t : Rat) (i : Int) : qh prog O39 [] pol39 f13.ntmps 0 [1, 7, 8, 9, 10, 29, 30, 31] b39 (x39 qs n lk [frP f0 64 259, frP f1 2211 649] 2 x y h t 7478 649 i) =
 Tr.br (decide (i < (n : Int))) (.br (ix (i) ((n : Int))) (.br (ix (i) ((qs.length : Int))) (.br (Nat.ble 64 (400000 : Nat)) (.br (qe ((↑(0 : Int) : Rat) = 0 /\ (↑(0 : Int) : Rat) = 0 /\ (7478 : Nat) + 8 * 649 + 20 <= 800000 /\ (7478 : Nat) + 8 * 649 + 20 <= 800000)) (.br (Nat.ble 649 (50000 : Nat) && Nat.ble 1 (649 : Nat) && Nat.ble 64 (50000 : Nat) && Nat.ble 1 (64 : Nat)) (.br (((2 : Nat) + [PE.PV.agg [PV.agg [PV.q x 7478, PV.q y 7478], PV.agg [PV.b (thH h t false (qs.getD i.toNat 0)), PV.q (thT h t false (qs.getD i.toNat 0)) 1429]]].length).ble 4294967296) (.br (decide ((-72057594037927936 : Int) < 0) && decide ((0 : Int) <= 9223372036854775807)) (.br (qe ((↑(0 : Int) : Rat) = 0 /\ (7478 : Nat) + 64 + 8 * ((2 : Nat) * 649 + 2 * 64 + 3) + 20 <= 800000 /\ (7478 : Nat) + 64 + 8 * ((2 : Nat) * 649 + 2 * 64 + 3) + 20 <= 800000 /\ (1 : Nat) <= 2 * 649 + 2 * 64 + 3)) (.br (qe (false = false /\ (↑(0 : Int) : Rat) = 0 /\ (2 : Nat) * 649 + 2 * 64 + 3 <= 50000)) (.br (ib (i + 1)) (.ok (.out .normal (LS.mk [PV.lst 3 (.rats 64 qs), PV.ptr 0 10 0 0 [], PV.ptr 1 6 0 0 [], PV.ptr 2 4 0 0 [], PV.sl 3 10 0 3, PV.lst 16 (.fn n fun (j : Nat) => PV.agg [PV.q (lk j).len 64, PV.q (lk j).low 64, PV.q (lk j).high 64, PV.q (lk j).spd 64, PV.q (lk j).brk 64, PV.lst 6 (.fn (lk j).np fun (a : Nat) => PV.agg [PV.q ((lk j).px a) 64, PV.q ((lk j).py a) 64])]), PV.i .i64 (n : Int), PV.i .i64 (i + 1)] [some (.mk 10 (.vals [PV.agg [PV.agg [PV.q (x + (lk i.toNat).len * qD (thH h t false (qs.getD i.toNat 0)) (thT h t false (qs.getD i.toNat 0))) 18985, PV.q (y + (lk i.toNat).len * qv (thH h t false (qs.getD i.toNat 0)) (thT h t false (qs.getD i.toNat 0))) 18985], PV.agg [PV.b (thH h t false (qs.getD i.toNat 0)), PV.q (ftT (thH h t false (qs.getD i.toNat 0)) (thT h t false (qs.getD i.toNat 0))) 1429]]])), some (.mk 6 (.vals [PV.agg [PV.q (↑(0 : Int) : Rat) 1, PV.q (↑(0 : Int) : Rat) 1]])), some (.mk 4 (.vals [PV.agg [PV.bl false, PV.q (↑(0 : Int) : Rat) 1]])), some (.mk 10 (.vals [frP f0 64 259, frP f1 2211 649, PV.agg [PV.agg [PV.q x 7478, PV.q y 7478], PV.agg [PV.b (thH h t false (qs.getD i.toNat 0)), PV.q (thT h t false (qs.getD i.toNat 0)) 1429]]]))]))) (.no 15002)) (.no 1)) (.no 1)) (.no 1)) (.no 13002)) (.no 1)) (.no 1)) (.no 1)) (.no 12007)) (.no 11005)) (.ok (.out (.exit 0) (LS.mk [PV.lst 3 (.rats 64 qs), PV.ptr 0 10 0 0 [], PV.ptr 1 6 0 0 [], PV.ptr 2 4 0 0 [], PV.sl 3 10 0 2, PV.lst 16 (.fn n fun (j : Nat) => PV.agg [PV.q (lk j).len 64, PV.q (lk j).low 64, PV.q (lk j).high 64, PV.q (lk j).spd 64, PV.q (lk j).brk 64, PV.lst 6 (.fn (lk j).np fun (a : Nat) => PV.agg [PV.q ((lk j).px a) 64, PV.q ((lk j).py a) 64])]), PV.i .i64 (n : Int), PV.i .i64 i] [some (.mk 10 (.vals [PV.agg [PV.agg [PV.q x 7478, PV.q y 7478], PV.agg [PV.b h, PV.q t 649]]])), some (.mk 6 (.vals [PV.agg [PV.q (↑(0 : Int) : Rat) 1, PV.q (↑(0 : Int) : Rat) 1]])), some (.mk 4 (.vals [PV.agg [PV.bl false, PV.q (↑(0 : Int) : Rat) 1]])), some (.mk 10 (.vals [frP f0 64 259, frP f1 2211 649]))]))) := by kernel_rfl
theorem t39c (qs : List Rat) (n : Nat) (lk : Nat -> Lk) (f0 f1 f2 : Fr) (x y : Rat) (h : Bool) (t : Rat) (i : Int) : qh prog O39 [] pol39 f13.ntmps 0 [1, 7, 8, 9, 10, 29, 30, 31] b39 (x39 qs n lk [frP f0 64 259, frP f1 2211 649, frP f2 7478 1429] 3 x y h t 18985 1429 i) =
 Tr.br (decide (i < (n : Int))) (.br (ix (i) ((n : Int))) (.br (ix (i) ((qs.length : Int))) (.br (Nat.ble 64 (400000 : Nat)) (.br (qe ((↑(0 : Int) : Rat) = 0 /\ (↑(0 : Int) : Rat) = 0 /\ (18985 : Nat) + 8 * 1429 + 20 <= 800000 /\ (18985 : Nat) + 8 * 1429 + 20 <= 800000)) (.br (Nat.ble 1429 (50000 : Nat) && Nat.ble 1 (1429 : Nat) && Nat.ble 64 (50000 : Nat) && Nat.ble 1 (64 : Nat)) (.br (((3 : Nat) + [PE.PV.agg [PV.agg [PV.q x 18985, PV.q y 18985], PV.agg [PV.b (thH h t false (qs.getD i.toNat 0)), PV.q (thT h t false (qs.getD i.toNat 0)) 2989]]].length).ble 4294967296) (.br (decide ((-72057594037927936 : Int) < 0) && decide ((0 : Int) <= 9223372036854775807)) (.br (qe ((↑(0 : Int) : Rat) = 0 /\ (18985 : Nat) + 64 + 8 * ((2 : Nat) * 1429 + 2 * 64 + 3) + 20 <= 800000 /\ (18985 : Nat) + 64 + 8 * ((2 : Nat) * 1429 + 2 * 64 + 3) + 20 <= 800000 /\ (1 : Nat) <= 2 * 1429 + 2 * 64 + 3)) (.br (qe (false = false /\ (↑(0 : Int) : Rat) = 0 /\ (2 : Nat) * 1429 + 2 * 64 + 3 <= 50000)) (.br (ib (i + 1)) (.ok (.out .normal (LS.mk [PV.lst 3 (.rats 64 qs), PV.ptr 0 10 0 0 [], PV.ptr 1 6 0 0 [], PV.ptr 2 4 0 0 [], PV.sl 3 10 0 4, PV.lst 16 (.fn n fun (j : Nat) => PV.agg [PV.q (lk j).len 64, PV.q (lk j).low 64, PV.q (lk j).high 64, PV.q (lk j).spd 64, PV.q (lk j).brk 64, PV.lst 6 (.fn (lk j).np fun (a : Nat) => PV.agg [PV.q ((lk j).px a) 64, PV.q ((lk j).py a) 64])]), PV.i .i64 (n : Int), PV.i .i64 (i + 1)] [some (.mk 10 (.vals [PV.agg [PV.agg [PV.q (x + (lk i.toNat).len * qD (thH h t false (qs.getD i.toNat 0)) (thT h t false (qs.getD i.toNat 0))) 42972, PV.q (y + (lk i.toNat).len * qv (thH h t false (qs.getD i.toNat 0)) (thT h t false (qs.getD i.toNat 0))) 42972], PV.agg [PV.b (thH h t false (qs.getD i.toNat 0)), PV.q (ftT (thH h t false (qs.getD i.toNat 0)) (thT h t false (qs.getD i.toNat 0))) 2989]]])), some (.mk 6 (.vals [PV.agg [PV.q (↑(0 : Int) : Rat) 1, PV.q (↑(0 : Int) : Rat) 1]])), some (.mk 4 (.vals [PV.agg [PV.bl false, PV.q (↑(0 : Int) : Rat) 1]])), some (.mk 10 (.vals [frP f0 64 259, frP f1 2211 649, frP f2 7478 1429, PV.agg [PV.agg [PV.q x 18985, PV.q y 18985], PV.agg [PV.b (thH h t false (qs.getD i.toNat 0)), PV.q (thT h t false (qs.getD i.toNat 0)) 2989]]]))]))) (.no 15002)) (.no 1)) (.no 1)) (.no 1)) (.no 13002)) (.no 1)) (.no 1)) (.no 1)) (.no 12007)) (.no 11005)) (.ok (.out (.exit 0) (LS.mk [PV.lst 3 (.rats 64 qs), PV.ptr 0 10 0 0 [], PV.ptr 1 6 0 0 [], PV.ptr 2 4 0 0 [], PV.sl 3 10 0 3, PV.lst 16 (.fn n fun (j : Nat) => PV.agg [PV.q (lk j).len 64, PV.q (lk j).low 64, PV.q (lk j).high 64, PV.q (lk j).spd 64, PV.q (lk j).brk 64, PV.lst 6 (.fn (lk j).np fun (a : Nat) => PV.agg [PV.q ((lk j).px a) 64, PV.q ((lk j).py a) 64])]), PV.i .i64 (n : Int), PV.i .i64 i] [some (.mk 10 (.vals [PV.agg [PV.agg [PV.q x 18985, PV.q y 18985], PV.agg [PV.b h, PV.q t 1429]]])), some (.mk 6 (.vals [PV.agg [PV.q (↑(0 : Int) : Rat) 1, PV.q (↑(0 : Int) : Rat) 1]])), some (.mk 4 (.vals [PV.agg [PV.bl false, PV.q (↑(0 : Int) : Rat) 1]])), some (.mk 10 (.vals [frP f0 64 259, frP f1 2211 649, frP f2 7478 1429]))]))) := by kernel_rfl
theorem e39a (A : Am) (qs : List Rat) (f0 e : Fr) (i : Int) : evF prog O39 [(9, lcst (n39 qs A.n A.lk A.bx A.by_ A.t 0) (.exit 0) (x39 qs A.n A.lk [frP f0 64 259] 1 e.x e.y e.h e.t 2211 259 i))] pol39 f13 [qz A, .lst 3 (.rats 64 qs)] [] qm =
 Tr.br (qe (P85 [qz A, PV.i .i64 (qs.length : Int)])) (.br (!decide ((0 : Int) = 0)) (.ok (.ret (PV.tup [PV.nil, PV.i .i64 0]) [])) (.br (decide ((-72057594037927936 : Int) < 0) && decide ((0 : Int) <= 9223372036854775807)) (.br (decide ((-72057594037927936 : Int) < 0) && decide ((0 : Int) <= 9223372036854775807)) (.br (decide ((-72057594037927936 : Int) < 0) && decide ((0 : Int) <= 9223372036854775807)) (.br (((Int.natAbs (0 : Int)).log2 + 1).ble 400000) (.br (qe (isLS (LS.mk [PV.lst 3 (.rats 64 qs), PV.ptr 0 10 0 0 [], PV.ptr 1 6 0 0 [], PV.ptr 2 4 0 0 [], PV.nil, PV.lst 16 (.fn A.n fun (j : Nat) => PV.agg [PV.q (A.lk j).len 64, PV.q (A.lk j).low 64, PV.q (A.lk j).high 64, PV.q (A.lk j).spd 64, PV.q (A.lk j).brk 64, PV.lst 6 (.fn (A.lk j).np fun (a : Nat) => PV.agg [PV.q ((A.lk j).px a) 64, PV.q ((A.lk j).py a) 64])]), PV.i .i64 (A.n : Int), PV.i .i64 0] [some (.mk 10 (.vals [PV.agg [PV.agg [PV.q A.bx 64, PV.q A.by_ 64], PV.agg [PV.bl false, PV.q A.t 64]]])), some (.mk 6 (.vals [PV.agg [PV.q (↑(0 : Int) : Rat) 1, PV.q (↑(0 : Int) : Rat) 1]])), some (.mk 4 (.vals [PV.agg [PV.bl false, PV.q (↑(0 : Int) : Rat) 1]]))]) (LS.mk [PV.lst 3 (.rats 64 qs), PV.ptr 0 10 0 0 [], PV.ptr 1 6 0 0 [], PV.ptr 2 4 0 0 [], PV.nil, PV.lst 16 (.fn A.n fun (j : Nat) => PV.agg [PV.q (A.lk j).len 64, PV.q (A.lk j).low 64, PV.q (A.lk j).high 64, PV.q (A.lk j).spd 64, PV.q (A.lk j).brk 64, PV.lst 6 (.fn (A.lk j).np fun (a : Nat) => PV.agg [PV.q ((A.lk j).px a) 64, PV.q ((A.lk j).py a) 64])]), PV.i .i64 (A.n : Int), PV.i .i64 0] [some (.mk 10 (.vals [PV.agg [PV.agg [PV.q A.bx 64, PV.q A.by_ 64], PV.agg [PV.bl false, PV.q A.t 64]]])), some (.mk 6 (.vals [PV.agg [PV.q (↑(0 : Int) : Rat) 1, PV.q (↑(0 : Int) : Rat) 1]])), some (.mk 4 (.vals [PV.agg [PV.bl false, PV.q (↑(0 : Int) : Rat) 1]]))]))) (.br (((1 : Nat) + [frP e 2211 259].length).ble 4294967296) (.ok (.ret (PV.tup [PV.fr 10 (.vals [frP f0 64 259, frP e 2211 259]), PV.i .i64 0]) [])) (.no 16003)) (.no 1)) (.no 1)) (.no 1)) (.no 1)) (.no 1))) (.no 1) := by kernel_rfl
theorem e39b (A : Am) (qs : List Rat) (f0 f1 e : Fr) (i : Int) : evF prog O39 [(9, lcst (n39 qs A.n A.lk A.bx A.by_ A.t 0) (.exit 0) (x39 qs A.n A.lk [frP f0 64 259, frP f1 2211 649] 2 e.x e.y e.h e.t 7478 649 i))] pol39 f13 [qz A, .lst 3 (.rats 64 qs)] [] qm =
 Tr.br (qe (P85 [qz A, PV.i .i64 (qs.length : Int)])) (.br (!decide ((0 : Int) = 0)) (.ok (.ret (PV.tup [PV.nil, PV.i .i64 0]) [])) (.br (decide ((-72057594037927936 : Int) < 0) && decide ((0 : Int) <= 9223372036854775807)) (.br (decide ((-72057594037927936 : Int) < 0) && decide ((0 : Int) <= 9223372036854775807)) (.br (decide ((-72057594037927936 : Int) < 0) && decide ((0 : Int) <= 9223372036854775807)) (.br (((Int.natAbs (0 : Int)).log2 + 1).ble 400000) (.br (qe (isLS (LS.mk [PV.lst 3 (.rats 64 qs), PV.ptr 0 10 0 0 [], PV.ptr 1 6 0 0 [], PV.ptr 2 4 0 0 [], PV.nil, PV.lst 16 (.fn A.n fun (j : Nat) => PV.agg [PV.q (A.lk j).len 64, PV.q (A.lk j).low 64, PV.q (A.lk j).high 64, PV.q (A.lk j).spd 64, PV.q (A.lk j).brk 64, PV.lst 6 (.fn (A.lk j).np fun (a : Nat) => PV.agg [PV.q ((A.lk j).px a) 64, PV.q ((A.lk j).py a) 64])]), PV.i .i64 (A.n : Int), PV.i .i64 0] [some (.mk 10 (.vals [PV.agg [PV.agg [PV.q A.bx 64, PV.q A.by_ 64], PV.agg [PV.bl false, PV.q A.t 64]]])), some (.mk 6 (.vals [PV.agg [PV.q (↑(0 : Int) : Rat) 1, PV.q (↑(0 : Int) : Rat) 1]])), some (.mk 4 (.vals [PV.agg [PV.bl false, PV.q (↑(0 : Int) : Rat) 1]]))]) (LS.mk [PV.lst 3 (.rats 64 qs), PV.ptr 0 10 0 0 [], PV.ptr 1 6 0 0 [], PV.ptr 2 4 0 0 [], PV.nil, PV.lst 16 (.fn A.n fun (j : Nat) => PV.agg [PV.q (A.lk j).len 64, PV.q (A.lk j).low 64, PV.q (A.lk j).high 64, PV.q (A.lk j).spd 64, PV.q (A.lk j).brk 64, PV.lst 6 (.fn (A.lk j).np fun (a : Nat) => PV.agg [PV.q ((A.lk j).px a) 64, PV.q ((A.lk j).py a) 64])]), PV.i .i64 (A.n : Int), PV.i .i64 0] [some (.mk 10 (.vals [PV.agg [PV.agg [PV.q A.bx 64, PV.q A.by_ 64], PV.agg [PV.bl false, PV.q A.t 64]]])), some (.mk 6 (.vals [PV.agg [PV.q (↑(0 : Int) : Rat) 1, PV.q (↑(0 : Int) : Rat) 1]])), some (.mk 4 (.vals [PV.agg [PV.bl false, PV.q (↑(0 : Int) : Rat) 1]]))]))) (.br (((2 : Nat) + [frP e 7478 649].length).ble 4294967296) (.ok (.ret (PV.tup [PV.fr 10 (.vals [frP f0 64 259, frP f1 2211 649, frP e 7478 649]), PV.i .i64 0]) [])) (.no 16003)) (.no 1)) (.no 1)) (.no 1)) (.no 1)) (.no 1))) (.no 1) := by kernel_rfl
theorem e39c (A : Am) (qs : List Rat) (f0 f1 f2 e : Fr) (i : Int) : evF prog O39 [(9, lcst (n39 qs A.n A.lk A.bx A.by_ A.t 0) (.exit 0) (x39 qs A.n A.lk [frP f0 64 259, frP f1 2211 649, frP f2 7478 1429] 3 e.x e.y e.h e.t 18985 1429 i))] pol39 f13 [qz A, .lst 3 (.rats 64 qs)] [] qm =
 Tr.br (qe (P85 [qz A, PV.i .i64 (qs.length : Int)])) (.br (!decide ((0 : Int) = 0)) (.ok (.ret (PV.tup [PV.nil, PV.i .i64 0]) [])) (.br (decide ((-72057594037927936 : Int) < 0) && decide ((0 : Int) <= 9223372036854775807)) (.br (decide ((-72057594037927936 : Int) < 0) && decide ((0 : Int) <= 9223372036854775807)) (.br (decide ((-72057594037927936 : Int) < 0) && decide ((0 : Int) <= 9223372036854775807)) (.br (((Int.natAbs (0 : Int)).log2 + 1).ble 400000) (.br (qe (isLS (LS.mk [PV.lst 3 (.rats 64 qs), PV.ptr 0 10 0 0 [], PV.ptr 1 6 0 0 [], PV.ptr 2 4 0 0 [], PV.nil, PV.lst 16 (.fn A.n fun (j : Nat) => PV.agg [PV.q (A.lk j).len 64, PV.q (A.lk j).low 64, PV.q (A.lk j).high 64, PV.q (A.lk j).spd 64, PV.q (A.lk j).brk 64, PV.lst 6 (.fn (A.lk j).np fun (a : Nat) => PV.agg [PV.q ((A.lk j).px a) 64, PV.q ((A.lk j).py a) 64])]), PV.i .i64 (A.n : Int), PV.i .i64 0] [some (.mk 10 (.vals [PV.agg [PV.agg [PV.q A.bx 64, PV.q A.by_ 64], PV.agg [PV.bl false, PV.q A.t 64]]])), some (.mk 6 (.vals [PV.agg [PV.q (↑(0 : Int) : Rat) 1, PV.q (↑(0 : Int) : Rat) 1]])), some (.mk 4 (.vals [PV.agg [PV.bl false, PV.q (↑(0 : Int) : Rat) 1]]))]) (LS.mk [PV.lst 3 (.rats 64 qs), PV.ptr 0 10 0 0 [], PV.ptr 1 6 0 0 [], PV.ptr 2 4 0 0 [], PV.nil, PV.lst 16 (.fn A.n fun (j : Nat) => PV.agg [PV.q (A.lk j).len 64, PV.q (A.lk j).low 64, PV.q (A.lk j).high 64, PV.q (A.lk j).spd 64, PV.q (A.lk j).brk 64, PV.lst 6 (.fn (A.lk j).np fun (a : Nat) => PV.agg [PV.q ((A.lk j).px a) 64, PV.q ((A.lk j).py a) 64])]), PV.i .i64 (A.n : Int), PV.i .i64 0] [some (.mk 10 (.vals [PV.agg [PV.agg [PV.q A.bx 64, PV.q A.by_ 64], PV.agg [PV.bl false, PV.q A.t 64]]])), some (.mk 6 (.vals [PV.agg [PV.q (↑(0 : Int) : Rat) 1, PV.q (↑(0 : Int) : Rat) 1]])), some (.mk 4 (.vals [PV.agg [PV.bl false, PV.q (↑(0 : Int) : Rat) 1]]))]))) (.br (((3 : Nat) + [frP e 18985 1429].length).ble 4294967296) (.ok (.ret (PV.tup [PV.fr 10 (.vals [frP f0 64 259, frP f1 2211 649, frP f2 7478 1429, frP e 18985 1429]), PV.i .i64 0]) [])) (.no 16003)) (.no 1)) (.no 1)) (.no 1)) (.no 1)) (.no 1))) (.no 1) := by kernel_rfl
def fstep (q : Rat) (E : Fr) : Fr := ⟨E.x, E.y, thH E.h E.t false q, thT E.h E.t false q⟩
def estep (L : Rat) (F : Fr) : Fr := ⟨F.x + L * qD F.h F.t, F.y + L * qv F.h F.t, F.h, ftT F.h F.t⟩
def endR (b : Fr) (q L : Nat -> Rat) : Nat -> Fr
 | 0 => b
 | i + 1 => estep (L i) (fstep (q i) (endR b q L i))
def frmF (b : Fr) (q L : Nat -> Rat) (i : Nat) : Fr := fstep (q i) (endR b q L i)
def allF (b : Fr) (q L : Nat -> Rat) (n i : Nat) : Fr := if i < n then frmF b q L i else endR b q L n
include hG in
theorem orc39 (hT : qr G) : OrcOK prog G O39 := .cons (gk50 hG hT) (.cons (gk51 hG hT) (.cons (gk71 hG) (.cons (ok85 hG) .nil)))
def qf (qs : List Rat) (i : Nat) : Rat := qs.getD i 0
def bsF (A : Am) : Fr := ⟨A.bx, A.by_, false, A.t⟩
def Fq (qs : List Rat) (lk : Nat -> Lk) (b : Fr) (i : Nat) : Fr := frmF b (qf qs) (fun j => (lk j).len) i
def Eq' (qs : List Rat) (lk : Nat -> Lk) (b : Fr) (i : Nat) : Fr := endR b (qf qs) (fun j => (lk j).len) i
section
variable (qs : List Rat) (n : Nat) (lk : Nat -> Lk) (b : Fr)
include hG in
theorem r39_0 (hT : qr G) (hb : b.h = false) (hn : 1 <= n) (hq : qs.length = n) : Rnd prog G f13.ntmps 0 [1, 7, 8, 9, 10, 29, 30, 31] b39 (n39 qs n lk b.x b.y b.t 0) .normal (x39 qs n lk [frP (Fq qs lk b 0) 64 259] 1 (Eq' qs lk b 1).x (Eq' qs lk b 1).y (Eq' qs lk b 1).h (Eq' qs lk b 1).t 2211 259 1) := by
 refine qb hG (orc39 hG hT) mix (L := []) (pol := pol39) (O := O39) (k9 (by kernel_rfl)) (Nat.zero_le _) ?_
 rw [t39n, k5 (kE (by omega)), k5 (by simp only [kA, kD]; omega), k5 (by simp only [kA, kD]; omega), k5 (by decide), k5 (decP_iff.2 ⟨rfl, rfl, by decide, by decide⟩), k5 (by decide), k5 (by simp), k5 (by decide),
  k5 (decP_iff.2 ⟨rfl, by decide, by decide, by decide⟩), k5 (decP_iff.2 ⟨rfl, rfl, by decide⟩), k5 (by decide), k7]
 obtain ⟨bx, by_, bh, bt⟩ := b
 simp only at hb
 subst hb
 rfl
include hG in
theorem r39_1 (hT : qr G) (hn : 2 <= n) (hq : qs.length = n) : Rnd prog G f13.ntmps 0 [1, 7, 8, 9, 10, 29, 30, 31] b39 (x39 qs n lk [frP (Fq qs lk b 0) 64 259] 1 (Eq' qs lk b 1).x (Eq' qs lk b 1).y (Eq' qs lk b 1).h (Eq' qs lk b 1).t 2211 259 1) .normal
  (x39 qs n lk [frP (Fq qs lk b 0) 64 259, frP (Fq qs lk b 1) 2211 649] 2 (Eq' qs lk b 2).x (Eq' qs lk b 2).y (Eq' qs lk b 2).h (Eq' qs lk b 2).t 7478 649 2) := by
 refine qb hG (orc39 hG hT) mix (L := []) (pol := pol39) (O := O39) (k9 (by kernel_rfl)) (Nat.zero_le _) ?_
 rw [t39a, k5 (kE (by omega)), k5 (by simp only [kA, kD]; omega), k5 (by simp only [kA, kD]; omega), k5 (by decide), k5 (decP_iff.2 ⟨rfl, rfl, by decide, by decide⟩), k5 (by decide), k5 (by simp), k5 (by decide),
  k5 (decP_iff.2 ⟨rfl, by decide, by decide, by decide⟩), k5 (decP_iff.2 ⟨rfl, rfl, by decide⟩), k5 (by decide), k7]
 rfl
include hG in
theorem r39_2 (hT : qr G) (hn : 3 <= n) (hq : qs.length = n) : Rnd prog G f13.ntmps 0 [1, 7, 8, 9, 10, 29, 30, 31] b39 (x39 qs n lk [frP (Fq qs lk b 0) 64 259, frP (Fq qs lk b 1) 2211 649] 2 (Eq' qs lk b 2).x (Eq' qs lk b 2).y (Eq' qs lk b 2).h (Eq' qs lk b 2).t 7478 649 2) .normal
  (x39 qs n lk [frP (Fq qs lk b 0) 64 259, frP (Fq qs lk b 1) 2211 649, frP (Fq qs lk b 2) 7478 1429] 3 (Eq' qs lk b 3).x (Eq' qs lk b 3).y (Eq' qs lk b 3).h (Eq' qs lk b 3).t 18985 1429 3) := by
 refine qb hG (orc39 hG hT) mix (L := []) (pol := pol39) (O := O39) (k9 (by kernel_rfl)) (Nat.zero_le _) ?_
 rw [t39b, k5 (kE (by omega)), k5 (by simp only [kA, kD]; omega), k5 (by simp only [kA, kD]; omega), k5 (by decide), k5 (decP_iff.2 ⟨rfl, rfl, by decide, by decide⟩), k5 (by decide), k5 (by simp), k5 (by decide),
  k5 (decP_iff.2 ⟨rfl, by decide, by decide, by decide⟩), k5 (decP_iff.2 ⟨rfl, rfl, by decide⟩), k5 (by decide), k7]
 rfl
end
def frs (A : Am) (qs : List Rat) : Cont := .fn (A.n + 1) (fun i => frP (allF (bsF A) (qf qs) (fun j => (A.lk j).len) A.n i) 20000 1500)
def P39 (arm : PV) (qs : List Rat) : Prop := okA arm /\ qs.length = (dArm arm).n
def g39 : Spec := fun args hs K => match args, hs with
 | [arm, .lst 3 (.rats w qs)], [] => .br (qe (P39 arm qs /\ w = 64)) (K (.tup [.fr 10 (frs (dArm arm) qs), .i .i64 0]) []) (.no 1)
 | _, _ => .no 1
theorem frP_le {f g : Fr} (h : f = g) {a b c d : Nat} (h1 : a <= c) (h2 : b <= d) : VLe (frP f a b) (frP g c d) := by
 subst h
 exact VLe.agg (vllc (VLe.agg (vllc (vle_qm h1) (vllc (vle_qm h1) vll0))) (vllc (VLe.agg (vllc (.refl _) (vllc (vle_qm h2) vll0))) vll0))
theorem frs_le0 (e n : Nat) (f : Nat -> PV) (vs : List PV) (hl : vs.length = n) (h : ∀ (i : Nat) (v : PV), vs[i]? = some v -> noRef 8 v = true /\ VLe v (f i)) :
  RLe (.tup [.fr e (.vals vs), .i .i64 0]) (.tup [.fr e (.fn n f), .i .i64 0]) := by
 subst hl
 exact ⟨fun m => .refl _, fun m => KsLe.one (KLe.fn rfl h)⟩
theorem frs_le (A : Am) (qs : List Rat) (vs : List PV) (hl : vs.length = A.n + 1) (h : ∀ (i : Nat) (v : PV), vs[i]? = some v -> noRef 8 v = true /\ VLe v (frP (allF (bsF A) (qf qs) (fun j => (A.lk j).len) A.n i) 20000 1500)) :
  RLe (.tup [.fr 10 (.vals vs), .i .i64 0]) (.tup [.fr 10 (frs A qs), .i .i64 0]) := frs_le0 _ _ _ vs hl h
section
variable (qs : List Rat) (n : Nat) (lk : Nat -> Lk) (b : Fr)
include hG in
theorem goes39a (hT : qr G) (hb : b.h = false) (hn : n = 1) (hq : qs.length = n) : Goes (Rnd prog G f13.ntmps 0 [1, 7, 8, 9, 10, 29, 30, 31] b39) (n39 qs n lk b.x b.y b.t 0) (.exit 0) (x39 qs n lk [frP (Fq qs lk b 0) 64 259] 1 (Eq' qs lk b 1).x (Eq' qs lk b 1).y (Eq' qs lk b 1).h (Eq' qs lk b 1).t 2211 259 1) := by
 refine .more _ _ _ _ (r39_0 hG qs n lk b hT hb (by omega) hq) (.last _ _ _ (qb hG (orc39 hG hT) mix (L := []) (pol := pol39) (O := O39) (k9 (by kernel_rfl)) (Nat.zero_le _) ?_) (by simp))
 rw [t39a, k6 (kF (by omega)), k7]
 rfl
include hG in
theorem goes39b (hT : qr G) (hb : b.h = false) (hn : n = 2) (hq : qs.length = n) : Goes (Rnd prog G f13.ntmps 0 [1, 7, 8, 9, 10, 29, 30, 31] b39) (n39 qs n lk b.x b.y b.t 0) (.exit 0) (x39 qs n lk [frP (Fq qs lk b 0) 64 259, frP (Fq qs lk b 1) 2211 649] 2 (Eq' qs lk b 2).x (Eq' qs lk b 2).y (Eq' qs lk b 2).h (Eq' qs lk b 2).t 7478 649 2) := by
 refine .more _ _ _ _ (r39_0 hG qs n lk b hT hb (by omega) hq) (.more _ _ _ _ (r39_1 hG qs n lk b hT (by omega) hq) (.last _ _ _ (qb hG (orc39 hG hT) mix (L := []) (pol := pol39) (O := O39) (k9 (by kernel_rfl)) (Nat.zero_le _) ?_) (by simp)))
 rw [t39b, k6 (kF (by omega)), k7]
 rfl
include hG in
theorem goes39c (hT : qr G) (hb : b.h = false) (hn : n = 3) (hq : qs.length = n) : Goes (Rnd prog G f13.ntmps 0 [1, 7, 8, 9, 10, 29, 30, 31] b39) (n39 qs n lk b.x b.y b.t 0) (.exit 0) (x39 qs n lk [frP (Fq qs lk b 0) 64 259, frP (Fq qs lk b 1) 2211 649, frP (Fq qs lk b 2) 7478 1429] 3 (Eq' qs lk b 3).x (Eq' qs lk b 3).y (Eq' qs lk b 3).h (Eq' qs lk b 3).t 18985 1429 3) := by
 refine .more _ _ _ _ (r39_0 hG qs n lk b hT hb (by omega) hq) (.more _ _ _ _ (r39_1 hG qs n lk b hT (by omega) hq) (.more _ _ _ _ (r39_2 hG qs n lk b hT (by omega) hq) (.last _ _ _ (qb hG (orc39 hG hT) mix (L := []) (pol := pol39) (O := O39) (k9 (by kernel_rfl)) (Nat.zero_le _) ?_) (by simp))))
 rw [t39c, k6 (kF (by omega)), k7]
 rfl
end
theorem allF_lt {b : Fr} {q L : Nat -> Rat} {n i : Nat} (h : i < n) : allF b q L n i = frmF b q L i := if_pos h
theorem allF_n {b : Fr} {q L : Nat -> Rat} {n : Nat} : allF b q L n n = endR b q L n := if_neg (Nat.lt_irrefl n)
include hG in
theorem gk39 (hT : qr G) : qc prog G 13 g39 := by
 intro args hs K x h
 unfold g39 at h
 split at h
 case h_2 => cases h
 rename_i arm w qs
 obtain ⟨hc, hr⟩ := k8 h
 obtain ⟨⟨⟨hv, hA⟩, hq⟩, rfl⟩ := decP_iff.1 hc
 generalize dArm arm = A at *
 obtain ⟨h1, h2, h3, h4, h5, h6, h7⟩ := armB_c hA
 have z0 : ((Int.natAbs (0 : Int)).log2 + 1).ble 400000 = true := by decide
 have hcs : A.n = 1 \/ A.n = 2 \/ A.n = 3 := by omega
 refine ⟨_, _, PC.args (.cons hv (.cons (.refl _) .nil)) ?_, hr⟩
 rcases hcs with hn | hn | hn
 ·have g := goes39a hG qs A.n A.lk (bsF A) hT rfl hn hq
  refine (qk hG (orc39 hG hT) mix enter39 (hs := []) (pol := pol39) (L := [(9, lcst (n39 qs A.n A.lk A.bx A.by_ A.t 0) (.exit 0) (x39 qs A.n A.lk [frP (Fq qs A.lk (bsF A) 0) 64 259] 1 (Eq' qs A.lk (bsF A) 1).x (Eq' qs A.lk (bsF A) 1).y (Eq' qs A.lk (bsF A) 1).h (Eq' qs A.lk (bsF A) 1).t 2211 259 1))]) (lps1 (b := b39) (live := [1, 7, 8, 9, 10, 29, 30, 31]) (m := 0) (by kernel_rfl) (by kernel_rfl) (by kernel_rfl) (lcst_ok g)) (r := .tup [.fr 10 (.vals [frP (Fq qs A.lk (bsF A) 0) 64 259, frP (Eq' qs A.lk (bsF A) 1) 2211 259]), .i .i64 0]) (hs' := []) ?_).le ?_ (.refl _)
  ·refine (congrArg Tr.run (e39a A qs (Fq qs A.lk (bsF A) 0) (Eq' qs A.lk (bsF A) 1) 1)).trans ?_
   rw [k5 (decP_iff.2 ⟨qz A, A, by first | (rw [hq]; done) | (rw [hq]; rfl), .refl _, hA⟩), k6 (by decide), k5 (by decide), k5 (by decide), k5 (by decide), k5 z0, k5 isLS_t, k5 (by simp), k7]
   all_goals rfl
  ·refine frs_le A qs _ (by rw [hn]; rfl) fun i v hi => ?_
   match i, hi with
   | 0, hi => simp at hi; subst hi; exact ⟨rfl, frP_le (by rw [hn, allF_lt (by omega)]; rfl) (by omega) (by omega)⟩
   | 1, hi => simp at hi; subst hi; exact ⟨rfl, frP_le (by rw [hn, allF_n]; rfl) (by omega) (by omega)⟩
   | i + 2, hi => simp at hi
 ·have g := goes39b hG qs A.n A.lk (bsF A) hT rfl hn hq
  refine (qk hG (orc39 hG hT) mix enter39 (hs := []) (pol := pol39) (L := [(9, lcst (n39 qs A.n A.lk A.bx A.by_ A.t 0) (.exit 0) (x39 qs A.n A.lk [frP (Fq qs A.lk (bsF A) 0) 64 259, frP (Fq qs A.lk (bsF A) 1) 2211 649] 2 (Eq' qs A.lk (bsF A) 2).x (Eq' qs A.lk (bsF A) 2).y (Eq' qs A.lk (bsF A) 2).h (Eq' qs A.lk (bsF A) 2).t 7478 649 2))]) (lps1 (b := b39) (live := [1, 7, 8, 9, 10, 29, 30, 31]) (m := 0) (by kernel_rfl) (by kernel_rfl) (by kernel_rfl) (lcst_ok g)) (r := .tup [.fr 10 (.vals [frP (Fq qs A.lk (bsF A) 0) 64 259, frP (Fq qs A.lk (bsF A) 1) 2211 649, frP (Eq' qs A.lk (bsF A) 2) 7478 649]), .i .i64 0]) (hs' := []) ?_).le ?_ (.refl _)
  ·refine (congrArg Tr.run (e39b A qs (Fq qs A.lk (bsF A) 0) (Fq qs A.lk (bsF A) 1) (Eq' qs A.lk (bsF A) 2) 2)).trans ?_
   rw [k5 (decP_iff.2 ⟨qz A, A, by first | (rw [hq]; done) | (rw [hq]; rfl), .refl _, hA⟩), k6 (by decide), k5 (by decide), k5 (by decide), k5 (by decide), k5 z0, k5 isLS_t, k5 (by simp), k7]
   all_goals rfl
  ·refine frs_le A qs _ (by rw [hn]; rfl) fun i v hi => ?_
   match i, hi with
   | 0, hi => simp at hi; subst hi; exact ⟨rfl, frP_le (by rw [hn, allF_lt (by omega)]; rfl) (by omega) (by omega)⟩
   | 1, hi => simp at hi; subst hi; exact ⟨rfl, frP_le (by rw [hn, allF_lt (by omega)]; rfl) (by omega) (by omega)⟩
   | 2, hi => simp at hi; subst hi; exact ⟨rfl, frP_le (by rw [hn, allF_n]; rfl) (by omega) (by omega)⟩
   | i + 3, hi => simp at hi
 ·have g := goes39c hG qs A.n A.lk (bsF A) hT rfl hn hq
  refine (qk hG (orc39 hG hT) mix enter39 (hs := []) (pol := pol39) (L := [(9, lcst (n39 qs A.n A.lk A.bx A.by_ A.t 0) (.exit 0) (x39 qs A.n A.lk [frP (Fq qs A.lk (bsF A) 0) 64 259, frP (Fq qs A.lk (bsF A) 1) 2211 649, frP (Fq qs A.lk (bsF A) 2) 7478 1429] 3 (Eq' qs A.lk (bsF A) 3).x (Eq' qs A.lk (bsF A) 3).y (Eq' qs A.lk (bsF A) 3).h (Eq' qs A.lk (bsF A) 3).t 18985 1429 3))]) (lps1 (b := b39) (live := [1, 7, 8, 9, 10, 29, 30, 31]) (m := 0) (by kernel_rfl) (by kernel_rfl) (by kernel_rfl) (lcst_ok g)) (r := .tup [.fr 10 (.vals [frP (Fq qs A.lk (bsF A) 0) 64 259, frP (Fq qs A.lk (bsF A) 1) 2211 649, frP (Fq qs A.lk (bsF A) 2) 7478 1429, frP (Eq' qs A.lk (bsF A) 3) 18985 1429]), .i .i64 0]) (hs' := []) ?_).le ?_ (.refl _)
  ·refine (congrArg Tr.run (e39c A qs (Fq qs A.lk (bsF A) 0) (Fq qs A.lk (bsF A) 1) (Fq qs A.lk (bsF A) 2) (Eq' qs A.lk (bsF A) 3) 3)).trans ?_
   rw [k5 (decP_iff.2 ⟨qz A, A, by first | (rw [hq]; done) | (rw [hq]; rfl), .refl _, hA⟩), k6 (by decide), k5 (by decide), k5 (by decide), k5 (by decide), k5 z0, k5 isLS_t, k5 (by simp), k7]
   all_goals rfl
  ·refine frs_le A qs _ (by rw [hn]; rfl) fun i v hi => ?_
   match i, hi with
   | 0, hi => simp at hi; subst hi; exact ⟨rfl, frP_le (by rw [hn, allF_lt (by omega)]; rfl) (by omega) (by omega)⟩
   | 1, hi => simp at hi; subst hi; exact ⟨rfl, frP_le (by rw [hn, allF_lt (by omega)]; rfl) (by omega) (by omega)⟩
   | 2, hi => simp at hi; subst hi; exact ⟨rfl, frP_le (by rw [hn, allF_lt (by omega)]; rfl) (by omega) (by omega)⟩
   | 3, hi => simp at hi; subst hi; exact ⟨rfl, frP_le (by rw [hn, allF_n]; rfl) (by omega) (by omega)⟩
   | i + 4, hi => simp at hi
end
section
open Go
set_option maxRecDepth 100000
variable {G : World -> (Nat -> Prop) -> Prop} (hG : GOk G)
theorem cf0_bd {l h : Rat} {k : Int} (hl : smX l = true) (hh : smX h = true) (h0 : 0 <= k) (h8 : k <= 8) : Prof.Bd (cf0 l h k) 30000000 8000000 := by
 obtain ⟨a1, a2⟩ := smX_iff.1 hl
 obtain ⟨a3, a4⟩ := smX_iff.1 hh
 have d1 := l.den_pos
 have d2 := h.den_pos
 have b1 : ((8 : Int) * l.num * (h.den : Int)).natAbs <= 8 * 1000 * 1000 := nabs_mul (nabs_mul (by omega) (by omega)) (by omega)
 have b2 : (h.num * (l.den : Int)).natAbs <= 1000 * 1000 := nabs_mul (by omega) (by omega)
 have b3 : (l.num * (h.den : Int)).natAbs <= 1000 * 1000 := nabs_mul (by omega) (by omega)
 have b4 : ((h.num * (l.den : Int) - l.num * (h.den : Int)) * k).natAbs <= 2000000 * 8 := nabs_mul (by omega) (by omega)
 have b5 : ((8 : Int) * (l.den : Int) * (h.den : Int)).natAbs <= 8 * 1000 * 1000 := nabs_mul (nabs_mul (by omega) (by omega)) (by omega)
 have b6 : 0 < (8 : Int) * (l.den : Int) * (h.den : Int) := Int.mul_pos (by omega) (by omega)
 exact ⟨Nat.le_trans (mkRat_num_le _ (by omega)) (by omega), Nat.le_trans (mkRat_den_le _ (by omega)) (by omega)⟩
theorem getD_map_range (f : Nat -> Rat) {n j : Nat} (h : j < n) : ((List.range n).map f).getD j 0 = f j := by
 rw [List.getD_eq_getElem?_getD, List.getElem?_map, List.getElem?_range h]; rfl
theorem limX_j {A : Am} (h : limX A = true) {j : Nat} (hj : j < A.n) : smX (A.lk j).low = true /\ smX (A.lk j).high = true := by
 have := List.all_eq_true.1 h j (List.mem_range.2 hj)
 rwa [kA] at this
theorem cfL_bd {A : Am} {m : PV} (h : limX A = true) {j : Nat} (hj : j < A.n) : Prof.Bd ((cfL A.lk m A.n).getD j 0) 30000000 8000000 := by
 unfold cfL
 rw [getD_map_range _ hj]
 have g := qB (itRs j m) (show (0 : Int) < 9 by omega)
 exact cf0_bd (limX_j h hj).1 (limX_j h hj).2 g.1 (by omega)
theorem limX_V (v : PV) : limX (armD v) = true := by
 refine List.all_eq_true.2 fun j _ => ?_
 rw [kA]
 have small : ∀ (n : Int), n.natAbs < 1000 -> smX (mkRat n (Int.toNat 3)) = true := fun n hn => smX_iff.2 ⟨Nat.lt_of_le_of_lt (mkRat_num_le n (by decide)) hn, Nat.lt_of_le_of_lt (mkRat_den_le n (by decide)) (by decide)⟩
 have g1 := qB (rs (itR6 j (rs (rs (rs v))))) (show (0 : Int) < 6 by omega)
 have g2 := qB (rs (rs (itR6 j (rs (rs (rs v)))))) (show (0 : Int) < 6 by omega)
 exact ⟨small _ (by omega), small _ (by omega)⟩
theorem cst_t {P : Program} {G : World -> (Nat -> Prop) -> Prop} {g : Nat} {as' : List PV} {r : PV} (h : PC P G g as' [] r []) : qc P G g (cst as' True r) := cst_ok fun _ => h
theorem cos_sin (h : Bool) (t : Rat) : qD h t * qD h t + qv h t * qv h t = 1 := by
 rw [qD, qv, qd, qd]
 cases h
 ·simp only [Bool.false_eq_true, if_false]
  have h0 := sq_pos1 t
  generalize hd : 1 + t * t = d at *
  have e1 : (1 - t * t) / d * ((1 - t * t) / d) + (t + t) / d * ((t + t) / d) = ((1 - t * t) * (1 - t * t) + (t + t) * (t + t)) / (d * d) := by grind
  have e2 : (1 - t * t) * (1 - t * t) + (t + t) * (t + t) = d * d := by grind
  rw [e1, e2]
  rw [Rat.div_def]
  exact Rat.mul_inv_cancel _ (fun h => h0 (by rcases Rat.mul_eq_zero.1 h with h | h <;> exact h))
 ·simp only [if_true]
  grind
include hG in
theorem pc39 (hT : qr G) (A : Am) (hA : armB A = true) (qs : List Rat) (hq : qs.length = A.n) :
  PC Tryz.prog G 13 [qz A, .lst 3 (.rats 64 qs)] [] (.tup [.fr 10 (.fn (A.n + 1) (fun i => frP (allF (bsF A) (qf qs) (fun j => (A.lk j).len) A.n i) 20000 1500)), .i .i64 0]) [] := by
 obtain ⟨r, hs', p, e⟩ := gk39 hG hT [qz A, .lst 3 (.rats 64 qs)] [] (fun r hs' => .ok (.ret r hs')) (.ret (.tup [.fr 10 (frs A qs), .i .i64 0]) []) (by
  show (Tr.br _ _ _).run = _
  rw [k5 (decP_iff.2 ⟨⟨okA_arm hA, hq⟩, rfl⟩)]; rfl)
 cases e
 exact p
end
section
open Go
theorem sq_le_of {x y : Rat} (hy : 0 <= y) (h : x * x <= y * y) : x <= y := by
 rcases Rat.le_total (a := x) (b := y) with g | g
 ·exact g
 ·rcases Rat.le_iff_lt_or_eq.1 g with k | k
  ·have h1 : 0 < (x - y) * (x + y) := Rat.mul_pos (by grind) (by grind)
   grind
  ·rw [k]; exact Rat.le_refl
theorem sq_le_sq {x y : Rat} (hx : 0 <= x) (h : x <= y) : x * x <= y * y := by
 have h1 : 0 <= (y - x) * (y + x) := Rat.mul_nonneg (by grind) (by grind)
 grind
theorem sq_nn (x : Rat) : 0 <= x * x := by
 rcases Rat.le_total (a := 0) (b := x) with g | g
 ·exact Rat.mul_nonneg g g
 ·have := Rat.mul_nonneg (a := -x) (b := -x) (by grind) (by grind)
  grind
end
section
open Go Tryz
set_option maxRecDepth 100000
variable {G : World -> (Nat -> Prop) -> Prop} (hG : GOk G)
theorem ArgsLe.ofL : ∀ {us vs : List PV}, VLeL us vs -> ArgsLe us vs
 | [], [], _ => .nil
 | [], v :: vs, h => by have := h.1; simp at this
 | u :: us, [], h => by have := h.1; simp at this
 | u :: us, v :: vs, h => .cons (h.2 0 u v rfl rfl) (ArgsLe.ofL ⟨by have := h.1; simpa using this, fun j a b e1 e2 => h.2 (j + 1) a b e1 e2⟩)
theorem VLe.tup {us vs : List PV} (h : VLeL us vs) : VLe (.tup us) (.tup vs) := by
 refine ⟨rfl, fun w S μ => ⟨fun cs hc => (by cases hc), fun x hx => ?_⟩⟩
 cases hx with
 | cell _ _ _ _ hc => cases hc
 | agg _ _ _ hv _ => cases hv
 | tup _ _ xs hl => exact .tup _ _ _ (ArgsLe.ofL h w S μ xs hl)
def mxR (x y : Rat) : Rat := if y <= x then x else y
def mnR (x y : Rat) : Rat := if x <= y then x else y

theorem k86 (x y : Rat) (n m : Nat) : evF prog [(57, g27), (64, g74)] [] {} f27 [.q x n, .q y m] [] qm =
 Tr.br ((n + m).ble 800000) (.br (decide ((0 : Int) <= rcmp x y)) (.br (n.ble 800000) (.ok (.ret (.q x n) [])) (.no 1)) (.br (m.ble 800000) (.ok (.ret (.q y m) [])) (.no 1))) (.no 1) := by kernel_rfl
theorem k80m (x y : Rat) (n m : Nat) : evF prog [(57, g27), (64, g74)] [] {} f48 [.q x n, .q y m] [] qm =
 Tr.br ((n + m).ble 800000) (.br (decide (rcmp x y <= 0)) (.br (n.ble 800000) (.ok (.ret (.q x n) [])) (.no 1)) (.br (m.ble 800000) (.ok (.ret (.q y m) [])) (.no 1))) (.no 1) := by kernel_rfl
def g86 : Spec := fun args hs K => match args, hs with
 | [.q x n, .q y m], [] => .br (Nat.ble (n + m) 400000) (K (.q (mxR x y) (Nat.max n m)) []) (.no 1)
 | _, _ => .no 1
def g80 : Spec := fun args hs K => match args, hs with
 | [.q x n, .q y m], [] => .br (Nat.ble (n + m) 400000) (K (.q (mnR x y) (Nat.max n m)) []) (.no 1)
 | _, _ => .no 1
include hG in
theorem gk86 (hT : qr G) : qc prog G 27 g86 := by
 refine qo hG (orcg80 hG hT) mix enter86 (L := []) (pol := {}) fun args hs K x h => ?_
 unfold g86 at h
 split at h
 case h_2 => cases h
 rename_i x n y m
 obtain ⟨hc, hr⟩ := k8 h
 rw [kG] at hc
 by_cases g : y <= x
 ·refine ⟨k9 (by kernel_rfl), _, _, _, ?_, q_rle (x := x) (n := n) (by rw [mxR, if_pos g]) (Nat.le_max_left n m), hr⟩
  rw [k86, k5 (by rw [kG]; omega), k5 (kE (rcmp_ge.2 g)), k5 (by rw [kG]; omega), k7]
 ·refine ⟨k9 (by kernel_rfl), _, _, _, ?_, q_rle (x := y) (n := m) (by rw [mxR, if_neg g]) (Nat.le_max_right n m), hr⟩
  rw [k86, k5 (by rw [kG]; omega), k6 (kF fun h => g (rcmp_ge.1 h)), k5 (by rw [kG]; omega), k7]
include hG in
theorem gk80 (hT : qr G) : qc prog G 48 g80 := by
 refine qo hG (orcg80 hG hT) mix enter80 (L := []) (pol := {}) fun args hs K x h => ?_
 unfold g80 at h
 split at h
 case h_2 => cases h
 rename_i x n y m
 obtain ⟨hc, hr⟩ := k8 h
 rw [kG] at hc
 by_cases g : x <= y
 ·refine ⟨k9 (by kernel_rfl), _, _, _, ?_, q_rle (x := x) (n := n) (by rw [mnR, if_pos g]) (Nat.le_max_left n m), hr⟩
  rw [k80m, k5 (by rw [kG]; omega), k5 (kE (rcmp_le.2 g)), k5 (by rw [kG]; omega), k7]
 ·refine ⟨k9 (by kernel_rfl), _, _, _, ?_, q_rle (x := y) (n := m) (by rw [mnR, if_neg g]) (Nat.le_max_right n m), hr⟩
  rw [k80m, k5 (by rw [kG]; omega), k6 (kF fun h => g (rcmp_le.1 h)), k5 (by rw [kG]; omega), k7]
end
section
open Go
set_option maxRecDepth 100000
theorem q_dd {a b c : Rat} (hb : ¬ b = 0) (hc : ¬ c = 0) : a / c / (b / c) = a / b := by grind
theorem q_sub {a b c e p q : Rat} (hp : ¬ p = 0) (hq : ¬ q = 0) : a / p * (b / q) - c / p * (e / q) = (a * b - c * e) / (p * q) := by grind
theorem q_add {a b c e p q : Rat} (hp : ¬ p = 0) (hq : ¬ q = 0) : a / p * (b / q) + c / p * (e / q) = (a * b + c * e) / (p * q) := by grind
theorem q_sq1 {n d : Rat} (hd : ¬ d = 0) : 1 + n / d * (n / d) = (d * d + n * n) / (d * d) /\ 1 - n / d * (n / d) = (d * d - n * n) / (d * d) /\ n / d + n / d = (n + n) * d / (d * d) := by
 refine ⟨?_, ?_, ?_⟩ <;> grind
theorem q_cos {n d : Rat} (hd : ¬ d = 0) (hD : ¬ d * d + n * n = 0) : (1 - n / d * (n / d)) / (1 + n / d * (n / d)) = (d * d - n * n) / (d * d + n * n) /\ (n / d + n / d) / (1 + n / d * (n / d)) = (n + n) * d / (d * d + n * n) := by
 obtain ⟨e1, e2, e3⟩ := q_sq1 (n := n) hd
 have h2 : ¬ d * d = 0 := fun h => (Rat.mul_eq_zero.1 h).elim hd hd
 rw [e1, e2, e3]
 exact ⟨q_dd hD h2, q_dd hD h2⟩
theorem then_cs (h : Bool) (t : Rat) (g : Bool) (s : Rat) :
  qD (thH h t g s) (thT h t g s) = qD h t * qD g s - qv h t * qv g s /\ qv (thH h t g s) (thT h t g s) = qv h t * qD g s + qD h t * qv g s := by
 have ht := sq_pos1 t
 have hs := sq_pos1 s
 have mz : ∀ x y : Rat, ¬ x = 0 -> ¬ y = 0 -> ¬ x * y = 0 := fun x y hx hy h => (Rat.mul_eq_zero.1 h).elim hx hy
 have hD := mz _ _ ht hs
 simp only [qD, qv, thH, thT, qd]
 cases h <;> cases g <;> simp only [Bool.false_eq_true, if_false, if_true, kD]
 ·rw [q_sub ht hs, q_add ht hs]
  by_cases h0 : 1 - t * s = 0
  ·rw [if_pos h0, if_pos h0]
   have e : t * s = 1 := by grind
   rw [show (1 - t * t) * (1 - s * s) - (t + t) * (s + s) = -((1 + t * t) * (1 + s * s)) by grind, show (t + t) * (1 - s * s) + (1 - t * t) * (s + s) = 0 by grind]
   generalize (1 + t * t) * (1 + s * s) = D at *
   constructor <;> grind
  ·rw [if_neg h0, if_neg h0, if_neg h0]
   have hE : (1 - t * s) * (1 - t * s) + (t + s) * (t + s) = (1 + t * t) * (1 + s * s) := by grind
   obtain ⟨e1, e2⟩ := q_cos (n := t + s) (d := 1 - t * s) h0 (by rw [hE]; exact hD)
   rw [e1, e2, hE]
   rw [show (1 - t * s) * (1 - t * s) - (t + s) * (t + s) = (1 - t * t) * (1 - s * s) - (t + t) * (s + s) by grind, show (t + s + (t + s)) * (1 - t * s) = (t + t) * (1 - s * s) + (1 - t * t) * (s + s) by grind]
   exact ⟨rfl, rfl⟩
 ·by_cases h0 : t = 0
  ·subst h0
   simp only [if_true]
   constructor <;> grind
  ·simp only [if_neg h0]
   have hE : t * t + -1 * -1 = 1 + t * t := by grind
   obtain ⟨e1, e2⟩ := q_cos (n := -1) (d := t) h0 (by rw [hE]; exact ht)
   rw [e1, e2, hE]
   generalize 1 + t * t = D at *
   constructor <;> grind
 ·by_cases h0 : s = 0
  ·subst h0
   simp only [if_true]
   constructor <;> grind
  ·simp only [if_neg h0]
   have hE : s * s + -1 * -1 = 1 + s * s := by grind
   obtain ⟨e1, e2⟩ := q_cos (n := -1) (d := s) h0 (by rw [hE]; exact hs)
   rw [e1, e2, hE]
   generalize 1 + s * s = D at *
   constructor <;> grind
 ·constructor <;> grind
theorem th_norm (h : Bool) (t : Rat) (g : Bool) (s : Rat) : thH h t g s = true -> thT h t g s = 0 := by
 rw [thH, thT, qd, qd]
 cases h <;> cases g <;> simp only [Bool.false_eq_true, if_false, if_true, kD]
 ·intro h; rw [if_pos h]
 ·intro h; rw [if_pos h]
 ·intro h; rw [if_pos h]
 ·exact fun h => h.elim
theorem ft_of {h : Bool} {t : Rat} (n : h = true -> t = 0) : ftT h t = t := by
 rw [ftT, qd]
 cases h
 ·rfl
 ·exact (n rfl).symm
structure Sp where
 lo : Rat
 hi : Rat
 ok : lo <= hi
def Sp.has (s : Sp) (x : Rat) : Prop := s.lo <= x /\ x <= s.hi
def Sp.win (s t : Sp) : Prop := t.lo <= s.lo /\ s.hi <= t.hi
theorem Sp.has_lo (s : Sp) : s.has s.lo := ⟨Rat.le_refl, s.ok⟩
theorem Sp.win_has {s t : Sp} {x : Rat} (h : s.win t) (hx : s.has x) : t.has x := ⟨Rat.le_trans h.1 hx.1, Rat.le_trans hx.2 h.2⟩
theorem Sp.win_refl (s : Sp) : s.win s := ⟨Rat.le_refl, Rat.le_refl⟩
def qj (a b : Rat) : Sp := if h : a <= b then ⟨a, b, h⟩ else ⟨0, 0, Rat.le_refl⟩
theorem qI (s : Sp) : qj s.lo s.hi = s := by unfold qj; rw [dif_pos s.ok]
theorem fitS_lo {a b : Rat} (h : a <= b) : (qj a b).lo = a := by unfold qj; rw [dif_pos h]
theorem fitS_hi {a b : Rat} (h : a <= b) : (qj a b).hi = b := by unfold qj; rw [dif_pos h]
def ofS (x : Rat) : Sp := ⟨x, x, Rat.le_refl⟩
theorem ofS_has (x : Rat) : (ofS x).has x := ⟨Rat.le_refl, Rat.le_refl⟩
theorem mnR_l (a b : Rat) : mnR a b <= a := by unfold mnR; split <;> grind
theorem mnR_r (a b : Rat) : mnR a b <= b := by unfold mnR; split <;> grind
theorem le_mnR {a b x : Rat} (h : x <= a) (h' : x <= b) : x <= mnR a b := by unfold mnR; split <;> assumption
theorem mxR_l (a b : Rat) : a <= mxR a b := by unfold mxR; split <;> grind
theorem mxR_r (a b : Rat) : b <= mxR a b := by unfold mxR; split <;> grind
theorem mxR_le {a b x : Rat} (h : a <= x) (h' : b <= x) : mxR a b <= x := by unfold mxR; split <;> assumption
theorem mn_mx (a b : Rat) : mnR a b <= mxR a b := Rat.le_trans (mnR_l a b) (mxR_l a b)
def addS (A B : Sp) : Sp := ⟨A.lo + B.lo, A.hi + B.hi, by have := A.ok; have := B.ok; grind⟩
def subS (A B : Sp) : Sp := ⟨A.lo - B.hi, A.hi - B.lo, by have := A.ok; have := B.ok; grind⟩
theorem add_has {A B : Sp} {x y : Rat} (hx : A.has x) (hy : B.has y) : (addS A B).has (x + y) := by
 obtain ⟨a, b⟩ := hx; obtain ⟨c, d⟩ := hy
 show A.lo + B.lo <= x + y /\ x + y <= A.hi + B.hi
 constructor <;> grind
theorem sub_has {A B : Sp} {x y : Rat} (hx : A.has x) (hy : B.has y) : (subS A B).has (x - y) := by
 obtain ⟨a, b⟩ := hx; obtain ⟨c, d⟩ := hy
 show A.lo - B.hi <= x - y /\ x - y <= A.hi - B.lo
 constructor <;> grind
theorem lin_lo {a c d y m : Rat} (h1 : c <= y) (h2 : y <= d) (h3 : m <= a * c) (h4 : m <= a * d) : m <= a * y := by
 rcases Rat.le_total (a := 0) (b := a) with h | h
 ·exact Rat.le_trans h3 (Rat.mul_le_mul_of_nonneg_left h1 h)
 ·have := Rat.mul_le_mul_of_nonneg_left (c := -a) h2 (by grind)
  grind
theorem lin_hi {a c d y m : Rat} (h1 : c <= y) (h2 : y <= d) (h3 : a * c <= m) (h4 : a * d <= m) : a * y <= m := by
 rcases Rat.le_total (a := 0) (b := a) with h | h
 ·exact Rat.le_trans (Rat.mul_le_mul_of_nonneg_left h2 h) h4
 ·have := Rat.mul_le_mul_of_nonneg_left (c := -a) h1 (by grind)
  grind
def spmL (A B : Sp) : Rat := mnR (mnR (mnR (A.lo * B.lo) (A.lo * B.hi)) (A.hi * B.lo)) (A.hi * B.hi)
def spmH (A B : Sp) : Rat := mxR (mxR (mxR (A.lo * B.lo) (A.lo * B.hi)) (A.hi * B.lo)) (A.hi * B.hi)
theorem spmL_le (A B : Sp) : spmL A B <= A.lo * B.lo /\ spmL A B <= A.lo * B.hi /\ spmL A B <= A.hi * B.lo /\ spmL A B <= A.hi * B.hi := by
 have h1 := mnR_l (mnR (mnR (A.lo * B.lo) (A.lo * B.hi)) (A.hi * B.lo)) (A.hi * B.hi)
 have h2 := mnR_l (mnR (A.lo * B.lo) (A.lo * B.hi)) (A.hi * B.lo)
 exact ⟨Rat.le_trans h1 (Rat.le_trans h2 (mnR_l _ _)), Rat.le_trans h1 (Rat.le_trans h2 (mnR_r _ _)), Rat.le_trans h1 (mnR_r _ _), mnR_r _ _⟩
theorem le_spmH (A B : Sp) : A.lo * B.lo <= spmH A B /\ A.lo * B.hi <= spmH A B /\ A.hi * B.lo <= spmH A B /\ A.hi * B.hi <= spmH A B := by
 have h1 := mxR_l (mxR (mxR (A.lo * B.lo) (A.lo * B.hi)) (A.hi * B.lo)) (A.hi * B.hi)
 have h2 := mxR_l (mxR (A.lo * B.lo) (A.lo * B.hi)) (A.hi * B.lo)
 exact ⟨Rat.le_trans (mxR_l _ _) (Rat.le_trans h2 h1), Rat.le_trans (mxR_r _ _) (Rat.le_trans h2 h1), Rat.le_trans (mxR_r _ _) h1, mxR_r _ _⟩
def qF (A B : Sp) : Sp := ⟨spmL A B, spmH A B, Rat.le_trans (spmL_le A B).1 (le_spmH A B).1⟩
theorem mul_has {A B : Sp} {x y : Rat} (hx : A.has x) (hy : B.has y) : (qF A B).has (x * y) := by
 obtain ⟨a, b⟩ := hx; obtain ⟨c, d⟩ := hy
 obtain ⟨l1, l2, l3, l4⟩ := spmL_le A B
 obtain ⟨u1, u2, u3, u4⟩ := le_spmH A B
 constructor
 ·have e1 := lin_lo c d l1 l2
  have e2 := lin_lo c d l3 l4
  rw [Rat.mul_comm] at e1 e2 ⊢
  exact lin_lo a b e1 e2
 ·have e1 := lin_hi c d u1 u2
  have e2 := lin_hi c d u3 u4
  rw [Rat.mul_comm] at e1 e2 ⊢
  exact lin_hi a b e1 e2
def sqL (A : Sp) : Rat := if A.lo <= 0 /\ 0 <= A.hi then 0 else mnR (A.lo * A.lo) (A.hi * A.hi)
theorem sqL_nn (A : Sp) : 0 <= sqL A := by
 unfold sqL
 split
 ·exact Rat.le_refl
 ·exact le_mnR (sq_nn _) (sq_nn _)
theorem sq_bd {A : Sp} {x : Rat} (hx : A.has x) : sqL A <= x * x /\ x * x <= mxR (A.lo * A.lo) (A.hi * A.hi) := by
 obtain ⟨a, b⟩ := hx
 constructor
 ·unfold sqL
  split
  ·exact sq_nn x
  ·rename_i h
   rcases Rat.le_total (a := A.lo) (b := 0) with g | g
   ·have h2 : A.hi <= 0 := by
     rcases Rat.le_total (a := A.hi) (b := 0) with k | k
     ·exact k
     ·exact absurd ⟨g, k⟩ h
    have := sq_le_sq (x := -A.hi) (y := -x) (by grind) (by grind)
    exact Rat.le_trans (mnR_r _ _) (by grind)
   ·exact Rat.le_trans (mnR_l _ _) (sq_le_sq g a)
 ·rcases Rat.le_total (a := 0) (b := x) with g | g
  ·exact Rat.le_trans (sq_le_sq g b) (mxR_r _ _)
  ·have := sq_le_sq (x := -x) (y := -A.lo) (by grind) (by grind)
   exact Rat.le_trans (by grind) (mxR_l (A.lo * A.lo) (A.hi * A.hi))
def sqS (A : Sp) : Sp := ⟨sqL A, mxR (A.lo * A.lo) (A.hi * A.hi), Rat.le_trans (sq_bd A.has_lo).1 (sq_bd A.has_lo).2⟩
theorem sq_has {A : Sp} {x : Rat} (hx : A.has x) : (sqS A).has (x * x) := sq_bd hx
theorem div_le {x y d e : Rat} (hd : 0 < d) (he : 0 < e) (h : x * e <= y * d) : x / d <= y / e := by
 have hd0 : ¬ d = 0 := fun h => by rw [h] at hd; exact absurd hd (by decide)
 have he0 : ¬ e = 0 := fun h => by rw [h] at he; exact absurd he (by decide)
 have h1 : (d * e) * (x / d) = x * e := by grind
 have h2 : (d * e) * (y / e) = y * d := by grind
 exact Rat.le_of_mul_le_mul_left (by rw [h1, h2]; exact h) (Rat.mul_pos hd he)
def cf (a : Rat) : Rat := (1 - a) / (1 + a)
theorem cf_anti {a b : Rat} (ha : 0 <= a) (h : a <= b) : cf b <= cf a := by
 unfold cf
 exact div_le (by grind) (by grind) (by grind)
theorem cos_cf (x : Rat) : qD false x = cf (x * x) := by
 rw [qD, qd]; rfl
def cosS (A : Sp) : Sp := ⟨cf (sqS A).hi, cf (sqS A).lo, cf_anti (sqL_nn A) (sqS A).ok⟩
theorem cos_has {A : Sp} {x : Rat} (hx : A.has x) : (cosS A).has (qD false x) := by
 rw [cos_cf]
 have h := sq_has hx
 exact ⟨cf_anti (sq_nn x) h.2, cf_anti (sqL_nn A) h.1⟩
theorem sin_eq (x : Rat) : qv false x = (x + x) / (1 + x * x) := by
 rw [qv, qd]; rfl
theorem one_sq (x : Rat) : 0 < 1 + x * x := by have := sq_nn x; grind
theorem sin_up {a b : Rat} (h : a <= b) (h1 : a * b <= 1) : qv false a <= qv false b := by
 rw [sin_eq, sin_eq]
 have := Rat.mul_nonneg (a := b - a) (b := 1 - a * b) (by grind) (by grind)
 exact div_le (one_sq a) (one_sq b) (by grind)
theorem sin_dn {a b : Rat} (h : a <= b) (h1 : 1 <= a * b) : qv false b <= qv false a := by
 rw [sin_eq, sin_eq]
 have := Rat.mul_nonneg (a := b - a) (b := a * b - 1) (by grind) (by grind)
 exact div_le (one_sq b) (one_sq a) (by grind)
theorem sin_le1 (x : Rat) : qv false x <= 1 := by
 rw [sin_eq]
 have := sq_nn (1 - x)
 exact Rat.le_trans (div_le (y := 1) (e := 1) (one_sq x) (by decide) (by grind)) (by grind)
theorem sin_ge1 (x : Rat) : -1 <= qv false x := by
 rw [sin_eq]
 have := sq_nn (1 + x)
 exact Rat.le_trans (by grind) (div_le (x := -1) (d := 1) (by decide) (one_sq x) (by grind))
theorem unit_mul {x y : Rat} (h1 : -1 <= x) (h2 : x <= 1) (h3 : -1 <= y) (h4 : y <= 1) : x * y <= 1 := by
 have a := Rat.mul_nonneg (a := 1 - x) (b := 1 + y) (by grind) (by grind)
 have b := Rat.mul_nonneg (a := 1 + x) (b := 1 - y) (by grind) (by grind)
 grind
theorem big_mul {x y : Rat} (h1 : 1 <= x) (h2 : 1 <= y) : 1 <= x * y := by
 have a := Rat.mul_nonneg (a := x - 1) (b := y - 1) (by grind) (by grind)
 grind
theorem sin_max {A : Sp} {x : Rat} (hx : A.has x) (h1 : ¬ A.has 1) : qv false x <= mxR (qv false A.lo) (qv false A.hi) := by
 obtain ⟨a, b⟩ := hx
 have hc : 1 < A.lo \/ A.hi < 1 := by
  rcases Rat.le_total (a := A.lo) (b := 1) with g | g
  ·rcases Rat.le_total (a := 1) (b := A.hi) with k | k
   ·exact absurd ⟨g, k⟩ h1
   ·rcases Rat.le_iff_lt_or_eq.1 k with k | k
    ·exact .inr k
    ·exact absurd ⟨g, by rw [k]; exact Rat.le_refl⟩ h1
  ·rcases Rat.le_iff_lt_or_eq.1 g with k | k
   ·exact .inl k
   ·exact absurd ⟨by rw [k]; exact Rat.le_refl, by rw [k]; exact A.ok⟩ h1
 rcases hc with hc | hc
 ·exact Rat.le_trans (sin_dn a (big_mul (by grind) (by grind))) (mxR_l _ _)
 ·rcases Rat.le_total (a := -1) (b := x) with g | g
  ·exact Rat.le_trans (sin_up b (unit_mul g (by grind) (by grind) (by grind))) (mxR_r _ _)
  ·have := big_mul (x := -A.lo) (y := -x) (by grind) (by grind)
   exact Rat.le_trans (sin_dn a (by grind)) (mxR_l _ _)
theorem sin_min {A : Sp} {x : Rat} (hx : A.has x) (h1 : ¬ A.has (-1)) : mnR (qv false A.lo) (qv false A.hi) <= qv false x := by
 obtain ⟨a, b⟩ := hx
 have hc : -1 < A.lo \/ A.hi < -1 := by
  rcases Rat.le_total (a := A.lo) (b := -1) with g | g
  ·rcases Rat.le_total (a := -1) (b := A.hi) with k | k
   ·exact absurd ⟨g, k⟩ h1
   ·rcases Rat.le_iff_lt_or_eq.1 k with k | k
    ·exact .inr k
    ·exact absurd ⟨g, by rw [k]; exact Rat.le_refl⟩ h1
  ·rcases Rat.le_iff_lt_or_eq.1 g with k | k
   ·exact .inl k
   ·exact absurd ⟨by rw [k]; exact Rat.le_refl, by rw [k]; exact A.ok⟩ h1
 rcases hc with hc | hc
 ·rcases Rat.le_total (a := x) (b := 1) with g | g
  ·exact Rat.le_trans (mnR_l _ _) (sin_up a (unit_mul (by grind) (by grind) (by grind) g))
  ·exact Rat.le_trans (mnR_r _ _) (sin_dn b (big_mul g (by grind)))
 ·have := big_mul (x := -x) (y := -A.hi) (by grind) (by grind)
  exact Rat.le_trans (mnR_r _ _) (sin_dn b (by grind))
def joinS (A B : Sp) : Sp := ⟨mnR A.lo B.lo, mxR A.hi B.hi, Rat.le_trans (mnR_l _ _) (Rat.le_trans A.ok (mxR_l _ _))⟩
theorem join_l (A B : Sp) : A.win (joinS A B) := ⟨mnR_l _ _, mxR_l _ _⟩
theorem join_r (A B : Sp) : B.win (joinS A B) := ⟨mnR_r _ _, mxR_r _ _⟩
theorem Sp.win_trans {A B C : Sp} (h : A.win B) (h' : B.win C) : A.win C := ⟨Rat.le_trans h'.1 h.1, Rat.le_trans h.2 h'.2⟩
def hasB (A : Sp) (x : Rat) : Bool := decide (A.lo <= x) && decide (x <= A.hi)
theorem hasB_iff {A : Sp} {x : Rat} : hasB A x = true ↔ A.has x := by simp [hasB, Sp.has]
def sinS0 (A : Sp) : Sp := joinS (ofS (qv false A.lo)) (ofS (qv false A.hi))
def sinS1 (A : Sp) : Sp := if hasB A (-1) = true then joinS (sinS0 A) (ofS (-1)) else sinS0 A
def sinS (A : Sp) : Sp := if hasB A 1 = true then joinS (sinS1 A) (ofS 1) else sinS1 A
theorem sin01 (A : Sp) : (sinS0 A).win (sinS1 A) := by
 unfold sinS1; split
 ·exact join_l _ _
 ·exact Sp.win_refl _
theorem sin12 (A : Sp) : (sinS1 A).win (sinS A) := by
 unfold sinS; split
 ·exact join_l _ _
 ·exact Sp.win_refl _
theorem sin_has {A : Sp} {x : Rat} (hx : A.has x) : (sinS A).has (qv false x) := by
 constructor
 ·by_cases h : A.has (-1)
  ·have e : (ofS (-1)).win (sinS1 A) := by
    rw [sinS1, if_pos (hasB_iff.2 h)]; exact join_r _ _
   exact Rat.le_trans (Sp.win_trans e (sin12 A)).1 (sin_ge1 x)
  ·exact Rat.le_trans (Sp.win_trans (sin01 A) (sin12 A)).1 (sin_min hx h)
 ·by_cases h : A.has 1
  ·have e : (ofS 1).win (sinS A) := by
    rw [sinS, if_pos (hasB_iff.2 h)]; exact join_r _ _
   exact Rat.le_trans (sin_le1 x) e.2
  ·exact Rat.le_trans (sin_max hx h) (Sp.win_trans (sin01 A) (sin12 A)).2
def dnR (x : Rat) : Rat := hide (((x * 1000000).floor : Rat) / 1000000)
def upR (x : Rat) : Rat := hide (-(dnR (-x)))
theorem dn_le (x : Rat) : dnR x <= x := by
 rw [dnR, qd]
 have h := Rat.floor_le (x * 1000000)
 have e : x = (x * 1000000) / 1000000 := by grind
 conv => rhs; rw [e]
 generalize ((x * 1000000).floor : Rat) = k at *
 generalize x * 1000000 = z at *
 exact div_le (by decide) (by decide) (by grind)
theorem up_ge (x : Rat) : x <= upR x := by
 rw [upR, qd]; have := dn_le (-x); grind
def cutL (A : Sp) : Rat := hide (mxR (dnR A.lo) (-1))
def cutH (A : Sp) : Rat := hide (mnR (upR A.hi) 1)
def cutS (A : Sp) : Sp := qj (cutL A) (cutH A)
theorem cut_raw {A : Sp} {x : Rat} (hx : A.has x) (h1 : -1 <= x) (h2 : x <= 1) : cutL A <= x /\ x <= cutH A := by
 rw [cutL, cutH, qd, qd]
 exact ⟨mxR_le (Rat.le_trans (dn_le _) hx.1) h1, le_mnR (Rat.le_trans hx.2 (up_ge _)) h2⟩
theorem cut_ok {A : Sp} {x : Rat} (hx : A.has x) (h1 : -1 <= x) (h2 : x <= 1) : cutL A <= cutH A := Rat.le_trans (cut_raw hx h1 h2).1 (cut_raw hx h1 h2).2
theorem cut_has {A : Sp} {x : Rat} (hx : A.has x) (h1 : -1 <= x) (h2 : x <= 1) : (cutS A).has x := by
 have h := cut_ok hx h1 h2
 unfold cutS Sp.has
 rw [fitS_lo h, fitS_hi h]
 exact cut_raw hx h1 h2
structure Lz where
 X : Sp
 Y : Sp
 C : Sp
 S : Sp
def Lz.hasF (l : Lz) (f : Fr) : Prop := l.X.has f.x /\ l.Y.has f.y /\ l.C.has (qD f.h f.t) /\ l.S.has (qv f.h f.t)
def Lz.win (l m : Lz) : Prop := l.X.win m.X /\ l.Y.win m.Y /\ l.C.win m.C /\ l.S.win m.S
def lz0 (b : Fr) : Lz := ⟨ofS b.x, ofS b.y, ofS (qD b.h b.t), ofS (qv b.h b.t)⟩
def lcC (Q : Sp) (l : Lz) : Sp := subS (qF l.C (cosS Q)) (qF l.S (sinS Q))
def lcS (Q : Sp) (l : Lz) : Sp := addS (qF l.S (cosS Q)) (qF l.C (sinS Q))
def lturn (Q : Sp) (l : Lz) : Lz := ⟨l.X, l.Y, cutS (lcC Q l), cutS (lcS Q l)⟩
def lstep (L : Rat) (l : Lz) : Lz := ⟨addS l.X (qF (ofS L) l.C), addS l.Y (qF (ofS L) l.S), l.C, l.S⟩
def lzE (b : Fr) (Q : Nat -> Sp) (L : Nat -> Rat) : Nat -> Lz
 | 0 => lz0 b
 | i + 1 => lstep (L i) (lturn (Q i) (lzE b Q L i))
def lzF (b : Fr) (Q : Nat -> Sp) (L : Nat -> Rat) (i : Nat) : Lz := lturn (Q i) (lzE b Q L i)
def lzA (b : Fr) (Q : Nat -> Sp) (L : Nat -> Rat) (n i : Nat) : Lz := if i < n then lzF b Q L i else lzE b Q L n
theorem cs_bd (h : Bool) (t : Rat) : (-1 <= qD h t /\ qD h t <= 1) /\ (-1 <= qv h t /\ qv h t <= 1) := by
 have e := cos_sin h t
 have a := sq_nn (qD h t)
 have b := sq_nn (qv h t)
 have up : ∀ z : Rat, z * z <= 1 -> -1 <= z /\ z <= 1 := fun z hz => by
  have h1 := sq_le_of (x := z) (y := 1) (by decide) (by grind)
  have h2 := sq_le_of (x := -z) (y := 1) (by decide) (by grind)
  exact ⟨by grind, h1⟩
 exact ⟨up _ (by grind), up _ (by grind)⟩
theorem lc_has {b : Fr} {Q : Sp} {l : Lz} {q : Rat} (h : l.hasF b) (hq : Q.has q) : (lcC Q l).has (qD (thH b.h b.t false q) (thT b.h b.t false q)) /\ (lcS Q l).has (qv (thH b.h b.t false q) (thT b.h b.t false q)) := by
 obtain ⟨h1, h2, h3, h4⟩ := h
 obtain ⟨c, s⟩ := then_cs b.h b.t false q
 rw [c, s]
 exact ⟨sub_has (mul_has h3 (cos_has hq)) (mul_has h4 (sin_has hq)), add_has (mul_has h4 (cos_has hq)) (mul_has h3 (sin_has hq))⟩
theorem lturn_has {b : Fr} {Q : Sp} {l : Lz} {q : Rat} (h : l.hasF b) (hq : Q.has q) : (lturn Q l).hasF (fstep q b) := by
 obtain ⟨c, s⟩ := lc_has h hq
 have bd := cs_bd (thH b.h b.t false q) (thT b.h b.t false q)
 exact ⟨h.1, h.2.1, cut_has c bd.1.1 bd.1.2, cut_has s bd.2.1 bd.2.2⟩
theorem lstep_has {f : Fr} {l : Lz} {L : Rat} (h : l.hasF f) (hf : f.h = true -> f.t = 0) : (lstep L l).hasF (estep L f) := by
 obtain ⟨h1, h2, h3, h4⟩ := h
 unfold estep
 rw [ft_of hf]
 exact ⟨add_has h1 (mul_has (ofS_has L) h3), add_has h2 (mul_has (ofS_has L) h4), h3, h4⟩
theorem lzE_has {b : Fr} {Q : Nat -> Sp} {q L : Nat -> Rat} : ∀ (i : Nat), (∀ j, j < i -> (Q j).has (q j)) -> (lzE b Q L i).hasF (endR b q L i)
 | 0, _ => ⟨ofS_has _, ofS_has _, ofS_has _, ofS_has _⟩
 | i + 1, h => lstep_has (lturn_has (lzE_has i fun j hj => h j (by omega)) (h i (by omega))) (th_norm _ _ _ _)
theorem lzF_has {b : Fr} {Q : Nat -> Sp} {q L : Nat -> Rat} (i : Nat) (h : ∀ j, j <= i -> (Q j).has (q j)) : (lzF b Q L i).hasF (frmF b q L i) :=
 lturn_has (lzE_has i fun j hj => h j (by omega)) (h i (Nat.le_refl _))
theorem lzA_has {b : Fr} {Q : Nat -> Sp} {q L : Nat -> Rat} {n i : Nat} (hi : i <= n) (h : ∀ j, j < n -> (Q j).has (q j)) : (lzA b Q L n i).hasF (allF b q L n i) := by
 unfold lzA allF
 split
 ·exact lzF_has i fun j hj => h j (by omega)
 ·exact lzE_has n h
def atX (l : Lz) (x y : Rat) : Sp := addS l.X (subS (qF (ofS x) l.C) (qF (ofS y) l.S))
def atY (l : Lz) (x y : Rat) : Sp := addS l.Y (addS (qF (ofS x) l.S) (qF (ofS y) l.C))
def ptX (f : Fr) (x y : Rat) : Rat := f.x + (x * qD f.h f.t - y * qv f.h f.t)
def ptY (f : Fr) (x y : Rat) : Rat := f.y + (x * qv f.h f.t + y * qD f.h f.t)
theorem at_has {l : Lz} {f : Fr} (h : l.hasF f) (x y : Rat) : (atX l x y).has (ptX f x y) /\ (atY l x y).has (ptY f x y) :=
 ⟨add_has h.1 (sub_has (mul_has (ofS_has x) h.2.2.1) (mul_has (ofS_has y) h.2.2.2)), add_has h.2.1 (add_has (mul_has (ofS_has x) h.2.2.2) (mul_has (ofS_has y) h.2.2.1))⟩
def jnS (g : Nat -> Sp) : Nat -> Sp
 | 0 => g 0
 | k + 1 => joinS (jnS g k) (g (k + 1))
theorem jn_has {g : Nat -> Sp} {x : Rat} {i : Nat} (hx : (g i).has x) : ∀ k, i <= k -> (jnS g k).has x
 | 0, h => by rw [show i = 0 by omega] at hx; exact hx
 | k + 1, h => by
  rcases Nat.lt_or_ge i (k + 1) with hi | hi
  ·exact Sp.win_has (join_l _ _) (jn_has hx k (by omega))
  ·rw [show i = k + 1 by omega] at hx
   exact Sp.win_has (join_r _ _) hx
end
section
open Go Tryz
set_option maxRecDepth 100000
variable {G : World -> (Nat -> Prop) -> Prop} (hG : GOk G)
theorem enLi : Enters prog 69 f69 (qg f69) := ⟨func69, by kernel_rfl, rfl⟩
theorem enPl : Enters prog 33 f33 (qg f33) := ⟨func33, by kernel_rfl, rfl⟩
def bLi : Code := (qi (qg f69)).getD 0 .skip
def polLi : Pol := { live := [(3, [2, 5, 11, 12, 13])] }
def OLi : Orc := [(84, g92)]
def lLi : qx := unr prog OLi [] polLi f69.ntmps 0 [2, 5, 11, 12, 13] bLi 5
theorem eLi3 (f : Fr) (px py : Nat -> Rat) : (evF prog OLi [(3, lLi)] polLi f69 [frP f 20000 1500, .lst 6 (.fn 3 (pv px py))] [] qm).run =
 (Tr.ok (.ret (.fr 6 (.fn 3 fun (j : Nat) => bif (j + 0).beq (2 : Nat) then .agg [.q (f.x + (px (2 : Nat) * qD f.h f.t - py (2 : Nat) * qv f.h f.t)) 32138, .q (f.y + (px (2 : Nat) * qv f.h f.t + py (2 : Nat) * qD f.h f.t)) 32138] else bif (j + 0).beq (1 : Nat) then .agg [.q (f.x + (px (1 : Nat) * qD f.h f.t - py (1 : Nat) * qv f.h f.t)) 32138, .q (f.y + (px (1 : Nat) * qv f.h f.t + py (1 : Nat) * qD f.h f.t)) 32138] else bif (j + 0).beq (0 : Nat) then .agg [.q (f.x + (px (0 : Nat) * qD f.h f.t - py (0 : Nat) * qv f.h f.t)) 32138, .q (f.y + (px (0 : Nat) * qv f.h f.t + py (0 : Nat) * qD f.h f.t)) 32138] else .agg [.agg [.bl false, .s (ByteArray.mk #[]), .s (ByteArray.mk #[])], .agg [.bl false, .s (ByteArray.mk #[]), .s (ByteArray.mk #[])]])) [])).run := by kernel_rfl
theorem eLi4 (f : Fr) (px py : Nat -> Rat) : (evF prog OLi [(3, lLi)] polLi f69 [frP f 20000 1500, .lst 6 (.fn 4 (pv px py))] [] qm).run =
 (Tr.ok (.ret (.fr 6 (.fn 4 fun (j : Nat) => bif (j + 0).beq (3 : Nat) then .agg [.q (f.x + (px (3 : Nat) * qD f.h f.t - py (3 : Nat) * qv f.h f.t)) 32138, .q (f.y + (px (3 : Nat) * qv f.h f.t + py (3 : Nat) * qD f.h f.t)) 32138] else bif (j + 0).beq (2 : Nat) then .agg [.q (f.x + (px (2 : Nat) * qD f.h f.t - py (2 : Nat) * qv f.h f.t)) 32138, .q (f.y + (px (2 : Nat) * qv f.h f.t + py (2 : Nat) * qD f.h f.t)) 32138] else bif (j + 0).beq (1 : Nat) then .agg [.q (f.x + (px (1 : Nat) * qD f.h f.t - py (1 : Nat) * qv f.h f.t)) 32138, .q (f.y + (px (1 : Nat) * qv f.h f.t + py (1 : Nat) * qD f.h f.t)) 32138] else bif (j + 0).beq (0 : Nat) then .agg [.q (f.x + (px (0 : Nat) * qD f.h f.t - py (0 : Nat) * qv f.h f.t)) 32138, .q (f.y + (px (0 : Nat) * qv f.h f.t + py (0 : Nat) * qD f.h f.t)) 32138] else .agg [.agg [.bl false, .s (ByteArray.mk #[]), .s (ByteArray.mk #[])], .agg [.bl false, .s (ByteArray.mk #[]), .s (ByteArray.mk #[])]])) [])).run := by kernel_rfl
def dF : PV -> Fr
 | .agg [.agg [.q x _, .q y _], .agg [hv, .q t _]] => ⟨x, y, (bof hv).getD false, t⟩
 | _ => ⟨0, 0, false, 0⟩
def plP (f : Fr) (px py : Nat -> Rat) (j : Nat) : PV := .agg [.q (ptX f (px j) (py j)) 32138, .q (ptY f (px j) (py j)) 32138]
def plF (v : PV) (g : Nat -> PV) : Nat -> PV := plP (dF v) (fun j => dq (fldV (g j) 0)) (fun j => dq (fldV (g j) 1))
def isLi (v : PV) (n : Nat) (g : Nat -> PV) : Prop := ∃ f px py, v = frP f 20000 1500 /\ g = pv px py /\ (n = 3 \/ n = 4)
def gLi : Spec := fun args hs K => match args, hs with
 | [v, .lst 6 (.fn n g)], [] => .br (qe (isLi v n g)) (K (.fr 6 (.fn n (plF v g))) []) (.no 1)
 | _, _ => .no 1
def armQ (A : Am) (n : Nat) : PV := .agg [.s A.name, .agg [.agg [.q A.bx 64, .q A.by_ 64], .agg [.bl false, .q A.t 64]], .lst 16 (.fn n (fun j => lkPV (A.lk j)))]
def bPl : Code := (qi (qg f33)).getD 0 .skip
def polPl : Pol := { live := [(6, [6, 8, 21, 22, 23])] }
def lPl : qx := unr prog [(69, gLi)] [] polPl f33.ntmps 0 [6, 8, 21, 22, 23] bPl 4
def OPl (A : Am) (n N : Nat) (q : List Rat) (ff : Nat -> Fr) : Orc := [(13, cst [armQ A n, .lst 3 (.rats 64 q)] True (.tup [.fr 10 (.fn N (fun i => frP (ff i) 20000 1500)), .i .i64 0])), (69, gLi)]
theorem ePl1 (A : Am) (q : List Rat) (ff : Nat -> Fr) : (evF prog (OPl A 1 2 q ff) [(6, lPl)] polPl f33 [armQ A 1, .lst 3 (.rats 64 q)] [] qm).run =
 (Tr.br (qe (isA [.agg [.s A.name, .agg [.agg [.q A.bx 64, .q A.by_ 64], .agg [.bl false, .q A.t 64]], .lst 16 (.fn 1 fun (j : Nat) => .agg [.q (A.lk j).len 64, .q (A.lk j).low 64, .q (A.lk j).high 64, .q (A.lk j).spd 64, .q (A.lk j).brk 64, .lst 6 (.fn (A.lk j).np fun (a : Nat) => .agg [.q ((A.lk j).px a) 64, .q ((A.lk j).py a) 64])])], .lst 3 (.rats 64 q)] True [.agg [.s A.name, .agg [.agg [.q A.bx 64, .q A.by_ 64], .agg [.bl false, .q A.t 64]], .lst 16 (.fn 1 fun (j : Nat) => .agg [.q (A.lk j).len 64, .q (A.lk j).low 64, .q (A.lk j).high 64, .q (A.lk j).spd 64, .q (A.lk j).brk 64, .lst 6 (.fn (A.lk j).np fun (a : Nat) => .agg [.q ((A.lk j).px a) 64, .q ((A.lk j).py a) 64])])], .lst 3 (.rats 64 q)])) (.br (qe (isLi (frP (ff (0 : Nat)) 20000 1500) (A.lk (0 : Nat)).np (pv (A.lk (0 : Nat)).px (A.lk (0 : Nat)).py))) (.br (((0 : Nat) + (A.lk (0 : Nat)).np).ble (A.lk (0 : Nat)).np) (.ok (.ret (.tup [.fr 1 (.vals [.lst 6 (.fn (A.lk (0 : Nat)).np fun (j : Nat) => .agg [.q (ptX (dF (frP (ff (0 : Nat)) 20000 1500)) (dq (.q ((A.lk (0 : Nat)).px (j + 0)) 64)) (dq (.q ((A.lk (0 : Nat)).py (j + 0)) 64))) 32138, .q (ptY (dF (frP (ff (0 : Nat)) 20000 1500)) (dq (.q ((A.lk (0 : Nat)).px (j + 0)) 64)) (dq (.q ((A.lk (0 : Nat)).py (j + 0)) 64))) 32138])]), .i .i64 0]) [])) (.no 9004)) (.no 1)) (.no 1)).run := by kernel_rfl
theorem ePl2 (A : Am) (q : List Rat) (ff : Nat -> Fr) : (evF prog (OPl A 2 3 q ff) [(6, lPl)] polPl f33 [armQ A 2, .lst 3 (.rats 64 q)] [] qm).run =
 (Tr.br (qe (isA [.agg [.s A.name, .agg [.agg [.q A.bx 64, .q A.by_ 64], .agg [.bl false, .q A.t 64]], .lst 16 (.fn 2 fun (j : Nat) => .agg [.q (A.lk j).len 64, .q (A.lk j).low 64, .q (A.lk j).high 64, .q (A.lk j).spd 64, .q (A.lk j).brk 64, .lst 6 (.fn (A.lk j).np fun (a : Nat) => .agg [.q ((A.lk j).px a) 64, .q ((A.lk j).py a) 64])])], .lst 3 (.rats 64 q)] True [.agg [.s A.name, .agg [.agg [.q A.bx 64, .q A.by_ 64], .agg [.bl false, .q A.t 64]], .lst 16 (.fn 2 fun (j : Nat) => .agg [.q (A.lk j).len 64, .q (A.lk j).low 64, .q (A.lk j).high 64, .q (A.lk j).spd 64, .q (A.lk j).brk 64, .lst 6 (.fn (A.lk j).np fun (a : Nat) => .agg [.q ((A.lk j).px a) 64, .q ((A.lk j).py a) 64])])], .lst 3 (.rats 64 q)])) (.br (qe (isLi (frP (ff (0 : Nat)) 20000 1500) (A.lk (0 : Nat)).np (pv (A.lk (0 : Nat)).px (A.lk (0 : Nat)).py))) (.br (((0 : Nat) + (A.lk (0 : Nat)).np).ble (A.lk (0 : Nat)).np) (.br (qe (isLi (frP (ff (1 : Nat)) 20000 1500) (A.lk (1 : Nat)).np (pv (A.lk (1 : Nat)).px (A.lk (1 : Nat)).py))) (.br (((0 : Nat) + (A.lk (1 : Nat)).np).ble (A.lk (1 : Nat)).np) (.ok (.ret (.tup [.fr 1 (.vals [.lst 6 (.fn (A.lk (0 : Nat)).np fun (j : Nat) => .agg [.q (ptX (dF (frP (ff (0 : Nat)) 20000 1500)) (dq (.q ((A.lk (0 : Nat)).px (j + 0)) 64)) (dq (.q ((A.lk (0 : Nat)).py (j + 0)) 64))) 32138, .q (ptY (dF (frP (ff (0 : Nat)) 20000 1500)) (dq (.q ((A.lk (0 : Nat)).px (j + 0)) 64)) (dq (.q ((A.lk (0 : Nat)).py (j + 0)) 64))) 32138]), .lst 6 (.fn (A.lk (1 : Nat)).np fun (j : Nat) => .agg [.q (ptX (dF (frP (ff (1 : Nat)) 20000 1500)) (dq (.q ((A.lk (1 : Nat)).px (j + 0)) 64)) (dq (.q ((A.lk (1 : Nat)).py (j + 0)) 64))) 32138, .q (ptY (dF (frP (ff (1 : Nat)) 20000 1500)) (dq (.q ((A.lk (1 : Nat)).px (j + 0)) 64)) (dq (.q ((A.lk (1 : Nat)).py (j + 0)) 64))) 32138])]), .i .i64 0]) [])) (.no 9004)) (.no 1)) (.no 9004)) (.no 1)) (.no 1)).run := by kernel_rfl
theorem ePl3 (A : Am) (q : List Rat) (ff : Nat -> Fr) : (evF prog (OPl A 3 4 q ff) [(6, lPl)] polPl f33 [armQ A 3, .lst 3 (.rats 64 q)] [] qm).run =
 (Tr.br (qe (isA [.agg [.s A.name, .agg [.agg [.q A.bx 64, .q A.by_ 64], .agg [.bl false, .q A.t 64]], .lst 16 (.fn 3 fun (j : Nat) => .agg [.q (A.lk j).len 64, .q (A.lk j).low 64, .q (A.lk j).high 64, .q (A.lk j).spd 64, .q (A.lk j).brk 64, .lst 6 (.fn (A.lk j).np fun (a : Nat) => .agg [.q ((A.lk j).px a) 64, .q ((A.lk j).py a) 64])])], .lst 3 (.rats 64 q)] True [.agg [.s A.name, .agg [.agg [.q A.bx 64, .q A.by_ 64], .agg [.bl false, .q A.t 64]], .lst 16 (.fn 3 fun (j : Nat) => .agg [.q (A.lk j).len 64, .q (A.lk j).low 64, .q (A.lk j).high 64, .q (A.lk j).spd 64, .q (A.lk j).brk 64, .lst 6 (.fn (A.lk j).np fun (a : Nat) => .agg [.q ((A.lk j).px a) 64, .q ((A.lk j).py a) 64])])], .lst 3 (.rats 64 q)])) (.br (qe (isLi (frP (ff (0 : Nat)) 20000 1500) (A.lk (0 : Nat)).np (pv (A.lk (0 : Nat)).px (A.lk (0 : Nat)).py))) (.br (((0 : Nat) + (A.lk (0 : Nat)).np).ble (A.lk (0 : Nat)).np) (.br (qe (isLi (frP (ff (1 : Nat)) 20000 1500) (A.lk (1 : Nat)).np (pv (A.lk (1 : Nat)).px (A.lk (1 : Nat)).py))) (.br (((0 : Nat) + (A.lk (1 : Nat)).np).ble (A.lk (1 : Nat)).np) (.br (qe (isLi (frP (ff (2 : Nat)) 20000 1500) (A.lk (2 : Nat)).np (pv (A.lk (2 : Nat)).px (A.lk (2 : Nat)).py))) (.br (((0 : Nat) + (A.lk (2 : Nat)).np).ble (A.lk (2 : Nat)).np) (.ok (.ret (.tup [.fr 1 (.vals [.lst 6 (.fn (A.lk (0 : Nat)).np fun (j : Nat) => .agg [.q (ptX (dF (frP (ff (0 : Nat)) 20000 1500)) (dq (.q ((A.lk (0 : Nat)).px (j + 0)) 64)) (dq (.q ((A.lk (0 : Nat)).py (j + 0)) 64))) 32138, .q (ptY (dF (frP (ff (0 : Nat)) 20000 1500)) (dq (.q ((A.lk (0 : Nat)).px (j + 0)) 64)) (dq (.q ((A.lk (0 : Nat)).py (j + 0)) 64))) 32138]), .lst 6 (.fn (A.lk (1 : Nat)).np fun (j : Nat) => .agg [.q (ptX (dF (frP (ff (1 : Nat)) 20000 1500)) (dq (.q ((A.lk (1 : Nat)).px (j + 0)) 64)) (dq (.q ((A.lk (1 : Nat)).py (j + 0)) 64))) 32138, .q (ptY (dF (frP (ff (1 : Nat)) 20000 1500)) (dq (.q ((A.lk (1 : Nat)).px (j + 0)) 64)) (dq (.q ((A.lk (1 : Nat)).py (j + 0)) 64))) 32138]), .lst 6 (.fn (A.lk (2 : Nat)).np fun (j : Nat) => .agg [.q (ptX (dF (frP (ff (2 : Nat)) 20000 1500)) (dq (.q ((A.lk (2 : Nat)).px (j + 0)) 64)) (dq (.q ((A.lk (2 : Nat)).py (j + 0)) 64))) 32138, .q (ptY (dF (frP (ff (2 : Nat)) 20000 1500)) (dq (.q ((A.lk (2 : Nat)).px (j + 0)) 64)) (dq (.q ((A.lk (2 : Nat)).py (j + 0)) 64))) 32138])]), .i .i64 0]) [])) (.no 9004)) (.no 1)) (.no 9004)) (.no 1)) (.no 9004)) (.no 1)) (.no 1)).run := by kernel_rfl
theorem kl_ff {e n : Nat} {f g : Nat -> PV} (h : ∀ i, i < n -> noRef 8 (f i) = true /\ VLe (f i) (g i)) : KLe ⟨e, .fn n f⟩ ⟨e, .fn n g⟩ := by
 intro w S μ a z hb
 obtain ⟨c, T, cs, h1, h2, h3, h4, h5, h6⟩ := hb
 refine ⟨c, T, cs, h1, h2, h3, fun i hi => ?_, h5, h6⟩
 have h7 := h4 i hi
 simp only [Cont.get, qy] at h7 ⊢
 exact ((h i hi).2.2 w S qK).1 _ h7
theorem fr_ff (e n : Nat) {f g : Nat -> PV} (h : ∀ i, i < n -> noRef 8 (f i) = true /\ VLe (f i) (g i)) : RLe (.fr e (.fn n f)) (.fr e (.fn n g)) :=
 ⟨fun m => .refl _, fun m => KsLe.one (kl_ff h)⟩
include hG in
theorem gkLi (hT : qr G) : qc prog G 69 gLi := by
 intro args hs K x h
 unfold gLi at h
 split at h
 case h_2 => cases h
 rename_i v n g
 obtain ⟨hc, hr⟩ := k8 h
 obtain ⟨f, px, py, rfl, rfl, hn⟩ := decP_iff.1 hc
 have orc : OrcOK prog G OLi := .cons (gk92 hG hT) .nil
 have hl := lps1 (P := prog) (G := G) (pol := polLi) (n := f69.ntmps) (m := 0) (L := [(3, lLi)]) (c := qg f69) (b := bLi) (live := [2, 5, 11, 12, 13]) (sp := lLi) (by kernel_rfl) (by kernel_rfl) (by kernel_rfl) (unr_ok hG orc mix (k9 (by kernel_rfl)) 5)
 refine ⟨_, _, ?_, hr⟩
 rcases hn with rfl | rfl
 ·refine (qk hG orc mix enLi (hs := []) (pol := polLi) (L := [(3, lLi)]) hl ((eLi3 f px py).trans k7)).le (fr_ff 6 3 fun i hi => ?_) (.refl _)
  match i, hi with
  | 0, _ => exact ⟨rfl, .refl _⟩
  | 1, _ => exact ⟨rfl, .refl _⟩
  | 2, _ => exact ⟨rfl, .refl _⟩
  | i + 3, hi => exact absurd hi (by omega)
 ·refine (qk hG orc mix enLi (hs := []) (pol := polLi) (L := [(3, lLi)]) hl ((eLi4 f px py).trans k7)).le (fr_ff 6 4 fun i hi => ?_) (.refl _)
  match i, hi with
  | 0, _ => exact ⟨rfl, .refl _⟩
  | 1, _ => exact ⟨rfl, .refl _⟩
  | 2, _ => exact ⟨rfl, .refl _⟩
  | 3, _ => exact ⟨rfl, .refl _⟩
  | i + 4, hi => exact absurd hi (by omega)
def plC (A : Am) (ff : Nat -> Fr) (i : Nat) : PV := .lst 6 (.fn (A.lk i).np (plP (ff i) (A.lk i).px (A.lk i).py))
def shp (A : Am) : Prop := ∀ j, j < A.n -> (A.lk j).np = 3 \/ (A.lk j).np = 4
include hG in
theorem pcPl (hT : qr G) (A : Am) (hA : armB A = true) (hS : shp A) (q : List Rat) (hq : q.length = A.n) :
  PC prog G 33 [qz A, .lst 3 (.rats 64 q)] [] (.tup [.fr 1 (.fn A.n (plC A (allF (bsF A) (qf q) (fun j => (A.lk j).len) A.n))), .i .i64 0]) [] := by
 have p13 := pc39 hG hT A hA q hq
 unfold frs at p13
 obtain ⟨a1, a2, a3, a4, h1, h3, a7⟩ := armB_c hA
 generalize allF (bsF A) (qf q) (fun j => (A.lk j).len) A.n = ff at *
 have hl := lps1 (P := prog) (G := G) (pol := polPl) (n := f33.ntmps) (m := 0) (L := [(6, lPl)]) (c := qg f33) (b := bPl) (live := [6, 8, 21, 22, 23]) (sp := lPl) (by kernel_rfl) (by kernel_rfl) (by kernel_rfl) (unr_ok hG (.cons (gkLi hG hT) .nil) mix (k9 (by kernel_rfl)) 4)
 have ha : qz A = armQ A A.n := rfl
 rw [ha] at p13 ⊢
 unfold shp at hS
 rcases (show A.n = 1 \/ A.n = 2 \/ A.n = 3 by omega) with hn | hn | hn
 ·rw [hn] at p13 hS ⊢
  refine (qk hG (.cons (cst_t p13) (.cons (gkLi hG hT) .nil)) mix enPl (hs := []) (pol := polPl) (L := [(6, lPl)]) hl (r := .tup [.fr 1 (.vals [plC A ff 0]), .i .i64 0]) (hs' := []) ?_).le (frs_le0 _ _ _ _ rfl fun i v hi => ?_) (.refl _)
  ·refine (ePl1 A q ff).trans ?_
   repeat (refine Eq.trans (k5 ?_) ?_; first | exact decP_iff.2 ⟨rfl, trivial⟩ | exact decP_iff.2 ⟨_, _, _, rfl, rfl, hS _ (by omega)⟩ | (rw [kG]; omega))
   rw [k7]; rfl
  ·match i, hi with
   | 0, hi => simp at hi; subst hi; exact ⟨rfl, .refl _⟩
   | i + 1, hi => simp at hi
 ·rw [hn] at p13 hS ⊢
  refine (qk hG (.cons (cst_t p13) (.cons (gkLi hG hT) .nil)) mix enPl (hs := []) (pol := polPl) (L := [(6, lPl)]) hl (r := .tup [.fr 1 (.vals [plC A ff 0, plC A ff 1]), .i .i64 0]) (hs' := []) ?_).le (frs_le0 _ _ _ _ rfl fun i v hi => ?_) (.refl _)
  ·refine (ePl2 A q ff).trans ?_
   repeat (refine Eq.trans (k5 ?_) ?_; first | exact decP_iff.2 ⟨rfl, trivial⟩ | exact decP_iff.2 ⟨_, _, _, rfl, rfl, hS _ (by omega)⟩ | (rw [kG]; omega))
   rw [k7]; rfl
  ·match i, hi with
   | 0, hi => simp at hi; subst hi; exact ⟨rfl, .refl _⟩
   | 1, hi => simp at hi; subst hi; exact ⟨rfl, .refl _⟩
   | i + 2, hi => simp at hi
 ·rw [hn] at p13 hS ⊢
  refine (qk hG (.cons (cst_t p13) (.cons (gkLi hG hT) .nil)) mix enPl (hs := []) (pol := polPl) (L := [(6, lPl)]) hl (r := .tup [.fr 1 (.vals [plC A ff 0, plC A ff 1, plC A ff 2]), .i .i64 0]) (hs' := []) ?_).le (frs_le0 _ _ _ _ rfl fun i v hi => ?_) (.refl _)
  ·refine (ePl3 A q ff).trans ?_
   repeat (refine Eq.trans (k5 ?_) ?_; first | exact decP_iff.2 ⟨rfl, trivial⟩ | exact decP_iff.2 ⟨_, _, _, rfl, rfl, hS _ (by omega)⟩ | (rw [kG]; omega))
   rw [k7]; rfl
  ·match i, hi with
   | 0, hi => simp at hi; subst hi; exact ⟨rfl, .refl _⟩
   | 1, hi => simp at hi; subst hi; exact ⟨rfl, .refl _⟩
   | 2, hi => simp at hi; subst hi; exact ⟨rfl, .refl _⟩
   | i + 3, hi => simp at hi
theorem shp_V (v : PV) : shp (armD v) := by
 intro j _
 show (shV _).len = 3 \/ (shV _).len = 4
 unfold shV
 split
 ·exact .inl rfl
 ·exact .inr rfl
theorem enterWh : Enters prog 123 f123 (qg f123) := ⟨func123, by kernel_rfl, rfl⟩
theorem kWh (x : Rat) (n : Nat) (W : Nat) : evF prog [(81, g76 W), (83, h108), (106, h113)] [] {} f123 [.q x n] [] qm =
 Tr.br (bz (qq x) && bz (qp x) && decide ((0 : Nat) < val (qp x))) (.br (qn x) (.br (!decide (rmB (qq x) (qp x) = ByteArray.mk #[])) (.br (bz (quB (qq x) (qp x)) && bz (ByteArray.mk #[(1 : UInt8)])) (.br (qe (M76 (adB (quB (qq x) (qp x)) (ByteArray.mk #[(1 : UInt8)])) (ByteArray.mk #[(1 : UInt8)]) W)) (.ok (.ret (.q (mkq (qn x) (adB (quB (qq x) (qp x)) (ByteArray.mk #[(1 : UInt8)])) (ByteArray.mk #[(1 : UInt8)])) W) [])) (.no 1)) (.no 1)) (.br (qe (M76 (quB (qq x) (qp x)) (ByteArray.mk #[(1 : UInt8)]) W)) (.ok (.ret (.q (mkq (qn x) (quB (qq x) (qp x)) (ByteArray.mk #[(1 : UInt8)])) W) [])) (.no 1))) (.br (qe (M76 (quB (qq x) (qp x)) (ByteArray.mk #[(1 : UInt8)]) W)) (.ok (.ret (.q (mkq (qn x) (quB (qq x) (qp x)) (ByteArray.mk #[(1 : UInt8)])) W) [])) (.no 1))) (.no 1) := by kernel_rfl
def gWh : Spec := fun args hs K => match args, hs with
 | [.q x n], [] => .br (Nat.ble n 790000) (K (.q (x.floor : Rat) (n + 1)) []) (.no 1)
 | _, _ => .no 1
theorem floor_z (x : Rat) : (x.floor : Rat) = if qn x = true /\ x.num.natAbs % x.den ≠ 0 then mkz (qn x) (x.num.natAbs / x.den + 1) 1 else mkz (qn x) (x.num.natAbs / x.den) 1 := by
 have hd := x.den_pos
 have hf : x.floor = x.num / (x.den : Int) := by
  rw [Rat.floor_def]
 rw [hf]
 have e := Nat.div_add_mod x.num.natAbs x.den
 have hm := Nat.mod_lt x.num.natAbs hd
 generalize hq : x.num.natAbs / x.den = q at *
 generalize hr : x.num.natAbs % x.den = r at *
 have hD : (0 : Int) < (x.den : Int) := by omega
 by_cases hn : qn x = true
 ·have hneg : x.num < 0 := of_decide_eq_true hn
  have hx : x.num = -((x.den : Int) * q + r) := by
   have : (x.num.natAbs : Int) = (x.den : Int) * q + r := by rw [<- e]; simp
   omega
  by_cases h0 : r = 0
  ·rw [if_neg (fun h => h.2 h0), hn, mkz_int, hx, h0]
   congr 1
   show -((x.den : Int) * q + (0 : Nat)) / (x.den : Int) = -(q : Int)
   rw [show -((x.den : Int) * q + ((0 : Nat) : Int)) = (x.den : Int) * (-(q : Int)) by simp [Int.mul_neg]]
   exact Int.mul_ediv_cancel_left _ (by omega)
  ·rw [if_pos ⟨hn, h0⟩, hn, mkz_int, hx]
   congr 1
   show -((x.den : Int) * q + r) / (x.den : Int) = -((q + 1 : Nat) : Int)
   rw [show -((x.den : Int) * q + (r : Int)) = ((x.den : Int) - r) + (x.den : Int) * (-(q + 1 : Int)) by rw [Int.mul_neg, Int.mul_add]; omega]
   rw [Int.add_mul_ediv_left _ _ (by omega), Int.ediv_eq_zero_of_lt (by omega) (by omega)]
   omega
 ·have hnn : 0 <= x.num := by
   have : ¬ x.num < 0 := fun h => hn (kE h)
   omega
  rw [if_neg (fun h => hn h.1), show qn x = false by simpa using hn, mkz_int]
  congr 1
  have hx : x.num = (x.den : Int) * q + r := by
   have : (x.num.natAbs : Int) = (x.den : Int) * q + r := by rw [<- e]; simp
   omega
  show x.num / (x.den : Int) = (q : Int)
  rw [hx, Int.add_comm, Int.add_mul_ediv_left _ _ (by omega), Int.ediv_eq_zero_of_lt (by omega) (by omega)]
  omega
theorem one1 : (⟨#[1]⟩ : ByteArray) = nb 1 := by kernel_rfl
theorem emp0 : (⟨#[]⟩ : ByteArray) = nb 0 := by kernel_rfl
theorem M76_nb {a d W : Nat} (h0 : 0 < d) (ha : a < 2 ^ W) (hd : d < 2 ^ W) (h1 : 0 < W) (h8 : W <= 800000) : qe (M76 (nb a) (nb d) W) = true :=
 decP_iff.2 ⟨by rw [qG], by rw [qG], by rw [qG]; exact h0, by rw [qG]; exact ha, by rw [qG]; exact hd, h1, h8⟩
include hG in
theorem gkWh (hT : qr G) : qc prog G 123 gWh := by
 intro args hs K y h
 unfold gWh at h
 split at h
 case h_2 => cases h
 rename_i x n
 obtain ⟨hc, hr⟩ := k8 h
 rw [kG] at hc
 refine ⟨_, _, ?_, hr⟩
 refine pc_assume _ q1_sz fun hq => ?_
 obtain ⟨s1, s2, s3⟩ := sz_lt hq
 have hd := x.den_pos
 have p1 : 2 ^ n < 2 ^ (n + 1) := Nat.pow_lt_pow_right (by omega) (by omega)
 have p0 : 1 < 2 ^ (n + 1) := Nat.lt_of_le_of_lt (Nat.one_le_two_pow) p1
 have hqle : x.num.natAbs / x.den <= x.num.natAbs := Nat.div_le_self _ _
 refine qk hG (.cons (gk76 hG hT (n + 1)) (.cons (hk108 hG) (.cons (hk113 hG) .nil))) mix enterWh (L := []) (pol := {}) (k9 (by kernel_rfl)) ?_
 rw [kWh x n (n + 1)]
 simp only [rnum_eq, rden_eq, one1, emp0, quB_nb, rmB_nb, adB_nb, val_nb, mkq_nb]
 rw [floor_z]
 have b0 : (bz (nb x.num.natAbs) && bz (nb x.den) && decide (0 < x.den)) = true := by
  rw [qC s1 (by omega), qC s2 (by omega), kE hd]; rfl
 have b1 : (bz (nb (x.num.natAbs / x.den)) && bz (nb 1)) = true := by
  rw [qC (k := x.num.natAbs / x.den) (n := n) (by omega) (by omega), qC (k := 1) (n := n + 1) p0 (by omega)]; rfl
 have m1 : qe (M76 (nb (x.num.natAbs / x.den)) (nb 1) (n + 1)) = true := M76_nb (by omega) (by omega) p0 (by omega) (by omega)
 have m2 : qe (M76 (nb (x.num.natAbs / x.den + 1)) (nb 1) (n + 1)) = true := M76_nb (by omega) (by omega) p0 (by omega) (by omega)
 have nbz : ∀ k : Nat, (nb k = nb 0) ↔ k = 0 := fun k => ⟨fun h => by have := congrArg (fun b : ByteArray => bv b.data.toList) h; simpa [qG] using this, fun h => by rw [h]⟩
 rw [k5 b0]
 cases hn : qn x with
 | false =>
  rw [k6 rfl, k5 m1, if_neg (by simp), k7]
 | true =>
  rw [k5 rfl]
  by_cases h0 : x.num.natAbs % x.den = 0
  ·rw [k6 (by rw [kE ((nbz _).2 h0)]; rfl), k5 m1, if_neg (fun h => h.2 h0), k7]
  ·rw [k5 (by rw [kF (fun h => h0 ((nbz _).1 h))]; rfl), k5 b1, k5 m2, if_pos ⟨rfl, h0⟩, k7]
theorem enterDn : Enters prog 103 f103 (qg f103) := ⟨func103, by kernel_rfl, rfl⟩
theorem enterUp : Enters prog 104 f104 (qg f104) := ⟨func104, by kernel_rfl, rfl⟩
def isMil (a b : ByteArray) : Prop := a = nb 1000000 /\ b = nb 1
def gMil : Spec := fun args hs K => match args, hs with
 | [.q x n, .agg [.bl false, .s a, .s b]], [] => .br (qe (isMil a b)) (.br (Nat.ble (n + 20) 800000) (K (.q (x * 1000000) (n + 20)) []) (.no 1)) (.no 1)
 | _, _ => .no 1
theorem kDn (x : Rat) (n : Nat) (W : Nat) : evF prog [(53, gMil), (81, g76 W), (82, s107), (123, gWh)] [] {} f103 [.q x n, .i .i64 1000000] [] qm =
 Tr.br (decide ((if (1 : Int) > (1000000 : Int) then (1 : Int) else (1000000 : Int)) <= 9223372036854775807)) (.br (qe (isMil (nb (if (1 : Int) > (1000000 : Int) then (1 : Int) else (1000000 : Int)).toNat) (ByteArray.mk #[(1 : UInt8)]))) (.br ((n + 20).ble 800000) (.br ((n + 20).ble 790000) (.br (qe (M76 (qq (↑(x * 1000000).floor : Rat)) (nb (if (1 : Int) > (1000000 : Int) then (1 : Int) else (1000000 : Int)).toNat) W)) (.ok (.ret (.q (mkq (qn (↑(x * 1000000).floor : Rat)) (qq (↑(x * 1000000).floor : Rat)) (nb (if (1 : Int) > (1000000 : Int) then (1 : Int) else (1000000 : Int)).toNat)) W) [])) (.no 1)) (.no 1)) (.no 1)) (.no 1)) (.no 1) := by kernel_rfl
def gDn : Spec := fun args hs K => match args, hs with
 | [.q x n, .i .i64 1000000], [] => .br (Nat.ble n 700000) (K (.q (dnR x) (n + 42)) []) (.no 1)
 | _, _ => .no 1
def gUp : Spec := fun args hs K => match args, hs with
 | [.q x n, .i .i64 1000000], [] => .br (Nat.ble n 700000) (K (.q (upR x) (n + 42)) []) (.no 1)
 | _, _ => .no 1
theorem kUp (x : Rat) (n : Nat) : evF prog [(65, g83), (103, gDn)] [] {} f104 [.q x n, .i .i64 1000000] [] qm =
 Tr.br (n.ble 800000) (.br (n.ble 700000) (.br ((n + 42).ble 800000) (.ok (.ret (.q (-dnR (-x)) (n + 42)) [])) (.no 1)) (.no 1)) (.no 1) := by kernel_rfl
theorem mil_sz : sz (1000000 : Rat) <= 20 := by decide +kernel
include hG in
theorem gkMil (hT : qr G) : qc prog G 53 gMil := by
 intro args hs K y h
 unfold gMil at h
 split at h
 case h_2 => cases h
 rename_i x n a b
 obtain ⟨hc, hr⟩ := k8 h
 obtain ⟨hb, hr⟩ := k8 hr
 obtain ⟨rfl, rfl⟩ := decP_iff.1 hc
 refine ⟨_, _, ?_, hr⟩
 have hv : VLe (.agg [.bl false, .s (nb 1000000), .s (nb 1)]) (.q 1000000 20) := by
  have key : ∀ (w : World) (S : Nat -> Prop) (μ : Mu) (cs : List Value), RepC w S μ (.agg [.bl false, .s (nb 1000000), .s (nb 1)]) cs -> RepC w S μ (.q 1000000 20) cs := by
   intro w S μ cs hc
   cases hc with
   | agg _ _ _ h1 =>
    cases h1 with
    | cons _ _ _ c1 d1 h2 h3 =>
     cases h2
     cases h3 with
     | cons _ _ _ c2 d2 h4 h5 =>
      cases h4
      cases h5 with
      | cons _ _ _ c3 d3 h6 h7 =>
       cases h6
       cases h7
       exact .q _ (1000000 : Rat) 20 mil_sz
  refine ⟨rfl, fun w S μ => ⟨key w S μ, fun x hx => ?_⟩⟩
  cases hx with
  | cell _ _ _ hv _ => cases hv
  | agg _ _ cs hv hc => exact .agg _ _ _ rfl (key w S μ cs hc)
 exact PC.args (.cons (.refl _) (.cons hv .nil)) (pc_spec (gk43 hG hT) (r := .q (x * 1000000) (n + 20)) (hs' := []) ((k5 hb).trans rfl))
theorem mk_mil (k : Int) : mkz (qn (k : Rat)) ((k : Rat).num.natAbs) 1000000 = (k : Rat) / 1000000 := by
 unfold mkz
 rw [sg_num]
 show mkRat k 1000000 = _
 rw [Rat.mkRat_eq_div]
 rfl
theorem ab_up (x : Rat) : x <= ((x.num.natAbs : Int) : Rat) := by
 rw [Rat.le_iff]
 have h := Nat.le_mul_of_pos_right x.num.natAbs x.den_pos
 have h2 : ((x.num.natAbs * x.den : Nat) : Int) = (x.num.natAbs : Int) * (x.den : Int) := by simp
 show x.num * ((1 : Nat) : Int) <= (x.num.natAbs : Int) * (x.den : Int)
 rw [<- h2]
 omega
theorem ab_dn (x : Rat) : -((x.num.natAbs : Int) : Rat) <= x := by
 have h := ab_up (-x)
 rw [neg_natAbs] at h
 grind
theorem fl_bd (x : Rat) (c : Int) (hc : 0 <= c) : (x * (c : Rat)).floor.natAbs <= x.num.natAbs * c.natAbs := by
 have hc' : (0 : Rat) <= (c : Rat) := Rat.intCast_le_intCast.2 hc
 have h1 := Rat.mul_le_mul_of_nonneg_right (ab_up x) hc'
 have h2 := Rat.mul_le_mul_of_nonneg_right (ab_dn x) hc'
 have e1 : ((x.num.natAbs : Int) : Rat) * (c : Rat) = (((x.num.natAbs : Int) * c : Int) : Rat) := by rw [Rat.intCast_mul]
 have e2 : -((x.num.natAbs : Int) : Rat) * (c : Rat) = ((-((x.num.natAbs : Int) * c) : Int) : Rat) := by rw [Rat.intCast_neg, Rat.intCast_mul]; grind
 rw [e1] at h1
 rw [e2] at h2
 have f1 := Rat.intCast_le_intCast.1 (Rat.le_trans (Rat.floor_le _) h1)
 have f2 := Rat.le_floor_iff.2 h2
 have e3 : ((x.num.natAbs * c.natAbs : Nat) : Int) = (x.num.natAbs : Int) * c := by
  rw [Int.natCast_mul, Int.natAbs_of_nonneg hc]
 omega
include hG in
theorem gkDn (hT : qr G) : qc prog G 103 gDn := by
 intro args hs K y h
 unfold gDn at h
 split at h
 case h_2 => cases h
 rename_i x n
 obtain ⟨hc, hr⟩ := k8 h
 rw [kG] at hc
 refine ⟨_, _, ?_, hr⟩
 refine pc_assume (sz x <= n) (fun w S μ vs h => by cases h with | cons _ _ _ _ _ h _ => exact q_szV h) fun hq => ?_
 obtain ⟨s1, s2, s3⟩ := sz_lt hq
 have hz := fl_bd x 1000000 (by decide)
 have p20 : (1000000 : Nat) < 2 ^ 20 := by decide
 have hb : (x * ((1000000 : Int) : Rat)).floor.natAbs < 2 ^ (n + 42) := by
  refine Nat.lt_of_le_of_lt hz ?_
  show x.num.natAbs * 1000000 < _
  have a1 : x.num.natAbs * 1000000 < 2 ^ n * 2 ^ 20 := Nat.mul_lt_mul_of_lt_of_le s1 (Nat.le_of_lt p20) (by decide)
  rw [<- Nat.pow_add] at a1
  exact Nat.lt_of_lt_of_le a1 (Nat.pow_le_pow_right (by omega) (by omega))
 have hd : (1000000 : Nat) < 2 ^ (n + 42) := Nat.lt_of_lt_of_le p20 (Nat.pow_le_pow_right (by omega) (by omega))
 refine qk hG (.cons (gkMil hG hT) (.cons (gk76 hG hT (n + 42)) (.cons (ok107 hG) (.cons (gkWh hG hT) .nil)))) mix enterDn (L := []) (pol := {}) (k9 (by kernel_rfl)) ?_
 rw [kDn x n (n + 42)]
 rw [dnR, qd, <- mk_mil]
 have hi : (if (1 : Int) > 1000000 then (1 : Int) else 1000000).toNat = 1000000 := by decide
 simp only [hi, rnum_eq, mkq_nb]
 have hb' : ((x * 1000000).floor : Rat).num.natAbs < 2 ^ (n + 42) := hb
 rw [k5 (by decide), k5 (decP_iff.2 ⟨rfl, one1⟩), k5 (by rw [kG]; omega), k5 (by rw [kG]; omega), k5 (M76_nb (by omega) hb' hd (by omega) (by omega)), k7]
include hG in
theorem gkUp (hT : qr G) : qc prog G 104 gUp := by
 intro args hs K y h
 unfold gUp at h
 split at h
 case h_2 => cases h
 rename_i x n
 obtain ⟨hc, hr⟩ := k8 h
 rw [kG] at hc
 refine ⟨_, _, ?_, hr⟩
 refine qk hG (.cons (gk83 hG hT) (.cons (gkDn hG hT) .nil)) mix enterUp (L := []) (pol := {}) (k9 (by kernel_rfl)) ?_
 rw [kUp x n, upR, qd, k5 (by rw [kG]; omega), k5 (by rw [kG]; omega), k5 (by rw [kG]; omega), k7]
theorem enOf : Enters prog 41 f41 (qg f41) := ⟨func41, by kernel_rfl, rfl⟩
theorem enGd : Enters prog 89 f89 (qg f89) := ⟨func89, by kernel_rfl, rfl⟩
theorem enFt : Enters prog 56 f56 (qg f56) := ⟨func56, by kernel_rfl, rfl⟩
theorem enHs : Enters prog 15 f15 (qg f15) := ⟨func15, by kernel_rfl, rfl⟩
theorem enJn : Enters prog 68 f68 (qg f68) := ⟨func68, by kernel_rfl, rfl⟩
theorem enAd : Enters prog 47 f47 (qg f47) := ⟨func47, by kernel_rfl, rfl⟩
theorem enSb : Enters prog 45 f45 (qg f45) := ⟨func45, by kernel_rfl, rfl⟩
theorem enAr : Enters prog 80 f80 (qg f80) := ⟨func80, by kernel_rfl, rfl⟩
theorem enMu : Enters prog 46 f46 (qg f46) := ⟨func46, by kernel_rfl, rfl⟩
theorem enSq : Enters prog 76 f76 (qg f76) := ⟨func76, by kernel_rfl, rfl⟩
theorem enOu : Enters prog 78 f78 (qg f78) := ⟨func78, by kernel_rfl, rfl⟩
def eqN (args : List PV) (n m : Nat) : Prop := (∃ a b c d, args = [.agg [.q a n, .q b n], .agg [.q c m, .q d m]]) /\ 1 <= n /\ 1 <= m /\ n + m <= 50000
def eqN1 (n m : Nat) : Prop := n = m /\ 1 <= n /\ n <= 25000
def spR (a b : Rat) (n : Nat) : PV := .agg [.q a n, .q b n]
def gOf : Spec := fun args hs K => match args, hs with
 | [.q x n], [] => .br (Nat.ble n 400000) (K (.agg [.q x n, .q x n]) []) (.no 1)
 | _, _ => .no 1
theorem kOf (x : Rat) (n : Nat) : evF prog [(48, v80)] [] {} f41 [.q x n] [] qm =
 Tr.br (qe (x = x /\ n = n /\ n <= 400000)) (.ok (.ret (.agg [.q x n, .q x n]) [])) (.no 1) := by kernel_rfl
def gGd : Spec := evF prog [(57, g27), (92, g109)] [] {} f89
def gFt : Spec := fun args hs K => match args, hs with
 | [.agg [.q a n, .q b m]], [] => .br (Nat.ble 1 n && Nat.ble 1 m && Nat.ble (n + m) 800000) (K (.agg [.q (qj a b).lo n, .q (qj a b).hi m]) []) (.no 1)
 | _, _ => .no 1
theorem kFt (a b : Rat) (n m : Nat) : evF prog [(41, gOf), (49, g71), (89, gGd)] [] {} f56 [.agg [.q a n, .q b m]] [] qm =
 Tr.br (n.ble 800000) (.br (m.ble 800000) (.br ((n + m).ble 800000) (.br (!decide (rcmp a b <= 0)) (.br (decide ((-72057594037927936 : Int) < 0) && decide ((0 : Int) <= 9223372036854775807)) (.br (((Int.natAbs (0 : Int)).log2 + 1).ble 400000) (.ok (.ret (.agg [.q (↑(0 : Int) : Rat) 1, .q (↑(0 : Int) : Rat) 1]) [])) (.no 1)) (.no 1)) (.ok (.ret (.agg [.q a n, .q b m]) []))) (.no 1)) (.no 1)) (.no 1) := by kernel_rfl
def gHs : Spec := fun args hs K => match args, hs with
 | [.agg [.q a n, .q b m], .q x k], [] => .br (Nat.ble 1 n && Nat.ble 1 m && Nat.ble (n + m + k) 400000) (K (.b (hasB (qj a b) x)) []) (.no 1)
 | _, _ => .no 1
theorem kHs (a b x : Rat) (n m k : Nat) : evF prog [(56, gFt), (57, g27)] [] {} f15 [.agg [.q a n, .q b m], .q x k] [] qm =
 Tr.br (Nat.ble 1 n && Nat.ble 1 m && (n + m).ble 800000) (.br ((n + k).ble 800000) (.br (decide (rcmp (qj a b).lo x <= 0)) (.br ((k + m).ble 800000) (.ok (.ret (.b (decide (rcmp x (qj a b).hi <= 0))) [])) (.no 1)) (.ok (.ret (.bl false) []))) (.no 1)) (.no 1) := by kernel_rfl
def gJn : Spec := fun args hs K => match args, hs with
 | [.agg [.q a n, .q b _], .agg [.q c m, .q d _]], [] => .br (qe (eqN args n m)) (K (.agg [.q (joinS (qj a b) (qj c d)).lo (Nat.max n m), .q (joinS (qj a b) (qj c d)).hi (Nat.max n m)]) []) (.no 1)
 | _, _ => .no 1
def gAd : Spec := fun args hs K => match args, hs with
 | [.agg [.q a n, .q b _], .agg [.q c m, .q d _]], [] => .br (qe (eqN args n m)) (K (.agg [.q (addS (qj a b) (qj c d)).lo (n + m + 1), .q (addS (qj a b) (qj c d)).hi (n + m + 1)]) []) (.no 1)
 | _, _ => .no 1
def gSb : Spec := fun args hs K => match args, hs with
 | [.agg [.q a n, .q b _], .agg [.q c m, .q d _]], [] => .br (qe (eqN args n m)) (K (.agg [.q (subS (qj a b) (qj c d)).lo (n + m + 1), .q (subS (qj a b) (qj c d)).hi (n + m + 1)]) []) (.no 1)
 | _, _ => .no 1
def gMu : Spec := fun args hs K => match args, hs with
 | [.agg [.q a n, .q b _], .agg [.q c m, .q d _]], [] => .br (qe (eqN args n m)) (K (.agg [.q (qF (qj a b) (qj c d)).lo (n + m), .q (qF (qj a b) (qj c d)).hi (n + m)]) []) (.no 1)
 | _, _ => .no 1
def gSq : Spec := fun args hs K => match args, hs with
 | [.agg [.q a n, .q b m]], [] => .br (qe (eqN1 n m)) (K (.agg [.q (sqS (qj a b)).lo (n + n), .q (sqS (qj a b)).hi (n + n)]) []) (.no 1)
 | _, _ => .no 1
def gOu : Spec := fun args hs K => match args, hs with
 | [.agg [.q a n, .q b m], .i .i64 1000000], [] => .br (qe (eqN1 n m)) (K (.agg [.q (dnR (qj a b).lo) (n + 42), .q (upR (qj a b).hi) (n + 42)]) []) (.no 1)
 | _, _ => .no 1
def gAr : Spec := fun args hs K => match args, hs with
 | [.lst 3 (.rats w [a, b, c, d])], [] => .br (Nat.ble 1 w && Nat.ble w 200000) (K (.agg [.q (mnR (mnR (mnR a b) c) d) w, .q (mxR (mxR (mxR a b) c) d) w]) []) (.no 1)
 | [.lst 3 (.rats w [a, b])], [] => .br (Nat.ble 1 w && Nat.ble w 200000) (K (.agg [.q (mnR a b) w, .q (mxR a b) w]) []) (.no 1)
 | _, _ => .no 1
def OFt : Orc := [(27, g86), (48, g80), (52, g21), (53, g43), (55, g29), (56, gFt), (80, gAr)]
theorem kJn (a b c d : Rat) (n m : Nat) : evF prog OFt [] {} f68 [spR a b n, spR c d m] [] qm =
 Tr.br (Nat.ble 1 n && Nat.ble 1 n && (n + n).ble 800000) (.br (Nat.ble 1 m && Nat.ble 1 m && (m + m).ble 800000) (.br ((n + m).ble 400000) (.br ((n + m).ble 400000) (.ok (.ret (.agg [.q (mnR (qj a b).lo (qj c d).lo) (n.max m), .q (mxR (qj a b).hi (qj c d).hi) (n.max m)]) [])) (.no 1)) (.no 1)) (.no 1)) (.no 1) := by kernel_rfl
theorem kAd (a b c d : Rat) (n m : Nat) : evF prog OFt [] {} f47 [spR a b n, spR c d m] [] qm =
 Tr.br (Nat.ble 1 n && Nat.ble 1 n && (n + n).ble 800000) (.br (Nat.ble 1 m && Nat.ble 1 m && (m + m).ble 800000) (.br ((n + m + 1).ble 800000) (.br ((n + m + 1).ble 800000) (.ok (.ret (.agg [.q ((qj a b).lo + (qj c d).lo) (n + m + 1), .q ((qj a b).hi + (qj c d).hi) (n + m + 1)]) [])) (.no 1)) (.no 1)) (.no 1)) (.no 1) := by kernel_rfl
theorem kSb (a b c d : Rat) (n m : Nat) : evF prog OFt [] {} f45 [spR a b n, spR c d m] [] qm =
 Tr.br (Nat.ble 1 n && Nat.ble 1 n && (n + n).ble 800000) (.br (Nat.ble 1 m && Nat.ble 1 m && (m + m).ble 800000) (.br ((n + m + 1).ble 800000) (.br ((n + m + 1).ble 800000) (.ok (.ret (.agg [.q ((qj a b).lo - (qj c d).hi) (n + m + 1), .q ((qj a b).hi - (qj c d).lo) (n + m + 1)]) [])) (.no 1)) (.no 1)) (.no 1)) (.no 1) := by kernel_rfl
theorem kMu (a b c d : Rat) (n m : Nat) : evF prog OFt [] {} f46 [spR a b n, spR c d m] [] qm =
 Tr.br (Nat.ble 1 n && Nat.ble 1 n && (n + n).ble 800000) (.br (Nat.ble 1 m && Nat.ble 1 m && (m + m).ble 800000) (.br ((n + m).ble 800000) (.br ((n + m).ble 800000) (.br ((n + m).ble 800000) (.br ((n + m).ble 800000) (.br (Nat.ble 1 ((n + m).max ((n + m).max ((n + m).max ((n + m).max (0 : Nat))))) && ((n + m).max ((n + m).max ((n + m).max ((n + m).max (0 : Nat))))).ble 200000) (.ok (.ret (.agg [.q (mnR (mnR (mnR ((qj a b).lo * (qj c d).lo) ((qj a b).lo * (qj c d).hi)) ((qj a b).hi * (qj c d).lo)) ((qj a b).hi * (qj c d).hi)) ((n + m).max ((n + m).max ((n + m).max ((n + m).max (0 : Nat))))), .q (mxR (mxR (mxR ((qj a b).lo * (qj c d).lo) ((qj a b).lo * (qj c d).hi)) ((qj a b).hi * (qj c d).lo)) ((qj a b).hi * (qj c d).hi)) ((n + m).max ((n + m).max ((n + m).max ((n + m).max (0 : Nat)))))]) [])) (.no 1)) (.no 1)) (.no 1)) (.no 1)) (.no 1)) (.no 1)) (.no 1) := by kernel_rfl
theorem kSq (a b : Rat) (n : Nat) : evF prog [(15, gHs), (49, g71), (53, g43), (56, gFt), (80, gAr)] [] {} f76 [spR a b n] [] qm =
 Tr.br (Nat.ble 1 n && Nat.ble 1 n && (n + n).ble 800000) (.br ((n + n).ble 800000) (.br ((n + n).ble 800000) (.br (Nat.ble 1 ((n + n).max ((n + n).max (0 : Nat))) && ((n + n).max ((n + n).max (0 : Nat))).ble 200000) (.br (decide ((-72057594037927936 : Int) < 0) && decide ((0 : Int) <= 9223372036854775807)) (.br (Nat.ble 1 n && Nat.ble 1 n && (n + n + ((Int.natAbs (0 : Int)).log2 + 1)).ble 400000) (.br (hasB (qj (qj a b).lo (qj a b).hi) (↑(0 : Int) : Rat)) (.br (decide ((-72057594037927936 : Int) < 0) && decide ((0 : Int) <= 9223372036854775807)) (.ok (.ret (.agg [.q (↑(0 : Int) : Rat) 1, .q (mxR ((qj a b).lo * (qj a b).lo) ((qj a b).hi * (qj a b).hi)) ((n + n).max ((n + n).max (0 : Nat)))]) [])) (.no 1)) (.ok (.ret (.agg [.q (mnR ((qj a b).lo * (qj a b).lo) ((qj a b).hi * (qj a b).hi)) ((n + n).max ((n + n).max (0 : Nat))), .q (mxR ((qj a b).lo * (qj a b).lo) ((qj a b).hi * (qj a b).hi)) ((n + n).max ((n + n).max (0 : Nat)))]) []))) (.no 1)) (.no 1)) (.no 1)) (.no 1)) (.no 1)) (.no 1) := by kernel_rfl
theorem kOu (a b : Rat) (n : Nat) : evF prog [(56, gFt), (103, gDn), (104, gUp)] [] {} f78 [spR a b n, .i .i64 1000000] [] qm =
 Tr.br (Nat.ble 1 n && Nat.ble 1 n && (n + n).ble 800000) (.br (n.ble 700000) (.br (n.ble 700000) (.ok (.ret (.agg [.q (dnR (qj a b).lo) (n + 42), .q (upR (qj a b).hi) (n + 42)]) [])) (.no 1)) (.no 1)) (.no 1) := by kernel_rfl
def bAr : Code := (qi (qg f80)).getD 0 .skip
def polAr : Pol := { live := [(3, [2, 3, 11, 12, 13])] }
def OAr : Orc := [(27, g86), (41, gOf), (48, g80)]
def lAr : qx := unr prog OAr [] polAr f80.ntmps 0 [2, 3, 11, 12, 13] bAr 4
theorem kAr4 (w : Nat) (a b c d : Rat) : (evF prog OAr [(3, lAr)] polAr f80 [.lst 3 (.rats w [a, b, c, d])] [] qm).run =
 (Tr.br (ix ((0 : Int)) ((↑[a, b, c, d].length : Int))) (.br (w.ble 400000) (.br (decide ((0 : Int) <= 1) && decide ((1 : Int) <= (↑[a, b, c, d].length : Int))) (.br (decide ((0 : Int) < (↑[b, c, d].length : Int))) (.br (ix ((0 : Int)) ((↑[b, c, d].length : Int))) (.br ((w + w).ble 400000) (.br ((w + w).ble 400000) (.br (decide ((1 : Int) < (↑[b, c, d].length : Int))) (.br (ix ((1 : Int)) ((↑[b, c, d].length : Int))) (.br ((w.max w + w).ble 400000) (.br ((w.max w + w).ble 400000) (.br (decide ((2 : Int) < (↑[b, c, d].length : Int))) (.br (ix ((2 : Int)) ((↑[b, c, d].length : Int))) (.br (((w.max w).max w + w).ble 400000) (.br (((w.max w).max w + w).ble 400000) (.br (decide ((3 : Int) < (↑[b, c, d].length : Int))) (.br (ix ((3 : Int)) ((↑[b, c, d].length : Int))) (.br ((((w.max w).max w).max w + w).ble 400000) (.br ((((w.max w).max w).max w + w).ble 400000) (.no 16) (.no 1)) (.no 1)) (.no 5004)) (.ok (.ret (.agg [.q (mnR (mnR (mnR ([a, b, c, d].getD (0 : Nat) (0 : Rat)) ((List.take ([a, b, c, d].length - 1) (List.drop (1 : Nat) [a, b, c, d])).getD (0 : Nat) (0 : Rat))) ((List.take ([a, b, c, d].length - 1) (List.drop (1 : Nat) [a, b, c, d])).getD (1 : Nat) (0 : Rat))) ((List.take ([a, b, c, d].length - 1) (List.drop (1 : Nat) [a, b, c, d])).getD (2 : Nat) (0 : Rat))) (((w.max w).max w).max w), .q (mxR (mxR (mxR ([a, b, c, d].getD (0 : Nat) (0 : Rat)) ((List.take ([a, b, c, d].length - 1) (List.drop (1 : Nat) [a, b, c, d])).getD (0 : Nat) (0 : Rat))) ((List.take ([a, b, c, d].length - 1) (List.drop (1 : Nat) [a, b, c, d])).getD (1 : Nat) (0 : Rat))) ((List.take ([a, b, c, d].length - 1) (List.drop (1 : Nat) [a, b, c, d])).getD (2 : Nat) (0 : Rat))) (((w.max w).max w).max w)]) []))) (.no 1)) (.no 1)) (.no 5004)) (.ok (.ret (.agg [.q (mnR (mnR ([a, b, c, d].getD (0 : Nat) (0 : Rat)) ((List.take ([a, b, c, d].length - 1) (List.drop (1 : Nat) [a, b, c, d])).getD (0 : Nat) (0 : Rat))) ((List.take ([a, b, c, d].length - 1) (List.drop (1 : Nat) [a, b, c, d])).getD (1 : Nat) (0 : Rat))) ((w.max w).max w), .q (mxR (mxR ([a, b, c, d].getD (0 : Nat) (0 : Rat)) ((List.take ([a, b, c, d].length - 1) (List.drop (1 : Nat) [a, b, c, d])).getD (0 : Nat) (0 : Rat))) ((List.take ([a, b, c, d].length - 1) (List.drop (1 : Nat) [a, b, c, d])).getD (1 : Nat) (0 : Rat))) ((w.max w).max w)]) []))) (.no 1)) (.no 1)) (.no 5004)) (.ok (.ret (.agg [.q (mnR ([a, b, c, d].getD (0 : Nat) (0 : Rat)) ((List.take ([a, b, c, d].length - 1) (List.drop (1 : Nat) [a, b, c, d])).getD (0 : Nat) (0 : Rat))) (w.max w), .q (mxR ([a, b, c, d].getD (0 : Nat) (0 : Rat)) ((List.take ([a, b, c, d].length - 1) (List.drop (1 : Nat) [a, b, c, d])).getD (0 : Nat) (0 : Rat))) (w.max w)]) []))) (.no 1)) (.no 1)) (.no 5004)) (.ok (.ret (.agg [.q ([a, b, c, d].getD (0 : Nat) (0 : Rat)) w, .q ([a, b, c, d].getD (0 : Nat) (0 : Rat)) w]) []))) (.no 3003)) (.no 1)) (.no 2005)).run := by kernel_rfl
theorem kAr2 (w : Nat) (a b : Rat) : (evF prog OAr [(3, lAr)] polAr f80 [.lst 3 (.rats w [a, b])] [] qm).run =
 (Tr.br (ix ((0 : Int)) ((↑[a, b].length : Int))) (.br (w.ble 400000) (.br (decide ((0 : Int) <= 1) && decide ((1 : Int) <= (↑[a, b].length : Int))) (.br (decide ((0 : Int) < (↑[b].length : Int))) (.br (ix ((0 : Int)) ((↑[b].length : Int))) (.br ((w + w).ble 400000) (.br ((w + w).ble 400000) (.br (decide ((1 : Int) < (↑[b].length : Int))) (.br (ix ((1 : Int)) ((↑[b].length : Int))) (.br ((w.max w + w).ble 400000) (.br ((w.max w + w).ble 400000) (.br (decide ((2 : Int) < (↑[b].length : Int))) (.br (ix ((2 : Int)) ((↑[b].length : Int))) (.br (((w.max w).max w + w).ble 400000) (.br (((w.max w).max w + w).ble 400000) (.br (decide ((3 : Int) < (↑[b].length : Int))) (.br (ix ((3 : Int)) ((↑[b].length : Int))) (.br ((((w.max w).max w).max w + w).ble 400000) (.br ((((w.max w).max w).max w + w).ble 400000) (.no 16) (.no 1)) (.no 1)) (.no 5004)) (.ok (.ret (.agg [.q (mnR (mnR (mnR ([a, b].getD (0 : Nat) (0 : Rat)) ((List.take ([a, b].length - 1) (List.drop (1 : Nat) [a, b])).getD (0 : Nat) (0 : Rat))) ((List.take ([a, b].length - 1) (List.drop (1 : Nat) [a, b])).getD (1 : Nat) (0 : Rat))) ((List.take ([a, b].length - 1) (List.drop (1 : Nat) [a, b])).getD (2 : Nat) (0 : Rat))) (((w.max w).max w).max w), .q (mxR (mxR (mxR ([a, b].getD (0 : Nat) (0 : Rat)) ((List.take ([a, b].length - 1) (List.drop (1 : Nat) [a, b])).getD (0 : Nat) (0 : Rat))) ((List.take ([a, b].length - 1) (List.drop (1 : Nat) [a, b])).getD (1 : Nat) (0 : Rat))) ((List.take ([a, b].length - 1) (List.drop (1 : Nat) [a, b])).getD (2 : Nat) (0 : Rat))) (((w.max w).max w).max w)]) []))) (.no 1)) (.no 1)) (.no 5004)) (.ok (.ret (.agg [.q (mnR (mnR ([a, b].getD (0 : Nat) (0 : Rat)) ((List.take ([a, b].length - 1) (List.drop (1 : Nat) [a, b])).getD (0 : Nat) (0 : Rat))) ((List.take ([a, b].length - 1) (List.drop (1 : Nat) [a, b])).getD (1 : Nat) (0 : Rat))) ((w.max w).max w), .q (mxR (mxR ([a, b].getD (0 : Nat) (0 : Rat)) ((List.take ([a, b].length - 1) (List.drop (1 : Nat) [a, b])).getD (0 : Nat) (0 : Rat))) ((List.take ([a, b].length - 1) (List.drop (1 : Nat) [a, b])).getD (1 : Nat) (0 : Rat))) ((w.max w).max w)]) []))) (.no 1)) (.no 1)) (.no 5004)) (.ok (.ret (.agg [.q (mnR ([a, b].getD (0 : Nat) (0 : Rat)) ((List.take ([a, b].length - 1) (List.drop (1 : Nat) [a, b])).getD (0 : Nat) (0 : Rat))) (w.max w), .q (mxR ([a, b].getD (0 : Nat) (0 : Rat)) ((List.take ([a, b].length - 1) (List.drop (1 : Nat) [a, b])).getD (0 : Nat) (0 : Rat))) (w.max w)]) []))) (.no 1)) (.no 1)) (.no 5004)) (.ok (.ret (.agg [.q ([a, b].getD (0 : Nat) (0 : Rat)) w, .q ([a, b].getD (0 : Nat) (0 : Rat)) w]) []))) (.no 3003)) (.no 1)) (.no 2005)).run := by kernel_rfl

theorem one_q0 {n : Nat} (h : 1 <= n) : VLe (.q ((0 : Int) : Rat) 1) (.q 0 n) := vle_qm h
theorem fitS_no {a b : Rat} (h : ¬ a <= b) : qj a b = ⟨0, 0, Rat.le_refl⟩ := by unfold qj; rw [dif_neg h]
include hG in
theorem gkOf (hT : qr G) : qc prog G 41 gOf := by
 intro args hs K y h
 unfold gOf at h
 split at h
 case h_2 => cases h
 rename_i x n
 obtain ⟨hc, hr⟩ := k8 h
 rw [kG] at hc
 refine ⟨_, _, qk hG (.cons (vk80 hG hT) .nil) mix enOf (L := []) (pol := {}) (k9 (by kernel_rfl)) ?_, hr⟩
 rw [kOf, k5 (decP_iff.2 ⟨rfl, rfl, hc⟩), k7]
include hG in
theorem gkGd (hT : qr G) : qc prog G 89 gGd := spec_ev hG (.cons (gk27 hG hT) (.cons (gk109 hG hT) .nil)) mix enGd (fun _ => k9 (by kernel_rfl))
theorem ble3 {a b c : Nat} {n m k : Nat} (h : (Nat.ble a n && Nat.ble b m && Nat.ble k c) = true) : a <= n /\ b <= m /\ k <= c := by
 simp only [kA, kG] at h; exact ⟨h.1.1, h.1.2, h.2⟩
include hG in
theorem gkFt (hT : qr G) : qc prog G 56 gFt := by
 intro args hs K y h
 unfold gFt at h
 split at h
 case h_2 => cases h
 rename_i a n b m
 obtain ⟨hc, hr⟩ := k8 h
 obtain ⟨h1, h2, h3⟩ := ble3 hc
 by_cases g : a <= b
 ·refine ⟨_, _, qk hG (.cons (gkOf hG hT) (.cons (gk71 hG) (.cons (gkGd hG hT) .nil))) mix enFt (L := []) (pol := {}) (k9 (by kernel_rfl)) ?_, hr⟩
  rw [kFt, fitS_lo g, fitS_hi g, k5 (by rw [kG]; omega), k5 (by rw [kG]; omega), k5 (by rw [kG]; omega), k6 (by rw [kE (rcmp_le.2 g)]; rfl), k7]
 ·refine ⟨_, _, (qk hG (.cons (gkOf hG hT) (.cons (gk71 hG) (.cons (gkGd hG hT) .nil))) mix enFt (L := []) (pol := {}) (k9 (by kernel_rfl)) (r := .agg [.q ((0 : Int) : Rat) 1, .q ((0 : Int) : Rat) 1]) (hs' := []) ?_).le (rle_of_vle (fun _ => rfl) (fun _ => rfl) (VLe.agg (vllc (one_q0 h1) (vllc (one_q0 h2) vll0)))) (.refl _), by rw [fitS_no g] at hr; exact hr⟩
  rw [kFt, k5 (by rw [kG]; omega), k5 (by rw [kG]; omega), k5 (by rw [kG]; omega), k5 (by rw [kF (fun h => g (rcmp_le.1 h))]; rfl), k5 (by decide), k5 (by decide), k7]
include hG in
theorem gkHs (hT : qr G) : qc prog G 15 gHs := by
 intro args hs K y h
 unfold gHs at h
 split at h
 case h_2 => cases h
 rename_i a n b m x k
 obtain ⟨hc, hr⟩ := k8 h
 obtain ⟨h1, h2, h3⟩ := ble3 hc
 by_cases g : (qj a b).lo <= x
 ·refine ⟨_, _, (qk hG (.cons (gkFt hG hT) (.cons (gk27 hG hT) .nil)) mix enHs (L := []) (pol := {}) (k9 (by kernel_rfl)) (r := .b (hasB (qj a b) x)) (hs' := []) ?_), hr⟩
  rw [kHs, k5 (by simp only [kA, kG]; omega), k5 (by rw [kG]; omega), k5 (kE (rcmp_le.2 g)), k5 (by rw [kG]; omega), k7]
  unfold hasB
  rw [kE g, Bool.true_and]
  congr 4
  exact propext rcmp_le
 ·refine ⟨_, _, (qk hG (.cons (gkFt hG hT) (.cons (gk27 hG hT) .nil)) mix enHs (L := []) (pol := {}) (k9 (by kernel_rfl)) (r := .bl false) (hs' := []) ?_).le (rle_bl (y := hasB (qj a b) x) (by unfold hasB; rw [kF g]; rfl)) (.refl _), hr⟩
  rw [kHs, k5 (by simp only [kA, kG]; omega), k5 (by rw [kG]; omega), k6 (kF (fun h => g (rcmp_le.1 h))), k7]
include hG in
theorem orcAr (hT : qr G) : OrcOK prog G OAr := .cons (gk86 hG hT) (.cons (gkOf hG hT) (.cons (gk80 hG hT) .nil))
include hG in
theorem gkAr (hT : qr G) : qc prog G 80 gAr := by
 have hl := fun m : Nat => lps1 (P := prog) (G := G) (pol := polAr) (n := f80.ntmps) (m := 0) (L := [(3, lAr)]) (c := qg f80) (b := bAr) (live := [2, 3, 11, 12, 13]) (sp := lAr) (by kernel_rfl) (by kernel_rfl) (by kernel_rfl) (unr_ok hG (orcAr hG hT) mix (k9 (by kernel_rfl)) 4)
 intro args hs K y h
 unfold gAr at h
 split at h
 case h_3 => cases h
 ·rename_i w a b c d
  obtain ⟨hc, hr⟩ := k8 h
  simp only [kA, kG] at hc
  refine ⟨_, _, qk hG (orcAr hG hT) mix enAr (hs := []) (L := [(3, lAr)]) (pol := polAr) (hl 0) ?_, hr⟩
  rw [kAr4]
  simp only [Nat.max_self]
  repeat first | rw [k5 (by first | (simp only [kA, Bool.or_eq_true, kD, kG, Nat.blt_eq, kH, kI, kJ, kK]; omega) | exact kF (by simp) | exact decP_iff.2 ⟨rfl, trivial⟩ | exact decP_iff.2 rfl | exact kE rfl | decide)] | rw [k6 (by first | (simp only [Bool.and_eq_false_iff, Bool.not_eq_false', kD, kK]; omega) | exact kF (by simp) | exact congrArg (!·) (kE rfl) | decide)]
  rw [k7]
  rfl
 ·rename_i w a b
  obtain ⟨hc, hr⟩ := k8 h
  simp only [kA, kG] at hc
  refine ⟨_, _, qk hG (orcAr hG hT) mix enAr (hs := []) (L := [(3, lAr)]) (pol := polAr) (hl 0) ?_, hr⟩
  rw [kAr2]
  simp only [Nat.max_self]
  repeat first | rw [k5 (by first | (simp only [kA, Bool.or_eq_true, kD, kG, Nat.blt_eq, kH, kI, kJ, kK]; omega) | exact kF (by simp) | exact decP_iff.2 ⟨rfl, trivial⟩ | exact decP_iff.2 rfl | exact kE rfl | decide)] | rw [k6 (by first | (simp only [Bool.and_eq_false_iff, Bool.not_eq_false', kD, kK]; omega) | exact kF (by simp) | exact congrArg (!·) (kE rfl) | decide)]
  rw [k7]
  rfl
include hG in
theorem orcFt (hT : qr G) : OrcOK prog G OFt := .cons (gk86 hG hT) (.cons (gk80 hG hT) (.cons (gk21 hG hT) (.cons (gk43 hG hT) (.cons (gk29 hG hT) (.cons (gkFt hG hT) (.cons (gkAr hG hT) .nil))))))
theorem mx4 (k : Nat) : k.max (k.max (k.max (k.max 0))) = k := by simp [Nat.max_def]
theorem mx2 (k : Nat) : k.max (k.max 0) = k := by simp [Nat.max_def]
include hG in
theorem gkJn (hT : qr G) : qc prog G 68 gJn := by
 intro args hs K y h
 unfold gJn at h
 split at h
 case h_2 => cases h
 rename_i a n b n' c m d m'
 obtain ⟨hc, hr⟩ := k8 h
 obtain ⟨⟨a0, b0, c0, d0, he⟩, h1, h2, h3⟩ := decP_iff.1 hc
 cases he
 refine ⟨_, _, qk hG (orcFt hG hT) mix enJn (L := []) (pol := {}) (k9 (by kernel_rfl)) ?_, hr⟩
 refine (congrArg Tr.run (kJn a b c d n m)).trans ?_
 repeat first | rw [k5 (by first | (simp only [kA, Bool.or_eq_true, kD, kG, Nat.blt_eq, kH, kI, kJ, kK]; omega) | exact decP_iff.2 ⟨rfl, trivial⟩ | exact decP_iff.2 rfl | exact kE rfl | decide)] | rw [k6 (by first | (simp only [Bool.and_eq_false_iff, Bool.not_eq_false', kD, kK]; omega) | exact congrArg (!·) (kE rfl) | decide)]
 rw [k7]
 rfl
include hG in
theorem gkAd (hT : qr G) : qc prog G 47 gAd := by
 intro args hs K y h
 unfold gAd at h
 split at h
 case h_2 => cases h
 rename_i a n b n' c m d m'
 obtain ⟨hc, hr⟩ := k8 h
 obtain ⟨⟨a0, b0, c0, d0, he⟩, h1, h2, h3⟩ := decP_iff.1 hc
 cases he
 refine ⟨_, _, qk hG (orcFt hG hT) mix enAd (L := []) (pol := {}) (k9 (by kernel_rfl)) ?_, hr⟩
 refine (congrArg Tr.run (kAd a b c d n m)).trans ?_
 repeat first | rw [k5 (by first | (simp only [kA, Bool.or_eq_true, kD, kG, Nat.blt_eq, kH, kI, kJ, kK]; omega) | exact decP_iff.2 ⟨rfl, trivial⟩ | exact decP_iff.2 rfl | exact kE rfl | decide)] | rw [k6 (by first | (simp only [Bool.and_eq_false_iff, Bool.not_eq_false', kD, kK]; omega) | exact congrArg (!·) (kE rfl) | decide)]
 rw [k7]
 rfl
include hG in
theorem gkSb (hT : qr G) : qc prog G 45 gSb := by
 intro args hs K y h
 unfold gSb at h
 split at h
 case h_2 => cases h
 rename_i a n b n' c m d m'
 obtain ⟨hc, hr⟩ := k8 h
 obtain ⟨⟨a0, b0, c0, d0, he⟩, h1, h2, h3⟩ := decP_iff.1 hc
 cases he
 refine ⟨_, _, qk hG (orcFt hG hT) mix enSb (L := []) (pol := {}) (k9 (by kernel_rfl)) ?_, hr⟩
 refine (congrArg Tr.run (kSb a b c d n m)).trans ?_
 repeat first | rw [k5 (by first | (simp only [kA, Bool.or_eq_true, kD, kG, Nat.blt_eq, kH, kI, kJ, kK]; omega) | exact decP_iff.2 ⟨rfl, trivial⟩ | exact decP_iff.2 rfl | exact kE rfl | decide)] | rw [k6 (by first | (simp only [Bool.and_eq_false_iff, Bool.not_eq_false', kD, kK]; omega) | exact congrArg (!·) (kE rfl) | decide)]
 rw [k7]
 rfl
include hG in
theorem gkMu (hT : qr G) : qc prog G 46 gMu := by
 intro args hs K y h
 unfold gMu at h
 split at h
 case h_2 => cases h
 rename_i a n b n' c m d m'
 obtain ⟨hc, hr⟩ := k8 h
 obtain ⟨⟨a0, b0, c0, d0, he⟩, h1, h2, h3⟩ := decP_iff.1 hc
 cases he
 refine ⟨_, _, qk hG (orcFt hG hT) mix enMu (L := []) (pol := {}) (k9 (by kernel_rfl)) ?_, hr⟩
 refine (congrArg Tr.run (kMu a b c d n m)).trans ?_
 simp only [mx4]
 repeat first | rw [k5 (by first | (simp only [kA, Bool.or_eq_true, kD, kG, Nat.blt_eq, kH, kI, kJ, kK]; omega) | exact decP_iff.2 ⟨rfl, trivial⟩ | exact decP_iff.2 rfl | exact kE rfl | decide)] | rw [k6 (by first | (simp only [Bool.and_eq_false_iff, Bool.not_eq_false', kD, kK]; omega) | exact congrArg (!·) (kE rfl) | decide)]
 rw [k7]
 rfl
include hG in
theorem gkSq (hT : qr G) : qc prog G 76 gSq := by
 intro args hs K y h
 unfold gSq at h
 split at h
 case h_2 => cases h
 rename_i a n b m
 obtain ⟨hc, hr⟩ := k8 h
 obtain ⟨rfl, h1, h2⟩ := decP_iff.1 hc
 have lg0' : (Int.natAbs (0 : Int)).log2 = 0 := by decide
 by_cases g : hasB (qj a b) ((0 : Int) : Rat) = true
 ·have g' : (qj a b).lo <= 0 /\ 0 <= (qj a b).hi := hasB_iff.1 g
  refine ⟨_, _, (qk hG (.cons (gkHs hG hT) (.cons (gk71 hG) (.cons (gk43 hG hT) (.cons (gkFt hG hT) (.cons (gkAr hG hT) .nil))))) mix enSq (L := []) (pol := {}) (k9 (by kernel_rfl)) (r := .agg [.q ((0 : Int) : Rat) 1, .q (mxR ((qj a b).lo * (qj a b).lo) ((qj a b).hi * (qj a b).hi)) (n + n)]) (hs' := []) ?_).le (rle_of_vle (fun _ => rfl) (fun _ => rfl) (VLe.agg (vllc (vle_qm (m := n + n) (by omega)) (vllc (.refl _) vll0)))) (.refl _), ?_⟩
  ·refine (congrArg Tr.run (kSq a b n)).trans ?_
   simp only [mx2, qI, lg0']
   repeat first | rw [k5 (by first | (simp only [kA, Bool.or_eq_true, kD, kG, Nat.blt_eq, kH, kI, kJ, kK]; omega) | exact g | exact decP_iff.2 ⟨rfl, trivial⟩ | exact decP_iff.2 rfl | exact kE rfl | decide)] | rw [k6 (by first | (simp only [Bool.and_eq_false_iff, Bool.not_eq_false', kD, kK]; omega) | exact g | exact congrArg (!·) (kE rfl) | decide)]
   rw [k7]
  ·rw [show (sqS (qj a b)).lo = ((0 : Int) : Rat) from if_pos g'] at hr
   exact hr
 ·have g' : ¬ ((qj a b).lo <= 0 /\ 0 <= (qj a b).hi) := fun h => g (hasB_iff.2 h)
  refine ⟨_, _, qk hG (.cons (gkHs hG hT) (.cons (gk71 hG) (.cons (gk43 hG hT) (.cons (gkFt hG hT) (.cons (gkAr hG hT) .nil))))) mix enSq (L := []) (pol := {}) (k9 (by kernel_rfl)) (r := .agg [.q (mnR ((qj a b).lo * (qj a b).lo) ((qj a b).hi * (qj a b).hi)) (n + n), .q (mxR ((qj a b).lo * (qj a b).lo) ((qj a b).hi * (qj a b).hi)) (n + n)]) (hs' := []) ?_, ?_⟩
  ·refine (congrArg Tr.run (kSq a b n)).trans ?_
   simp only [mx2, qI, lg0']
   repeat first | rw [k5 (by first | (simp only [kA, Bool.or_eq_true, kD, kG, Nat.blt_eq, kH, kI, kJ, kK]; omega) | exact (by simpa using g) | exact decP_iff.2 ⟨rfl, trivial⟩ | exact decP_iff.2 rfl | exact kE rfl | decide)] | rw [k6 (by first | (simp only [Bool.and_eq_false_iff, Bool.not_eq_false', kD, kK]; omega) | exact (by simpa using g) | exact congrArg (!·) (kE rfl) | decide)]
   rw [k7]
  ·rw [show (sqS (qj a b)).lo = mnR ((qj a b).lo * (qj a b).lo) ((qj a b).hi * (qj a b).hi) from if_neg g'] at hr
   exact hr
include hG in
theorem gkOu (hT : qr G) : qc prog G 78 gOu := by
 intro args hs K y h
 unfold gOu at h
 split at h
 case h_2 => cases h
 rename_i a n b m
 obtain ⟨hc, hr⟩ := k8 h
 obtain ⟨rfl, h1, h2⟩ := decP_iff.1 hc
 refine ⟨_, _, qk hG (.cons (gkFt hG hT) (.cons (gkDn hG hT) (.cons (gkUp hG hT) .nil))) mix enOu (L := []) (pol := {}) (k9 (by kernel_rfl)) ?_, hr⟩
 refine (congrArg Tr.run (kOu a b n)).trans ?_
 repeat first | rw [k5 (by first | (simp only [kA, Bool.or_eq_true, kD, kG, Nat.blt_eq, kH, kI, kJ, kK]; omega) | exact decP_iff.2 ⟨rfl, trivial⟩ | exact decP_iff.2 rfl | exact kE rfl | decide)] | rw [k6 (by first | (simp only [Bool.and_eq_false_iff, Bool.not_eq_false', kD, kK]; omega) | exact congrArg (!·) (kE rfl) | decide)]
 rw [k7]
end
section
open Go
set_option maxRecDepth 100000
variable {G : World -> (Nat -> Prop) -> Prop} (hG : GOk G)
theorem rats_le (e : Nat) {n m : Nat} (xs : List Rat) (h : n <= m) : VLe (.lst e (.rats n xs)) (.lst e (.rats m xs)) := VLe.lst rfl fun i _ => (q_rle (x := xs.getD i 0) rfl h).v 0
def c71 : Spec := fun args hs K => match args, hs with
 | [.i .i64 n], [] => .br (decide (-1000000000 < n) && decide (n < 1000000000)) (K (.q (n : Rat) 64) []) (.no 1)
 | _, _ => .no 1
include hG in
theorem ck71 : qc Tryz.prog G 49 c71 := by
 intro args hs K x h
 unfold c71 at h
 split at h
 case h_2 => cases h
 rename_i n
 obtain ⟨hc, hr⟩ := k8 h
 simp only [kA, kD] at hc
 refine ⟨_, _, (pc_spec (gk71 hG) (args := [.i .i64 n]) (r := .q (n : Rat) (Nat.log2 n.natAbs + 1)) (hs' := []) ?_).le (q_rle rfl ?_) (.refl _), hr⟩
 ·show (Tr.br _ _ _).run = _
  rw [k5 (by simp only [kA, kD]; omega)]
  rfl
 ·have h1 : n.natAbs < 2 ^ 63 := by omega
  by_cases h0 : n.natAbs = 0
  ·rw [h0]; decide
  ·have := (Nat.log2_lt h0).2 h1
   omega
def nz72 (y : Rat) : Prop := ¬ y = 0
def c72 : Spec := fun args hs K => match args, hs with
 | [.q x n, .q y m], [] => .br (qe (nz72 y)) (.br (Nat.ble (n + m) 800000) (K (.tup [.q (x / y) (n + m), .i .i64 0]) []) (.no 1)) (.no 1)
 | _, _ => .no 1
include hG in
theorem ck72 (hT : qr G) : qc Tryz.prog G 59 c72 := by
 intro args hs K x h
 unfold c72 at h
 split at h
 case h_2 => cases h
 rename_i x n y m
 obtain ⟨hc, hr⟩ := k8 h
 obtain ⟨hb, hr⟩ := k8 hr
 exact ⟨_, _, pc_spec (gk72 hG hT) ((k5 hb).trans ((k6 (kF (decP_iff.1 hc))).trans rfl)), hr⟩
end
section
open Go Tryz
set_option maxRecDepth 100000
variable {G : World -> (Nat -> Prop) -> Prop} (hG : GOk G)
theorem enOn : Enters prog 79 f79 (qg f79) := ⟨func79, by kernel_rfl, rfl⟩
theorem enCu : Enters prog 44 f44 (qg f44) := ⟨func44, by kernel_rfl, rfl⟩
theorem enCs : Enters prog 42 f42 (qg f42) := ⟨func42, by kernel_rfl, rfl⟩
theorem enCc : Enters prog 77 f77 (qg f77) := ⟨func77, by kernel_rfl, rfl⟩
theorem enSn : Enters prog 43 f43 (qg f43) := ⟨func43, by kernel_rfl, rfl⟩
def gOn : Spec := evF prog [(49, g71)] [] {} f79
theorem kCu (a b : Rat) (n : Nat) : evF prog [(27, g86), (48, g80), (78, gOu), (79, gOn)] [] {} f44 [spR a b n] [] qm =
 Tr.br (qe (eqN1 n n)) (.br (decide ((-72057594037927936 : Int) < (-1)) && decide ((-1 : Int) <= 9223372036854775807)) (.br (decide ((-72057594037927936 : Int) < 1) && decide ((1 : Int) <= 9223372036854775807)) (.br ((n + 42 + ((-1 : Int).natAbs.log2 + 1)).ble 400000) (.br (decide ((-72057594037927936 : Int) < (-1)) && decide ((-1 : Int) <= 9223372036854775807)) (.br (decide ((-72057594037927936 : Int) < 1) && decide ((1 : Int) <= 9223372036854775807)) (.br ((n + 42 + ((Int.natAbs (1 : Int)).log2 + 1)).ble 400000) (.ok (.ret (.agg [.q (mxR (dnR (qj a b).lo) (↑(-1 : Int) : Rat)) ((n + 42).max ((-1 : Int).natAbs.log2 + 1)), .q (mnR (upR (qj a b).hi) (↑(1 : Int) : Rat)) ((n + 42).max ((Int.natAbs (1 : Int)).log2 + 1))]) [])) (.no 1)) (.no 1)) (.no 1)) (.no 1)) (.no 1)) (.no 1)) (.no 1) := by kernel_rfl
def okC (a b : Rat) (n m : Nat) : Prop := eqN1 n m /\ cutL (qj a b) <= cutH (qj a b)
def gCu : Spec := fun args hs K => match args, hs with
 | [.agg [.q a n, .q b m]], [] => .br (qe (okC a b n m)) (K (.agg [.q (cutL (qj a b)) 300, .q (cutH (qj a b)) 300]) []) (.no 1)
 | _, _ => .no 1
def gCc : Spec := fun args hs K => match args, hs with
 | [.q a n], [] => .br (qe (nz72 (1 + a))) (.br (Nat.ble n 50000) (K (.q (cf a) (2 * n + 4)) []) (.no 1)) (.no 1)
 | _, _ => .no 1
theorem kCc (a : Rat) (n : Nat) : evF prog [(49, g71), (52, g21), (55, g29), (59, c72)] [] {} f77 [.q a n] [] qm =
 Tr.br (decide ((-72057594037927936 : Int) < 1) && decide ((1 : Int) <= 9223372036854775807)) (.br (((Int.natAbs (1 : Int)).log2 + 1 + n + 1).ble 800000) (.br (decide ((-72057594037927936 : Int) < 1) && decide ((1 : Int) <= 9223372036854775807)) (.br (((Int.natAbs (1 : Int)).log2 + 1 + n + 1).ble 800000) (.br (qe (nz72 ((↑(1 : Int) : Rat) + a))) (.br (((Int.natAbs (1 : Int)).log2 + 1 + n + 1 + ((Int.natAbs (1 : Int)).log2 + 1 + n + 1)).ble 800000) (.ok (.ret (.q (((↑(1 : Int) : Rat) - a) / ((↑(1 : Int) : Rat) + a)) ((Int.natAbs (1 : Int)).log2 + 1 + n + 1 + ((Int.natAbs (1 : Int)).log2 + 1 + n + 1))) [])) (.no 1)) (.no 1)) (.no 1)) (.no 1)) (.no 1)) (.no 1) := by kernel_rfl
def gCs : Spec := fun args hs K => match args, hs with
 | [.agg [.q a n, .q b m]], [] => .br (qe (eqN1 n m)) (K (.agg [.q (cosS (qj a b)).lo (4 * n + 4), .q (cosS (qj a b)).hi (4 * n + 4)]) []) (.no 1)
 | _, _ => .no 1
theorem kCs (a b : Rat) (n : Nat) : evF prog [(76, gSq), (77, gCc)] [] {} f42 [spR a b n] [] qm =
 Tr.br (qe (eqN1 n n)) (.br (qe (nz72 ((1 : Rat) + (sqS (qj a b)).hi))) (.br ((n + n).ble 50000) (.br (qe (nz72 ((1 : Rat) + (sqS (qj a b)).lo))) (.br ((n + n).ble 50000) (.ok (.ret (.agg [.q (cf (sqS (qj a b)).hi) ((2 : Nat) * (n + n) + 4), .q (cf (sqS (qj a b)).lo) ((2 : Nat) * (n + n) + 4)]) [])) (.no 1)) (.no 1)) (.no 1)) (.no 1)) (.no 1) := by kernel_rfl
def bSn : Code := (qi (qg f43)).getD 0 .skip
def polSn : Pol := { live := [(4, [1, 2, 3, 21, 22, 23])] }
def OSn : Orc := [(15, gHs), (17, g134), (41, gOf), (49, c71), (50, g50), (68, gJn)]
def zSp : PV := .agg [.agg [.bl false, .s ⟨#[]⟩, .s ⟨#[]⟩], .agg [.bl false, .s ⟨#[]⟩, .s ⟨#[]⟩]]
def stSn (T R : Sp) (n k : Nat) (i : Int) : LS := ⟨[.ptr 0 6 0 0 [], .ptr 1 6 0 0 [], .ptr 2 6 0 0 [], .lst 1 (.ints .i64 [-1, 1]), .i .i64 2, .i .i64 i], [some ⟨6, .vals [spR T.lo T.hi n]⟩, some ⟨6, .vals [zSp]⟩, some ⟨6, .vals [spR R.lo R.hi k]⟩]⟩
theorem tSn0 (T R : Sp) : (qh prog OSn [] polSn f43.ntmps 0 [1, 2, 3, 21, 22, 23] bSn (stSn T R 260 1044 0)).run =
 (Tr.br (hasB (qj T.lo T.hi) (↑(-1 : Int) : Rat)) (.br (qe (eqN [.agg [.q R.lo 1044, .q R.hi 1044], .agg [.q (↑(-1 : Int) : Rat) 64, .q (↑(-1 : Int) : Rat) 64]] (1044 : Nat) (64 : Nat))) (.ok (.out .normal (LS.mk [.ptr 0 6 0 0 [], .ptr 1 6 0 0 [], .ptr 2 6 0 0 [], .lst 1 (.ints .i64 [(-1 : Int), (1 : Int)]), .i .i64 2, .i .i64 1] [some (.mk 6 (.vals [.agg [.q T.lo 260, .q T.hi 260]])), some (.mk 6 (.vals [.agg [.agg [.bl false, .s (ByteArray.mk #[]), .s (ByteArray.mk #[])], .agg [.bl false, .s (ByteArray.mk #[]), .s (ByteArray.mk #[])]]])), some (.mk 6 (.vals [.agg [.q (joinS (qj R.lo R.hi) (qj (↑(-1 : Int) : Rat) (↑(-1 : Int) : Rat))).lo 1044, .q (joinS (qj R.lo R.hi) (qj (↑(-1 : Int) : Rat) (↑(-1 : Int) : Rat))).hi 1044]]))]))) (.no 1)) (.ok (.out .normal (LS.mk [.ptr 0 6 0 0 [], .ptr 1 6 0 0 [], .ptr 2 6 0 0 [], .lst 1 (.ints .i64 [(-1 : Int), (1 : Int)]), .i .i64 2, .i .i64 1] [some (.mk 6 (.vals [.agg [.q T.lo 260, .q T.hi 260]])), some (.mk 6 (.vals [.agg [.agg [.bl false, .s (ByteArray.mk #[]), .s (ByteArray.mk #[])], .agg [.bl false, .s (ByteArray.mk #[]), .s (ByteArray.mk #[])]]])), some (.mk 6 (.vals [.agg [.q R.lo 1044, .q R.hi 1044]]))])))).run := by kernel_rfl
theorem tSn1 (T R : Sp) : (qh prog OSn [] polSn f43.ntmps 0 [1, 2, 3, 21, 22, 23] bSn (stSn T R 260 1044 1)).run =
 (Tr.br (hasB (qj T.lo T.hi) (↑(1 : Int) : Rat)) (.br (qe (eqN [.agg [.q R.lo 1044, .q R.hi 1044], .agg [.q (↑(1 : Int) : Rat) 64, .q (↑(1 : Int) : Rat) 64]] (1044 : Nat) (64 : Nat))) (.ok (.out .normal (LS.mk [.ptr 0 6 0 0 [], .ptr 1 6 0 0 [], .ptr 2 6 0 0 [], .lst 1 (.ints .i64 [(-1 : Int), (1 : Int)]), .i .i64 2, .i .i64 2] [some (.mk 6 (.vals [.agg [.q T.lo 260, .q T.hi 260]])), some (.mk 6 (.vals [.agg [.agg [.bl false, .s (ByteArray.mk #[]), .s (ByteArray.mk #[])], .agg [.bl false, .s (ByteArray.mk #[]), .s (ByteArray.mk #[])]]])), some (.mk 6 (.vals [.agg [.q (joinS (qj R.lo R.hi) (qj (↑(1 : Int) : Rat) (↑(1 : Int) : Rat))).lo 1044, .q (joinS (qj R.lo R.hi) (qj (↑(1 : Int) : Rat) (↑(1 : Int) : Rat))).hi 1044]]))]))) (.no 1)) (.ok (.out .normal (LS.mk [.ptr 0 6 0 0 [], .ptr 1 6 0 0 [], .ptr 2 6 0 0 [], .lst 1 (.ints .i64 [(-1 : Int), (1 : Int)]), .i .i64 2, .i .i64 2] [some (.mk 6 (.vals [.agg [.q T.lo 260, .q T.hi 260]])), some (.mk 6 (.vals [.agg [.agg [.bl false, .s (ByteArray.mk #[]), .s (ByteArray.mk #[])], .agg [.bl false, .s (ByteArray.mk #[]), .s (ByteArray.mk #[])]]])), some (.mk 6 (.vals [.agg [.q R.lo 1044, .q R.hi 1044]]))])))).run := by kernel_rfl
theorem tSn2 (T R : Sp) : (qh prog OSn [] polSn f43.ntmps 0 [1, 2, 3, 21, 22, 23] bSn (stSn T R 260 1044 2)).run =
 (Tr.ok (.out (.exit 0) (LS.mk [.ptr 0 6 0 0 [], .ptr 1 6 0 0 [], .ptr 2 6 0 0 [], .lst 1 (.ints .i64 [(-1 : Int), (1 : Int)]), .i .i64 2, .i .i64 2] [some (.mk 6 (.vals [.agg [.q T.lo 260, .q T.hi 260]])), some (.mk 6 (.vals [.agg [.agg [.bl false, .s (ByteArray.mk #[]), .s (ByteArray.mk #[])], .agg [.bl false, .s (ByteArray.mk #[]), .s (ByteArray.mk #[])]]])), some (.mk 6 (.vals [.agg [.q R.lo 1044, .q R.hi 1044]]))]))).run := by kernel_rfl
theorem kSn (T R0 R : Sp) (a b : Rat) : (evF prog OSn [(4, lcst (stSn T R0 260 1044 0) (.exit 0) (stSn T R 260 1044 2))] polSn f43 [spR a b 260] [] qm).run =
 (Tr.br (qe (eqN [.agg [.q a 260, .q b 260], .agg [.q a 260, .q b 260]] (260 : Nat) (260 : Nat))) (.br (qe (eqN [.agg [.q (qv false (joinS (qj a b) (qj a b)).lo) 1044, .q (qv false (joinS (qj a b) (qj a b)).lo) 1044], .agg [.q (qv false (joinS (qj a b) (qj a b)).hi) 1044, .q (qv false (joinS (qj a b) (qj a b)).hi) 1044]] (1044 : Nat) (1044 : Nat))) (.br (qe (isLS (LS.mk [.ptr 0 6 0 0 [], .ptr 1 6 0 0 [], .ptr 2 6 0 0 [], .lst 1 (.ints .i64 [(-1 : Int), (1 : Int)]), .i .i64 2, .i .i64 0] [some (.mk 6 (.vals [.agg [.q T.lo 260, .q T.hi 260]])), some (.mk 6 (.vals [.agg [.agg [.bl false, .s (ByteArray.mk #[]), .s (ByteArray.mk #[])], .agg [.bl false, .s (ByteArray.mk #[]), .s (ByteArray.mk #[])]]])), some (.mk 6 (.vals [.agg [.q R0.lo 1044, .q R0.hi 1044]]))]) (LS.mk [.ptr 0 6 0 0 [], .ptr 1 6 0 0 [], .ptr 2 6 0 0 [], .lst 1 (.ints .i64 [(-1 : Int), (1 : Int)]), .i .i64 2, .i .i64 0] [some (.mk 6 (.vals [.agg [.q (joinS (qj a b) (qj a b)).lo 260, .q (joinS (qj a b) (qj a b)).hi 260]])), some (.mk 6 (.vals [.agg [.agg [.bl false, .s (ByteArray.mk #[]), .s (ByteArray.mk #[])], .agg [.bl false, .s (ByteArray.mk #[]), .s (ByteArray.mk #[])]]])), some (.mk 6 (.vals [.agg [.q (joinS (qj (qv false (joinS (qj a b) (qj a b)).lo) (qv false (joinS (qj a b) (qj a b)).lo)) (qj (qv false (joinS (qj a b) (qj a b)).hi) (qv false (joinS (qj a b) (qj a b)).hi))).lo 1044, .q (joinS (qj (qv false (joinS (qj a b) (qj a b)).lo) (qv false (joinS (qj a b) (qj a b)).lo)) (qj (qv false (joinS (qj a b) (qj a b)).hi) (qv false (joinS (qj a b) (qj a b)).hi))).hi 1044]]))]))) (.ok (.ret (.agg [.q R.lo 1044, .q R.hi 1044]) [])) (.no 1)) (.no 1)) (.no 1)).run := by kernel_rfl
theorem join_self (A : Sp) : joinS A A = A := by
 obtain ⟨a, b, h⟩ := A
 unfold joinS mnR mxR
 simp [Rat.le_refl]
theorem fitS_self (x : Rat) : qj x x = ofS x := by unfold qj; rw [dif_pos Rat.le_refl]; rfl
theorem sz_unit {z : Rat} (hd : z.den <= 1000000) (h1 : -1 <= z) (h2 : z <= 1) : sz z <= 300 := by
 have a1 : z.num <= z.den := by
  have := (Rat.le_iff _ _).1 h2
  have e : (1 : Rat).num = 1 := rfl
  have e2 : (1 : Rat).den = 1 := rfl
  rw [e, e2] at this
  omega
 have a2 : -(z.den : Int) <= z.num := by
  have := (Rat.le_iff _ _).1 h1
  have e : (-1 : Rat).num = -1 := rfl
  have e2 : (-1 : Rat).den = 1 := rfl
  rw [e, e2] at this
  omega
 have lg : ∀ k : Nat, k <= 1000000 -> Nat.log2 k <= 20 := fun k hk => by
  by_cases h0 : k = 0
  ·subst h0; decide
  ·have := (Nat.log2_lt (k := 20) h0).2 (by omega)
   omega
 have b1 := lg z.num.natAbs (by omega)
 have b2 := lg z.den hd
 unfold sz
 omega
theorem dn_den (x : Rat) : (dnR x).den <= 1000000 := by
 rw [dnR, qd, <- mk_mil, mkz_den (by decide)]
 exact Nat.div_le_self _ _
theorem up_den (x : Rat) : (upR x).den <= 1000000 := by
 rw [upR, qd, neg_den]; exact dn_den _
theorem cut_bd {A : Sp} (h : cutL A <= cutH A) : (-1 <= cutL A /\ cutL A <= 1) /\ (-1 <= cutH A /\ cutH A <= 1) := by
 have h1 : -1 <= cutL A := by rw [cutL, qd]; exact mxR_r _ _
 have h2 : cutH A <= 1 := by rw [cutH, qd]; exact mnR_r _ _
 exact ⟨⟨h1, Rat.le_trans h h2⟩, ⟨Rat.le_trans h1 h, h2⟩⟩
theorem cutL_sz {A : Sp} (h : cutL A <= cutH A) : sz (cutL A) <= 300 := by
 obtain ⟨h1, h2⟩ := (cut_bd h).1
 refine sz_unit ?_ h1 h2
 rw [cutL, qd, mxR]
 split
 ·exact dn_den _
 ·decide
theorem cutH_sz {A : Sp} (h : cutL A <= cutH A) : sz (cutH A) <= 300 := by
 obtain ⟨h1, h2⟩ := (cut_bd h).2
 refine sz_unit ?_ h1 h2
 rw [cutH, qd, mnR]
 split
 ·exact up_den _
 ·decide
include hG in
theorem gkOn : qc prog G 79 gOn := spec_ev hG (.cons (gk71 hG) .nil) mix enOn (fun _ => k9 (by kernel_rfl))
include hG in
theorem gkCu (hT : qr G) : qc prog G 44 gCu := by
 intro args hs K y h
 unfold gCu at h
 split at h
 case h_2 => cases h
 rename_i a n b m
 obtain ⟨hc, hr⟩ := k8 h
 obtain ⟨⟨rfl, h1, h2⟩, ho⟩ := decP_iff.1 hc
 refine ⟨_, _, (qk hG (.cons (gk86 hG hT) (.cons (gk80 hG hT) (.cons (gkOu hG hT) (.cons (gkOn hG) .nil)))) mix enCu (L := []) (pol := {}) (k9 (by kernel_rfl)) (r := .agg [.q (mxR (dnR (qj a b).lo) (-1)) ((n + 42).max ((-1 : Int).natAbs.log2 + 1)), .q (mnR (upR (qj a b).hi) 1) ((n + 42).max ((Int.natAbs (1 : Int)).log2 + 1))]) (hs' := []) ?_).le
  (rle_of_vle (fun _ => rfl) (fun _ => rfl) (VLe.agg (vllc (?_ : VLe _ (.q (cutL (qj a b)) 300)) (vllc (?_ : VLe _ (.q (cutH (qj a b)) 300)) vll0)))) (.refl _), hr⟩
 ·refine (congrArg Tr.run (kCu a b n)).trans ?_
  have l1 : (-1 : Int).natAbs.log2 = 0 := by decide
  have l2 : (Int.natAbs (1 : Int)).log2 = 0 := by decide
  repeat first | rw [k5 (by first | (simp only [kA, Bool.or_eq_true, kD, kG, Nat.blt_eq, kH, kI, kJ, kK]; omega) | exact decP_iff.2 ⟨rfl, h1, h2⟩ | (rw [l1, kG]; omega) | (rw [l2, kG]; omega) | exact decP_iff.2 ⟨rfl, trivial⟩ | exact decP_iff.2 rfl | exact kE rfl | decide)] | rw [k6 (by first | (simp only [Bool.and_eq_false_iff, Bool.not_eq_false', kD, kK]; omega) | exact decP_iff.2 ⟨rfl, h1, h2⟩ | (rw [l1, kG]; omega) | (rw [l2, kG]; omega) | exact congrArg (!·) (kE rfl) | decide)]
  rw [k7]
  rfl
 ·rw [show mxR (dnR (qj a b).lo) (-1) = cutL (qj a b) by rw [cutL, qd]]
  exact vle_qq (cutL_sz ho)
 ·rw [show mnR (upR (qj a b).hi) 1 = cutH (qj a b) by rw [cutH, qd]]
  exact vle_qq (cutH_sz ho)
include hG in
theorem gkCc (hT : qr G) : qc prog G 77 gCc := by
 intro args hs K y h
 unfold gCc at h
 split at h
 case h_2 => cases h
 rename_i a n
 obtain ⟨hz, hr⟩ := k8 h
 obtain ⟨hc, hr⟩ := k8 hr
 rw [kG] at hc
 have l2 : (Int.natAbs (1 : Int)).log2 = 0 := by decide
 refine ⟨_, _, (qk hG (.cons (gk71 hG) (.cons (gk21 hG hT) (.cons (gk29 hG hT) (.cons (ck72 hG hT) .nil)))) mix enCc (L := []) (pol := {}) (k9 (by kernel_rfl)) (r := .q (cf a) (0 + 1 + n + 1 + (0 + 1 + n + 1))) (hs' := []) ?_).le (q_rle rfl (by omega)) (.refl _), hr⟩
 refine (congrArg Tr.run (kCc a n)).trans ?_
 simp only [l2]
 repeat first | rw [k5 (by first | (simp only [kA, Bool.or_eq_true, kD, kG, Nat.blt_eq, kH, kI, kJ, kK]; omega) | exact hz | exact decP_iff.2 ⟨rfl, trivial⟩ | exact decP_iff.2 rfl | exact kE rfl | decide)] | rw [k6 (by first | (simp only [Bool.and_eq_false_iff, Bool.not_eq_false', kD, kK]; omega) | exact hz | exact congrArg (!·) (kE rfl) | decide)]
 rw [k7]
 rfl
theorem nz_1 {a : Rat} (h : 0 <= a) : qe (nz72 (1 + a)) = true := by
 refine decP_iff.2 ?_
 intro e
 have : (0 : Rat) < 1 + a := by grind
 rw [e] at this
 exact absurd this (by decide)
include hG in
theorem gkCs (hT : qr G) : qc prog G 42 gCs := by
 intro args hs K y h
 unfold gCs at h
 split at h
 case h_2 => cases h
 rename_i a n b m
 obtain ⟨hc, hr⟩ := k8 h
 obtain ⟨rfl, h1, h2⟩ := decP_iff.1 hc
 have p1 := nz_1 (show 0 <= (sqS (qj a b)).lo from sqL_nn (qj a b))
 have p2 := nz_1 (Rat.le_trans (sqL_nn (qj a b)) (sqS (qj a b)).ok)
 refine ⟨_, _, (qk hG (.cons (gkSq hG hT) (.cons (gkCc hG hT) .nil)) mix enCs (L := []) (pol := {}) (k9 (by kernel_rfl)) (r := .agg [.q (cosS (qj a b)).lo (2 * (n + n) + 4), .q (cosS (qj a b)).hi (2 * (n + n) + 4)]) (hs' := []) ?_), by rw [show 2 * (n + n) + 4 = 4 * n + 4 by omega]; exact hr⟩
 refine (congrArg Tr.run (kCs a b n)).trans ?_
 rw [k5 hc, k5 p2, k5 (by rw [kG]; omega), k5 p1, k5 (by rw [kG]; omega), k7]
 rfl
include hG in
theorem orcSn (hT : qr G) : OrcOK prog G OSn := .cons (gkHs hG hT) (.cons (gk134 hG hT) (.cons (gkOf hG hT) (.cons (ck71 hG) (.cons (gk50 hG hT) (.cons (gkJn hG hT) .nil)))))
include hG in
theorem goesSn (hT : qr G) (T : Sp) : Goes (Rnd prog G f43.ntmps 0 [1, 2, 3, 21, 22, 23] bSn) (stSn T (sinS0 T) 260 1044 0) (.exit 0) (stSn T (sinS T) 260 1044 2) := by
 have r0 : Rnd prog G f43.ntmps 0 [1, 2, 3, 21, 22, 23] bSn (stSn T (sinS0 T) 260 1044 0) .normal (stSn T (sinS1 T) 260 1044 1) := by
  refine qb hG (orcSn hG hT) mix (L := []) (pol := polSn) (O := OSn) (k9 (by kernel_rfl)) (Nat.zero_le _) ?_
  rw [tSn0]
  simp only [qI, fitS_self]
  by_cases h : hasB T ((-1 : Int) : Rat) = true
  ·rw [k5 h, k5 (decP_iff.2 ⟨⟨_, _, _, _, rfl⟩, by omega, by omega, by omega⟩), k7, show sinS1 T = joinS (sinS0 T) (ofS ((-1 : Int) : Rat)) from if_pos h]
   rfl
  ·rw [k6 (by simpa using h), k7, show sinS1 T = sinS0 T from if_neg h]
   rfl
 have r1 : Rnd prog G f43.ntmps 0 [1, 2, 3, 21, 22, 23] bSn (stSn T (sinS1 T) 260 1044 1) .normal (stSn T (sinS T) 260 1044 2) := by
  refine qb hG (orcSn hG hT) mix (L := []) (pol := polSn) (O := OSn) (k9 (by kernel_rfl)) (Nat.zero_le _) ?_
  rw [tSn1]
  simp only [qI, fitS_self]
  by_cases h : hasB T ((1 : Int) : Rat) = true
  ·rw [k5 h, k5 (decP_iff.2 ⟨⟨_, _, _, _, rfl⟩, by omega, by omega, by omega⟩), k7, show sinS T = joinS (sinS1 T) (ofS ((1 : Int) : Rat)) from if_pos h]
   rfl
  ·rw [k6 (by simpa using h), k7, show sinS T = sinS1 T from if_neg h]
   rfl
 refine .more _ _ _ _ r0 (.more _ _ _ _ r1 (.last _ _ _ ?_ (by simp)))
 refine qb hG (orcSn hG hT) mix (L := []) (pol := polSn) (O := OSn) (k9 (by kernel_rfl)) (Nat.zero_le _) ?_
 rw [tSn2, k7]
 rfl
def gSn : Spec := fun args hs K => match args, hs with
 | [.agg [.q a 260, .q b 260]], [] => K (.agg [.q (sinS (qj a b)).lo 1044, .q (sinS (qj a b)).hi 1044]) []
 | _, _ => .no 1
include hG in
theorem gkSn (hT : qr G) : qc prog G 43 gSn := by
 intro args hs K y h
 unfold gSn at h
 split at h
 case h_2 => cases h
 rename_i a b
 have g := goesSn hG hT (qj a b)
 refine ⟨_, _, qk hG (orcSn hG hT) mix enSn (hs := []) (pol := polSn) (L := [(4, lcst (stSn (qj a b) (sinS0 (qj a b)) 260 1044 0) (.exit 0) (stSn (qj a b) (sinS (qj a b)) 260 1044 2))]) (lps1 (b := bSn) (live := [1, 2, 3, 21, 22, 23]) (m := 0) (by kernel_rfl) (by kernel_rfl) (by kernel_rfl) (lcst_ok g)) ?_, h⟩
 refine (kSn (qj a b) (sinS0 (qj a b)) (sinS (qj a b)) a b).trans ?_
 simp only [join_self, fitS_self]
 rw [k5 (decP_iff.2 ⟨⟨_, _, _, _, rfl⟩, by omega, by omega, by omega⟩), k5 (decP_iff.2 ⟨⟨_, _, _, _, rfl⟩, by omega, by omega, by omega⟩)]
 refine Eq.trans (k5 ?_) ?_
 ·exact decP_iff.2 rfl
 ·rw [k7]
end
section
open Go Tryz
set_option maxRecDepth 100000
variable {G : World -> (Nat -> Prop) -> Prop} (hG : GOk G)
def isB (F : Sp -> Sp -> Sp) (args : List PV) (n m : Nat) (r : Sp) (w : Nat) : Prop := (∃ A B : Sp, args = [spR A.lo A.hi n, spR B.lo B.hi m] /\ r = F A B) /\ 1 <= n /\ 1 <= m /\ n + m < w /\ w <= 50000
def isU (F : Sp -> Sp) (args : List PV) (n : Nat) (r : Sp) : Prop := ∃ A : Sp, args = [spR A.lo A.hi n] /\ r = F A
def isC (args : List PV) (n : Nat) (r : Sp) (w : Nat) : Prop := (∃ A : Sp, args = [spR A.lo A.hi n] /\ r = cutS A /\ cutL A <= cutH A) /\ 1 <= n /\ n <= 25000 /\ 300 <= w
abbrev Tab2 := Nat -> Nat -> Option (Sp × Nat)
abbrev Tab1 := Nat -> Option (Sp × Nat)
def vB (F : Sp -> Sp -> Sp) (tab : Tab2) : Spec := fun args hs K => match args, hs with
 | [.agg [.q a n, .q b n'], .agg [.q c m, .q d m']], [] => match tab n m with
  | some (r, w) => .br (qe (isB F [.agg [.q a n, .q b n'], .agg [.q c m, .q d m']] n m r w)) (K (.agg [.q r.lo w, .q r.hi w]) []) (.no 1)
  | none => .no 1
 | _, _ => .no 1
def vU (F : Sp -> Sp) (r : Sp) (w : Nat) : Spec := fun args hs K => match args, hs with
 | [.agg [.q a 260, .q b n']], [] => .br (qe (isU F [.agg [.q a 260, .q b n']] 260 r)) (K (.agg [.q r.lo w, .q r.hi w]) []) (.no 1)
 | _, _ => .no 1
def vCut (tab : Tab1) : Spec := fun args hs K => match args, hs with
 | [.agg [.q a n, .q b n']], [] => match tab n with
  | some (r, w) => .br (qe (isC [.agg [.q a n, .q b n']] n r w)) (K (.agg [.q r.lo w, .q r.hi w]) []) (.no 1)
  | none => .no 1
 | _, _ => .no 1
def tb (n m : Nat) (r : Sp) (w : Nat) (t : Tab2) : Tab2 := fun a b => match Nat.beq a n && Nat.beq b m with | true => some (r, w) | false => t a b
def tn : Tab2 := fun _ _ => none
def tc (n : Nat) (r : Sp) (w : Nat) (t : Tab1) : Tab1 := fun a => match Nat.beq a n with | true => some (r, w) | false => t a
theorem enSp : Enters prog 11 f11 (qg f11) := ⟨func11, by kernel_rfl, rfl⟩
def bSp : Code := (qi (qg f11)).getD 0 .skip
def polSp : Pol := { live := [(8, [1, 8, 9, 43, 44, 45])] }
def nowP (l : Lz) (W : Nat) : PV := .agg [.agg [.q l.X.lo W, .q l.X.hi W], .agg [.q l.Y.lo W, .q l.Y.hi W], .agg [.q l.C.lo 300, .q l.C.hi 300], .agg [.q l.S.lo 301, .q l.S.hi 301]]
def spsC (n : Nat) (Q : Nat -> Sp) : Cont := .fn n (fun j => .agg [.q (Q j).lo 260, .q (Q j).hi 260])
def stSp (n : Nat) (Q : Nat -> Sp) (lk : Nat -> Lk) (l : Lz) (W : Nat) (o : PV) (bs : List (Option Blk)) (i : Int) : LS :=
 ⟨[.lst 6 (spsC n Q), .ptr 0 24 0 0 [], o, .lst 16 (.fn n (fun j => lkPV (lk j))), .i .i64 n, .i .i64 i], some ⟨24, .vals [nowP l W]⟩ :: bs⟩
def RSp (W : Nat) (c s m1 m2 d1 C m3 m4 d2 S m5 m6 x y : Sp) : Orc :=
 [(41, gOf), (42, vU cosS c 1044), (43, vU sinS s 1045), (44, vCut (tc 2901 C 300 (tc 2902 S 301 (fun _ => none)))), (45, vB subS (tb 1401 1402 d1 2901 tn)),
  (46, vB qF (tb 300 1044 m1 1401 (tb 301 1045 m2 1402 (tb 301 1044 m3 1403 (tb 300 1045 m4 1404 (tb 64 300 m5 401 (tb 64 301 m6 402 tn))))))),
  (47, vB addS (tb 1403 1404 d2 2902 (tb W 401 x (W + 403) (tb W 402 y (W + 403) tn))))]
theorem tSp0 (n : Nat) (Q : Nat -> Sp) (lk : Nat -> Lk) (l : Lz) (i : Int) (c s m1 m2 d1 C m3 m4 d2 S m5 m6 x y : Sp) : (qh prog (RSp 260 c s m1 m2 d1 C m3 m4 d2 S m5 m6 x y) [] polSp f11.ntmps 0 [1, 8, 9, 43, 44, 45] bSp (stSp n Q lk l 260 .nil [] i)).run =
 (Tr.br (decide (i < (n : Int))) (.br (ix (i) ((n : Int))) (.br (ix (i) ((n : Int))) (.br (qe (isU cosS [.agg [.q (Q i.toNat).lo 260, .q (Q i.toNat).hi 260]] (260 : Nat) c)) (.br (ix (i) ((n : Int))) (.br (qe (isU sinS [.agg [.q (Q i.toNat).lo 260, .q (Q i.toNat).hi 260]] (260 : Nat) s)) (.br (qe (isB qF [.agg [.q l.C.lo 300, .q l.C.hi 300], .agg [.q c.lo 1044, .q c.hi 1044]] (300 : Nat) (1044 : Nat) m1 (1401 : Nat))) (.br (qe (isB qF [.agg [.q l.S.lo 301, .q l.S.hi 301], .agg [.q s.lo 1045, .q s.hi 1045]] (301 : Nat) (1045 : Nat) m2 (1402 : Nat))) (.br (qe (isB subS [.agg [.q m1.lo 1401, .q m1.hi 1401], .agg [.q m2.lo 1402, .q m2.hi 1402]] (1401 : Nat) (1402 : Nat) d1 (2901 : Nat))) (.br (qe (isC [.agg [.q d1.lo 2901, .q d1.hi 2901]] (2901 : Nat) C (300 : Nat))) (.br (qe (isB qF [.agg [.q l.S.lo 301, .q l.S.hi 301], .agg [.q c.lo 1044, .q c.hi 1044]] (301 : Nat) (1044 : Nat) m3 (1403 : Nat))) (.br (qe (isB qF [.agg [.q l.C.lo 300, .q l.C.hi 300], .agg [.q s.lo 1045, .q s.hi 1045]] (300 : Nat) (1045 : Nat) m4 (1404 : Nat))) (.br (qe (isB addS [.agg [.q m3.lo 1403, .q m3.hi 1403], .agg [.q m4.lo 1404, .q m4.hi 1404]] (1403 : Nat) (1404 : Nat) d2 (2902 : Nat))) (.br (qe (isC [.agg [.q d2.lo 2902, .q d2.hi 2902]] (2902 : Nat) S (301 : Nat))) (.br (qe (isB qF [.agg [.q (lk i.toNat).len 64, .q (lk i.toNat).len 64], .agg [.q C.lo 300, .q C.hi 300]] (64 : Nat) (300 : Nat) m5 (401 : Nat))) (.br (qe (isB addS [.agg [.q l.X.lo 260, .q l.X.hi 260], .agg [.q m5.lo 401, .q m5.hi 401]] (260 : Nat) (401 : Nat) x (663 : Nat))) (.br (qe (isB qF [.agg [.q (lk i.toNat).len 64, .q (lk i.toNat).len 64], .agg [.q S.lo 301, .q S.hi 301]] (64 : Nat) (301 : Nat) m6 (402 : Nat))) (.br (qe (isB addS [.agg [.q l.Y.lo 260, .q l.Y.hi 260], .agg [.q m6.lo 402, .q m6.hi 402]] (260 : Nat) (402 : Nat) y (663 : Nat))) (.br (ib (i + 1)) (.ok (.out .normal (LS.mk [.lst 6 (.fn n fun (j : Nat) => .agg [.q (Q j).lo 260, .q (Q j).hi 260]), .ptr 0 24 0 0 [], .sl 1 24 0 1, .lst 16 (.fn n fun (j : Nat) => .agg [.q (lk j).len 64, .q (lk j).low 64, .q (lk j).high 64, .q (lk j).spd 64, .q (lk j).brk 64, .lst 6 (.fn (lk j).np fun (a : Nat) => .agg [.q ((lk j).px a) 64, .q ((lk j).py a) 64])]), .i .i64 (n : Int), .i .i64 (i + 1)] [some (.mk 24 (.vals [.agg [.agg [.q x.lo 663, .q x.hi 663], .agg [.q y.lo 663, .q y.hi 663], .agg [.q C.lo 300, .q C.hi 300], .agg [.q S.lo 301, .q S.hi 301]]])), some (.mk 24 (.vals [.agg [.agg [.q l.X.lo 260, .q l.X.hi 260], .agg [.q l.Y.lo 260, .q l.Y.hi 260], .agg [.q C.lo 300, .q C.hi 300], .agg [.q S.lo 301, .q S.hi 301]]]))]))) (.no 20002)) (.no 1)) (.no 1)) (.no 1)) (.no 1)) (.no 1)) (.no 1)) (.no 1)) (.no 1)) (.no 1)) (.no 1)) (.no 1)) (.no 1)) (.no 1)) (.no 11007)) (.no 1)) (.no 11012)) (.no 10005)) (.ok (.out (.exit 0) (LS.mk [.lst 6 (.fn n fun (j : Nat) => .agg [.q (Q j).lo 260, .q (Q j).hi 260]), .ptr 0 24 0 0 [], .nil, .lst 16 (.fn n fun (j : Nat) => .agg [.q (lk j).len 64, .q (lk j).low 64, .q (lk j).high 64, .q (lk j).spd 64, .q (lk j).brk 64, .lst 6 (.fn (lk j).np fun (a : Nat) => .agg [.q ((lk j).px a) 64, .q ((lk j).py a) 64])]), .i .i64 (n : Int), .i .i64 i] [some (.mk 24 (.vals [.agg [.agg [.q l.X.lo 260, .q l.X.hi 260], .agg [.q l.Y.lo 260, .q l.Y.hi 260], .agg [.q l.C.lo 300, .q l.C.hi 300], .agg [.q l.S.lo 301, .q l.S.hi 301]]]))])))).run := by kernel_rfl
theorem tSp1 (n : Nat) (Q : Nat -> Sp) (lk : Nat -> Lk) (l : Lz) (i : Int) (p0 : Lz) (c s m1 m2 d1 C m3 m4 d2 S m5 m6 x y : Sp) : (qh prog (RSp 663 c s m1 m2 d1 C m3 m4 d2 S m5 m6 x y) [] polSp f11.ntmps 0 [1, 8, 9, 43, 44, 45] bSp (stSp n Q lk l 663 (.sl 1 24 0 1) [some ⟨24, .vals [nowP p0 260]⟩] i)).run =
 (Tr.br (decide (i < (n : Int))) (.br (ix (i) ((n : Int))) (.br (ix (i) ((n : Int))) (.br (qe (isU cosS [.agg [.q (Q i.toNat).lo 260, .q (Q i.toNat).hi 260]] (260 : Nat) c)) (.br (ix (i) ((n : Int))) (.br (qe (isU sinS [.agg [.q (Q i.toNat).lo 260, .q (Q i.toNat).hi 260]] (260 : Nat) s)) (.br (qe (isB qF [.agg [.q l.C.lo 300, .q l.C.hi 300], .agg [.q c.lo 1044, .q c.hi 1044]] (300 : Nat) (1044 : Nat) m1 (1401 : Nat))) (.br (qe (isB qF [.agg [.q l.S.lo 301, .q l.S.hi 301], .agg [.q s.lo 1045, .q s.hi 1045]] (301 : Nat) (1045 : Nat) m2 (1402 : Nat))) (.br (qe (isB subS [.agg [.q m1.lo 1401, .q m1.hi 1401], .agg [.q m2.lo 1402, .q m2.hi 1402]] (1401 : Nat) (1402 : Nat) d1 (2901 : Nat))) (.br (qe (isC [.agg [.q d1.lo 2901, .q d1.hi 2901]] (2901 : Nat) C (300 : Nat))) (.br (qe (isB qF [.agg [.q l.S.lo 301, .q l.S.hi 301], .agg [.q c.lo 1044, .q c.hi 1044]] (301 : Nat) (1044 : Nat) m3 (1403 : Nat))) (.br (qe (isB qF [.agg [.q l.C.lo 300, .q l.C.hi 300], .agg [.q s.lo 1045, .q s.hi 1045]] (300 : Nat) (1045 : Nat) m4 (1404 : Nat))) (.br (qe (isB addS [.agg [.q m3.lo 1403, .q m3.hi 1403], .agg [.q m4.lo 1404, .q m4.hi 1404]] (1403 : Nat) (1404 : Nat) d2 (2902 : Nat))) (.br (qe (isC [.agg [.q d2.lo 2902, .q d2.hi 2902]] (2902 : Nat) S (301 : Nat))) (.br (qe (isB qF [.agg [.q (lk i.toNat).len 64, .q (lk i.toNat).len 64], .agg [.q C.lo 300, .q C.hi 300]] (64 : Nat) (300 : Nat) m5 (401 : Nat))) (.br (qe (isB addS [.agg [.q l.X.lo 663, .q l.X.hi 663], .agg [.q m5.lo 401, .q m5.hi 401]] (663 : Nat) (401 : Nat) x (1066 : Nat))) (.br (qe (isB qF [.agg [.q (lk i.toNat).len 64, .q (lk i.toNat).len 64], .agg [.q S.lo 301, .q S.hi 301]] (64 : Nat) (301 : Nat) m6 (402 : Nat))) (.br (qe (isB addS [.agg [.q l.Y.lo 663, .q l.Y.hi 663], .agg [.q m6.lo 402, .q m6.hi 402]] (663 : Nat) (402 : Nat) y (1066 : Nat))) (.br (ib (i + 1)) (.ok (.out .normal (LS.mk [.lst 6 (.fn n fun (j : Nat) => .agg [.q (Q j).lo 260, .q (Q j).hi 260]), .ptr 0 24 0 0 [], .sl 1 24 0 2, .lst 16 (.fn n fun (j : Nat) => .agg [.q (lk j).len 64, .q (lk j).low 64, .q (lk j).high 64, .q (lk j).spd 64, .q (lk j).brk 64, .lst 6 (.fn (lk j).np fun (a : Nat) => .agg [.q ((lk j).px a) 64, .q ((lk j).py a) 64])]), .i .i64 (n : Int), .i .i64 (i + 1)] [some (.mk 24 (.vals [.agg [.agg [.q x.lo 1066, .q x.hi 1066], .agg [.q y.lo 1066, .q y.hi 1066], .agg [.q C.lo 300, .q C.hi 300], .agg [.q S.lo 301, .q S.hi 301]]])), some (.mk 24 (.vals [.agg [.agg [.q p0.X.lo 260, .q p0.X.hi 260], .agg [.q p0.Y.lo 260, .q p0.Y.hi 260], .agg [.q p0.C.lo 300, .q p0.C.hi 300], .agg [.q p0.S.lo 301, .q p0.S.hi 301]], .agg [.agg [.q l.X.lo 663, .q l.X.hi 663], .agg [.q l.Y.lo 663, .q l.Y.hi 663], .agg [.q C.lo 300, .q C.hi 300], .agg [.q S.lo 301, .q S.hi 301]]]))]))) (.no 20002)) (.no 1)) (.no 1)) (.no 1)) (.no 1)) (.no 1)) (.no 1)) (.no 1)) (.no 1)) (.no 1)) (.no 1)) (.no 1)) (.no 1)) (.no 1)) (.no 11007)) (.no 1)) (.no 11012)) (.no 10005)) (.ok (.out (.exit 0) (LS.mk [.lst 6 (.fn n fun (j : Nat) => .agg [.q (Q j).lo 260, .q (Q j).hi 260]), .ptr 0 24 0 0 [], .sl 1 24 0 1, .lst 16 (.fn n fun (j : Nat) => .agg [.q (lk j).len 64, .q (lk j).low 64, .q (lk j).high 64, .q (lk j).spd 64, .q (lk j).brk 64, .lst 6 (.fn (lk j).np fun (a : Nat) => .agg [.q ((lk j).px a) 64, .q ((lk j).py a) 64])]), .i .i64 (n : Int), .i .i64 i] [some (.mk 24 (.vals [.agg [.agg [.q l.X.lo 663, .q l.X.hi 663], .agg [.q l.Y.lo 663, .q l.Y.hi 663], .agg [.q l.C.lo 300, .q l.C.hi 300], .agg [.q l.S.lo 301, .q l.S.hi 301]]])), some (.mk 24 (.vals [.agg [.agg [.q p0.X.lo 260, .q p0.X.hi 260], .agg [.q p0.Y.lo 260, .q p0.Y.hi 260], .agg [.q p0.C.lo 300, .q p0.C.hi 300], .agg [.q p0.S.lo 301, .q p0.S.hi 301]]]))])))).run := by kernel_rfl
theorem tSp2 (n : Nat) (Q : Nat -> Sp) (lk : Nat -> Lk) (l : Lz) (i : Int) (p0 p1 : Lz) (c s m1 m2 d1 C m3 m4 d2 S m5 m6 x y : Sp) : (qh prog (RSp 1066 c s m1 m2 d1 C m3 m4 d2 S m5 m6 x y) [] polSp f11.ntmps 0 [1, 8, 9, 43, 44, 45] bSp (stSp n Q lk l 1066 (.sl 1 24 0 2) [some ⟨24, .vals [nowP p0 260, nowP p1 663]⟩] i)).run =
 (Tr.br (decide (i < (n : Int))) (.br (ix (i) ((n : Int))) (.br (ix (i) ((n : Int))) (.br (qe (isU cosS [.agg [.q (Q i.toNat).lo 260, .q (Q i.toNat).hi 260]] (260 : Nat) c)) (.br (ix (i) ((n : Int))) (.br (qe (isU sinS [.agg [.q (Q i.toNat).lo 260, .q (Q i.toNat).hi 260]] (260 : Nat) s)) (.br (qe (isB qF [.agg [.q l.C.lo 300, .q l.C.hi 300], .agg [.q c.lo 1044, .q c.hi 1044]] (300 : Nat) (1044 : Nat) m1 (1401 : Nat))) (.br (qe (isB qF [.agg [.q l.S.lo 301, .q l.S.hi 301], .agg [.q s.lo 1045, .q s.hi 1045]] (301 : Nat) (1045 : Nat) m2 (1402 : Nat))) (.br (qe (isB subS [.agg [.q m1.lo 1401, .q m1.hi 1401], .agg [.q m2.lo 1402, .q m2.hi 1402]] (1401 : Nat) (1402 : Nat) d1 (2901 : Nat))) (.br (qe (isC [.agg [.q d1.lo 2901, .q d1.hi 2901]] (2901 : Nat) C (300 : Nat))) (.br (qe (isB qF [.agg [.q l.S.lo 301, .q l.S.hi 301], .agg [.q c.lo 1044, .q c.hi 1044]] (301 : Nat) (1044 : Nat) m3 (1403 : Nat))) (.br (qe (isB qF [.agg [.q l.C.lo 300, .q l.C.hi 300], .agg [.q s.lo 1045, .q s.hi 1045]] (300 : Nat) (1045 : Nat) m4 (1404 : Nat))) (.br (qe (isB addS [.agg [.q m3.lo 1403, .q m3.hi 1403], .agg [.q m4.lo 1404, .q m4.hi 1404]] (1403 : Nat) (1404 : Nat) d2 (2902 : Nat))) (.br (qe (isC [.agg [.q d2.lo 2902, .q d2.hi 2902]] (2902 : Nat) S (301 : Nat))) (.br (qe (isB qF [.agg [.q (lk i.toNat).len 64, .q (lk i.toNat).len 64], .agg [.q C.lo 300, .q C.hi 300]] (64 : Nat) (300 : Nat) m5 (401 : Nat))) (.br (qe (isB addS [.agg [.q l.X.lo 1066, .q l.X.hi 1066], .agg [.q m5.lo 401, .q m5.hi 401]] (1066 : Nat) (401 : Nat) x (1469 : Nat))) (.br (qe (isB qF [.agg [.q (lk i.toNat).len 64, .q (lk i.toNat).len 64], .agg [.q S.lo 301, .q S.hi 301]] (64 : Nat) (301 : Nat) m6 (402 : Nat))) (.br (qe (isB addS [.agg [.q l.Y.lo 1066, .q l.Y.hi 1066], .agg [.q m6.lo 402, .q m6.hi 402]] (1066 : Nat) (402 : Nat) y (1469 : Nat))) (.br (ib (i + 1)) (.ok (.out .normal (LS.mk [.lst 6 (.fn n fun (j : Nat) => .agg [.q (Q j).lo 260, .q (Q j).hi 260]), .ptr 0 24 0 0 [], .sl 1 24 0 3, .lst 16 (.fn n fun (j : Nat) => .agg [.q (lk j).len 64, .q (lk j).low 64, .q (lk j).high 64, .q (lk j).spd 64, .q (lk j).brk 64, .lst 6 (.fn (lk j).np fun (a : Nat) => .agg [.q ((lk j).px a) 64, .q ((lk j).py a) 64])]), .i .i64 (n : Int), .i .i64 (i + 1)] [some (.mk 24 (.vals [.agg [.agg [.q x.lo 1469, .q x.hi 1469], .agg [.q y.lo 1469, .q y.hi 1469], .agg [.q C.lo 300, .q C.hi 300], .agg [.q S.lo 301, .q S.hi 301]]])), some (.mk 24 (.vals [.agg [.agg [.q p0.X.lo 260, .q p0.X.hi 260], .agg [.q p0.Y.lo 260, .q p0.Y.hi 260], .agg [.q p0.C.lo 300, .q p0.C.hi 300], .agg [.q p0.S.lo 301, .q p0.S.hi 301]], .agg [.agg [.q p1.X.lo 663, .q p1.X.hi 663], .agg [.q p1.Y.lo 663, .q p1.Y.hi 663], .agg [.q p1.C.lo 300, .q p1.C.hi 300], .agg [.q p1.S.lo 301, .q p1.S.hi 301]], .agg [.agg [.q l.X.lo 1066, .q l.X.hi 1066], .agg [.q l.Y.lo 1066, .q l.Y.hi 1066], .agg [.q C.lo 300, .q C.hi 300], .agg [.q S.lo 301, .q S.hi 301]]]))]))) (.no 20002)) (.no 1)) (.no 1)) (.no 1)) (.no 1)) (.no 1)) (.no 1)) (.no 1)) (.no 1)) (.no 1)) (.no 1)) (.no 1)) (.no 1)) (.no 1)) (.no 11007)) (.no 1)) (.no 11012)) (.no 10005)) (.ok (.out (.exit 0) (LS.mk [.lst 6 (.fn n fun (j : Nat) => .agg [.q (Q j).lo 260, .q (Q j).hi 260]), .ptr 0 24 0 0 [], .sl 1 24 0 2, .lst 16 (.fn n fun (j : Nat) => .agg [.q (lk j).len 64, .q (lk j).low 64, .q (lk j).high 64, .q (lk j).spd 64, .q (lk j).brk 64, .lst 6 (.fn (lk j).np fun (a : Nat) => .agg [.q ((lk j).px a) 64, .q ((lk j).py a) 64])]), .i .i64 (n : Int), .i .i64 i] [some (.mk 24 (.vals [.agg [.agg [.q l.X.lo 1066, .q l.X.hi 1066], .agg [.q l.Y.lo 1066, .q l.Y.hi 1066], .agg [.q l.C.lo 300, .q l.C.hi 300], .agg [.q l.S.lo 301, .q l.S.hi 301]]])), some (.mk 24 (.vals [.agg [.agg [.q p0.X.lo 260, .q p0.X.hi 260], .agg [.q p0.Y.lo 260, .q p0.Y.hi 260], .agg [.q p0.C.lo 300, .q p0.C.hi 300], .agg [.q p0.S.lo 301, .q p0.S.hi 301]], .agg [.agg [.q p1.X.lo 663, .q p1.X.hi 663], .agg [.q p1.Y.lo 663, .q p1.Y.hi 663], .agg [.q p1.C.lo 300, .q p1.C.hi 300], .agg [.q p1.S.lo 301, .q p1.S.hi 301]]]))])))).run := by kernel_rfl
theorem tSp3 (n : Nat) (Q : Nat -> Sp) (lk : Nat -> Lk) (l : Lz) (i : Int) (p0 p1 p2 : Lz) : (qh prog [] [] polSp f11.ntmps 0 [1, 8, 9, 43, 44, 45] bSp (stSp n Q lk l 1469 (.sl 1 24 0 3) [some ⟨24, .vals [nowP p0 260, nowP p1 663, nowP p2 1066]⟩] i)).run =
 (Tr.br (decide (i < (n : Int))) (.br (ix (i) ((n : Int))) (.br (ix (i) ((n : Int))) (.no 11010) (.no 11012)) (.no 10005)) (.ok (.out (.exit 0) (LS.mk [.lst 6 (.fn n fun (j : Nat) => .agg [.q (Q j).lo 260, .q (Q j).hi 260]), .ptr 0 24 0 0 [], .sl 1 24 0 3, .lst 16 (.fn n fun (j : Nat) => .agg [.q (lk j).len 64, .q (lk j).low 64, .q (lk j).high 64, .q (lk j).spd 64, .q (lk j).brk 64, .lst 6 (.fn (lk j).np fun (a : Nat) => .agg [.q ((lk j).px a) 64, .q ((lk j).py a) 64])]), .i .i64 (n : Int), .i .i64 i] [some (.mk 24 (.vals [.agg [.agg [.q l.X.lo 1469, .q l.X.hi 1469], .agg [.q l.Y.lo 1469, .q l.Y.hi 1469], .agg [.q l.C.lo 300, .q l.C.hi 300], .agg [.q l.S.lo 301, .q l.S.hi 301]]])), some (.mk 24 (.vals [.agg [.agg [.q p0.X.lo 260, .q p0.X.hi 260], .agg [.q p0.Y.lo 260, .q p0.Y.hi 260], .agg [.q p0.C.lo 300, .q p0.C.hi 300], .agg [.q p0.S.lo 301, .q p0.S.hi 301]], .agg [.agg [.q p1.X.lo 663, .q p1.X.hi 663], .agg [.q p1.Y.lo 663, .q p1.Y.hi 663], .agg [.q p1.C.lo 300, .q p1.C.hi 300], .agg [.q p1.S.lo 301, .q p1.S.hi 301]], .agg [.agg [.q p2.X.lo 1066, .q p2.X.hi 1066], .agg [.q p2.Y.lo 1066, .q p2.Y.hi 1066], .agg [.q p2.C.lo 300, .q p2.C.hi 300], .agg [.q p2.S.lo 301, .q p2.S.hi 301]]]))])))).run := by kernel_rfl
def gC0 (F : Rat -> Rat) (w : Nat) : Spec := fun args hs K => match args, hs with
 | [.agg [.bl false, .q t 64]], [] => K (.q (F t) w) []
 | _, _ => .no 1
def gO0 : Spec := fun args hs K => match args, hs with
 | [.q z 64], [] => K (.agg [.q z 260, .q z 260]) []
 | [.q z 300], [] => K (.agg [.q z 300, .q z 300]) []
 | [.q z 301], [] => K (.agg [.q z 301, .q z 301]) []
 | _, _ => .no 1
def OSp (A : Am) (k : Int) : Orc := [(16, gC0 (qD false) 300), (17, gC0 (qv false) 301), (40, cst [qz A, .i .i64 k] True (.i .i64 0)), (41, gO0)]
theorem eSp1 (A : Am) (Q : Nat -> Sp) (l p0 : Lz) : (evF prog (OSp A A.n) [(8, lcst (stSp A.n Q A.lk (lz0 ⟨A.bx, A.by_, false, A.t⟩) 260 .nil [] 0) (.exit 0) (stSp A.n Q A.lk l 663 (.sl 1 24 0 1) [some ⟨24, .vals [nowP p0 260]⟩] 1))] polSp f11 [qz A, .lst 6 (spsC A.n Q)] [] qm).run =
 (Tr.br (qe (isA [qz A, .i .i64 (A.n : Int)] True [qz A, .i .i64 (A.n : Int)])) (.br (qe (isLS (LS.mk [.lst 6 (.fn A.n fun (j : Nat) => .agg [.q (Q j).lo 260, .q (Q j).hi 260]), .ptr 0 24 0 0 [], .nil, .lst 16 (.fn A.n fun (j : Nat) => .agg [.q (A.lk j).len 64, .q (A.lk j).low 64, .q (A.lk j).high 64, .q (A.lk j).spd 64, .q (A.lk j).brk 64, .lst 6 (.fn (A.lk j).np fun (a : Nat) => .agg [.q ((A.lk j).px a) 64, .q ((A.lk j).py a) 64])]), .i .i64 (A.n : Int), .i .i64 0] [some (.mk 24 (.vals [.agg [.agg [.q (lz0 (Fr.mk A.bx A.by_ false A.t)).X.lo 260, .q (lz0 (Fr.mk A.bx A.by_ false A.t)).X.hi 260], .agg [.q (lz0 (Fr.mk A.bx A.by_ false A.t)).Y.lo 260, .q (lz0 (Fr.mk A.bx A.by_ false A.t)).Y.hi 260], .agg [.q (lz0 (Fr.mk A.bx A.by_ false A.t)).C.lo 300, .q (lz0 (Fr.mk A.bx A.by_ false A.t)).C.hi 300], .agg [.q (lz0 (Fr.mk A.bx A.by_ false A.t)).S.lo 301, .q (lz0 (Fr.mk A.bx A.by_ false A.t)).S.hi 301]]]))]) (LS.mk [.lst 6 (.fn A.n fun (j : Nat) => .agg [.q (Q j).lo 260, .q (Q j).hi 260]), .ptr 0 24 0 0 [], .nil, .lst 16 (.fn A.n fun (j : Nat) => .agg [.q (A.lk j).len 64, .q (A.lk j).low 64, .q (A.lk j).high 64, .q (A.lk j).spd 64, .q (A.lk j).brk 64, .lst 6 (.fn (A.lk j).np fun (a : Nat) => .agg [.q ((A.lk j).px a) 64, .q ((A.lk j).py a) 64])]), .i .i64 (A.n : Int), .i .i64 0] [some (.mk 24 (.vals [.agg [.agg [.q A.bx 260, .q A.bx 260], .agg [.q A.by_ 260, .q A.by_ 260], .agg [.q (qD false A.t) 300, .q (qD false A.t) 300], .agg [.q (qv false A.t) 301, .q (qv false A.t) 301]]]))]))) (.ok (.ret (.tup [.fr 24 (.vals [.agg [.agg [.q p0.X.lo 260, .q p0.X.hi 260], .agg [.q p0.Y.lo 260, .q p0.Y.hi 260], .agg [.q p0.C.lo 300, .q p0.C.hi 300], .agg [.q p0.S.lo 301, .q p0.S.hi 301]], .agg [.agg [.q l.X.lo 663, .q l.X.hi 663], .agg [.q l.Y.lo 663, .q l.Y.hi 663], .agg [.q l.C.lo 300, .q l.C.hi 300], .agg [.q l.S.lo 301, .q l.S.hi 301]]]), .i .i64 0]) [])) (.no 1)) (.no 1)).run := by kernel_rfl
theorem eSp2 (A : Am) (Q : Nat -> Sp) (l p0 p1 : Lz) : (evF prog (OSp A A.n) [(8, lcst (stSp A.n Q A.lk (lz0 ⟨A.bx, A.by_, false, A.t⟩) 260 .nil [] 0) (.exit 0) (stSp A.n Q A.lk l 1066 (.sl 1 24 0 2) [some ⟨24, .vals [nowP p0 260, nowP p1 663]⟩] 2))] polSp f11 [qz A, .lst 6 (spsC A.n Q)] [] qm).run =
 (Tr.br (qe (isA [qz A, .i .i64 (A.n : Int)] True [qz A, .i .i64 (A.n : Int)])) (.br (qe (isLS (LS.mk [.lst 6 (.fn A.n fun (j : Nat) => .agg [.q (Q j).lo 260, .q (Q j).hi 260]), .ptr 0 24 0 0 [], .nil, .lst 16 (.fn A.n fun (j : Nat) => .agg [.q (A.lk j).len 64, .q (A.lk j).low 64, .q (A.lk j).high 64, .q (A.lk j).spd 64, .q (A.lk j).brk 64, .lst 6 (.fn (A.lk j).np fun (a : Nat) => .agg [.q ((A.lk j).px a) 64, .q ((A.lk j).py a) 64])]), .i .i64 (A.n : Int), .i .i64 0] [some (.mk 24 (.vals [.agg [.agg [.q (lz0 (Fr.mk A.bx A.by_ false A.t)).X.lo 260, .q (lz0 (Fr.mk A.bx A.by_ false A.t)).X.hi 260], .agg [.q (lz0 (Fr.mk A.bx A.by_ false A.t)).Y.lo 260, .q (lz0 (Fr.mk A.bx A.by_ false A.t)).Y.hi 260], .agg [.q (lz0 (Fr.mk A.bx A.by_ false A.t)).C.lo 300, .q (lz0 (Fr.mk A.bx A.by_ false A.t)).C.hi 300], .agg [.q (lz0 (Fr.mk A.bx A.by_ false A.t)).S.lo 301, .q (lz0 (Fr.mk A.bx A.by_ false A.t)).S.hi 301]]]))]) (LS.mk [.lst 6 (.fn A.n fun (j : Nat) => .agg [.q (Q j).lo 260, .q (Q j).hi 260]), .ptr 0 24 0 0 [], .nil, .lst 16 (.fn A.n fun (j : Nat) => .agg [.q (A.lk j).len 64, .q (A.lk j).low 64, .q (A.lk j).high 64, .q (A.lk j).spd 64, .q (A.lk j).brk 64, .lst 6 (.fn (A.lk j).np fun (a : Nat) => .agg [.q ((A.lk j).px a) 64, .q ((A.lk j).py a) 64])]), .i .i64 (A.n : Int), .i .i64 0] [some (.mk 24 (.vals [.agg [.agg [.q A.bx 260, .q A.bx 260], .agg [.q A.by_ 260, .q A.by_ 260], .agg [.q (qD false A.t) 300, .q (qD false A.t) 300], .agg [.q (qv false A.t) 301, .q (qv false A.t) 301]]]))]))) (.ok (.ret (.tup [.fr 24 (.vals [.agg [.agg [.q p0.X.lo 260, .q p0.X.hi 260], .agg [.q p0.Y.lo 260, .q p0.Y.hi 260], .agg [.q p0.C.lo 300, .q p0.C.hi 300], .agg [.q p0.S.lo 301, .q p0.S.hi 301]], .agg [.agg [.q p1.X.lo 663, .q p1.X.hi 663], .agg [.q p1.Y.lo 663, .q p1.Y.hi 663], .agg [.q p1.C.lo 300, .q p1.C.hi 300], .agg [.q p1.S.lo 301, .q p1.S.hi 301]], .agg [.agg [.q l.X.lo 1066, .q l.X.hi 1066], .agg [.q l.Y.lo 1066, .q l.Y.hi 1066], .agg [.q l.C.lo 300, .q l.C.hi 300], .agg [.q l.S.lo 301, .q l.S.hi 301]]]), .i .i64 0]) [])) (.no 1)) (.no 1)).run := by kernel_rfl
theorem eSp3 (A : Am) (Q : Nat -> Sp) (l p0 p1 p2 : Lz) : (evF prog (OSp A A.n) [(8, lcst (stSp A.n Q A.lk (lz0 ⟨A.bx, A.by_, false, A.t⟩) 260 .nil [] 0) (.exit 0) (stSp A.n Q A.lk l 1469 (.sl 1 24 0 3) [some ⟨24, .vals [nowP p0 260, nowP p1 663, nowP p2 1066]⟩] 3))] polSp f11 [qz A, .lst 6 (spsC A.n Q)] [] qm).run =
 (Tr.br (qe (isA [qz A, .i .i64 (A.n : Int)] True [qz A, .i .i64 (A.n : Int)])) (.br (qe (isLS (LS.mk [.lst 6 (.fn A.n fun (j : Nat) => .agg [.q (Q j).lo 260, .q (Q j).hi 260]), .ptr 0 24 0 0 [], .nil, .lst 16 (.fn A.n fun (j : Nat) => .agg [.q (A.lk j).len 64, .q (A.lk j).low 64, .q (A.lk j).high 64, .q (A.lk j).spd 64, .q (A.lk j).brk 64, .lst 6 (.fn (A.lk j).np fun (a : Nat) => .agg [.q ((A.lk j).px a) 64, .q ((A.lk j).py a) 64])]), .i .i64 (A.n : Int), .i .i64 0] [some (.mk 24 (.vals [.agg [.agg [.q (lz0 (Fr.mk A.bx A.by_ false A.t)).X.lo 260, .q (lz0 (Fr.mk A.bx A.by_ false A.t)).X.hi 260], .agg [.q (lz0 (Fr.mk A.bx A.by_ false A.t)).Y.lo 260, .q (lz0 (Fr.mk A.bx A.by_ false A.t)).Y.hi 260], .agg [.q (lz0 (Fr.mk A.bx A.by_ false A.t)).C.lo 300, .q (lz0 (Fr.mk A.bx A.by_ false A.t)).C.hi 300], .agg [.q (lz0 (Fr.mk A.bx A.by_ false A.t)).S.lo 301, .q (lz0 (Fr.mk A.bx A.by_ false A.t)).S.hi 301]]]))]) (LS.mk [.lst 6 (.fn A.n fun (j : Nat) => .agg [.q (Q j).lo 260, .q (Q j).hi 260]), .ptr 0 24 0 0 [], .nil, .lst 16 (.fn A.n fun (j : Nat) => .agg [.q (A.lk j).len 64, .q (A.lk j).low 64, .q (A.lk j).high 64, .q (A.lk j).spd 64, .q (A.lk j).brk 64, .lst 6 (.fn (A.lk j).np fun (a : Nat) => .agg [.q ((A.lk j).px a) 64, .q ((A.lk j).py a) 64])]), .i .i64 (A.n : Int), .i .i64 0] [some (.mk 24 (.vals [.agg [.agg [.q A.bx 260, .q A.bx 260], .agg [.q A.by_ 260, .q A.by_ 260], .agg [.q (qD false A.t) 300, .q (qD false A.t) 300], .agg [.q (qv false A.t) 301, .q (qv false A.t) 301]]]))]))) (.ok (.ret (.tup [.fr 24 (.vals [.agg [.agg [.q p0.X.lo 260, .q p0.X.hi 260], .agg [.q p0.Y.lo 260, .q p0.Y.hi 260], .agg [.q p0.C.lo 300, .q p0.C.hi 300], .agg [.q p0.S.lo 301, .q p0.S.hi 301]], .agg [.agg [.q p1.X.lo 663, .q p1.X.hi 663], .agg [.q p1.Y.lo 663, .q p1.Y.hi 663], .agg [.q p1.C.lo 300, .q p1.C.hi 300], .agg [.q p1.S.lo 301, .q p1.S.hi 301]], .agg [.agg [.q p2.X.lo 1066, .q p2.X.hi 1066], .agg [.q p2.Y.lo 1066, .q p2.Y.hi 1066], .agg [.q p2.C.lo 300, .q p2.C.hi 300], .agg [.q p2.S.lo 301, .q p2.S.hi 301]], .agg [.agg [.q l.X.lo 1469, .q l.X.hi 1469], .agg [.q l.Y.lo 1469, .q l.Y.hi 1469], .agg [.q l.C.lo 300, .q l.C.hi 300], .agg [.q l.S.lo 301, .q l.S.hi 301]]]), .i .i64 0]) [])) (.no 1)) (.no 1)).run := by kernel_rfl
theorem sp_rle {r : Sp} {n w : Nat} (h : n <= w) : RLe (.agg [.q r.lo n, .q r.hi n]) (.agg [.q r.lo w, .q r.hi w]) := rle_of_vle (fun _ => rfl) (fun _ => rfl) (VLe.agg (vllc (vle_qm h) (vllc (vle_qm h) vll0)))
theorem vB_ok {g : Nat} {F : Sp -> Sp -> Sp} {tab : Tab2} {sp : Spec} (h : qc prog G g sp) (e : ∀ (A B : Sp) (n m : Nat), 1 <= n -> 1 <= m -> n + m <= 50000 -> ∃ w0, w0 <= n + m + 1 /\ (sp [spR A.lo A.hi n, spR B.lo B.hi m] [] qm).run = some (.ret (.agg [.q (F A B).lo w0, .q (F A B).hi w0]) [])) :
  qc prog G g (vB F tab) := by
 intro args hs K y hh
 unfold vB at hh
 split at hh
 case h_2 => cases hh
 rename_i a n b n' c m d m'
 split at hh
 case h_2 => cases hh
 rename_i r w ht
 obtain ⟨hc, hr⟩ := k8 hh
 obtain ⟨⟨A, B, he, rfl⟩, h1, h2, h3, h4⟩ := decP_iff.1 hc
 obtain ⟨w0, hw, hrun⟩ := e A B n m h1 h2 (by omega)
 exact ⟨_, _, by rw [he]; exact (pc_spec h hrun).le (sp_rle (by omega)) (.refl _), hr⟩
theorem vU_ok {g : Nat} {F : Sp -> Sp} {r : Sp} {w : Nat} {sp : Spec} (hw : 1044 <= w) (h : qc prog G g sp) (e : ∀ (A : Sp), (sp [spR A.lo A.hi 260] [] qm).run = some (.ret (.agg [.q (F A).lo 1044, .q (F A).hi 1044]) [])) : qc prog G g (vU F r w) := by
 intro args hs K y hh
 unfold vU at hh
 split at hh
 case h_2 => cases hh
 rename_i a b n'
 obtain ⟨hc, hr⟩ := k8 hh
 obtain ⟨A, he, rfl⟩ := decP_iff.1 hc
 exact ⟨_, _, by rw [he]; exact (pc_spec h (e A)).le (sp_rle hw) (.refl _), hr⟩
include hG in
theorem vCut_ok (hT : qr G) {tab : Tab1} : qc prog G 44 (vCut tab) := by
 intro args hs K y hh
 unfold vCut at hh
 split at hh
 case h_2 => cases hh
 rename_i a n b n'
 split at hh
 case h_2 => cases hh
 rename_i r w ht
 obtain ⟨hc, hr⟩ := k8 hh
 obtain ⟨⟨A, he, rfl, ho⟩, h1, h2, h3⟩ := decP_iff.1 hc
 have p := pc_spec (gkCu hG hT) (args := [spR A.lo A.hi n]) (r := .agg [.q (cutL A) 300, .q (cutH A) 300]) (hs := []) (hs' := []) (by
  show (Tr.br _ _ _).run = _
  rw [k5 (decP_iff.2 ⟨⟨rfl, h1, h2⟩, by rw [qI]; exact ho⟩), qI]; rfl)
 refine ⟨_, _, ?_, hr⟩
 rw [he]
 refine p.le ?_ (.refl _)
 have e1 : (cutS A).lo = cutL A := fitS_lo ho
 have e2 : (cutS A).hi = cutH A := fitS_hi ho
 rw [<- e1, <- e2]
 exact sp_rle h3
include hG in
theorem orcRSp (hT : qr G) (W : Nat) (c s m1 m2 d1 C m3 m4 d2 S m5 m6 x y : Sp) : OrcOK prog G (RSp W c s m1 m2 d1 C m3 m4 d2 S m5 m6 x y) := by
 refine .cons (gkOf hG hT) (.cons (vU_ok (by omega) (gkCs hG hT) fun A => ?_) (.cons (vU_ok (by omega) (gkSn hG hT) fun A => ?_) (.cons (vCut_ok hG hT) (.cons (vB_ok (gkSb hG hT) fun A B n m h1 h2 h3 => ?_) (.cons (vB_ok (gkMu hG hT) fun A B n m h1 h2 h3 => ?_) (.cons (vB_ok (gkAd hG hT) fun A B n m h1 h2 h3 => ?_) .nil))))))
 ·refine (k5 (decP_iff.2 ⟨rfl, by omega, by omega⟩)).trans ?_
  rw [qI]; rfl
 ·show some (Res.ret (.agg [.q (sinS (qj A.lo A.hi)).lo 1044, .q (sinS (qj A.lo A.hi)).hi 1044]) []) = _
  rw [qI]
 ·refine ⟨_, Nat.le_refl _, (k5 (decP_iff.2 ⟨⟨_, _, _, _, rfl⟩, h1, h2, h3⟩)).trans ?_⟩
  rw [qI, qI]; rfl
 ·refine ⟨n + m, by omega, (k5 (decP_iff.2 ⟨⟨_, _, _, _, rfl⟩, h1, h2, h3⟩)).trans ?_⟩
  rw [qI, qI]; rfl
 ·refine ⟨_, Nat.le_refl _, (k5 (decP_iff.2 ⟨⟨_, _, _, _, rfl⟩, h1, h2, h3⟩)).trans ?_⟩
  rw [qI, qI]; rfl
section
variable (n : Nat) (Q : Nat -> Sp) (lk : Nat -> Lk) (l : Lz)
def okL (l : Lz) (Q : Sp) : Prop := cutL (lcC Q l) <= cutH (lcC Q l) /\ cutL (lcS Q l) <= cutH (lcS Q l)
def nx_ (L : Rat) (Q : Sp) (l : Lz) : Lz := lstep L (lturn Q l)
include hG in
theorem rSp0 (hT : qr G) (i : Nat) (hi : i < n) (hn : n <= 3) (ho : okL l (Q i)) : Rnd prog G f11.ntmps 0 [1, 8, 9, 43, 44, 45] bSp (stSp n Q lk l 260 .nil [] (i : Nat)) .normal
  (stSp n Q lk (nx_ (lk i).len (Q i) l) 663 (.sl 1 24 0 1) [some ⟨24, .vals [nowP (lturn (Q i) l) 260]⟩] ((i + 1 : Nat) : Int)) := by
 refine qb hG (orcRSp hG hT 260 (cosS (Q i)) (sinS (Q i)) (qF l.C (cosS (Q i))) (qF l.S (sinS (Q i))) (lcC (Q i) l) (cutS (lcC (Q i) l)) (qF l.S (cosS (Q i))) (qF l.C (sinS (Q i))) (lcS (Q i) l) (cutS (lcS (Q i) l)) (qF (ofS (lk i).len) (cutS (lcC (Q i) l))) (qF (ofS (lk i).len) (cutS (lcS (Q i) l))) (addS l.X (qF (ofS (lk i).len) (cutS (lcC (Q i) l)))) (addS l.Y (qF (ofS (lk i).len) (cutS (lcS (Q i) l))))) mix (L := []) (pol := polSp) (k9 (by kernel_rfl)) (Nat.zero_le _) ?_
 rw [tSp0, Int.toNat_natCast]
 repeat (refine Eq.trans (k5 ?_) ?_; first | (simp only [kA, kD]; omega) | exact decP_iff.2 ⟨⟨_, _, rfl, rfl⟩, by decide, by decide, by decide, by decide⟩ | exact decP_iff.2 ⟨⟨ofS _, _, rfl, rfl⟩, by decide, by decide, by decide, by decide⟩ | exact decP_iff.2 ⟨_, rfl, rfl⟩ | exact decP_iff.2 ⟨⟨_, rfl, rfl, ho.1⟩, by decide, by decide, by decide⟩ | exact decP_iff.2 ⟨⟨_, rfl, rfl, ho.2⟩, by decide, by decide, by decide⟩)
 rw [k7]
 rfl
include hG in
theorem rSp1 (hT : qr G) (p0 : Lz) (i : Nat) (hi : i < n) (hn : n <= 3) (ho : okL l (Q i)) : Rnd prog G f11.ntmps 0 [1, 8, 9, 43, 44, 45] bSp (stSp n Q lk l 663 (.sl 1 24 0 1) [some ⟨24, .vals [nowP p0 260]⟩] (i : Nat)) .normal
  (stSp n Q lk (nx_ (lk i).len (Q i) l) 1066 (.sl 1 24 0 2) [some ⟨24, .vals [nowP p0 260, nowP (lturn (Q i) l) 663]⟩] ((i + 1 : Nat) : Int)) := by
 refine qb hG (orcRSp hG hT 663 (cosS (Q i)) (sinS (Q i)) (qF l.C (cosS (Q i))) (qF l.S (sinS (Q i))) (lcC (Q i) l) (cutS (lcC (Q i) l)) (qF l.S (cosS (Q i))) (qF l.C (sinS (Q i))) (lcS (Q i) l) (cutS (lcS (Q i) l)) (qF (ofS (lk i).len) (cutS (lcC (Q i) l))) (qF (ofS (lk i).len) (cutS (lcS (Q i) l))) (addS l.X (qF (ofS (lk i).len) (cutS (lcC (Q i) l)))) (addS l.Y (qF (ofS (lk i).len) (cutS (lcS (Q i) l))))) mix (L := []) (pol := polSp) (k9 (by kernel_rfl)) (Nat.zero_le _) ?_
 rw [tSp1, Int.toNat_natCast]
 repeat (refine Eq.trans (k5 ?_) ?_; first | (simp only [kA, kD]; omega) | exact decP_iff.2 ⟨⟨_, _, rfl, rfl⟩, by decide, by decide, by decide, by decide⟩ | exact decP_iff.2 ⟨⟨ofS _, _, rfl, rfl⟩, by decide, by decide, by decide, by decide⟩ | exact decP_iff.2 ⟨_, rfl, rfl⟩ | exact decP_iff.2 ⟨⟨_, rfl, rfl, ho.1⟩, by decide, by decide, by decide⟩ | exact decP_iff.2 ⟨⟨_, rfl, rfl, ho.2⟩, by decide, by decide, by decide⟩ | decide)
 rw [k7]
 rfl
include hG in
theorem rSp2 (hT : qr G) (p0 p1 : Lz) (i : Nat) (hi : i < n) (hn : n <= 3) (ho : okL l (Q i)) : Rnd prog G f11.ntmps 0 [1, 8, 9, 43, 44, 45] bSp (stSp n Q lk l 1066 (.sl 1 24 0 2) [some ⟨24, .vals [nowP p0 260, nowP p1 663]⟩] (i : Nat)) .normal
  (stSp n Q lk (nx_ (lk i).len (Q i) l) 1469 (.sl 1 24 0 3) [some ⟨24, .vals [nowP p0 260, nowP p1 663, nowP (lturn (Q i) l) 1066]⟩] ((i + 1 : Nat) : Int)) := by
 refine qb hG (orcRSp hG hT 1066 (cosS (Q i)) (sinS (Q i)) (qF l.C (cosS (Q i))) (qF l.S (sinS (Q i))) (lcC (Q i) l) (cutS (lcC (Q i) l)) (qF l.S (cosS (Q i))) (qF l.C (sinS (Q i))) (lcS (Q i) l) (cutS (lcS (Q i) l)) (qF (ofS (lk i).len) (cutS (lcC (Q i) l))) (qF (ofS (lk i).len) (cutS (lcS (Q i) l))) (addS l.X (qF (ofS (lk i).len) (cutS (lcC (Q i) l)))) (addS l.Y (qF (ofS (lk i).len) (cutS (lcS (Q i) l))))) mix (L := []) (pol := polSp) (k9 (by kernel_rfl)) (Nat.zero_le _) ?_
 rw [tSp2, Int.toNat_natCast]
 repeat (refine Eq.trans (k5 ?_) ?_; first | (simp only [kA, kD]; omega) | exact decP_iff.2 ⟨⟨_, _, rfl, rfl⟩, by decide, by decide, by decide, by decide⟩ | exact decP_iff.2 ⟨⟨ofS _, _, rfl, rfl⟩, by decide, by decide, by decide, by decide⟩ | exact decP_iff.2 ⟨_, rfl, rfl⟩ | exact decP_iff.2 ⟨⟨_, rfl, rfl, ho.1⟩, by decide, by decide, by decide⟩ | exact decP_iff.2 ⟨⟨_, rfl, rfl, ho.2⟩, by decide, by decide, by decide⟩ | decide)
 rw [k7]
 rfl
end
theorem okL_of {b : Fr} {Q : Nat -> Sp} {L : Nat -> Rat} (i : Nat) : okL (lzE b Q L i) (Q i) := by
 have h := lzE_has (b := b) (Q := Q) (q := fun j => (Q j).lo) (L := L) i fun j _ => (Q j).has_lo
 obtain ⟨c, s⟩ := lc_has h (Q i).has_lo
 have bd := cs_bd (thH (endR b (fun j => (Q j).lo) L i).h (endR b (fun j => (Q j).lo) L i).t false (Q i).lo) (thT (endR b (fun j => (Q j).lo) L i).h (endR b (fun j => (Q j).lo) L i).t false (Q i).lo)
 exact ⟨cut_ok c bd.1.1 bd.1.2, cut_ok s bd.2.1 bd.2.2⟩
include hG in
theorem gC0_c (hT : qr G) : qc prog G 16 (gC0 (qD false) 300) := by
 intro args hs K y h
 unfold gC0 at h
 split at h
 case h_2 => cases h
 exact ⟨_, _, (pc_spec (gk133 hG hT) (args := [.agg [.bl false, .q _ 64]]) (hs := []) (r := .q (qD false _) (4 * 64 + 4)) (hs' := []) rfl).le (q_rle rfl (by omega)) (.refl _), h⟩
include hG in
theorem gC0_s (hT : qr G) : qc prog G 17 (gC0 (qv false) 301) := by
 intro args hs K y h
 unfold gC0 at h
 split at h
 case h_2 => cases h
 exact ⟨_, _, (pc_spec (gk134 hG hT) (args := [.agg [.bl false, .q _ 64]]) (hs := []) (r := .q (qv false _) (4 * 64 + 4)) (hs' := []) rfl).le (q_rle rfl (by omega)) (.refl _), h⟩
include hG in
theorem gO0_ok (hT : qr G) : qc prog G 41 gO0 := by
 intro args hs K y h
 unfold gO0 at h
 split at h
 case h_4 => cases h
 ·exact ⟨_, _, (pc_spec (gkOf hG hT) (args := [.q _ 64]) (hs := []) (r := .agg [.q _ 64, .q _ 64]) (hs' := []) rfl).le (rle_of_vle (fun _ => rfl) (fun _ => rfl) (VLe.agg (vllc (vle_qm (by omega)) (vllc (vle_qm (by omega)) vll0)))) (.refl _), h⟩
 ·exact ⟨_, _, pc_spec (gkOf hG hT) (args := [.q _ 300]) (hs := []) (hs' := []) rfl, h⟩
 ·exact ⟨_, _, pc_spec (gkOf hG hT) (args := [.q _ 301]) (hs := []) (hs' := []) rfl, h⟩
include hG in
theorem pcHas (A : Am) (hA : armB A = true) : PC prog G 40 [qz A, .i .i64 A.n] [] (.i .i64 0) [] :=
 pc_spec (ok85 hG) (k5 (decP_iff.2 ⟨qz A, A, rfl, .refl _, hA⟩))
def nowW (l : Lz) : PV := .agg [.agg [.q l.X.lo 1500, .q l.X.hi 1500], .agg [.q l.Y.lo 1500, .q l.Y.hi 1500], .agg [.q l.C.lo 301, .q l.C.hi 301], .agg [.q l.S.lo 301, .q l.S.hi 301]]
theorem sp_vle {r : Sp} {n w : Nat} (h : n <= w) : VLe (.agg [.q r.lo n, .q r.hi n]) (.agg [.q r.lo w, .q r.hi w]) := VLe.agg (vllc (vle_qm h) (vllc (vle_qm h) vll0))
theorem now_le {l : Lz} {W : Nat} (h : W <= 1500) : VLe (nowP l W) (nowW l) := VLe.agg (vllc (sp_vle h) (vllc (sp_vle h) (vllc (sp_vle (by omega)) (vllc (sp_vle (by omega)) vll0))))
def lzs (A : Am) (Q : Nat -> Sp) (i : Nat) : Lz := lzA (bsF A) Q (fun j => (A.lk j).len) A.n i
include hG in
theorem pcSp (hT : qr G) (A : Am) (hA : armB A = true) (Q : Nat -> Sp) :
  PC prog G 11 [qz A, .lst 6 (spsC A.n Q)] [] (.tup [.fr 24 (.fn (A.n + 1) (fun i => nowW (lzs A Q i))), .i .i64 0]) [] := by
 obtain ⟨a1, a2, a3, a4, h1, h3, a7⟩ := armB_c hA
 have orc : OrcOK prog G (OSp A A.n) := .cons (gC0_c hG hT) (.cons (gC0_s hG hT) (.cons (cst_t (pcHas hG A hA)) (.cons (gO0_ok hG hT) .nil)))
 have E := fun i => okL_of (b := bsF A) (Q := Q) (L := fun j => (A.lk j).len) i
 have x1 := rSp0 hG A.n Q A.lk (lzE (bsF A) Q (fun j => (A.lk j).len) 0) hT 0 (by omega) h3 (E 0)
 have hcs : A.n = 1 \/ A.n = 2 \/ A.n = 3 := by omega
 have ex1 : A.n = 1 -> Goes (Rnd prog G f11.ntmps 0 [1, 8, 9, 43, 44, 45] bSp) (stSp A.n Q A.lk (lz0 (bsF A)) 260 .nil [] 0) (.exit 0) (stSp A.n Q A.lk (lzE (bsF A) Q (fun j => (A.lk j).len) 1) 663 (.sl 1 24 0 1) [some ⟨24, .vals [nowP (lzF (bsF A) Q (fun j => (A.lk j).len) 0) 260]⟩] 1) := fun hn => by
  refine .more _ _ _ _ x1 (.last _ _ _ ?_ (by simp))
  refine qb hG (orcRSp hG hT 663 (ofS 0) (ofS 0) (ofS 0) (ofS 0) (ofS 0) (ofS 0) (ofS 0) (ofS 0) (ofS 0) (ofS 0) (ofS 0) (ofS 0) (ofS 0) (ofS 0)) mix (L := []) (pol := polSp) (k9 (by kernel_rfl)) (Nat.zero_le _) ?_
  rw [tSp1, k6 (kF (by omega)), k7]
  rfl
 rcases hcs with hn | hn | hn
 ·refine (qk hG orc mix enSp (hs := []) (pol := polSp) (L := [(8, lcst (stSp A.n Q A.lk (lz0 (bsF A)) 260 .nil [] 0) (.exit 0) (stSp A.n Q A.lk (lzE (bsF A) Q (fun j => (A.lk j).len) 1) 663 (.sl 1 24 0 1) [some ⟨24, .vals [nowP (lzF (bsF A) Q (fun j => (A.lk j).len) 0) 260]⟩] 1))]) (lps1 (b := bSp) (live := [1, 8, 9, 43, 44, 45]) (m := 0) (by kernel_rfl) (by kernel_rfl) (by kernel_rfl) (lcst_ok (ex1 hn))) (r := .tup [.fr 24 (.vals [nowP (lzF (bsF A) Q (fun j => (A.lk j).len) 0) 260, nowP (lzE (bsF A) Q (fun j => (A.lk j).len) 1) 663]), .i .i64 0]) (hs' := []) ?_).le ?_ (.refl _)
  ·refine (eSp1 A Q _ _).trans ?_
   rw [k5 (decP_iff.2 ⟨rfl, trivial⟩)]
   refine Eq.trans (k5 ?_) ?_
   ·exact decP_iff.2 rfl
   ·rw [k7]; rfl
  ·refine frs_le0 _ _ _ _ (by rw [hn]; rfl) fun i v hi => ?_
   match i, hi with
   | 0, hi => simp at hi; subst hi; exact ⟨rfl, by show VLe _ (nowW (lzA _ _ _ A.n 0)); rw [lzA, if_pos (by omega)]; exact now_le (by omega)⟩
   | 1, hi => simp at hi; subst hi; exact ⟨rfl, by show VLe _ (nowW (lzA _ _ _ A.n 1)); rw [lzA, if_neg (by omega), hn]; exact now_le (by omega)⟩
   | i + 2, hi => simp at hi
 ·have x2 := rSp1 hG A.n Q A.lk (lzE (bsF A) Q (fun j => (A.lk j).len) 1) hT (lzF (bsF A) Q (fun j => (A.lk j).len) 0) 1 (by omega) h3 (E 1)
  have g : Goes (Rnd prog G f11.ntmps 0 [1, 8, 9, 43, 44, 45] bSp) (stSp A.n Q A.lk (lz0 (bsF A)) 260 .nil [] 0) (.exit 0) (stSp A.n Q A.lk (lzE (bsF A) Q (fun j => (A.lk j).len) 2) 1066 (.sl 1 24 0 2) [some ⟨24, .vals [nowP (lzF (bsF A) Q (fun j => (A.lk j).len) 0) 260, nowP (lzF (bsF A) Q (fun j => (A.lk j).len) 1) 663]⟩] 2) := by
   refine .more _ _ _ _ x1 (.more _ _ _ _ x2 (.last _ _ _ ?_ (by simp)))
   refine qb hG (orcRSp hG hT 1066 (ofS 0) (ofS 0) (ofS 0) (ofS 0) (ofS 0) (ofS 0) (ofS 0) (ofS 0) (ofS 0) (ofS 0) (ofS 0) (ofS 0) (ofS 0) (ofS 0)) mix (L := []) (pol := polSp) (k9 (by kernel_rfl)) (Nat.zero_le _) ?_
   refine (tSp2 A.n Q A.lk _ _ _ _ _ _ _ _ _ _ _ _ _ _ _ _ _ _).trans ?_
   rw [k6 (kF (by omega)), k7]
   rfl
  refine (qk hG orc mix enSp (hs := []) (pol := polSp) (L := [(8, lcst (stSp A.n Q A.lk (lz0 (bsF A)) 260 .nil [] 0) (.exit 0) (stSp A.n Q A.lk (lzE (bsF A) Q (fun j => (A.lk j).len) 2) 1066 (.sl 1 24 0 2) [some ⟨24, .vals [nowP (lzF (bsF A) Q (fun j => (A.lk j).len) 0) 260, nowP (lzF (bsF A) Q (fun j => (A.lk j).len) 1) 663]⟩] 2))]) (lps1 (b := bSp) (live := [1, 8, 9, 43, 44, 45]) (m := 0) (by kernel_rfl) (by kernel_rfl) (by kernel_rfl) (lcst_ok g)) (r := .tup [.fr 24 (.vals [nowP (lzF (bsF A) Q (fun j => (A.lk j).len) 0) 260, nowP (lzF (bsF A) Q (fun j => (A.lk j).len) 1) 663, nowP (lzE (bsF A) Q (fun j => (A.lk j).len) 2) 1066]), .i .i64 0]) (hs' := []) ?_).le ?_ (.refl _)
  ·refine (eSp2 A Q _ _ _).trans ?_
   rw [k5 (decP_iff.2 ⟨rfl, trivial⟩)]
   refine Eq.trans (k5 ?_) ?_
   ·exact decP_iff.2 rfl
   ·rw [k7]; rfl
  ·refine frs_le0 _ _ _ _ (by rw [hn]; rfl) fun i v hi => ?_
   match i, hi with
   | 0, hi => simp at hi; subst hi; exact ⟨rfl, by show VLe _ (nowW (lzA _ _ _ A.n 0)); rw [lzA, if_pos (by omega)]; exact now_le (by omega)⟩
   | 1, hi => simp at hi; subst hi; exact ⟨rfl, by show VLe _ (nowW (lzA _ _ _ A.n 1)); rw [lzA, if_pos (by omega)]; exact now_le (by omega)⟩
   | 2, hi => simp at hi; subst hi; exact ⟨rfl, by show VLe _ (nowW (lzA _ _ _ A.n 2)); rw [lzA, if_neg (by omega), hn]; exact now_le (by omega)⟩
   | i + 3, hi => simp at hi
 ·have x2 := rSp1 hG A.n Q A.lk (lzE (bsF A) Q (fun j => (A.lk j).len) 1) hT (lzF (bsF A) Q (fun j => (A.lk j).len) 0) 1 (by omega) h3 (E 1)
  have x3 := rSp2 hG A.n Q A.lk (lzE (bsF A) Q (fun j => (A.lk j).len) 2) hT (lzF (bsF A) Q (fun j => (A.lk j).len) 0) (lzF (bsF A) Q (fun j => (A.lk j).len) 1) 2 (by omega) h3 (E 2)
  have g : Goes (Rnd prog G f11.ntmps 0 [1, 8, 9, 43, 44, 45] bSp) (stSp A.n Q A.lk (lz0 (bsF A)) 260 .nil [] 0) (.exit 0) (stSp A.n Q A.lk (lzE (bsF A) Q (fun j => (A.lk j).len) 3) 1469 (.sl 1 24 0 3) [some ⟨24, .vals [nowP (lzF (bsF A) Q (fun j => (A.lk j).len) 0) 260, nowP (lzF (bsF A) Q (fun j => (A.lk j).len) 1) 663, nowP (lzF (bsF A) Q (fun j => (A.lk j).len) 2) 1066]⟩] 3) := by
   refine .more _ _ _ _ x1 (.more _ _ _ _ x2 (.more _ _ _ _ x3 (.last _ _ _ ?_ (by simp))))
   refine qb hG .nil mix (L := []) (pol := polSp) (k9 (by kernel_rfl)) (Nat.zero_le _) ?_
   refine (tSp3 A.n Q A.lk _ _ _ _ _).trans ?_
   rw [k6 (kF (by omega)), k7]
   rfl
  refine (qk hG orc mix enSp (hs := []) (pol := polSp) (L := [(8, lcst (stSp A.n Q A.lk (lz0 (bsF A)) 260 .nil [] 0) (.exit 0) (stSp A.n Q A.lk (lzE (bsF A) Q (fun j => (A.lk j).len) 3) 1469 (.sl 1 24 0 3) [some ⟨24, .vals [nowP (lzF (bsF A) Q (fun j => (A.lk j).len) 0) 260, nowP (lzF (bsF A) Q (fun j => (A.lk j).len) 1) 663, nowP (lzF (bsF A) Q (fun j => (A.lk j).len) 2) 1066]⟩] 3))]) (lps1 (b := bSp) (live := [1, 8, 9, 43, 44, 45]) (m := 0) (by kernel_rfl) (by kernel_rfl) (by kernel_rfl) (lcst_ok g)) (r := .tup [.fr 24 (.vals [nowP (lzF (bsF A) Q (fun j => (A.lk j).len) 0) 260, nowP (lzF (bsF A) Q (fun j => (A.lk j).len) 1) 663, nowP (lzF (bsF A) Q (fun j => (A.lk j).len) 2) 1066, nowP (lzE (bsF A) Q (fun j => (A.lk j).len) 3) 1469]), .i .i64 0]) (hs' := []) ?_).le ?_ (.refl _)
  ·refine (eSp3 A Q _ _ _ _).trans ?_
   rw [k5 (decP_iff.2 ⟨rfl, trivial⟩)]
   refine Eq.trans (k5 ?_) ?_
   ·exact decP_iff.2 rfl
   ·rw [k7]; rfl
  ·refine frs_le0 _ _ _ _ (by rw [hn]; rfl) fun i v hi => ?_
   match i, hi with
   | 0, hi => simp at hi; subst hi; exact ⟨rfl, by show VLe _ (nowW (lzA _ _ _ A.n 0)); rw [lzA, if_pos (by omega)]; exact now_le (by omega)⟩
   | 1, hi => simp at hi; subst hi; exact ⟨rfl, by show VLe _ (nowW (lzA _ _ _ A.n 1)); rw [lzA, if_pos (by omega)]; exact now_le (by omega)⟩
   | 2, hi => simp at hi; subst hi; exact ⟨rfl, by show VLe _ (nowW (lzA _ _ _ A.n 2)); rw [lzA, if_pos (by omega)]; exact now_le (by omega)⟩
   | 3, hi => simp at hi; subst hi; exact ⟨rfl, by show VLe _ (nowW (lzA _ _ _ A.n 3)); rw [lzA, if_neg (by omega), hn]; exact now_le (by omega)⟩
   | i + 4, hi => simp at hi
end
section
open Go Tryz
set_option maxRecDepth 100000
variable {G : World -> (Nat -> Prop) -> Prop} (hG : GOk G)
theorem enSs : Enters prog 12 f12 (qg f12) := ⟨func12, by kernel_rfl, rfl⟩
def bSs : Code := (qi (qg f12)).getD 0 .skip
def polSs : Pol := { live := [(3, [0, 1, 5, 11, 12])] }
def OSs : Orc := [(27, g86), (48, g80)]
def lSs : qx := unr prog OSs [] polSs f12.ntmps 0 [0, 1, 5, 11, 12] bSs 4
theorem eSs1 (a a' : Rat) (w : Nat) : (evF prog OSs [(3, lSs)] polSs f12 [.lst 3 (.rats w [a]), .lst 3 (.rats w [a'])] [] qm).run =
 (Tr.br (decide ((0 : Int) < if (↑[a'].length : Int) < (↑[a].length : Int) then (↑[a'].length : Int) else (↑[a].length : Int))) (.br (ix ((0 : Int)) ((↑[a].length : Int))) (.br (ix ((0 : Int)) ((↑[a'].length : Int))) (.br ((w + w).ble 400000) (.br (ix ((0 : Int)) ((↑[a].length : Int))) (.br (ix ((0 : Int)) ((↑[a'].length : Int))) (.br ((w + w).ble 400000) (.br (Nat.blt (0 : Nat) [PV.agg [PV.q (mnR ([a].getD (0 : Nat) (0 : Rat)) ([a'].getD (0 : Nat) (0 : Rat))) (w.max w), PV.q (mxR ([a].getD (0 : Nat) (0 : Rat)) ([a'].getD (0 : Nat) (0 : Rat))) (w.max w)]].length && [PV.agg [PV.q (mnR ([a].getD (0 : Nat) (0 : Rat)) ([a'].getD (0 : Nat) (0 : Rat))) (w.max w), PV.q (mxR ([a].getD (0 : Nat) (0 : Rat)) ([a'].getD (0 : Nat) (0 : Rat))) (w.max w)]].length.ble 4294967296) (.br (decide ((1 : Int) < if (↑[a'].length : Int) < (↑[a].length : Int) then (↑[a'].length : Int) else (↑[a].length : Int))) (.br (ix ((1 : Int)) ((↑[a].length : Int))) (.br (ix ((1 : Int)) ((↑[a'].length : Int))) (.br ((w + w).ble 400000) (.br (ix ((1 : Int)) ((↑[a].length : Int))) (.br (ix ((1 : Int)) ((↑[a'].length : Int))) (.br ((w + w).ble 400000) (.br (([PV.agg [PV.q (mnR ([a].getD (0 : Nat) (0 : Rat)) ([a'].getD (0 : Nat) (0 : Rat))) (w.max w), PV.q (mxR ([a].getD (0 : Nat) (0 : Rat)) ([a'].getD (0 : Nat) (0 : Rat))) (w.max w)]].length + [PV.agg [PV.q (mnR ([a].getD (1 : Nat) (0 : Rat)) ([a'].getD (1 : Nat) (0 : Rat))) (w.max w), PV.q (mxR ([a].getD (1 : Nat) (0 : Rat)) ([a'].getD (1 : Nat) (0 : Rat))) (w.max w)]].length).ble 4294967296) (.br (decide ((2 : Int) < if (↑[a'].length : Int) < (↑[a].length : Int) then (↑[a'].length : Int) else (↑[a].length : Int))) (.br (ix ((2 : Int)) ((↑[a].length : Int))) (.br (ix ((2 : Int)) ((↑[a'].length : Int))) (.br ((w + w).ble 400000) (.br (ix ((2 : Int)) ((↑[a].length : Int))) (.br (ix ((2 : Int)) ((↑[a'].length : Int))) (.br ((w + w).ble 400000) (.br (([PV.agg [PV.q (mnR ([a].getD (0 : Nat) (0 : Rat)) ([a'].getD (0 : Nat) (0 : Rat))) (w.max w), PV.q (mxR ([a].getD (0 : Nat) (0 : Rat)) ([a'].getD (0 : Nat) (0 : Rat))) (w.max w)]].length + [PV.agg [PV.q (mnR ([a].getD (1 : Nat) (0 : Rat)) ([a'].getD (1 : Nat) (0 : Rat))) (w.max w), PV.q (mxR ([a].getD (1 : Nat) (0 : Rat)) ([a'].getD (1 : Nat) (0 : Rat))) (w.max w)]].length + [PV.agg [PV.q (mnR ([a].getD (2 : Nat) (0 : Rat)) ([a'].getD (2 : Nat) (0 : Rat))) (w.max w), PV.q (mxR ([a].getD (2 : Nat) (0 : Rat)) ([a'].getD (2 : Nat) (0 : Rat))) (w.max w)]].length).ble 4294967296) (.br (decide ((3 : Int) < if (↑[a'].length : Int) < (↑[a].length : Int) then (↑[a'].length : Int) else (↑[a].length : Int))) (.br (ix ((3 : Int)) ((↑[a].length : Int))) (.br (ix ((3 : Int)) ((↑[a'].length : Int))) (.br ((w + w).ble 400000) (.br (ix ((3 : Int)) ((↑[a].length : Int))) (.br (ix ((3 : Int)) ((↑[a'].length : Int))) (.br ((w + w).ble 400000) (.br (([PV.agg [PV.q (mnR ([a].getD (0 : Nat) (0 : Rat)) ([a'].getD (0 : Nat) (0 : Rat))) (w.max w), PV.q (mxR ([a].getD (0 : Nat) (0 : Rat)) ([a'].getD (0 : Nat) (0 : Rat))) (w.max w)]].length + [PV.agg [PV.q (mnR ([a].getD (1 : Nat) (0 : Rat)) ([a'].getD (1 : Nat) (0 : Rat))) (w.max w), PV.q (mxR ([a].getD (1 : Nat) (0 : Rat)) ([a'].getD (1 : Nat) (0 : Rat))) (w.max w)]].length + [PV.agg [PV.q (mnR ([a].getD (2 : Nat) (0 : Rat)) ([a'].getD (2 : Nat) (0 : Rat))) (w.max w), PV.q (mxR ([a].getD (2 : Nat) (0 : Rat)) ([a'].getD (2 : Nat) (0 : Rat))) (w.max w)]].length + [PV.agg [PV.q (mnR ([a].getD (3 : Nat) (0 : Rat)) ([a'].getD (3 : Nat) (0 : Rat))) (w.max w), PV.q (mxR ([a].getD (3 : Nat) (0 : Rat)) ([a'].getD (3 : Nat) (0 : Rat))) (w.max w)]].length).ble 4294967296) (.no 16) (.no 6002)) (.no 1)) (.no 6007)) (.no 6011)) (.no 1)) (.no 6016)) (.no 6020)) (.ok (.ret (PV.fr 6 (.vals [PV.agg [PV.q (mnR ([a].getD (0 : Nat) (0 : Rat)) ([a'].getD (0 : Nat) (0 : Rat))) (w.max w), PV.q (mxR ([a].getD (0 : Nat) (0 : Rat)) ([a'].getD (0 : Nat) (0 : Rat))) (w.max w)], PV.agg [PV.q (mnR ([a].getD (1 : Nat) (0 : Rat)) ([a'].getD (1 : Nat) (0 : Rat))) (w.max w), PV.q (mxR ([a].getD (1 : Nat) (0 : Rat)) ([a'].getD (1 : Nat) (0 : Rat))) (w.max w)], PV.agg [PV.q (mnR ([a].getD (2 : Nat) (0 : Rat)) ([a'].getD (2 : Nat) (0 : Rat))) (w.max w), PV.q (mxR ([a].getD (2 : Nat) (0 : Rat)) ([a'].getD (2 : Nat) (0 : Rat))) (w.max w)]])) []))) (.no 6002)) (.no 1)) (.no 6007)) (.no 6011)) (.no 1)) (.no 6016)) (.no 6020)) (.ok (.ret (PV.fr 6 (.vals [PV.agg [PV.q (mnR ([a].getD (0 : Nat) (0 : Rat)) ([a'].getD (0 : Nat) (0 : Rat))) (w.max w), PV.q (mxR ([a].getD (0 : Nat) (0 : Rat)) ([a'].getD (0 : Nat) (0 : Rat))) (w.max w)], PV.agg [PV.q (mnR ([a].getD (1 : Nat) (0 : Rat)) ([a'].getD (1 : Nat) (0 : Rat))) (w.max w), PV.q (mxR ([a].getD (1 : Nat) (0 : Rat)) ([a'].getD (1 : Nat) (0 : Rat))) (w.max w)]])) []))) (.no 6002)) (.no 1)) (.no 6007)) (.no 6011)) (.no 1)) (.no 6016)) (.no 6020)) (.ok (.ret (PV.fr 6 (.vals [PV.agg [PV.q (mnR ([a].getD (0 : Nat) (0 : Rat)) ([a'].getD (0 : Nat) (0 : Rat))) (w.max w), PV.q (mxR ([a].getD (0 : Nat) (0 : Rat)) ([a'].getD (0 : Nat) (0 : Rat))) (w.max w)]])) []))) (.no 6002)) (.no 1)) (.no 6007)) (.no 6011)) (.no 1)) (.no 6016)) (.no 6020)) (.ok (.ret PV.nil []))).run := by kernel_rfl
theorem eSs2 (a b a' b' : Rat) (w : Nat) : (evF prog OSs [(3, lSs)] polSs f12 [.lst 3 (.rats w [a, b]), .lst 3 (.rats w [a', b'])] [] qm).run =
 (Tr.br (decide ((0 : Int) < if (↑[a', b'].length : Int) < (↑[a, b].length : Int) then (↑[a', b'].length : Int) else (↑[a, b].length : Int))) (.br (ix ((0 : Int)) ((↑[a, b].length : Int))) (.br (ix ((0 : Int)) ((↑[a', b'].length : Int))) (.br ((w + w).ble 400000) (.br (ix ((0 : Int)) ((↑[a, b].length : Int))) (.br (ix ((0 : Int)) ((↑[a', b'].length : Int))) (.br ((w + w).ble 400000) (.br (Nat.blt (0 : Nat) [PV.agg [PV.q (mnR ([a, b].getD (0 : Nat) (0 : Rat)) ([a', b'].getD (0 : Nat) (0 : Rat))) (w.max w), PV.q (mxR ([a, b].getD (0 : Nat) (0 : Rat)) ([a', b'].getD (0 : Nat) (0 : Rat))) (w.max w)]].length && [PV.agg [PV.q (mnR ([a, b].getD (0 : Nat) (0 : Rat)) ([a', b'].getD (0 : Nat) (0 : Rat))) (w.max w), PV.q (mxR ([a, b].getD (0 : Nat) (0 : Rat)) ([a', b'].getD (0 : Nat) (0 : Rat))) (w.max w)]].length.ble 4294967296) (.br (decide ((1 : Int) < if (↑[a', b'].length : Int) < (↑[a, b].length : Int) then (↑[a', b'].length : Int) else (↑[a, b].length : Int))) (.br (ix ((1 : Int)) ((↑[a, b].length : Int))) (.br (ix ((1 : Int)) ((↑[a', b'].length : Int))) (.br ((w + w).ble 400000) (.br (ix ((1 : Int)) ((↑[a, b].length : Int))) (.br (ix ((1 : Int)) ((↑[a', b'].length : Int))) (.br ((w + w).ble 400000) (.br (([PV.agg [PV.q (mnR ([a, b].getD (0 : Nat) (0 : Rat)) ([a', b'].getD (0 : Nat) (0 : Rat))) (w.max w), PV.q (mxR ([a, b].getD (0 : Nat) (0 : Rat)) ([a', b'].getD (0 : Nat) (0 : Rat))) (w.max w)]].length + [PV.agg [PV.q (mnR ([a, b].getD (1 : Nat) (0 : Rat)) ([a', b'].getD (1 : Nat) (0 : Rat))) (w.max w), PV.q (mxR ([a, b].getD (1 : Nat) (0 : Rat)) ([a', b'].getD (1 : Nat) (0 : Rat))) (w.max w)]].length).ble 4294967296) (.br (decide ((2 : Int) < if (↑[a', b'].length : Int) < (↑[a, b].length : Int) then (↑[a', b'].length : Int) else (↑[a, b].length : Int))) (.br (ix ((2 : Int)) ((↑[a, b].length : Int))) (.br (ix ((2 : Int)) ((↑[a', b'].length : Int))) (.br ((w + w).ble 400000) (.br (ix ((2 : Int)) ((↑[a, b].length : Int))) (.br (ix ((2 : Int)) ((↑[a', b'].length : Int))) (.br ((w + w).ble 400000) (.br (([PV.agg [PV.q (mnR ([a, b].getD (0 : Nat) (0 : Rat)) ([a', b'].getD (0 : Nat) (0 : Rat))) (w.max w), PV.q (mxR ([a, b].getD (0 : Nat) (0 : Rat)) ([a', b'].getD (0 : Nat) (0 : Rat))) (w.max w)]].length + [PV.agg [PV.q (mnR ([a, b].getD (1 : Nat) (0 : Rat)) ([a', b'].getD (1 : Nat) (0 : Rat))) (w.max w), PV.q (mxR ([a, b].getD (1 : Nat) (0 : Rat)) ([a', b'].getD (1 : Nat) (0 : Rat))) (w.max w)]].length + [PV.agg [PV.q (mnR ([a, b].getD (2 : Nat) (0 : Rat)) ([a', b'].getD (2 : Nat) (0 : Rat))) (w.max w), PV.q (mxR ([a, b].getD (2 : Nat) (0 : Rat)) ([a', b'].getD (2 : Nat) (0 : Rat))) (w.max w)]].length).ble 4294967296) (.br (decide ((3 : Int) < if (↑[a', b'].length : Int) < (↑[a, b].length : Int) then (↑[a', b'].length : Int) else (↑[a, b].length : Int))) (.br (ix ((3 : Int)) ((↑[a, b].length : Int))) (.br (ix ((3 : Int)) ((↑[a', b'].length : Int))) (.br ((w + w).ble 400000) (.br (ix ((3 : Int)) ((↑[a, b].length : Int))) (.br (ix ((3 : Int)) ((↑[a', b'].length : Int))) (.br ((w + w).ble 400000) (.br (([PV.agg [PV.q (mnR ([a, b].getD (0 : Nat) (0 : Rat)) ([a', b'].getD (0 : Nat) (0 : Rat))) (w.max w), PV.q (mxR ([a, b].getD (0 : Nat) (0 : Rat)) ([a', b'].getD (0 : Nat) (0 : Rat))) (w.max w)]].length + [PV.agg [PV.q (mnR ([a, b].getD (1 : Nat) (0 : Rat)) ([a', b'].getD (1 : Nat) (0 : Rat))) (w.max w), PV.q (mxR ([a, b].getD (1 : Nat) (0 : Rat)) ([a', b'].getD (1 : Nat) (0 : Rat))) (w.max w)]].length + [PV.agg [PV.q (mnR ([a, b].getD (2 : Nat) (0 : Rat)) ([a', b'].getD (2 : Nat) (0 : Rat))) (w.max w), PV.q (mxR ([a, b].getD (2 : Nat) (0 : Rat)) ([a', b'].getD (2 : Nat) (0 : Rat))) (w.max w)]].length + [PV.agg [PV.q (mnR ([a, b].getD (3 : Nat) (0 : Rat)) ([a', b'].getD (3 : Nat) (0 : Rat))) (w.max w), PV.q (mxR ([a, b].getD (3 : Nat) (0 : Rat)) ([a', b'].getD (3 : Nat) (0 : Rat))) (w.max w)]].length).ble 4294967296) (.no 16) (.no 6002)) (.no 1)) (.no 6007)) (.no 6011)) (.no 1)) (.no 6016)) (.no 6020)) (.ok (.ret (PV.fr 6 (.vals [PV.agg [PV.q (mnR ([a, b].getD (0 : Nat) (0 : Rat)) ([a', b'].getD (0 : Nat) (0 : Rat))) (w.max w), PV.q (mxR ([a, b].getD (0 : Nat) (0 : Rat)) ([a', b'].getD (0 : Nat) (0 : Rat))) (w.max w)], PV.agg [PV.q (mnR ([a, b].getD (1 : Nat) (0 : Rat)) ([a', b'].getD (1 : Nat) (0 : Rat))) (w.max w), PV.q (mxR ([a, b].getD (1 : Nat) (0 : Rat)) ([a', b'].getD (1 : Nat) (0 : Rat))) (w.max w)], PV.agg [PV.q (mnR ([a, b].getD (2 : Nat) (0 : Rat)) ([a', b'].getD (2 : Nat) (0 : Rat))) (w.max w), PV.q (mxR ([a, b].getD (2 : Nat) (0 : Rat)) ([a', b'].getD (2 : Nat) (0 : Rat))) (w.max w)]])) []))) (.no 6002)) (.no 1)) (.no 6007)) (.no 6011)) (.no 1)) (.no 6016)) (.no 6020)) (.ok (.ret (PV.fr 6 (.vals [PV.agg [PV.q (mnR ([a, b].getD (0 : Nat) (0 : Rat)) ([a', b'].getD (0 : Nat) (0 : Rat))) (w.max w), PV.q (mxR ([a, b].getD (0 : Nat) (0 : Rat)) ([a', b'].getD (0 : Nat) (0 : Rat))) (w.max w)], PV.agg [PV.q (mnR ([a, b].getD (1 : Nat) (0 : Rat)) ([a', b'].getD (1 : Nat) (0 : Rat))) (w.max w), PV.q (mxR ([a, b].getD (1 : Nat) (0 : Rat)) ([a', b'].getD (1 : Nat) (0 : Rat))) (w.max w)]])) []))) (.no 6002)) (.no 1)) (.no 6007)) (.no 6011)) (.no 1)) (.no 6016)) (.no 6020)) (.ok (.ret (PV.fr 6 (.vals [PV.agg [PV.q (mnR ([a, b].getD (0 : Nat) (0 : Rat)) ([a', b'].getD (0 : Nat) (0 : Rat))) (w.max w), PV.q (mxR ([a, b].getD (0 : Nat) (0 : Rat)) ([a', b'].getD (0 : Nat) (0 : Rat))) (w.max w)]])) []))) (.no 6002)) (.no 1)) (.no 6007)) (.no 6011)) (.no 1)) (.no 6016)) (.no 6020)) (.ok (.ret PV.nil []))).run := by kernel_rfl
theorem eSs3 (a b c a' b' c' : Rat) (w : Nat) : (evF prog OSs [(3, lSs)] polSs f12 [.lst 3 (.rats w [a, b, c]), .lst 3 (.rats w [a', b', c'])] [] qm).run =
 (Tr.br (decide ((0 : Int) < if (↑[a', b', c'].length : Int) < (↑[a, b, c].length : Int) then (↑[a', b', c'].length : Int) else (↑[a, b, c].length : Int))) (.br (ix ((0 : Int)) ((↑[a, b, c].length : Int))) (.br (ix ((0 : Int)) ((↑[a', b', c'].length : Int))) (.br ((w + w).ble 400000) (.br (ix ((0 : Int)) ((↑[a, b, c].length : Int))) (.br (ix ((0 : Int)) ((↑[a', b', c'].length : Int))) (.br ((w + w).ble 400000) (.br (Nat.blt (0 : Nat) [PV.agg [PV.q (mnR ([a, b, c].getD (0 : Nat) (0 : Rat)) ([a', b', c'].getD (0 : Nat) (0 : Rat))) (w.max w), PV.q (mxR ([a, b, c].getD (0 : Nat) (0 : Rat)) ([a', b', c'].getD (0 : Nat) (0 : Rat))) (w.max w)]].length && [PV.agg [PV.q (mnR ([a, b, c].getD (0 : Nat) (0 : Rat)) ([a', b', c'].getD (0 : Nat) (0 : Rat))) (w.max w), PV.q (mxR ([a, b, c].getD (0 : Nat) (0 : Rat)) ([a', b', c'].getD (0 : Nat) (0 : Rat))) (w.max w)]].length.ble 4294967296) (.br (decide ((1 : Int) < if (↑[a', b', c'].length : Int) < (↑[a, b, c].length : Int) then (↑[a', b', c'].length : Int) else (↑[a, b, c].length : Int))) (.br (ix ((1 : Int)) ((↑[a, b, c].length : Int))) (.br (ix ((1 : Int)) ((↑[a', b', c'].length : Int))) (.br ((w + w).ble 400000) (.br (ix ((1 : Int)) ((↑[a, b, c].length : Int))) (.br (ix ((1 : Int)) ((↑[a', b', c'].length : Int))) (.br ((w + w).ble 400000) (.br (([PV.agg [PV.q (mnR ([a, b, c].getD (0 : Nat) (0 : Rat)) ([a', b', c'].getD (0 : Nat) (0 : Rat))) (w.max w), PV.q (mxR ([a, b, c].getD (0 : Nat) (0 : Rat)) ([a', b', c'].getD (0 : Nat) (0 : Rat))) (w.max w)]].length + [PV.agg [PV.q (mnR ([a, b, c].getD (1 : Nat) (0 : Rat)) ([a', b', c'].getD (1 : Nat) (0 : Rat))) (w.max w), PV.q (mxR ([a, b, c].getD (1 : Nat) (0 : Rat)) ([a', b', c'].getD (1 : Nat) (0 : Rat))) (w.max w)]].length).ble 4294967296) (.br (decide ((2 : Int) < if (↑[a', b', c'].length : Int) < (↑[a, b, c].length : Int) then (↑[a', b', c'].length : Int) else (↑[a, b, c].length : Int))) (.br (ix ((2 : Int)) ((↑[a, b, c].length : Int))) (.br (ix ((2 : Int)) ((↑[a', b', c'].length : Int))) (.br ((w + w).ble 400000) (.br (ix ((2 : Int)) ((↑[a, b, c].length : Int))) (.br (ix ((2 : Int)) ((↑[a', b', c'].length : Int))) (.br ((w + w).ble 400000) (.br (([PV.agg [PV.q (mnR ([a, b, c].getD (0 : Nat) (0 : Rat)) ([a', b', c'].getD (0 : Nat) (0 : Rat))) (w.max w), PV.q (mxR ([a, b, c].getD (0 : Nat) (0 : Rat)) ([a', b', c'].getD (0 : Nat) (0 : Rat))) (w.max w)]].length + [PV.agg [PV.q (mnR ([a, b, c].getD (1 : Nat) (0 : Rat)) ([a', b', c'].getD (1 : Nat) (0 : Rat))) (w.max w), PV.q (mxR ([a, b, c].getD (1 : Nat) (0 : Rat)) ([a', b', c'].getD (1 : Nat) (0 : Rat))) (w.max w)]].length + [PV.agg [PV.q (mnR ([a, b, c].getD (2 : Nat) (0 : Rat)) ([a', b', c'].getD (2 : Nat) (0 : Rat))) (w.max w), PV.q (mxR ([a, b, c].getD (2 : Nat) (0 : Rat)) ([a', b', c'].getD (2 : Nat) (0 : Rat))) (w.max w)]].length).ble 4294967296) (.br (decide ((3 : Int) < if (↑[a', b', c'].length : Int) < (↑[a, b, c].length : Int) then (↑[a', b', c'].length : Int) else (↑[a, b, c].length : Int))) (.br (ix ((3 : Int)) ((↑[a, b, c].length : Int))) (.br (ix ((3 : Int)) ((↑[a', b', c'].length : Int))) (.br ((w + w).ble 400000) (.br (ix ((3 : Int)) ((↑[a, b, c].length : Int))) (.br (ix ((3 : Int)) ((↑[a', b', c'].length : Int))) (.br ((w + w).ble 400000) (.br (([PV.agg [PV.q (mnR ([a, b, c].getD (0 : Nat) (0 : Rat)) ([a', b', c'].getD (0 : Nat) (0 : Rat))) (w.max w), PV.q (mxR ([a, b, c].getD (0 : Nat) (0 : Rat)) ([a', b', c'].getD (0 : Nat) (0 : Rat))) (w.max w)]].length + [PV.agg [PV.q (mnR ([a, b, c].getD (1 : Nat) (0 : Rat)) ([a', b', c'].getD (1 : Nat) (0 : Rat))) (w.max w), PV.q (mxR ([a, b, c].getD (1 : Nat) (0 : Rat)) ([a', b', c'].getD (1 : Nat) (0 : Rat))) (w.max w)]].length + [PV.agg [PV.q (mnR ([a, b, c].getD (2 : Nat) (0 : Rat)) ([a', b', c'].getD (2 : Nat) (0 : Rat))) (w.max w), PV.q (mxR ([a, b, c].getD (2 : Nat) (0 : Rat)) ([a', b', c'].getD (2 : Nat) (0 : Rat))) (w.max w)]].length + [PV.agg [PV.q (mnR ([a, b, c].getD (3 : Nat) (0 : Rat)) ([a', b', c'].getD (3 : Nat) (0 : Rat))) (w.max w), PV.q (mxR ([a, b, c].getD (3 : Nat) (0 : Rat)) ([a', b', c'].getD (3 : Nat) (0 : Rat))) (w.max w)]].length).ble 4294967296) (.no 16) (.no 6002)) (.no 1)) (.no 6007)) (.no 6011)) (.no 1)) (.no 6016)) (.no 6020)) (.ok (.ret (PV.fr 6 (.vals [PV.agg [PV.q (mnR ([a, b, c].getD (0 : Nat) (0 : Rat)) ([a', b', c'].getD (0 : Nat) (0 : Rat))) (w.max w), PV.q (mxR ([a, b, c].getD (0 : Nat) (0 : Rat)) ([a', b', c'].getD (0 : Nat) (0 : Rat))) (w.max w)], PV.agg [PV.q (mnR ([a, b, c].getD (1 : Nat) (0 : Rat)) ([a', b', c'].getD (1 : Nat) (0 : Rat))) (w.max w), PV.q (mxR ([a, b, c].getD (1 : Nat) (0 : Rat)) ([a', b', c'].getD (1 : Nat) (0 : Rat))) (w.max w)], PV.agg [PV.q (mnR ([a, b, c].getD (2 : Nat) (0 : Rat)) ([a', b', c'].getD (2 : Nat) (0 : Rat))) (w.max w), PV.q (mxR ([a, b, c].getD (2 : Nat) (0 : Rat)) ([a', b', c'].getD (2 : Nat) (0 : Rat))) (w.max w)]])) []))) (.no 6002)) (.no 1)) (.no 6007)) (.no 6011)) (.no 1)) (.no 6016)) (.no 6020)) (.ok (.ret (PV.fr 6 (.vals [PV.agg [PV.q (mnR ([a, b, c].getD (0 : Nat) (0 : Rat)) ([a', b', c'].getD (0 : Nat) (0 : Rat))) (w.max w), PV.q (mxR ([a, b, c].getD (0 : Nat) (0 : Rat)) ([a', b', c'].getD (0 : Nat) (0 : Rat))) (w.max w)], PV.agg [PV.q (mnR ([a, b, c].getD (1 : Nat) (0 : Rat)) ([a', b', c'].getD (1 : Nat) (0 : Rat))) (w.max w), PV.q (mxR ([a, b, c].getD (1 : Nat) (0 : Rat)) ([a', b', c'].getD (1 : Nat) (0 : Rat))) (w.max w)]])) []))) (.no 6002)) (.no 1)) (.no 6007)) (.no 6011)) (.no 1)) (.no 6016)) (.no 6020)) (.ok (.ret (PV.fr 6 (.vals [PV.agg [PV.q (mnR ([a, b, c].getD (0 : Nat) (0 : Rat)) ([a', b', c'].getD (0 : Nat) (0 : Rat))) (w.max w), PV.q (mxR ([a, b, c].getD (0 : Nat) (0 : Rat)) ([a', b', c'].getD (0 : Nat) (0 : Rat))) (w.max w)]])) []))) (.no 6002)) (.no 1)) (.no 6007)) (.no 6011)) (.no 1)) (.no 6016)) (.no 6020)) (.ok (.ret PV.nil []))).run := by kernel_rfl
theorem enBt : Enters prog 14 f14 (qg f14) := ⟨func14, by kernel_rfl, rfl⟩
def bBt : Code := (qi (qg f14)).getD 0 .skip
def polBt : Pol := { live := [(4, [0, 1, 7, 8, 17, 18])], wr := [(54, [0])] }
def OBt : Orc := [(30, s23), (52, g21), (53, g43), (54, s45), (55, g29)]
def nBt (v : PV) (p q : List Rat) (i : Int) : LS := ⟨[.lst 3 (.rats 64 p), .lst 3 (.rats 64 q), .ptr 0 1 0 0 [], .nil, .i .i64 p.length, .i .i64 i], [some ⟨1, .vals [.agg [.w v]]⟩]⟩
def xBt (v : PV) (p q xs : List Rat) (i : Int) : LS := ⟨[.lst 3 (.rats 64 p), .lst 3 (.rats 64 q), .ptr 0 1 0 0 [], .sl 1 3 0 xs.length, .i .i64 p.length, .i .i64 i], [some ⟨1, .vals [.agg [.w v]]⟩, some ⟨3, .rats 258 xs⟩]⟩
theorem tBtN (v : PV) (p q : List Rat) (i : Int) : (qh prog OBt [] polBt f14.ntmps 0 [0, 1, 7, 8, 17, 18] bBt (nBt v p q i)).run =
 (Tr.br (decide (i < (p.length : Int))) (.br (ix (i) ((p.length : Int))) (.br (okW v && decide ((0 : Int) < 9) && decide ((9 : Int) <= 4294967296)) (.br (decide ((0 : Int) < 8) && decide ((8 : Int) < 4611686018427387904) && decide ((-4611686018427387904 : Int) < nx v (9 : Int)) && decide (nx v (9 : Int) < 4611686018427387904)) (.br (ix (i) ((q.length : Int))) (.br (ix (i) ((p.length : Int))) (.br (Nat.blt (0 : Nat) [p.getD i.toNat 0 + mkRat (nx v (9 : Int)) (8 : Nat) * (q.getD i.toNat 0 - p.getD i.toNat 0)].length && [p.getD i.toNat 0 + mkRat (nx v (9 : Int)) (8 : Nat) * (q.getD i.toNat 0 - p.getD i.toNat 0)].length.ble 4294967296) (.br (ib (i + 1)) (.ok (.out .normal (LS.mk [PV.lst 3 (.rats 64 p), PV.lst 3 (.rats 64 q), PV.ptr 0 1 0 0 [], PV.sl 1 3 0 1, PV.i .i64 (p.length : Int), PV.i .i64 (i + 1)] [some (.mk 1 (.vals [PV.agg [(rs v).w]])), some (.mk 3 (.rats 258 [p.getD i.toNat 0 + mkRat (nx v (9 : Int)) (8 : Nat) * (q.getD i.toNat 0 - p.getD i.toNat 0)]))]))) (.no 8002)) (.no 7002)) (.no 7008)) (.no 7012)) (.no 1)) (.no 1)) (.no 7019)) (.ok (.out (.exit 0) (LS.mk [PV.lst 3 (.rats 64 p), PV.lst 3 (.rats 64 q), PV.ptr 0 1 0 0 [], PV.nil, PV.i .i64 (p.length : Int), PV.i .i64 i] [some (.mk 1 (.vals [PV.agg [v.w]]))])))).run := by kernel_rfl
theorem tBtX (v : PV) (p q xs : List Rat) (i : Int) : (qh prog OBt [] polBt f14.ntmps 0 [0, 1, 7, 8, 17, 18] bBt (xBt v p q xs i)).run =
 (Tr.br (decide (i < (p.length : Int))) (.br (ix (i) ((p.length : Int))) (.br (okW v && decide ((0 : Int) < 9) && decide ((9 : Int) <= 4294967296)) (.br (decide ((0 : Int) < 8) && decide ((8 : Int) < 4611686018427387904) && decide ((-4611686018427387904 : Int) < nx v (9 : Int)) && decide (nx v (9 : Int) < 4611686018427387904)) (.br (ix (i) ((q.length : Int))) (.br (ix (i) ((p.length : Int))) (.br (xs.length.ble xs.length && (xs.length + [p.getD i.toNat 0 + mkRat (nx v (9 : Int)) (8 : Nat) * (q.getD i.toNat 0 - p.getD i.toNat 0)].length).ble 4294967296) (.br (ib (i + 1)) (.ok (.out .normal (LS.mk [PV.lst 3 (.rats 64 p), PV.lst 3 (.rats 64 q), PV.ptr 0 1 0 0 [], PV.sl 1 3 0 (xs.length + [p.getD i.toNat 0 + mkRat (nx v (9 : Int)) (8 : Nat) * (q.getD i.toNat 0 - p.getD i.toNat 0)].length), PV.i .i64 (p.length : Int), PV.i .i64 (i + 1)] [some (.mk 1 (.vals [PV.agg [(rs v).w]])), some (.mk 3 (.rats 258 (List.take xs.length (List.drop (0 : Nat) xs) ++ [p.getD i.toNat 0 + mkRat (nx v (9 : Int)) (8 : Nat) * (q.getD i.toNat 0 - p.getD i.toNat 0)])))]))) (.no 8002)) (.no 7002)) (.no 7008)) (.no 7012)) (.no 1)) (.no 1)) (.no 7019)) (.ok (.out (.exit 0) (LS.mk [PV.lst 3 (.rats 64 p), PV.lst 3 (.rats 64 q), PV.ptr 0 1 0 0 [], PV.sl 1 3 0 xs.length, PV.i .i64 (p.length : Int), PV.i .i64 i] [some (.mk 1 (.vals [PV.agg [v.w]])), some (.mk 3 (.rats 258 xs))])))).run := by kernel_rfl
theorem eBt (v v' : PV) (p q xs : List Rat) (i : Int) : (evF prog OBt [(4, lcst (nBt v p q 0) (.exit 0) (xBt v' p q xs i))] polBt f14 [.lst 3 (.rats 64 p), .lst 3 (.rats 64 q), .w v] [] qm).run =
 (Tr.br (qe (isLS (LS.mk [PV.lst 3 (.rats 64 p), PV.lst 3 (.rats 64 q), PV.ptr 0 1 0 0 [], PV.nil, PV.i .i64 (p.length : Int), PV.i .i64 0] [some (.mk 1 (.vals [PV.agg [v.w]]))]) (LS.mk [PV.lst 3 (.rats 64 p), PV.lst 3 (.rats 64 q), PV.ptr 0 1 0 0 [], PV.nil, PV.i .i64 (if (q.length : Int) < (p.length : Int) then (q.length : Int) else (p.length : Int)), PV.i .i64 0] [some (.mk 1 (.vals [PV.agg [v.w]]))]))) (.br (xs.length.ble xs.length) (.ok (.ret (PV.fr 3 (.rats 258 (List.take xs.length (List.drop (0 : Nat) xs)))) [])) (.no 15)) (.no 1)).run := by kernel_rfl
include hG in
theorem orcSs (hT : qr G) : OrcOK prog G OSs := .cons (gk86 hG hT) (.cons (gk80 hG hT) .nil)
def spn (p q : List Rat) (j : Nat) : Sp := ⟨mnR (p.getD j 0) (q.getD j 0), mxR (p.getD j 0) (q.getD j 0), mn_mx _ _⟩
theorem fr_vals {e n : Nat} {f : Nat -> PV} {vs : List PV} (hl : vs.length = n) (h : ∀ (i : Nat) (v : PV), vs[i]? = some v -> noRef 8 v = true /\ VLe v (f i)) : RLe (.fr e (.vals vs)) (.fr e (.fn n f)) := by
 subst hl
 exact ⟨fun m => .refl _, fun m => KsLe.one (KLe.fn rfl h)⟩
theorem sp2_vle {a b : Rat} {n w : Nat} (h : n <= w) : VLe (.agg [.q a n, .q b n]) (.agg [.q a w, .q b w]) := VLe.agg (vllc (vle_qm h) (vllc (vle_qm h) vll0))
include hG in
theorem pcSs (hT : qr G) (w n : Nat) (hw : w <= 258) (p q : List Rat) (h1 : 1 <= n) (h3 : n <= 3) (hp : p.length = n) (hq : q.length = n) :
  PC prog G 12 [.lst 3 (.rats w p), .lst 3 (.rats w q)] [] (.fr 6 (spsC n (spn p q))) [] := by
 refine PC.args (.cons (rats_le 3 p hw) (.cons (rats_le 3 q hw) .nil)) ?_
 have hl := lps1 (P := prog) (G := G) (pol := polSs) (n := f12.ntmps) (m := 0) (L := [(3, lSs)]) (c := qg f12) (b := bSs) (live := [0, 1, 5, 11, 12]) (sp := lSs) (by kernel_rfl) (by kernel_rfl) (by kernel_rfl) (unr_ok hG (orcSs hG hT) mix (k9 (by kernel_rfl)) 4)
 have hcs : n = 1 \/ n = 2 \/ n = 3 := by omega
 rcases hcs with rfl | rfl | rfl
 ·match p, q, hp, hq with
  | [a], [a'], _, _ =>
   refine (qk hG (orcSs hG hT) mix enSs (hs := []) (L := [(3, lSs)]) (pol := polSs) hl (r := .fr 6 (.vals [.agg [.q (mnR a a') 258, .q (mxR a a') 258]])) (hs' := []) ?_).le (fr_vals rfl fun i v hi => ?_) (.refl _)
   ·rw [eSs1]
    simp only [Nat.max_self]
    repeat first | rw [k5 (by first | (simp only [kA, Bool.or_eq_true, kD, kG, Nat.blt_eq, kH, kI, kJ, kK]; omega) | exact rfl | exact decP_iff.2 ⟨rfl, trivial⟩ | exact decP_iff.2 rfl | exact kE rfl | decide)] | rw [k6 (by first | (simp only [Bool.and_eq_false_iff, Bool.not_eq_false', kD, kK]; omega) | exact rfl | exact congrArg (!·) (kE rfl) | decide)]
    rw [k7]
    rfl
   ·match i, hi with
    | 0, hi => simp at hi; subst hi; exact ⟨rfl, sp2_vle (by omega)⟩
    | i + 1, hi => simp at hi
 ·match p, q, hp, hq with
  | [a, b], [a', b'], _, _ =>
   refine (qk hG (orcSs hG hT) mix enSs (hs := []) (L := [(3, lSs)]) (pol := polSs) hl (r := .fr 6 (.vals [.agg [.q (mnR a a') 258, .q (mxR a a') 258], .agg [.q (mnR b b') 258, .q (mxR b b') 258]])) (hs' := []) ?_).le (fr_vals rfl fun i v hi => ?_) (.refl _)
   ·rw [eSs2]
    simp only [Nat.max_self]
    repeat first | rw [k5 (by first | (simp only [kA, Bool.or_eq_true, kD, kG, Nat.blt_eq, kH, kI, kJ, kK]; omega) | exact rfl | exact decP_iff.2 ⟨rfl, trivial⟩ | exact decP_iff.2 rfl | exact kE rfl | decide)] | rw [k6 (by first | (simp only [Bool.and_eq_false_iff, Bool.not_eq_false', kD, kK]; omega) | exact rfl | exact congrArg (!·) (kE rfl) | decide)]
    rw [k7]
    rfl
   ·match i, hi with
    | 0, hi => simp at hi; subst hi; exact ⟨rfl, sp2_vle (by omega)⟩
    | 1, hi => simp at hi; subst hi; exact ⟨rfl, sp2_vle (by omega)⟩
    | i + 2, hi => simp at hi
 ·match p, q, hp, hq with
  | [a, b, c], [a', b', c'], _, _ =>
   refine (qk hG (orcSs hG hT) mix enSs (hs := []) (L := [(3, lSs)]) (pol := polSs) hl (r := .fr 6 (.vals [.agg [.q (mnR a a') 258, .q (mxR a a') 258], .agg [.q (mnR b b') 258, .q (mxR b b') 258], .agg [.q (mnR c c') 258, .q (mxR c c') 258]])) (hs' := []) ?_).le (fr_vals rfl fun i v hi => ?_) (.refl _)
   ·rw [eSs3]
    simp only [Nat.max_self]
    repeat first | rw [k5 (by first | (simp only [kA, Bool.or_eq_true, kD, kG, Nat.blt_eq, kH, kI, kJ, kK]; omega) | exact rfl | exact decP_iff.2 ⟨rfl, trivial⟩ | exact decP_iff.2 rfl | exact kE rfl | decide)] | rw [k6 (by first | (simp only [Bool.and_eq_false_iff, Bool.not_eq_false', kD, kK]; omega) | exact rfl | exact congrArg (!·) (kE rfl) | decide)]
    rw [k7]
    rfl
   ·match i, hi with
    | 0, hi => simp at hi; subst hi; exact ⟨rfl, sp2_vle (by omega)⟩
    | 1, hi => simp at hi; subst hi; exact ⟨rfl, sp2_vle (by omega)⟩
    | 2, hi => simp at hi; subst hi; exact ⟨rfl, sp2_vle (by omega)⟩
    | i + 3, hi => simp at hi
def btF (v : PV) (p q : List Rat) (j : Nat) : Rat := hide (p.getD j 0 + mkRat (nx (itRs j v) 9) 8 * (q.getD j 0 - p.getD j 0))
theorem btF_eq (v : PV) (p q : List Rat) (j : Nat) : btF v p q j = p.getD j 0 + mkRat (nx (itRs j v) 9) 8 * (q.getD j 0 - p.getD j 0) := qd _
include hG in
theorem orcBt (hT : qr G) : OrcOK prog G OBt := .cons (ok23 hG) (.cons (gk21 hG hT) (.cons (gk43 hG hT) (.cons (ok45 hG) (.cons (gk29 hG hT) .nil))))
include hG in
theorem goesBt (hT : qr G) (v : PV) (hv : okW v = true) (p q : List Rat) (h1 : 1 <= p.length) (h3 : p.length <= 3) (hq : q.length = p.length) :
  Goes (Rnd prog G f14.ntmps 0 [0, 1, 7, 8, 17, 18] bBt) (nBt v p q 0) (.exit 0) (xBt (itRs p.length v) p q ((List.range p.length).map (btF v p q)) p.length) := by
 refine Goes.build (xst := fun ys (j : Nat) => xBt (itRs j v) p q ys ((j : Nat) : Int)) (btF v p q) (by simp) p.length h1 ?_ ?_ ?_
 ·refine qb hG (orcBt hG hT) mix (L := []) (pol := polBt) (O := OBt) (k9 (by kernel_rfl)) (Nat.zero_le _) ?_
  have g := qB v (show (0 : Int) < 9 by omega)
  rw [tBtN]
  repeat first | rw [k5 (by first | (simp only [kA, Bool.or_eq_true, kD, kG, Nat.blt_eq, kH, kI, kJ, kK]; omega) | (rw [hv]; decide) | exact decP_iff.2 ⟨rfl, trivial⟩ | exact decP_iff.2 rfl | exact kE rfl | decide)] | rw [k6 (by first | (simp only [Bool.and_eq_false_iff, Bool.not_eq_false', kD, kK]; omega) | (rw [hv]; decide) | exact congrArg (!·) (kE rfl) | decide)]
  rw [k7, btF_eq]
  rfl
 ·intro ys j hj hj1 hjm
  have g := qB (itRs j v) (show (0 : Int) < 9 by omega)
  have hw := okW_itRs hv j
  refine qb hG (orcBt hG hT) mix (L := []) (pol := polBt) (O := OBt) (k9 (by kernel_rfl)) (Nat.zero_le _) ?_
  rw [tBtX, Int.toNat_natCast]
  repeat first | rw [k5 (by first | (simp only [kA, Bool.or_eq_true, kD, kG, Nat.blt_eq, kH, kI, kJ, kK]; omega) | (rw [hw]; decide) | exact decP_iff.2 ⟨rfl, trivial⟩ | exact decP_iff.2 rfl | exact kE rfl | decide)] | rw [k6 (by first | (simp only [Bool.and_eq_false_iff, Bool.not_eq_false', kD, kK]; omega) | (rw [hw]; decide) | exact congrArg (!·) (kE rfl) | decide)]
  rw [k7, btF_eq, List.drop_zero, List.take_length]
  unfold xBt
  rw [List.length_append]
  rfl
 ·refine qb hG (orcBt hG hT) mix (L := []) (pol := polBt) (O := OBt) (k9 (by kernel_rfl)) (Nat.zero_le _) ?_
  rw [tBtX, k6 (kF (by omega)), k7]
  rfl
def btL (v : PV) (p q : List Rat) (n : Nat) : List Rat := (List.range n).map (btF v p q)
include hG in
theorem pcBtW (hT : qr G) (v : PV) (hv : okW v = true) (p q : List Rat) (n : Nat) (h1 : 1 <= n) (h3 : n <= 3) (hp : p.length = n) (hq : q.length = n) :
  PC prog G 14 [.lst 3 (.rats 64 p), .lst 3 (.rats 64 q), .w v] [] (.fr 3 (.rats 258 (btL v p q n))) [] := by
 have g := goesBt hG hT v hv p q (by omega) (by omega) (by omega)
 rw [hp] at g
 refine qk hG (orcBt hG hT) mix enBt (hs := []) (pol := polBt) (L := [(4, lcst (nBt v p q 0) (.exit 0) (xBt (itRs n v) p q ((List.range n).map (btF v p q)) n))]) (lps1 (b := bBt) (live := [0, 1, 7, 8, 17, 18]) (m := 0) (by kernel_rfl) (by kernel_rfl) (by kernel_rfl) (lcst_ok g)) ?_
 refine (eBt v (itRs n v) p q _ _).trans ?_
 have e : (if (q.length : Int) < (p.length : Int) then (q.length : Int) else (p.length : Int)) = (p.length : Int) := if_neg (by omega)
 simp only [e, List.drop_zero, List.take_length]
 rw [k5 isLS_t, k5 (by rw [kG]; omega), k7]
 rfl
theorem num_den (x : Rat) : x = (x.num : Rat) / ((x.den : Int) : Rat) := by
 have h := Rat.mkRat_self x
 rw [Rat.mkRat_eq_div] at h
 exact h.symm
theorem bt_bd {p q : Rat} {k : Int} (hp : Prof.Bd p 30000000 8000000) (hq : Prof.Bd q 30000000 8000000) (h0 : 0 <= k) (h8 : k <= 8) : sz (p + mkRat k 8 * (q - p)) <= 64 := by
 have dp := p.den_pos
 have dq := q.den_pos
 have e : p + mkRat k 8 * (q - p) = (((8 - k) * p.num * q.den + k * q.num * p.den : Int) : Rat) / (((8 : Int) * p.den * q.den : Int) : Rat) := by
  have e1 := num_den p
  have e2 := num_den q
  rw [Rat.mkRat_eq_div]
  have d1 : ¬ ((p.den : Int) : Rat) = 0 := fun h => by have : (p.den : Int) = 0 := Rat.intCast_eq_zero_iff.1 h; omega
  have d2 : ¬ ((q.den : Int) : Rat) = 0 := fun h => by have : (q.den : Int) = 0 := Rat.intCast_eq_zero_iff.1 h; omega
  simp only [Rat.intCast_add, Rat.intCast_mul, Rat.intCast_sub]
  generalize ((p.den : Int) : Rat) = a at *
  generalize ((q.den : Int) : Rat) = b at *
  generalize (p.num : Rat) = x at *
  generalize (q.num : Rat) = y at *
  rw [e1, e2]
  have h8 : ((8 : Nat) : Rat) = 8 := rfl
  have h8' : ((8 : Int) : Rat) = 8 := rfl
  rw [h8, h8']
  grind
 rw [e]
 have hb1 : ((8 - k) * p.num * q.den).natAbs <= 8 * 30000000 * 8000000 := by
  rw [Int.natAbs_mul, Int.natAbs_mul]
  exact Nat.mul_le_mul (Nat.mul_le_mul (by omega) hp.1) (by have := hq.2; omega)
 have hb2 : (k * q.num * p.den).natAbs <= 8 * 30000000 * 8000000 := by
  rw [Int.natAbs_mul, Int.natAbs_mul]
  exact Nat.mul_le_mul (Nat.mul_le_mul (by omega) hq.1) (by have := hp.2; omega)
 have hd : ((8 : Int) * p.den * q.den).natAbs <= 8 * 8000000 * 8000000 := by
  rw [Int.natAbs_mul, Int.natAbs_mul]
  exact Nat.mul_le_mul (Nat.mul_le_mul (by omega) (by have := hp.2; omega)) (by have := hq.2; omega)
 have hpos : (0 : Int) < 8 * p.den * q.den := Int.mul_pos (Int.mul_pos (by omega) (by omega)) (by omega)
 generalize (8 - k) * p.num * q.den = A at *
 generalize k * q.num * p.den = B at *
 generalize (8 : Int) * p.den * q.den = D at *
 have em : ((A + B : Int) : Rat) / (D : Rat) = mkRat (A + B) D.toNat := by
  rw [Rat.mkRat_eq_div]
  have : ((D.toNat : Int) : Rat) = (D : Rat) := by rw [Int.toNat_of_nonneg (by omega)]
  rw [<- this]
  rfl
 rw [em]
 have hs := rat_small (n := A + B) (d := D.toNat) (by omega) rfl
 have lg : ∀ k : Nat, k < 2 ^ 63 -> Nat.log2 k <= 62 := fun k hk => by
  by_cases h0 : k = 0
  ·subst h0; decide
  ·have := (Nat.log2_lt (k := 63) h0).2 hk
   omega
 have b1 := lg (mkRat (A + B) D.toNat).num.natAbs (Nat.lt_of_le_of_lt hs.1 (by omega))
 have b2 := lg (mkRat (A + B) D.toNat).den (Nat.lt_of_le_of_lt hs.2 (by omega))
 unfold sz
 omega
theorem ratsK_sz (e : Nat) {n m : Nat} (xs : List Rat) (h : ∀ i, i < xs.length -> sz (xs.getD i 0) <= m) : KLe ⟨e, .rats n xs⟩ ⟨e, .rats m xs⟩ := by
 intro w S μ a z hb
 obtain ⟨c, T, cs, h1, h2, h3, h4, h5, h6⟩ := hb
 exact ⟨c, T, cs, h1, h2, h3, fun i hi => ((vle_qq (n := n) (h i hi)).2 w S _).1 _ (h4 i hi), h5, h6⟩
theorem frrats_sz (e : Nat) {n m : Nat} (xs : List Rat) (h : ∀ i, i < xs.length -> sz (xs.getD i 0) <= m) : RLe (.fr e (.rats n xs)) (.fr e (.rats m xs)) := ⟨fun _ => .refl _, fun _ => KsLe.one (ratsK_sz e xs h)⟩
def BdL (p : List Rat) : Prop := ∀ j, j < p.length -> Prof.Bd (p.getD j 0) 30000000 8000000
theorem btL_get (v : PV) (p q : List Rat) {n i : Nat} (h : i < n) : (btL v p q n).getD i 0 = btF v p q i := getD_map_range _ h
include hG in
theorem pcBt (hT : qr G) (v : PV) (hv : okW v = true) (p q : List Rat) (n : Nat) (h1 : 1 <= n) (h3 : n <= 3) (hp : p.length = n) (hq : q.length = n) (bp : BdL p) (bq : BdL q) :
  PC prog G 14 [.lst 3 (.rats 64 p), .lst 3 (.rats 64 q), .w v] [] (.fr 3 (.rats 64 (btL v p q n))) [] := by
 refine (pcBtW hG hT v hv p q n h1 h3 hp hq).le (frrats_sz 3 _ fun i hi => ?_) (.refl _)
 have hi' : i < n := by unfold btL at hi; simpa using hi
 rw [btL_get _ _ _ hi', btF_eq]
 have g := qB (itRs i v) (show (0 : Int) < 9 by omega)
 exact bt_bd (bp i (by omega)) (bq i (by omega)) g.1 (by omega)
theorem bt_has (v : PV) (p q : List Rat) (j : Nat) : (spn p q j).has (btF v p q j) := by
 rw [btF_eq]
 have g := qB (itRs j v) (show (0 : Int) < 9 by omega)
 generalize nx (itRs j v) 9 = k at g
 have hk : (mkRat k 8 : Rat) = (k : Rat) / 8 := by rw [Rat.mkRat_eq_div]; rfl
 have h0 : (0 : Rat) <= (k : Rat) := Rat.intCast_le_intCast.2 g.1
 have h8 : (k : Rat) <= 8 := Rat.intCast_le_intCast.2 (show k <= 8 by omega)
 rw [hk]
 generalize (k : Rat) = t at *
 unfold spn Sp.has
 simp only
 generalize p.getD j 0 = x
 generalize q.getD j 0 = y
 have ht : t / 8 * 8 = t := by grind
 generalize t / 8 = u at *
 have u0 : 0 <= u := by grind
 have u1 : u <= 1 := by grind
 rcases Rat.le_total (a := x) (b := y) with h | h
 ·have a1 := Rat.mul_nonneg u0 (show 0 <= y - x by grind)
  have a2 := Rat.mul_nonneg (show 0 <= 1 - u by grind) (show 0 <= y - x by grind)
  exact ⟨Rat.le_trans (mnR_l x y) (by grind), Rat.le_trans (by grind) (mxR_r x y)⟩
 ·have a1 := Rat.mul_nonneg u0 (show 0 <= x - y by grind)
  have a2 := Rat.mul_nonneg (show 0 <= 1 - u by grind) (show 0 <= x - y by grind)
  exact ⟨Rat.le_trans (mnR_r x y) (by grind), Rat.le_trans (by grind) (mxR_l x y)⟩
include hG in
theorem pArm (l : PV) (hl : okW l = true) : PC prog G 9 [.w l] [] (armFr (armD l)) [] := by
 obtain ⟨r, hs', p, e⟩ := ok15 hG [.w l] [] (fun r hs' => .ok (.ret r hs')) (.ret (armFr (armD l)) []) (by show (Tr.br _ _ _).run = _; rw [k5 hl]; rfl)
 cases e
 exact p
include hG in
theorem pConf (A : Am) (hA : armB A = true) (hX : limX A = true) (m : PV) (hm : okW m = true) : PC prog G 10 [qz A, .w m] [] (.fr 3 (.rats 64 (cfL A.lk m A.n))) [] := by
 obtain ⟨r, hs', p, e⟩ := ok33 hG [qz A, .w m] [] (fun r hs' => .ok (.ret r hs')) (.ret (.fr 3 (.rats 64 (cfL A.lk m A.n))) []) (by
  show (Tr.br _ _ _).run = _
  rw [k5 (decP_iff.2 ⟨okA_arm hA, hX, hm⟩)]; rfl)
 cases e
 exact p
def isCf (A : Am) (a m : PV) : Prop := a = qz A /\ okW m = true
def vCf (A : Am) (CF : PV -> List Rat) : Spec := fun args hs K => match args, hs with
 | [a, .w m], [] => .br (qe (isCf A a m)) (K (.fr 3 (.rats 64 (CF m))) []) (.no 1)
 | _, _ => .no 1
include hG in
theorem vCf_ok (A : Am) (hA : armB A = true) (hX : limX A = true) : qc prog G 10 (vCf A (fun m => cfL A.lk m A.n)) := by
 intro args hs K x h
 unfold vCf at h
 split at h
 case h_2 => cases h
 obtain ⟨hc, hr⟩ := k8 h
 obtain ⟨rfl, hm⟩ := decP_iff.1 hc
 exact ⟨_, _, pConf hG A hA hX _ hm, hr⟩
theorem cf_BdL {A : Am} (h : limX A = true) (m : PV) : BdL (cfL A.lk m A.n) := fun j hj => cfL_bd h (by rw [cfL_len] at hj; exact hj)
end
section
open Go
set_option maxRecDepth 100000
variable {G : World -> (Nat -> Prop) -> Prop} (hG : GOk G)
theorem btL_len (v : PV) (p q : List Rat) (n : Nat) : (btL v p q n).length = n := by simp [btL]
theorem lzs_has {A : Am} {Q : Nat -> Sp} {r : List Rat} {i : Nat} (hi : i <= A.n) (h : ∀ j, j < A.n -> (Q j).has (r.getD j 0)) : (lzs A Q i).hasF (allF (bsF A) (qf r) (fun j => (A.lk j).len) A.n i) :=
 lzA_has (q := qf r) hi h
end
section
open Go Tryz
set_option maxRecDepth 100000
variable {G : World -> (Nat -> Prop) -> Prop} (hG : GOk G)
theorem enBo : Enters prog 60 f60 (qg f60) := ⟨func60, by kernel_rfl, rfl⟩
theorem enWi : Enters prog 20 f20 (qg f20) := ⟨func20, by kernel_rfl, rfl⟩
def gBo : Spec := evF prog [] [] {} f60
def gWi : Spec := evF prog [(57, g27)] [] {} f20
include hG in
theorem gkBo : qc prog G 60 gBo := spec_ev hG .nil mix enBo (fun _ => k9 (by kernel_rfl))
include hG in
theorem gkWi (hT : qr G) : qc prog G 20 gWi := spec_ev hG (.cons (gk27 hG hT) .nil) mix enWi (fun _ => k9 (by kernel_rfl))
end
section
open Go
set_option maxRecDepth 100000
variable {G : World -> (Nat -> Prop) -> Prop} (hG : GOk G)
def nowL (c s : Nat) (l : Lz) : PV := .agg [spR l.X.lo l.X.hi 1500, spR l.Y.lo l.Y.hi 1500, spR l.C.lo l.C.hi c, spR l.S.lo l.S.hi s]
def nowI : Nat -> Lz -> PV
 | 0, l => nowL 310 320 l
 | 1, l => nowL 311 321 l
 | _, l => nowL 312 322 l
theorem KLe.ff {e n : Nat} {f g : Nat -> PV} (h : ∀ i, i < n -> noRef 8 (f i) = true /\ VLe (f i) (g i)) : KLe ⟨e, .fn n f⟩ ⟨e, .fn n g⟩ := by
 intro w S μ a z hb
 obtain ⟨c, T, cs, h1, h2, h3, h4, h5, h6⟩ := hb
 refine ⟨c, T, cs, h1, h2, h3, fun i hi => ?_, h5, h6⟩
 have h7 := h4 i hi
 simp only [Cont.get, qy] at h7 ⊢
 exact ((h i hi).2.2 w S qK).1 _ h7
theorem frs_ff (e n : Nat) {f g : Nat -> PV} (h : ∀ i, i < n -> noRef 8 (f i) = true /\ VLe (f i) (g i)) : RLe (.tup [.fr e (.fn n f), .i .i64 0]) (.tup [.fr e (.fn n g), .i .i64 0]) :=
 ⟨fun m => .refl _, fun m => KsLe.one (KLe.ff h)⟩
theorem nowI_le (l : Lz) : ∀ i, VLe (nowW l) (nowI i l)
 | 0 => VLe.agg (vllc (sp_vle (by omega)) (vllc (sp_vle (by omega)) (vllc (sp_vle (by omega)) (vllc (sp_vle (by omega)) vll0))))
 | 1 => VLe.agg (vllc (sp_vle (by omega)) (vllc (sp_vle (by omega)) (vllc (sp_vle (by omega)) (vllc (sp_vle (by omega)) vll0))))
 | _ + 2 => VLe.agg (vllc (sp_vle (by omega)) (vllc (sp_vle (by omega)) (vllc (sp_vle (by omega)) (vllc (sp_vle (by omega)) vll0))))
def hld (n : Nat) (B : Nat -> Sp) (ls : List Rat) : Prop := ∀ j, j < n -> (B j).hi <= ls.getD j 0 /\ -(B j).lo <= ls.getD j 0
end
end Go.Proofs.YtnenjkgffapplaaGreatDoor.PE
