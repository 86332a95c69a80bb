/-
  Part 5 of the proof: contracts of the program's functions. Conditions: those of the theorems below.
-/
import Derived.Test.YteggojnjinealaaGreatDoorCk4
import Derived.Test.YteggojnjinealaaGreatDoorCk2
set_option linter.all false
noncomputable section
namespace Go.Proofs.YteggojnjinealaaGreatDoor.PE
section
open Go Tryz
set_option maxRecDepth 100000
variable {G : World -> (Nat -> Prop) -> Prop} (hG : GOk G)
def OV : Orc := [(25, g21), (23, g27), (54, g29), (75, g43), (156, g133), (157, g134)]
theorem enter57 : Enters prog 67 f67 (qd f67) := ⟨func67, by kernel_rfl, rfl⟩
theorem enter121 : Enters prog 139 Tryz.f139 (qd Tryz.f139) := ⟨func139, by kernel_rfl, rfl⟩
theorem enter92 : Enters prog 89 f89 (qd f89) := ⟨func89, by kernel_rfl, rfl⟩
theorem enter51 : Enters prog 136 f136 (qd f136) := ⟨func136, by kernel_rfl, rfl⟩
include hG in
theorem orcV (hT : qo G) : OrcOK prog G OV := .cons (gk21 hG hT) (.cons (gk27 hG hT) (.cons (gk29 hG hT) (.cons (gk43 hG hT) (.cons (gk133 hG hT) (.cons (gk134 hG hT) .nil)))))
def g57 : Spec := evF prog OV [] {} f67
def g41 : Spec := evF prog OV [] {} f141
def g42 : Spec := evF prog OV [] {} f192
def g97 : Spec := evF prog OV [] {} f215
include hG in
theorem gk57 (hT : qo G) : qc prog G 67 g57 := spec_ev hG (orcV hG hT) mix enter57 (fun _ => k9 (by kernel_rfl))
include hG in
theorem gk41 (hT : qo G) : qc prog G 141 g41 := spec_ev hG (orcV hG hT) mix enter41 (fun _ => k9 (by kernel_rfl))
include hG in
theorem gk97 (hT : qo G) : qc prog G 215 g97 := spec_ev hG (orcV hG hT) mix enter97 (fun _ => k9 (by kernel_rfl))
theorem k121 (x y t : Rat) (h : Bool) (n m k : Nat) : evF prog OV [] {} Tryz.f139 [.agg [.q x n, .q y m], .agg [.b h, .q t k]] [] ql =
 Tr.br (k.ble 100000 && Nat.ble 1 k) (.br (k.ble 100000 && Nat.ble 1 k) (.br ((n + ((4 : Nat) * k + 4)).ble 800000) (.br ((m + ((4 : Nat) * k + 4)).ble 800000) (.br ((n + ((4 : Nat) * k + 4) + (m + ((4 : Nat) * k + 4)) + 1).ble 800000) (.br ((n + ((4 : Nat) * k + 4)).ble 800000) (.br ((m + ((4 : Nat) * k + 4)).ble 800000) (.br ((n + ((4 : Nat) * k + 4) + (m + ((4 : Nat) * k + 4)) + 1).ble 800000) (.ok (.ret (.agg [.q (x * qN h t - y * qx h t) (n + ((4 : Nat) * k + 4) + (m + ((4 : Nat) * k + 4)) + 1), .q (x * qx h t + y * qN h t) (n + ((4 : Nat) * k + 4) + (m + ((4 : Nat) * k + 4)) + 1)]) [])) (.no 1)) (.no 1)) (.no 1)) (.no 1)) (.no 1)) (.no 1)) (.no 1)) (.no 1) := by kernel_rfl
def g121 : Spec := fun args hs K => match args, hs with
 | [.agg [.q x n, .q y m], .agg [hv, .q t k]], [] => match bof hv with
  | some h => .br (Nat.ble (n + m + 8 * k + 9) 800000 && Nat.ble 1 k) (K (.agg [.q (x * qN h t - y * qx h t) (n + m + 8 * k + 9), .q (x * qx h t + y * qN h t) (n + m + 8 * k + 9)]) []) (.no 1)
  | none => .no 1
 | _, _ => .no 1
theorem vc_rle {x y u v : Rat} {n m p r : Nat} (h1 : x = u) (h2 : y = v) (h3 : n <= p) (h4 : m <= r) : RLe (.agg [.q x n, .q y m]) (.agg [.q u p, .q v r]) := by
 subst h1; subst h2
 exact rle_of_vle (fun _ => rfl) (fun _ => rfl) (VLe.agg (qJ (qF h3) (qJ (qF h4) vll0)))
include hG in
theorem gk121 (hT : qo G) : qc prog G 139 g121 := by
 intro args hs K x h
 unfold g121 at h
 split at h
 case h_2 => cases h
 rename_i x n y m hv t k
 split at h
 case h_2 => cases h
 rename_i b hb
 obtain ⟨hc, hr⟩ := k8 h
 simp only [kA, kG] at hc
 have key : ∃ r, (evF prog OV [] {} Tryz.f139 [.agg [.q x n, .q y m], .agg [.b b, .q t k]] [] ql).run = some (.ret r []) /\ RLe r (.agg [.q (x * qN b t - y * qx b t) (n + m + 8 * k + 9), .q (x * qx b t + y * qN b t) (n + m + 8 * k + 9)]) := by
  rw [k121]
  repeat rw [k5 (by simp only [kA, kG]; omega)]
  exact ⟨_, rfl, vc_rle rfl rfl (by omega) (by omega)⟩
 obtain ⟨r, k1, k2⟩ := key
 exact ⟨_, _, PC.args (.cons (.refl _) (.cons (tn_le hb rfl (Nat.le_refl _)) .nil)) ((qj hG (orcV hG hT) mix enter121 (L := []) (pol := {}) (k9 (by kernel_rfl)) k1).le k2 (.refl _)), hr⟩
def O92 : Orc := [(67, g57), (139, g121)]
theorem k92 (x y t u v : Rat) (h : Bool) (n m k p r : Nat) : evF prog O92 [] {} f89 [.agg [.agg [.q x n, .q y m], .agg [.b h, .q t k]], .agg [.q u p, .q v r]] [] ql =
 Tr.br ((p + r + 8 * k + 9).ble 800000 && Nat.ble 1 k) (.br ((n + (p + r + 8 * k + 9) + 1).ble 800000) (.br ((m + (p + r + 8 * k + 9) + 1).ble 800000) (.ok (.ret (.agg [.q (x + (u * qN h t - v * qx h t)) (n + (p + r + 8 * k + 9) + 1), .q (y + (u * qx h t + v * qN h t)) (m + (p + r + 8 * k + 9) + 1)]) [])) (.no 1)) (.no 1)) (.no 1) := by kernel_rfl
def g92 : Spec := fun args hs K => match args, hs with
 | [.agg [.agg [.q x n, .q y m], .agg [hv, .q t k]], .agg [.q u p, .q v r]], [] => match bof hv with
  | some h => match r with
   | 1 => match p with
    | 1 => .br (qg (u = 0 /\ v = 0 /\ n + 8 * k + 20 <= 800000 /\ m + 8 * k + 20 <= 800000)) (K (.agg [.q x n, .q y m]) []) (.no 1)
    | p => .br (qg (v = 0 /\ n + p + 8 * k + 20 <= 800000 /\ m + p + 8 * k + 20 <= 800000 /\ 1 <= k)) (K (.agg [.q (x + u * qN h t) (n + p + 8 * k + 11), .q (y + u * qx h t) (m + p + 8 * k + 11)]) []) (.no 1)
   | r => .br (Nat.ble (n + p + r + 8 * k + 20) 800000 && Nat.ble (m + p + r + 8 * k + 20) 800000 && Nat.ble 1 k) (K (.agg [.q (x + (u * qN h t - v * qx h t)) (n + p + r + 8 * k + 10), .q (y + (u * qx h t + v * qN h t)) (m + p + r + 8 * k + 10)]) []) (.no 1)
  | none => .no 1
 | _, _ => .no 1
include hG in
theorem orc92 (hT : qo G) : OrcOK prog G O92 := .cons (gk57 hG hT) (.cons (gk121 hG hT) .nil)
theorem put_key (x y t u v : Rat) (h : Bool) (n m k p r : Nat) (h1 : n + p + r + 8 * k + 10 <= 800000) (h2 : m + p + r + 8 * k + 10 <= 800000) (h3 : 1 <= k) : ∃ z, (evF prog O92 [] {} f89 [.agg [.agg [.q x n, .q y m], .agg [.b h, .q t k]], .agg [.q u p, .q v r]] [] ql).run = some (.ret z []) /\
  RLe z (.agg [.q (x + (u * qN h t - v * qx h t)) (n + p + r + 8 * k + 10), .q (y + (u * qx h t + v * qN h t)) (m + p + r + 8 * k + 10)]) := by
 rw [k92]
 repeat rw [k5 (by simp only [kA, kG]; omega)]
 exact ⟨_, rfl, vc_rle rfl rfl (by omega) (by omega)⟩
theorem put_sz {x y : Rat} {n m k : Nat} {t : Rat} {hv : PV} {b : PV} (w : World) (S : Nat -> Prop) (μ : Mu) (vs : List Value) (h : RepVL w S μ [.agg [.agg [.q x n, .q y m], .agg [hv, .q t k]], b] vs) : sz x <= n /\ sz y <= m /\ sz t <= k := by
 cases h with
 | cons _ _ _ _ _ h _ =>
  obtain ⟨ds, hd⟩ := RepV_agg h (.agg [.q x n, .q y m]) (by simp)
  obtain ⟨es, he⟩ := RepV_agg h (.agg [hv, .q t k]) (by simp)
  cases hd with
  | agg _ _ _ hl =>
   obtain ⟨a, ha⟩ := RepL_get hl (.q x n) (by simp)
   obtain ⟨b, hb⟩ := RepL_get hl (.q y m) (by simp)
   cases he with
   | agg _ _ _ hl2 =>
    obtain ⟨c, hc⟩ := RepL_get hl2 (.q t k) (by simp)
    exact ⟨RepC_q ha, RepC_q hb, RepC_q hc⟩
include hG in
theorem gk92 (hT : qo G) : qc prog G 89 g92 := by
 intro args hs K z h
 unfold g92 at h
 split at h
 case h_2 => cases h
 rename_i x n y m hv t k u p v r
 split at h
 case h_2 => cases h
 rename_i b hb
 have hargs : ArgsLe [.agg [.agg [.q x n, .q y m], .agg [hv, .q t k]], .agg [.q u p, .q v r]] [.agg [.agg [.q x n, .q y m], .agg [.b b, .q t k]], .agg [.q u p, .q v r]] := .cons (VLe.agg (qJ (.refl _) (qJ (tn_le hb rfl (Nat.le_refl _)) vll0))) (.cons (.refl _) .nil)
 split at h
 ·split at h
  ·obtain ⟨hc, hr⟩ := k8 h
   obtain ⟨rfl, rfl, h1, h2⟩ := decP_iff.1 hc
   refine ⟨_, _, ?_, hr⟩
   refine PC.args hargs (pc_assume _ put_sz fun hq => ?_)
   obtain ⟨r, k1, k2⟩ := put_key x y t 0 0 b n m k 1 1 (by omega) (by omega) (sz_lt hq.2.2).2.2
   refine ((qj hG (orc92 hG hT) mix enter92 (L := []) (pol := {}) (k9 (by kernel_rfl)) k1).le k2 (.refl _)).le ?_ (.refl _)
   rw [show x + (0 * qN b t - 0 * qx b t) = x by grind, show y + (0 * qx b t + 0 * qN b t) = y by grind]
   exact rle_of_vle (fun _ => rfl) (fun _ => rfl) (VLe.agg (qJ (vle_qq hq.1) (qJ (vle_qq hq.2.1) vll0)))
  ·obtain ⟨hc, hr⟩ := k8 h
   obtain ⟨rfl, h1, h2, h3⟩ := decP_iff.1 hc
   obtain ⟨r, k1, k2⟩ := put_key x y t u 0 b n m k p 1 (by omega) (by omega) h3
   refine ⟨_, _, PC.args hargs (((qj hG (orc92 hG hT) mix enter92 (L := []) (pol := {}) (k9 (by kernel_rfl)) k1).le k2 (.refl _)).le (vc_rle ?_ ?_ (by omega) (by omega)) (.refl _)), hr⟩
   ·grind
   ·grind
 ·obtain ⟨hc, hr⟩ := k8 h
  simp only [kA, kG] at hc
  obtain ⟨r, k1, k2⟩ := put_key x y t u v b n m k p r (by omega) (by omega) hc.2
  exact ⟨_, _, PC.args hargs ((qj hG (orc92 hG hT) mix enter92 (L := []) (pol := {}) (k9 (by kernel_rfl)) k1).le k2 (.refl _)), hr⟩
def O51 : Orc := [(89, g92), (170, g93)]
def g51 : Spec := evF prog O51 [] {} f136
include hG in
theorem gk51 (hT : qo G) : qc prog G 136 g51 := spec_ev hG (.cons (gk92 hG hT) (.cons (gk93 hG hT) .nil)) mix enter51 (fun _ => k9 (by kernel_rfl))
theorem enter39 : Enters prog 87 f87 (qd f87) := ⟨func87, by kernel_rfl, rfl⟩
end
section
open Go Tryz
set_option maxRecDepth 100000
variable {G : World -> (Nat -> Prop) -> Prop} (hG : GOk G)
def b39 : Code := (qi (qd f87)).getD 0 .skip
def pol39 : Pol := { live := [(9, [1, 7, 8, 9, 10, 29, 30, 31])] }
def O39 : Orc := [(135, g50), (136, g51), (53, g71), (57, s85)]
structure Fr where
 x : Rat
 y : Rat
 h : Bool
 t : Rat
def frP (f : Fr) (a b : Nat) : PV := .agg [.agg [.q f.x a, .q f.y a], .agg [.b f.h, .q f.t b]]
def n39 (qs : List Rat) (n : Nat) (lk : Nat -> Lk) (x y t : Rat) (i : Int) : LS := ⟨[.lst 3 (.rats 64 qs), .ptr 0 10 0 0 [], .ptr 1 6 0 0 [], .ptr 2 4 0 0 [], .nil, .lst 16 (.fn n (fun j => lkPV (lk j))), .i .i64 n, .i .i64 i],
 [some ⟨10, .vals [.agg [.agg [.q x 64, .q y 64], .agg [.bl false, .q t 64]]]⟩, some ⟨6, .vals [.agg [.q ((0 : Int) : Rat) 1, .q ((0 : Int) : Rat) 1]]⟩, some ⟨4, .vals [.agg [.bl false, .q ((0 : Int) : Rat) 1]]⟩]⟩
def x39 (qs : List Rat) (n : Nat) (lk : Nat -> Lk) (ys : List PV) (l : Nat) (x y : Rat) (h : Bool) (t : Rat) (a b : Nat) (i : Int) : LS := ⟨[.lst 3 (.rats 64 qs), .ptr 0 10 0 0 [], .ptr 1 6 0 0 [], .ptr 2 4 0 0 [], .sl 3 10 0 l, .lst 16 (.fn n (fun j => lkPV (lk j))), .i .i64 n, .i .i64 i],
 [some ⟨10, .vals [.agg [.agg [.q x a, .q y a], .agg [.b h, .q t b]]]⟩, some ⟨6, .vals [.agg [.q ((0 : Int) : Rat) 1, .q ((0 : Int) : Rat) 1]]⟩, some ⟨4, .vals [.agg [.bl false, .q ((0 : Int) : Rat) 1]]⟩, some ⟨10, .vals ys⟩]⟩
theorem t39n (qs : List Rat) (n : Nat) (lk : Nat -> Lk) (x y t : Rat) (i : Int) : qh prog O39 [] pol39 f87.ntmps 0 [1, 7, 8, 9, 10, 29, 30, 31] b39 (n39 qs n lk x y t i) =
 Tr.br (decide (i < (n : Int))) (.br (ix (i) ((n : Int))) (.br (ix (i) ((qs.length : Int))) (.br (Nat.ble 64 (400000 : Nat)) (.br (qg ((↑(0 : Int) : Rat) = 0 /\ (↑(0 : Int) : Rat) = 0 /\ (64 : Nat) + 8 * 64 + 20 <= 800000 /\ (64 : Nat) + 8 * 64 + 20 <= 800000)) (.br (Nat.ble 64 (50000 : Nat) && Nat.ble 1 (64 : Nat) && Nat.ble 64 (50000 : Nat) && Nat.ble 1 (64 : Nat)) (.br (Nat.blt (0 : Nat) [PV.agg [PV.agg [PV.q x 64, PV.q y 64], PV.agg [PV.b (thH false t false (qs.getD i.toNat 0)), PV.q (thT false t false (qs.getD i.toNat 0)) 259]]].length && [PV.agg [PV.agg [PV.q x 64, PV.q y 64], PV.agg [PV.b (thH false t false (qs.getD i.toNat 0)), PV.q (thT false t false (qs.getD i.toNat 0)) 259]]].length.ble 4294967296) (.br (decide ((-72057594037927936 : Int) < 0) && decide ((0 : Int) <= 9223372036854775807)) (.br (qg ((↑(0 : Int) : Rat) = 0 /\ (64 : Nat) + 64 + 8 * ((2 : Nat) * 64 + 2 * 64 + 3) + 20 <= 800000 /\ (64 : Nat) + 64 + 8 * ((2 : Nat) * 64 + 2 * 64 + 3) + 20 <= 800000 /\ (1 : Nat) <= 2 * 64 + 2 * 64 + 3)) (.br (qg (false = false /\ (↑(0 : Int) : Rat) = 0 /\ (2 : Nat) * 64 + 2 * 64 + 3 <= 50000)) (.br (ib (i + 1)) (.ok (.out .normal (LS.mk [PV.lst 3 (.rats 64 qs), PV.ptr 0 10 0 0 [], PV.ptr 1 6 0 0 [], PV.ptr 2 4 0 0 [], PV.sl 3 10 0 1, PV.lst 16 (.fn n fun (j : Nat) => lkPV (lk j)), PV.i .i64 (n : Int), PV.i .i64 (i + 1)] [some (.mk 10 (.vals [PV.agg [PV.agg [PV.q (x + (lk i.toNat).len * qN (thH false t false (qs.getD i.toNat 0)) (thT false t false (qs.getD i.toNat 0))) 2211, PV.q (y + (lk i.toNat).len * qx (thH false t false (qs.getD i.toNat 0)) (thT false t false (qs.getD i.toNat 0))) 2211], PV.agg [PV.b (thH false t false (qs.getD i.toNat 0)), PV.q (ftT (thH false t false (qs.getD i.toNat 0)) (thT false t false (qs.getD i.toNat 0))) 259]]])), some (.mk 6 (.vals [PV.agg [PV.q (↑(0 : Int) : Rat) 1, PV.q (↑(0 : Int) : Rat) 1]])), some (.mk 4 (.vals [PV.agg [PV.bl false, PV.q (↑(0 : Int) : Rat) 1]])), some (.mk 10 (.vals [PV.agg [PV.agg [PV.q x 64, PV.q y 64], PV.agg [PV.b (thH false t false (qs.getD i.toNat 0)), PV.q (thT false t false (qs.getD i.toNat 0)) 259]]]))]))) (.no 15002)) (.no 1)) (.no 1)) (.no 1)) (.no 13002)) (.no 1)) (.no 1)) (.no 1)) (.no 12007)) (.no 11005)) (.ok (.out (.exit 0) (LS.mk [PV.lst 3 (.rats 64 qs), PV.ptr 0 10 0 0 [], PV.ptr 1 6 0 0 [], PV.ptr 2 4 0 0 [], PV.nil, PV.lst 16 (.fn n fun (j : Nat) => lkPV (lk j)), PV.i .i64 (n : Int), PV.i .i64 i] [some (.mk 10 (.vals [PV.agg [PV.agg [PV.q x 64, PV.q y 64], PV.agg [PV.bl false, PV.q t 64]]])), some (.mk 6 (.vals [PV.agg [PV.q (↑(0 : Int) : Rat) 1, PV.q (↑(0 : Int) : Rat) 1]])), some (.mk 4 (.vals [PV.agg [PV.bl false, PV.q (↑(0 : Int) : Rat) 1]]))]))) := by kernel_rfl
theorem t39a (qs : List Rat) (n : Nat) (lk : Nat -> Lk) (f0 : Fr) (x y : Rat) (h : Bool) (t : Rat) (i : Int) : qh prog O39 [] pol39 f87.ntmps 0 [1, 7, 8, 9, 10, 29, 30, 31] b39 (x39 qs n lk [frP f0 64 259] 1 x y h t 2211 259 i) =
 Tr.br (decide (i < (n : Int))) (.br (ix (i) ((n : Int))) (.br (ix (i) ((qs.length : Int))) (.br (Nat.ble 64 (400000 : Nat)) (.br (qg ((↑(0 : Int) : Rat) = 0 /\ (↑(0 : Int) : Rat) = 0 /\ (2211 : Nat) + 8 * 259 + 20 <= 800000 /\ (2211 : Nat) + 8 * 259 + 20 <= 800000)) (.br (Nat.ble 259 (50000 : Nat) && Nat.ble 1 (259 : Nat) && Nat.ble 64 (50000 : Nat) && Nat.ble 1 (64 : Nat)) (.br ((1 + [PE.PV.agg [PV.agg [PV.q x 2211, PV.q y 2211], PV.agg [PV.b (thH h t false (qs.getD i.toNat 0)), PV.q (thT h t false (qs.getD i.toNat 0)) 649]]].length).ble 4294967296) (.br (decide ((-72057594037927936 : Int) < 0) && decide ((0 : Int) <= 9223372036854775807)) (.br (qg ((↑(0 : Int) : Rat) = 0 /\ (2211 : Nat) + 64 + 8 * ((2 : Nat) * 259 + 2 * 64 + 3) + 20 <= 800000 /\ (2211 : Nat) + 64 + 8 * ((2 : Nat) * 259 + 2 * 64 + 3) + 20 <= 800000 /\ (1 : Nat) <= 2 * 259 + 2 * 64 + 3)) (.br (qg (false = false /\ (↑(0 : Int) : Rat) = 0 /\ (2 : Nat) * 259 + 2 * 64 + 3 <= 50000)) (.br (ib (i + 1)) (.ok (.out .normal (LS.mk [PV.lst 3 (.rats 64 qs), PV.ptr 0 10 0 0 [], PV.ptr 1 6 0 0 [], PV.ptr 2 4 0 0 [], PV.sl 3 10 0 2, PV.lst 16 (.fn n fun (j : Nat) => lkPV (lk j)), PV.i .i64 (n : Int), PV.i .i64 (i + 1)] [some (.mk 10 (.vals [PV.agg [PV.agg [PV.q (x + (lk i.toNat).len * qN (thH h t false (qs.getD i.toNat 0)) (thT h t false (qs.getD i.toNat 0))) 7478, PV.q (y + (lk i.toNat).len * qx (thH h t false (qs.getD i.toNat 0)) (thT h t false (qs.getD i.toNat 0))) 7478], PV.agg [PV.b (thH h t false (qs.getD i.toNat 0)), PV.q (ftT (thH h t false (qs.getD i.toNat 0)) (thT h t false (qs.getD i.toNat 0))) 649]]])), some (.mk 6 (.vals [PV.agg [PV.q (↑(0 : Int) : Rat) 1, PV.q (↑(0 : Int) : Rat) 1]])), some (.mk 4 (.vals [PV.agg [PV.bl false, PV.q (↑(0 : Int) : Rat) 1]])), some (.mk 10 (.vals [frP f0 64 259, PV.agg [PV.agg [PV.q x 2211, PV.q y 2211], PV.agg [PV.b (thH h t false (qs.getD i.toNat 0)), PV.q (thT h t false (qs.getD i.toNat 0)) 649]]]))]))) (.no 15002)) (.no 1)) (.no 1)) (.no 1)) (.no 13002)) (.no 1)) (.no 1)) (.no 1)) (.no 12007)) (.no 11005)) (.ok (.out (.exit 0) (LS.mk [PV.lst 3 (.rats 64 qs), PV.ptr 0 10 0 0 [], PV.ptr 1 6 0 0 [], PV.ptr 2 4 0 0 [], PV.sl 3 10 0 1, PV.lst 16 (.fn n fun (j : Nat) => lkPV (lk j)), PV.i .i64 (n : Int), PV.i .i64 i] [some (.mk 10 (.vals [PV.agg [PV.agg [PV.q x 2211, PV.q y 2211], PV.agg [PV.b h, PV.q t 259]]])), some (.mk 6 (.vals [PV.agg [PV.q (↑(0 : Int) : Rat) 1, PV.q (↑(0 : Int) : Rat) 1]])), some (.mk 4 (.vals [PV.agg [PV.bl false, PV.q (↑(0 : Int) : Rat) 1]])), some (.mk 10 (.vals [frP f0 64 259]))]))) := by kernel_rfl
theorem t39b (qs : List Rat) (n : Nat) (lk : Nat -> Lk) (f0 f1 : Fr) (x y : Rat) (h : Bool) (t : Rat) (i : Int) : qh prog O39 [] pol39 f87.ntmps 0 [1, 7, 8, 9, 10, 29, 30, 31] b39 (x39 qs n lk [frP f0 64 259, frP f1 2211 649] 2 x y h t 7478 649 i) =
 Tr.br (decide (i < (n : Int))) (.br (ix (i) ((n : Int))) (.br (ix (i) ((qs.length : Int))) (.br (Nat.ble 64 (400000 : Nat)) (.br (qg ((↑(0 : Int) : Rat) = 0 /\ (↑(0 : Int) : Rat) = 0 /\ (7478 : Nat) + 8 * 649 + 20 <= 800000 /\ (7478 : Nat) + 8 * 649 + 20 <= 800000)) (.br (Nat.ble 649 (50000 : Nat) && Nat.ble 1 (649 : Nat) && Nat.ble 64 (50000 : Nat) && Nat.ble 1 (64 : Nat)) (.br ((2 + [PE.PV.agg [PV.agg [PV.q x 7478, PV.q y 7478], PV.agg [PV.b (thH h t false (qs.getD i.toNat 0)), PV.q (thT h t false (qs.getD i.toNat 0)) 1429]]].length).ble 4294967296) (.br (decide ((-72057594037927936 : Int) < 0) && decide ((0 : Int) <= 9223372036854775807)) (.br (qg ((↑(0 : Int) : Rat) = 0 /\ (7478 : Nat) + 64 + 8 * ((2 : Nat) * 649 + 2 * 64 + 3) + 20 <= 800000 /\ (7478 : Nat) + 64 + 8 * ((2 : Nat) * 649 + 2 * 64 + 3) + 20 <= 800000 /\ (1 : Nat) <= 2 * 649 + 2 * 64 + 3)) (.br (qg (false = false /\ (↑(0 : Int) : Rat) = 0 /\ (2 : Nat) * 649 + 2 * 64 + 3 <= 50000)) (.br (ib (i + 1)) (.ok (.out .normal (LS.mk [PV.lst 3 (.rats 64 qs), PV.ptr 0 10 0 0 [], PV.ptr 1 6 0 0 [], PV.ptr 2 4 0 0 [], PV.sl 3 10 0 3, PV.lst 16 (.fn n fun (j : Nat) => lkPV (lk j)), PV.i .i64 (n : Int), PV.i .i64 (i + 1)] [some (.mk 10 (.vals [PV.agg [PV.agg [PV.q (x + (lk i.toNat).len * qN (thH h t false (qs.getD i.toNat 0)) (thT h t false (qs.getD i.toNat 0))) 18985, PV.q (y + (lk i.toNat).len * qx (thH h t false (qs.getD i.toNat 0)) (thT h t false (qs.getD i.toNat 0))) 18985], PV.agg [PV.b (thH h t false (qs.getD i.toNat 0)), PV.q (ftT (thH h t false (qs.getD i.toNat 0)) (thT h t false (qs.getD i.toNat 0))) 1429]]])), some (.mk 6 (.vals [PV.agg [PV.q (↑(0 : Int) : Rat) 1, PV.q (↑(0 : Int) : Rat) 1]])), some (.mk 4 (.vals [PV.agg [PV.bl false, PV.q (↑(0 : Int) : Rat) 1]])), some (.mk 10 (.vals [frP f0 64 259, frP f1 2211 649, PV.agg [PV.agg [PV.q x 7478, PV.q y 7478], PV.agg [PV.b (thH h t false (qs.getD i.toNat 0)), PV.q (thT h t false (qs.getD i.toNat 0)) 1429]]]))]))) (.no 15002)) (.no 1)) (.no 1)) (.no 1)) (.no 13002)) (.no 1)) (.no 1)) (.no 1)) (.no 12007)) (.no 11005)) (.ok (.out (.exit 0) (LS.mk [PV.lst 3 (.rats 64 qs), PV.ptr 0 10 0 0 [], PV.ptr 1 6 0 0 [], PV.ptr 2 4 0 0 [], PV.sl 3 10 0 2, PV.lst 16 (.fn n fun (j : Nat) => lkPV (lk j)), PV.i .i64 (n : Int), PV.i .i64 i] [some (.mk 10 (.vals [PV.agg [PV.agg [PV.q x 7478, PV.q y 7478], PV.agg [PV.b h, PV.q t 649]]])), some (.mk 6 (.vals [PV.agg [PV.q (↑(0 : Int) : Rat) 1, PV.q (↑(0 : Int) : Rat) 1]])), some (.mk 4 (.vals [PV.agg [PV.bl false, PV.q (↑(0 : Int) : Rat) 1]])), some (.mk 10 (.vals [frP f0 64 259, frP f1 2211 649]))]))) := by kernel_rfl
theorem t39c (qs : List Rat) (n : Nat) (lk : Nat -> Lk) (f0 f1 f2 : Fr) (x y : Rat) (h : Bool) (t : Rat) (i : Int) : qh prog O39 [] pol39 f87.ntmps 0 [1, 7, 8, 9, 10, 29, 30, 31] b39 (x39 qs n lk [frP f0 64 259, frP f1 2211 649, frP f2 7478 1429] 3 x y h t 18985 1429 i) =
 Tr.br (decide (i < (n : Int))) (.br (ix (i) ((n : Int))) (.br (ix (i) ((qs.length : Int))) (.br (Nat.ble 64 (400000 : Nat)) (.br (qg ((↑(0 : Int) : Rat) = 0 /\ (↑(0 : Int) : Rat) = 0 /\ (18985 : Nat) + 8 * 1429 + 20 <= 800000 /\ (18985 : Nat) + 8 * 1429 + 20 <= 800000)) (.br (Nat.ble 1429 (50000 : Nat) && Nat.ble 1 (1429 : Nat) && Nat.ble 64 (50000 : Nat) && Nat.ble 1 (64 : Nat)) (.br ((3 + [PE.PV.agg [PV.agg [PV.q x 18985, PV.q y 18985], PV.agg [PV.b (thH h t false (qs.getD i.toNat 0)), PV.q (thT h t false (qs.getD i.toNat 0)) 2989]]].length).ble 4294967296) (.br (decide ((-72057594037927936 : Int) < 0) && decide ((0 : Int) <= 9223372036854775807)) (.br (qg ((↑(0 : Int) : Rat) = 0 /\ (18985 : Nat) + 64 + 8 * ((2 : Nat) * 1429 + 2 * 64 + 3) + 20 <= 800000 /\ (18985 : Nat) + 64 + 8 * ((2 : Nat) * 1429 + 2 * 64 + 3) + 20 <= 800000 /\ (1 : Nat) <= 2 * 1429 + 2 * 64 + 3)) (.br (qg (false = false /\ (↑(0 : Int) : Rat) = 0 /\ (2 : Nat) * 1429 + 2 * 64 + 3 <= 50000)) (.br (ib (i + 1)) (.ok (.out .normal (LS.mk [PV.lst 3 (.rats 64 qs), PV.ptr 0 10 0 0 [], PV.ptr 1 6 0 0 [], PV.ptr 2 4 0 0 [], PV.sl 3 10 0 4, PV.lst 16 (.fn n fun (j : Nat) => lkPV (lk j)), PV.i .i64 (n : Int), PV.i .i64 (i + 1)] [some (.mk 10 (.vals [PV.agg [PV.agg [PV.q (x + (lk i.toNat).len * qN (thH h t false (qs.getD i.toNat 0)) (thT h t false (qs.getD i.toNat 0))) 42972, PV.q (y + (lk i.toNat).len * qx (thH h t false (qs.getD i.toNat 0)) (thT h t false (qs.getD i.toNat 0))) 42972], PV.agg [PV.b (thH h t false (qs.getD i.toNat 0)), PV.q (ftT (thH h t false (qs.getD i.toNat 0)) (thT h t false (qs.getD i.toNat 0))) 2989]]])), some (.mk 6 (.vals [PV.agg [PV.q (↑(0 : Int) : Rat) 1, PV.q (↑(0 : Int) : Rat) 1]])), some (.mk 4 (.vals [PV.agg [PV.bl false, PV.q (↑(0 : Int) : Rat) 1]])), some (.mk 10 (.vals [frP f0 64 259, frP f1 2211 649, frP f2 7478 1429, PV.agg [PV.agg [PV.q x 18985, PV.q y 18985], PV.agg [PV.b (thH h t false (qs.getD i.toNat 0)), PV.q (thT h t false (qs.getD i.toNat 0)) 2989]]]))]))) (.no 15002)) (.no 1)) (.no 1)) (.no 1)) (.no 13002)) (.no 1)) (.no 1)) (.no 1)) (.no 12007)) (.no 11005)) (.ok (.out (.exit 0) (LS.mk [PV.lst 3 (.rats 64 qs), PV.ptr 0 10 0 0 [], PV.ptr 1 6 0 0 [], PV.ptr 2 4 0 0 [], PV.sl 3 10 0 3, PV.lst 16 (.fn n fun (j : Nat) => lkPV (lk j)), PV.i .i64 (n : Int), PV.i .i64 i] [some (.mk 10 (.vals [PV.agg [PV.agg [PV.q x 18985, PV.q y 18985], PV.agg [PV.b h, PV.q t 1429]]])), some (.mk 6 (.vals [PV.agg [PV.q (↑(0 : Int) : Rat) 1, PV.q (↑(0 : Int) : Rat) 1]])), some (.mk 4 (.vals [PV.agg [PV.bl false, PV.q (↑(0 : Int) : Rat) 1]])), some (.mk 10 (.vals [frP f0 64 259, frP f1 2211 649, frP f2 7478 1429]))]))) := by kernel_rfl
theorem e39a (A : Am) (qs : List Rat) (f0 e : Fr) (i : Int) : evF prog O39 [(9, qI (n39 qs A.n A.lk A.bx A.by_ A.t 0) (.exit 0) (x39 qs A.n A.lk [frP f0 64 259] 1 e.x e.y e.h e.t 2211 259 i))] pol39 f87 [qA A, .lst 3 (.rats 64 qs)] [] ql =
 Tr.br (qg (P85 [qA A, PV.i .i64 (qs.length : Int)])) (.br (!decide ((0 : Int) = 0)) (.ok (.ret (PV.tup [PV.nil, PV.i .i64 0]) [])) (.br (decide ((-72057594037927936 : Int) < 0) && decide ((0 : Int) <= 9223372036854775807)) (.br (decide ((-72057594037927936 : Int) < 0) && decide ((0 : Int) <= 9223372036854775807)) (.br (decide ((-72057594037927936 : Int) < 0) && decide ((0 : Int) <= 9223372036854775807)) (.br (((Int.natAbs (0 : Int)).log2 + 1).ble 400000) (.br (qg (isLS (LS.mk [PV.lst 3 (.rats 64 qs), PV.ptr 0 10 0 0 [], PV.ptr 1 6 0 0 [], PV.ptr 2 4 0 0 [], PV.nil, PV.lst 16 (.fn A.n fun (j : Nat) => lkPV (A.lk j)), PV.i .i64 (A.n : Int), PV.i .i64 0] [some (.mk 10 (.vals [PV.agg [PV.agg [PV.q A.bx 64, PV.q A.by_ 64], PV.agg [PV.bl false, PV.q A.t 64]]])), some (.mk 6 (.vals [PV.agg [PV.q (↑(0 : Int) : Rat) 1, PV.q (↑(0 : Int) : Rat) 1]])), some (.mk 4 (.vals [PV.agg [PV.bl false, PV.q (↑(0 : Int) : Rat) 1]]))]) (LS.mk [PV.lst 3 (.rats 64 qs), PV.ptr 0 10 0 0 [], PV.ptr 1 6 0 0 [], PV.ptr 2 4 0 0 [], PV.nil, PV.lst 16 (.fn A.n fun (j : Nat) => lkPV (A.lk j)), PV.i .i64 (A.n : Int), PV.i .i64 0] [some (.mk 10 (.vals [PV.agg [PV.agg [PV.q A.bx 64, PV.q A.by_ 64], PV.agg [PV.bl false, PV.q A.t 64]]])), some (.mk 6 (.vals [PV.agg [PV.q (↑(0 : Int) : Rat) 1, PV.q (↑(0 : Int) : Rat) 1]])), some (.mk 4 (.vals [PV.agg [PV.bl false, PV.q (↑(0 : Int) : Rat) 1]]))]))) (.br ((1 + [frP e 2211 259].length).ble 4294967296) (.ok (.ret (PV.tup [PV.fr 10 (.vals [frP f0 64 259, frP e 2211 259]), PV.i .i64 0]) [])) (.no 16003)) (.no 1)) (.no 1)) (.no 1)) (.no 1)) (.no 1))) (.no 1) := by kernel_rfl
theorem e39b (A : Am) (qs : List Rat) (f0 f1 e : Fr) (i : Int) : evF prog O39 [(9, qI (n39 qs A.n A.lk A.bx A.by_ A.t 0) (.exit 0) (x39 qs A.n A.lk [frP f0 64 259, frP f1 2211 649] 2 e.x e.y e.h e.t 7478 649 i))] pol39 f87 [qA A, .lst 3 (.rats 64 qs)] [] ql =
 Tr.br (qg (P85 [qA A, PV.i .i64 (qs.length : Int)])) (.br (!decide ((0 : Int) = 0)) (.ok (.ret (PV.tup [PV.nil, PV.i .i64 0]) [])) (.br (decide ((-72057594037927936 : Int) < 0) && decide ((0 : Int) <= 9223372036854775807)) (.br (decide ((-72057594037927936 : Int) < 0) && decide ((0 : Int) <= 9223372036854775807)) (.br (decide ((-72057594037927936 : Int) < 0) && decide ((0 : Int) <= 9223372036854775807)) (.br (((Int.natAbs (0 : Int)).log2 + 1).ble 400000) (.br (qg (isLS (LS.mk [PV.lst 3 (.rats 64 qs), PV.ptr 0 10 0 0 [], PV.ptr 1 6 0 0 [], PV.ptr 2 4 0 0 [], PV.nil, PV.lst 16 (.fn A.n fun (j : Nat) => lkPV (A.lk j)), PV.i .i64 (A.n : Int), PV.i .i64 0] [some (.mk 10 (.vals [PV.agg [PV.agg [PV.q A.bx 64, PV.q A.by_ 64], PV.agg [PV.bl false, PV.q A.t 64]]])), some (.mk 6 (.vals [PV.agg [PV.q (↑(0 : Int) : Rat) 1, PV.q (↑(0 : Int) : Rat) 1]])), some (.mk 4 (.vals [PV.agg [PV.bl false, PV.q (↑(0 : Int) : Rat) 1]]))]) (LS.mk [PV.lst 3 (.rats 64 qs), PV.ptr 0 10 0 0 [], PV.ptr 1 6 0 0 [], PV.ptr 2 4 0 0 [], PV.nil, PV.lst 16 (.fn A.n fun (j : Nat) => lkPV (A.lk j)), PV.i .i64 (A.n : Int), PV.i .i64 0] [some (.mk 10 (.vals [PV.agg [PV.agg [PV.q A.bx 64, PV.q A.by_ 64], PV.agg [PV.bl false, PV.q A.t 64]]])), some (.mk 6 (.vals [PV.agg [PV.q (↑(0 : Int) : Rat) 1, PV.q (↑(0 : Int) : Rat) 1]])), some (.mk 4 (.vals [PV.agg [PV.bl false, PV.q (↑(0 : Int) : Rat) 1]]))]))) (.br ((2 + [frP e 7478 649].length).ble 4294967296) (.ok (.ret (PV.tup [PV.fr 10 (.vals [frP f0 64 259, frP f1 2211 649, frP e 7478 649]), PV.i .i64 0]) [])) (.no 16003)) (.no 1)) (.no 1)) (.no 1)) (.no 1)) (.no 1))) (.no 1) := by kernel_rfl
theorem e39c (A : Am) (qs : List Rat) (f0 f1 f2 e : Fr) (i : Int) : evF prog O39 [(9, qI (n39 qs A.n A.lk A.bx A.by_ A.t 0) (.exit 0) (x39 qs A.n A.lk [frP f0 64 259, frP f1 2211 649, frP f2 7478 1429] 3 e.x e.y e.h e.t 18985 1429 i))] pol39 f87 [qA A, .lst 3 (.rats 64 qs)] [] ql =
 Tr.br (qg (P85 [qA A, PV.i .i64 (qs.length : Int)])) (.br (!decide ((0 : Int) = 0)) (.ok (.ret (PV.tup [PV.nil, PV.i .i64 0]) [])) (.br (decide ((-72057594037927936 : Int) < 0) && decide ((0 : Int) <= 9223372036854775807)) (.br (decide ((-72057594037927936 : Int) < 0) && decide ((0 : Int) <= 9223372036854775807)) (.br (decide ((-72057594037927936 : Int) < 0) && decide ((0 : Int) <= 9223372036854775807)) (.br (((Int.natAbs (0 : Int)).log2 + 1).ble 400000) (.br (qg (isLS (LS.mk [PV.lst 3 (.rats 64 qs), PV.ptr 0 10 0 0 [], PV.ptr 1 6 0 0 [], PV.ptr 2 4 0 0 [], PV.nil, PV.lst 16 (.fn A.n fun (j : Nat) => lkPV (A.lk j)), PV.i .i64 (A.n : Int), PV.i .i64 0] [some (.mk 10 (.vals [PV.agg [PV.agg [PV.q A.bx 64, PV.q A.by_ 64], PV.agg [PV.bl false, PV.q A.t 64]]])), some (.mk 6 (.vals [PV.agg [PV.q (↑(0 : Int) : Rat) 1, PV.q (↑(0 : Int) : Rat) 1]])), some (.mk 4 (.vals [PV.agg [PV.bl false, PV.q (↑(0 : Int) : Rat) 1]]))]) (LS.mk [PV.lst 3 (.rats 64 qs), PV.ptr 0 10 0 0 [], PV.ptr 1 6 0 0 [], PV.ptr 2 4 0 0 [], PV.nil, PV.lst 16 (.fn A.n fun (j : Nat) => lkPV (A.lk j)), PV.i .i64 (A.n : Int), PV.i .i64 0] [some (.mk 10 (.vals [PV.agg [PV.agg [PV.q A.bx 64, PV.q A.by_ 64], PV.agg [PV.bl false, PV.q A.t 64]]])), some (.mk 6 (.vals [PV.agg [PV.q (↑(0 : Int) : Rat) 1, PV.q (↑(0 : Int) : Rat) 1]])), some (.mk 4 (.vals [PV.agg [PV.bl false, PV.q (↑(0 : Int) : Rat) 1]]))]))) (.br ((3 + [frP e 18985 1429].length).ble 4294967296) (.ok (.ret (PV.tup [PV.fr 10 (.vals [frP f0 64 259, frP f1 2211 649, frP f2 7478 1429, frP e 18985 1429]), PV.i .i64 0]) [])) (.no 16003)) (.no 1)) (.no 1)) (.no 1)) (.no 1)) (.no 1))) (.no 1) := by kernel_rfl
def fstep (q : Rat) (E : Fr) : Fr := ⟨E.x, E.y, thH E.h E.t false q, thT E.h E.t false q⟩
def estep (L : Rat) (F : Fr) : Fr := ⟨F.x + L * qN F.h F.t, F.y + L * qx F.h F.t, F.h, ftT F.h F.t⟩
def endR (b : Fr) (q L : Nat -> Rat) : Nat -> Fr
 | 0 => b
 | i + 1 => estep (L i) (fstep (q i) (endR b q L i))
def frmF (b : Fr) (q L : Nat -> Rat) (i : Nat) : Fr := fstep (q i) (endR b q L i)
def allF (b : Fr) (q L : Nat -> Rat) (n i : Nat) : Fr := if i < n then frmF b q L i else endR b q L n
include hG in
theorem orc39 (hT : qo G) : OrcOK prog G O39 := .cons (gk50 hG hT) (.cons (gk51 hG hT) (.cons (gk71 hG) (.cons (ok85 hG) .nil)))
def qf (qs : List Rat) (i : Nat) : Rat := qs.getD i 0
def bsF (A : Am) : Fr := ⟨A.bx, A.by_, false, A.t⟩
def Fq (qs : List Rat) (lk : Nat -> Lk) (b : Fr) (i : Nat) : Fr := frmF b (qf qs) (fun j => (lk j).len) i
def Eq' (qs : List Rat) (lk : Nat -> Lk) (b : Fr) (i : Nat) : Fr := endR b (qf qs) (fun j => (lk j).len) i
section
variable (qs : List Rat) (n : Nat) (lk : Nat -> Lk) (b : Fr)
include hG in
theorem r39_0 (hT : qo G) (hb : b.h = false) (hn : 1 <= n) (hq : qs.length = n) : Rnd prog G f87.ntmps 0 [1, 7, 8, 9, 10, 29, 30, 31] b39 (n39 qs n lk b.x b.y b.t 0) .normal (x39 qs n lk [frP (Fq qs lk b 0) 64 259] 1 (Eq' qs lk b 1).x (Eq' qs lk b 1).y (Eq' qs lk b 1).h (Eq' qs lk b 1).t 2211 259 1) := by
 refine qb hG (orc39 hG hT) mix (L := []) (pol := pol39) (O := O39) (k9 (by kernel_rfl)) (Nat.zero_le _) ?_
 rw [t39n, k5 (kE (by omega)), k5 (by simp only [kA, kD]; omega), k5 (by simp only [kA, kD]; omega), k5 (by decide), k5 (decP_iff.2 ⟨rfl, rfl, by decide, by decide⟩), k5 (by decide), k5 (by simp), k5 (by decide),
  k5 (decP_iff.2 ⟨rfl, by decide, by decide, by decide⟩), k5 (decP_iff.2 ⟨rfl, rfl, by decide⟩), k5 (by decide), k7]
 obtain ⟨bx, by_, bh, bt⟩ := b
 simp only at hb
 subst hb
 rfl
include hG in
theorem r39_1 (hT : qo G) (hn : 2 <= n) (hq : qs.length = n) : Rnd prog G f87.ntmps 0 [1, 7, 8, 9, 10, 29, 30, 31] b39 (x39 qs n lk [frP (Fq qs lk b 0) 64 259] 1 (Eq' qs lk b 1).x (Eq' qs lk b 1).y (Eq' qs lk b 1).h (Eq' qs lk b 1).t 2211 259 1) .normal
  (x39 qs n lk [frP (Fq qs lk b 0) 64 259, frP (Fq qs lk b 1) 2211 649] 2 (Eq' qs lk b 2).x (Eq' qs lk b 2).y (Eq' qs lk b 2).h (Eq' qs lk b 2).t 7478 649 2) := by
 refine qb hG (orc39 hG hT) mix (L := []) (pol := pol39) (O := O39) (k9 (by kernel_rfl)) (Nat.zero_le _) ?_
 rw [t39a, k5 (kE (by omega)), k5 (by simp only [kA, kD]; omega), k5 (by simp only [kA, kD]; omega), k5 (by decide), k5 (decP_iff.2 ⟨rfl, rfl, by decide, by decide⟩), k5 (by decide), k5 (by simp), k5 (by decide),
  k5 (decP_iff.2 ⟨rfl, by decide, by decide, by decide⟩), k5 (decP_iff.2 ⟨rfl, rfl, by decide⟩), k5 (by decide), k7]
 rfl
include hG in
theorem r39_2 (hT : qo G) (hn : 3 <= n) (hq : qs.length = n) : Rnd prog G f87.ntmps 0 [1, 7, 8, 9, 10, 29, 30, 31] b39 (x39 qs n lk [frP (Fq qs lk b 0) 64 259, frP (Fq qs lk b 1) 2211 649] 2 (Eq' qs lk b 2).x (Eq' qs lk b 2).y (Eq' qs lk b 2).h (Eq' qs lk b 2).t 7478 649 2) .normal
  (x39 qs n lk [frP (Fq qs lk b 0) 64 259, frP (Fq qs lk b 1) 2211 649, frP (Fq qs lk b 2) 7478 1429] 3 (Eq' qs lk b 3).x (Eq' qs lk b 3).y (Eq' qs lk b 3).h (Eq' qs lk b 3).t 18985 1429 3) := by
 refine qb hG (orc39 hG hT) mix (L := []) (pol := pol39) (O := O39) (k9 (by kernel_rfl)) (Nat.zero_le _) ?_
 rw [t39b, k5 (kE (by omega)), k5 (by simp only [kA, kD]; omega), k5 (by simp only [kA, kD]; omega), k5 (by decide), k5 (decP_iff.2 ⟨rfl, rfl, by decide, by decide⟩), k5 (by decide), k5 (by simp), k5 (by decide),
  k5 (decP_iff.2 ⟨rfl, by decide, by decide, by decide⟩), k5 (decP_iff.2 ⟨rfl, rfl, by decide⟩), k5 (by decide), k7]
 rfl
end
def frs (A : Am) (qs : List Rat) : Cont := .fn (A.n + 1) (fun i => frP (allF (bsF A) (qf qs) (fun j => (A.lk j).len) A.n i) 20000 1500)
def P39 (arm : PV) (qs : List Rat) : Prop := okA arm /\ qs.length = (dArm arm).n
def g39 : Spec := fun args hs K => match args, hs with
 | [arm, .lst 3 (.rats w qs)], [] => .br (qg (P39 arm qs /\ w = 64)) (K (.tup [.fr 10 (frs (dArm arm) qs), .i .i64 0]) []) (.no 1)
 | _, _ => .no 1
theorem frP_le {f g : Fr} (h : f = g) {a b c d : Nat} (h1 : a <= c) (h2 : b <= d) : VLe (frP f a b) (frP g c d) := by
 subst h
 exact VLe.agg (qJ (VLe.agg (qJ (qF h1) (qJ (qF h1) vll0))) (qJ (VLe.agg (qJ (.refl _) (qJ (qF h2) vll0))) vll0))
theorem frs_le0 (e n : Nat) (f : Nat -> PV) (vs : List PV) (hl : vs.length = n) (h : ∀ (i : Nat) (v : PV), vs[i]? = some v -> noRef 8 v = true /\ VLe v (f i)) :
  RLe (.tup [.fr e (.vals vs), .i .i64 0]) (.tup [.fr e (.fn n f), .i .i64 0]) := by
 subst hl
 exact ⟨fun m => .refl _, fun m => KsLe.one (KLe.fn rfl h)⟩
theorem frs_le (A : Am) (qs : List Rat) (vs : List PV) (hl : vs.length = A.n + 1) (h : ∀ (i : Nat) (v : PV), vs[i]? = some v -> noRef 8 v = true /\ VLe v (frP (allF (bsF A) (qf qs) (fun j => (A.lk j).len) A.n i) 20000 1500)) :
  RLe (.tup [.fr 10 (.vals vs), .i .i64 0]) (.tup [.fr 10 (frs A qs), .i .i64 0]) := frs_le0 _ _ _ vs hl h
section
variable (qs : List Rat) (n : Nat) (lk : Nat -> Lk) (b : Fr)
include hG in
theorem goes39a (hT : qo G) (hb : b.h = false) (hn : n = 1) (hq : qs.length = n) : Goes (Rnd prog G f87.ntmps 0 [1, 7, 8, 9, 10, 29, 30, 31] b39) (n39 qs n lk b.x b.y b.t 0) (.exit 0) (x39 qs n lk [frP (Fq qs lk b 0) 64 259] 1 (Eq' qs lk b 1).x (Eq' qs lk b 1).y (Eq' qs lk b 1).h (Eq' qs lk b 1).t 2211 259 1) := by
 refine .more _ _ _ _ (r39_0 hG qs n lk b hT hb (by omega) hq) (.last _ _ _ (qb hG (orc39 hG hT) mix (L := []) (pol := pol39) (O := O39) (k9 (by kernel_rfl)) (Nat.zero_le _) ?_) (by simp))
 rw [t39a, k6 (kF (by omega)), k7]
 rfl
include hG in
theorem goes39b (hT : qo G) (hb : b.h = false) (hn : n = 2) (hq : qs.length = n) : Goes (Rnd prog G f87.ntmps 0 [1, 7, 8, 9, 10, 29, 30, 31] b39) (n39 qs n lk b.x b.y b.t 0) (.exit 0) (x39 qs n lk [frP (Fq qs lk b 0) 64 259, frP (Fq qs lk b 1) 2211 649] 2 (Eq' qs lk b 2).x (Eq' qs lk b 2).y (Eq' qs lk b 2).h (Eq' qs lk b 2).t 7478 649 2) := by
 refine .more _ _ _ _ (r39_0 hG qs n lk b hT hb (by omega) hq) (.more _ _ _ _ (r39_1 hG qs n lk b hT (by omega) hq) (.last _ _ _ (qb hG (orc39 hG hT) mix (L := []) (pol := pol39) (O := O39) (k9 (by kernel_rfl)) (Nat.zero_le _) ?_) (by simp)))
 rw [t39b, k6 (kF (by omega)), k7]
 rfl
include hG in
theorem goes39c (hT : qo G) (hb : b.h = false) (hn : n = 3) (hq : qs.length = n) : Goes (Rnd prog G f87.ntmps 0 [1, 7, 8, 9, 10, 29, 30, 31] b39) (n39 qs n lk b.x b.y b.t 0) (.exit 0) (x39 qs n lk [frP (Fq qs lk b 0) 64 259, frP (Fq qs lk b 1) 2211 649, frP (Fq qs lk b 2) 7478 1429] 3 (Eq' qs lk b 3).x (Eq' qs lk b 3).y (Eq' qs lk b 3).h (Eq' qs lk b 3).t 18985 1429 3) := by
 refine .more _ _ _ _ (r39_0 hG qs n lk b hT hb (by omega) hq) (.more _ _ _ _ (r39_1 hG qs n lk b hT (by omega) hq) (.more _ _ _ _ (r39_2 hG qs n lk b hT (by omega) hq) (.last _ _ _ (qb hG (orc39 hG hT) mix (L := []) (pol := pol39) (O := O39) (k9 (by kernel_rfl)) (Nat.zero_le _) ?_) (by simp))))
 rw [t39c, k6 (kF (by omega)), k7]
 rfl
end
theorem allF_lt {b : Fr} {q L : Nat -> Rat} {n i : Nat} (h : i < n) : allF b q L n i = frmF b q L i := if_pos h
theorem allF_n {b : Fr} {q L : Nat -> Rat} {n : Nat} : allF b q L n n = endR b q L n := if_neg (Nat.lt_irrefl n)
include hG in
theorem gk39 (hT : qo G) : qc prog G 87 g39 := by
 intro args hs K x h
 unfold g39 at h
 split at h
 case h_2 => cases h
 rename_i arm w qs
 obtain ⟨hc, hr⟩ := k8 h
 obtain ⟨⟨⟨hv, hA⟩, hq⟩, rfl⟩ := decP_iff.1 hc
 generalize dArm arm = A at *
 obtain ⟨h1, h2, h3, h4, h5, h6, h7⟩ := armB_c hA
 have z0 : ((Int.natAbs (0 : Int)).log2 + 1).ble 400000 = true := by decide
 have hcs : A.n = 1 \/ A.n = 2 \/ A.n = 3 := by omega
 refine ⟨_, _, PC.args (.cons hv (.cons (.refl _) .nil)) ?_, hr⟩
 rcases hcs with hn | hn | hn
 ·have g := goes39a hG qs A.n A.lk (bsF A) hT rfl hn hq
  refine (qj hG (orc39 hG hT) mix enter39 (hs := []) (pol := pol39) (L := [(9, qI (n39 qs A.n A.lk A.bx A.by_ A.t 0) (.exit 0) (x39 qs A.n A.lk [frP (Fq qs A.lk (bsF A) 0) 64 259] 1 (Eq' qs A.lk (bsF A) 1).x (Eq' qs A.lk (bsF A) 1).y (Eq' qs A.lk (bsF A) 1).h (Eq' qs A.lk (bsF A) 1).t 2211 259 1))]) (lps1 (b := b39) (live := [1, 7, 8, 9, 10, 29, 30, 31]) (m := 0) (by kernel_rfl) (by kernel_rfl) (by kernel_rfl) (qC g)) (r := .tup [.fr 10 (.vals [frP (Fq qs A.lk (bsF A) 0) 64 259, frP (Eq' qs A.lk (bsF A) 1) 2211 259]), .i .i64 0]) (hs' := []) ?_).le ?_ (.refl _)
  ·refine (congrArg Tr.run (e39a A qs (Fq qs A.lk (bsF A) 0) (Eq' qs A.lk (bsF A) 1) 1)).trans ?_
   rw [k5 (decP_iff.2 ⟨qA A, A, by first | (rw [hq]; done) | (rw [hq]; rfl), .refl _, hA⟩), k6 (by decide), k5 (by decide), k5 (by decide), k5 (by decide), k5 z0, k5 isLS_t, k5 (by simp), k7]
   all_goals rfl
  ·refine frs_le A qs _ (by rw [hn]; rfl) fun i v hi => ?_
   match i, hi with
   | 0, hi => simp at hi; subst hi; exact ⟨rfl, frP_le (by rw [hn, allF_lt (by omega)]; rfl) (by omega) (by omega)⟩
   | 1, hi => simp at hi; subst hi; exact ⟨rfl, frP_le (by rw [hn, allF_n]; rfl) (by omega) (by omega)⟩
   | i + 2, hi => simp at hi
 ·have g := goes39b hG qs A.n A.lk (bsF A) hT rfl hn hq
  refine (qj hG (orc39 hG hT) mix enter39 (hs := []) (pol := pol39) (L := [(9, qI (n39 qs A.n A.lk A.bx A.by_ A.t 0) (.exit 0) (x39 qs A.n A.lk [frP (Fq qs A.lk (bsF A) 0) 64 259, frP (Fq qs A.lk (bsF A) 1) 2211 649] 2 (Eq' qs A.lk (bsF A) 2).x (Eq' qs A.lk (bsF A) 2).y (Eq' qs A.lk (bsF A) 2).h (Eq' qs A.lk (bsF A) 2).t 7478 649 2))]) (lps1 (b := b39) (live := [1, 7, 8, 9, 10, 29, 30, 31]) (m := 0) (by kernel_rfl) (by kernel_rfl) (by kernel_rfl) (qC g)) (r := .tup [.fr 10 (.vals [frP (Fq qs A.lk (bsF A) 0) 64 259, frP (Fq qs A.lk (bsF A) 1) 2211 649, frP (Eq' qs A.lk (bsF A) 2) 7478 649]), .i .i64 0]) (hs' := []) ?_).le ?_ (.refl _)
  ·refine (congrArg Tr.run (e39b A qs (Fq qs A.lk (bsF A) 0) (Fq qs A.lk (bsF A) 1) (Eq' qs A.lk (bsF A) 2) 2)).trans ?_
   rw [k5 (decP_iff.2 ⟨qA A, A, by first | (rw [hq]; done) | (rw [hq]; rfl), .refl _, hA⟩), k6 (by decide), k5 (by decide), k5 (by decide), k5 (by decide), k5 z0, k5 isLS_t, k5 (by simp), k7]
   all_goals rfl
  ·refine frs_le A qs _ (by rw [hn]; rfl) fun i v hi => ?_
   match i, hi with
   | 0, hi => simp at hi; subst hi; exact ⟨rfl, frP_le (by rw [hn, allF_lt (by omega)]; rfl) (by omega) (by omega)⟩
   | 1, hi => simp at hi; subst hi; exact ⟨rfl, frP_le (by rw [hn, allF_lt (by omega)]; rfl) (by omega) (by omega)⟩
   | 2, hi => simp at hi; subst hi; exact ⟨rfl, frP_le (by rw [hn, allF_n]; rfl) (by omega) (by omega)⟩
   | i + 3, hi => simp at hi
 ·have g := goes39c hG qs A.n A.lk (bsF A) hT rfl hn hq
  refine (qj hG (orc39 hG hT) mix enter39 (hs := []) (pol := pol39) (L := [(9, qI (n39 qs A.n A.lk A.bx A.by_ A.t 0) (.exit 0) (x39 qs A.n A.lk [frP (Fq qs A.lk (bsF A) 0) 64 259, frP (Fq qs A.lk (bsF A) 1) 2211 649, frP (Fq qs A.lk (bsF A) 2) 7478 1429] 3 (Eq' qs A.lk (bsF A) 3).x (Eq' qs A.lk (bsF A) 3).y (Eq' qs A.lk (bsF A) 3).h (Eq' qs A.lk (bsF A) 3).t 18985 1429 3))]) (lps1 (b := b39) (live := [1, 7, 8, 9, 10, 29, 30, 31]) (m := 0) (by kernel_rfl) (by kernel_rfl) (by kernel_rfl) (qC g)) (r := .tup [.fr 10 (.vals [frP (Fq qs A.lk (bsF A) 0) 64 259, frP (Fq qs A.lk (bsF A) 1) 2211 649, frP (Fq qs A.lk (bsF A) 2) 7478 1429, frP (Eq' qs A.lk (bsF A) 3) 18985 1429]), .i .i64 0]) (hs' := []) ?_).le ?_ (.refl _)
  ·refine (congrArg Tr.run (e39c A qs (Fq qs A.lk (bsF A) 0) (Fq qs A.lk (bsF A) 1) (Fq qs A.lk (bsF A) 2) (Eq' qs A.lk (bsF A) 3) 3)).trans ?_
   rw [k5 (decP_iff.2 ⟨qA A, A, by first | (rw [hq]; done) | (rw [hq]; rfl), .refl _, hA⟩), k6 (by decide), k5 (by decide), k5 (by decide), k5 (by decide), k5 z0, k5 isLS_t, k5 (by simp), k7]
   all_goals rfl
  ·refine frs_le A qs _ (by rw [hn]; rfl) fun i v hi => ?_
   match i, hi with
   | 0, hi => simp at hi; subst hi; exact ⟨rfl, frP_le (by rw [hn, allF_lt (by omega)]; rfl) (by omega) (by omega)⟩
   | 1, hi => simp at hi; subst hi; exact ⟨rfl, frP_le (by rw [hn, allF_lt (by omega)]; rfl) (by omega) (by omega)⟩
   | 2, hi => simp at hi; subst hi; exact ⟨rfl, frP_le (by rw [hn, allF_lt (by omega)]; rfl) (by omega) (by omega)⟩
   | 3, hi => simp at hi; subst hi; exact ⟨rfl, frP_le (by rw [hn, allF_n]; rfl) (by omega) (by omega)⟩
   | i + 4, hi => simp at hi
end
section
open Go
set_option maxRecDepth 100000
variable {G : World -> (Nat -> Prop) -> Prop} (hG : GOk G)
theorem getD_map_range (f : Nat -> Rat) {n j : Nat} (h : j < n) : ((List.range n).map f).getD j 0 = f j := by
 rw [List.getD_eq_getElem?_getD, List.getElem?_map, List.getElem?_range h]; rfl
theorem limX_V (v : PV) : limX (qP v) = true := by
 refine List.all_eq_true.2 fun j _ => ?_
 rw [kA]
 have small : ∀ (n : Int), n.natAbs < 1000 -> smX (mkRat n (Int.toNat 3)) = true := fun n hn => smX_iff.2 ⟨Nat.lt_of_le_of_lt (mkRat_num_le n (by decide)) hn, Nat.lt_of_le_of_lt (mkRat_den_le n (by decide)) (by decide)⟩
 have g1 := qv (rs (itR6 j (rs (rs (rs v))))) (show (0 : Int) < 6 by omega)
 have g2 := qv (rs (rs (itR6 j (rs (rs (rs v)))))) (show (0 : Int) < 6 by omega)
 exact ⟨small _ (by omega), small _ (by omega)⟩
def R6 : Orc := [(23, g27), (141, g41), (192, g42), (75, g43)]
theorem cst_t {P : Program} {G : World -> (Nat -> Prop) -> Prop} {g : Nat} {as' : List PV} {r : PV} (h : PC P G g as' [] r []) : qc P G g (cst as' True r) := cst_ok fun _ => h
theorem cos_sin (h : Bool) (t : Rat) : qN h t * qN h t + qx h t * qx h t = 1 := by
 rw [qN, qx, qe, qe]
 cases h
 ·simp only [Bool.false_eq_true, if_false]
  have h0 := sq_pos1 t
  generalize hd : 1 + t * t = d at *
  have e1 : (1 - t * t) / d * ((1 - t * t) / d) + (t + t) / d * ((t + t) / d) = ((1 - t * t) * (1 - t * t) + (t + t) * (t + t)) / (d * d) := by grind
  have e2 : (1 - t * t) * (1 - t * t) + (t + t) * (t + t) = d * d := by grind
  rw [e1, e2]
  rw [Rat.div_def]
  exact Rat.mul_inv_cancel _ (fun h => h0 (by rcases Rat.mul_eq_zero.1 h with h | h <;> exact h))
 ·simp only [if_true]
  grind
include hG in
theorem pc39 (hT : qo G) (A : Am) (hA : armB A = true) (qs : List Rat) (hq : qs.length = A.n) :
  PC Tryz.prog G 87 [qA A, .lst 3 (.rats 64 qs)] [] (.tup [.fr 10 (.fn (A.n + 1) (fun i => frP (allF (bsF A) (qf qs) (fun j => (A.lk j).len) A.n i) 20000 1500)), .i .i64 0]) [] := by
 obtain ⟨r, hs', p, e⟩ := gk39 hG hT [qA A, .lst 3 (.rats 64 qs)] [] (fun r hs' => .ok (.ret r hs')) (.ret (.tup [.fr 10 (frs A qs), .i .i64 0]) []) (by
  show (Tr.br _ _ _).run = _
  rw [k5 (decP_iff.2 ⟨⟨okA_arm hA, hq⟩, rfl⟩)]; rfl)
 cases e
 exact p
end
section
open Go
theorem sq_le_of {x y : Rat} (hy : 0 <= y) (h : x * x <= y * y) : x <= y := by
 rcases Rat.le_total (a := x) (b := y) with g | g
 ·exact g
 ·rcases Rat.le_iff_lt_or_eq.1 g with k | k
  ·have h1 : 0 < (x - y) * (x + y) := Rat.mul_pos (by grind) (by grind)
   grind
  ·rw [k]; exact Rat.le_refl
theorem sq_le_sq {x y : Rat} (hx : 0 <= x) (h : x <= y) : x * x <= y * y := by
 have h1 : 0 <= (y - x) * (y + x) := Rat.mul_nonneg (by grind) (by grind)
 grind
theorem sq_nn (x : Rat) : 0 <= x * x := by
 rcases Rat.le_total (a := 0) (b := x) with g | g
 ·exact Rat.mul_nonneg g g
 ·have := Rat.mul_nonneg (a := -x) (b := -x) (by grind) (by grind)
  grind
end
section
open Go Tryz
set_option maxRecDepth 100000
variable {G : World -> (Nat -> Prop) -> Prop} (hG : GOk G)
theorem ArgsLe.ofL : ∀ {us vs : List PV}, VLeL us vs -> ArgsLe us vs
 | [], [], _ => .nil
 | [], v :: vs, h => by have := h.1; simp at this
 | u :: us, [], h => by have := h.1; simp at this
 | u :: us, v :: vs, h => .cons (h.2 0 u v rfl rfl) (ArgsLe.ofL ⟨by have := h.1; simpa using this, fun j a b e1 e2 => h.2 (j + 1) a b e1 e2⟩)
theorem VLe.tup {us vs : List PV} (h : VLeL us vs) : VLe (.tup us) (.tup vs) := by
 refine ⟨rfl, fun w S μ => ⟨fun cs hc => (by cases hc), fun x hx => ?_⟩⟩
 cases hx with
 | cell _ _ _ _ hc => cases hc
 | agg _ _ _ hv _ => cases hv
 | tup _ _ xs hl => exact .tup _ _ _ (ArgsLe.ofL h w S μ xs hl)
def mxR (x y : Rat) : Rat := if y <= x then x else y
def mnR (x y : Rat) : Rat := if x <= y then x else y

theorem k86 (x y : Rat) (n m : Nat) : evF prog [(23, g27), (58, g74)] [] {} f122 [.q x n, .q y m] [] ql =
 Tr.br ((n + m).ble 800000) (.br (decide (0 <= rcmp x y)) (.br (n.ble 800000) (.ok (.ret (.q x n) [])) (.no 1)) (.br (m.ble 800000) (.ok (.ret (.q y m) [])) (.no 1))) (.no 1) := by kernel_rfl
theorem k80m (x y : Rat) (n m : Nat) : evF prog [(23, g27), (58, g74)] [] {} f121 [.q x n, .q y m] [] ql =
 Tr.br ((n + m).ble 800000) (.br (decide (rcmp x y <= 0)) (.br (n.ble 800000) (.ok (.ret (.q x n) [])) (.no 1)) (.br (m.ble 800000) (.ok (.ret (.q y m) [])) (.no 1))) (.no 1) := by kernel_rfl
def g86 : Spec := fun args hs K => match args, hs with
 | [.q x n, .q y m], [] => .br (Nat.ble (n + m) 400000) (K (.q (mxR x y) (Nat.max n m)) []) (.no 1)
 | _, _ => .no 1
def g80 : Spec := fun args hs K => match args, hs with
 | [.q x n, .q y m], [] => .br (Nat.ble (n + m) 400000) (K (.q (mnR x y) (Nat.max n m)) []) (.no 1)
 | _, _ => .no 1
include hG in
theorem gk86 (hT : qo G) : qc prog G 122 g86 := by
 refine qp hG (orcg80 hG hT) mix enter86 (L := []) (pol := {}) fun args hs K x h => ?_
 unfold g86 at h
 split at h
 case h_2 => cases h
 rename_i x n y m
 obtain ⟨hc, hr⟩ := k8 h
 rw [kG] at hc
 by_cases g : y <= x
 ·refine ⟨k9 (by kernel_rfl), _, _, _, ?_, q_rle (x := x) (n := n) (by rw [mxR, if_pos g]) (Nat.le_max_left n m), hr⟩
  rw [k86, k5 (by rw [kG]; omega), k5 (kE (rcmp_ge.2 g)), k5 (by rw [kG]; omega), k7]
 ·refine ⟨k9 (by kernel_rfl), _, _, _, ?_, q_rle (x := y) (n := m) (by rw [mxR, if_neg g]) (Nat.le_max_right n m), hr⟩
  rw [k86, k5 (by rw [kG]; omega), k6 (kF fun h => g (rcmp_ge.1 h)), k5 (by rw [kG]; omega), k7]
include hG in
theorem gk80 (hT : qo G) : qc prog G 121 g80 := by
 refine qp hG (orcg80 hG hT) mix enter80 (L := []) (pol := {}) fun args hs K x h => ?_
 unfold g80 at h
 split at h
 case h_2 => cases h
 rename_i x n y m
 obtain ⟨hc, hr⟩ := k8 h
 rw [kG] at hc
 by_cases g : x <= y
 ·refine ⟨k9 (by kernel_rfl), _, _, _, ?_, q_rle (x := x) (n := n) (by rw [mnR, if_pos g]) (Nat.le_max_left n m), hr⟩
  rw [k80m, k5 (by rw [kG]; omega), k5 (kE (rcmp_le.2 g)), k5 (by rw [kG]; omega), k7]
 ·refine ⟨k9 (by kernel_rfl), _, _, _, ?_, q_rle (x := y) (n := m) (by rw [mnR, if_neg g]) (Nat.le_max_right n m), hr⟩
  rw [k80m, k5 (by rw [kG]; omega), k6 (kF fun h => g (rcmp_le.1 h)), k5 (by rw [kG]; omega), k7]
end
section
open Go
set_option maxRecDepth 100000
theorem q_dd {a b c : Rat} (hb : ¬ b = 0) (hc : ¬ c = 0) : a / c / (b / c) = a / b := by grind
theorem q_sub {a b c e p q : Rat} (hp : ¬ p = 0) (hq : ¬ q = 0) : a / p * (b / q) - c / p * (e / q) = (a * b - c * e) / (p * q) := by grind
theorem q_add {a b c e p q : Rat} (hp : ¬ p = 0) (hq : ¬ q = 0) : a / p * (b / q) + c / p * (e / q) = (a * b + c * e) / (p * q) := by grind
theorem q_sq1 {n d : Rat} (hd : ¬ d = 0) : 1 + n / d * (n / d) = (d * d + n * n) / (d * d) /\ 1 - n / d * (n / d) = (d * d - n * n) / (d * d) /\ n / d + n / d = (n + n) * d / (d * d) := by
 refine ⟨?_, ?_, ?_⟩ <;> grind
theorem q_cos {n d : Rat} (hd : ¬ d = 0) (hD : ¬ d * d + n * n = 0) : (1 - n / d * (n / d)) / (1 + n / d * (n / d)) = (d * d - n * n) / (d * d + n * n) /\ (n / d + n / d) / (1 + n / d * (n / d)) = (n + n) * d / (d * d + n * n) := by
 obtain ⟨e1, e2, e3⟩ := q_sq1 (n := n) hd
 have h2 : ¬ d * d = 0 := fun h => (Rat.mul_eq_zero.1 h).elim hd hd
 rw [e1, e2, e3]
 exact ⟨q_dd hD h2, q_dd hD h2⟩
theorem then_cs (h : Bool) (t : Rat) (g : Bool) (s : Rat) :
  qN (thH h t g s) (thT h t g s) = qN h t * qN g s - qx h t * qx g s /\ qx (thH h t g s) (thT h t g s) = qx h t * qN g s + qN h t * qx g s := by
 have ht := sq_pos1 t
 have hs := sq_pos1 s
 have mz : ∀ x y : Rat, ¬ x = 0 -> ¬ y = 0 -> ¬ x * y = 0 := fun x y hx hy h => (Rat.mul_eq_zero.1 h).elim hx hy
 have hD := mz _ _ ht hs
 simp only [qN, qx, thH, thT, qe]
 cases h <;> cases g <;> simp only [Bool.false_eq_true, if_false, if_true, kD]
 ·rw [q_sub ht hs, q_add ht hs]
  by_cases h0 : 1 - t * s = 0
  ·rw [if_pos h0, if_pos h0]
   have e : t * s = 1 := by grind
   rw [show (1 - t * t) * (1 - s * s) - (t + t) * (s + s) = -((1 + t * t) * (1 + s * s)) by grind, show (t + t) * (1 - s * s) + (1 - t * t) * (s + s) = 0 by grind]
   generalize (1 + t * t) * (1 + s * s) = D at *
   constructor <;> grind
  ·rw [if_neg h0, if_neg h0, if_neg h0]
   have hE : (1 - t * s) * (1 - t * s) + (t + s) * (t + s) = (1 + t * t) * (1 + s * s) := by grind
   obtain ⟨e1, e2⟩ := q_cos (n := t + s) (d := 1 - t * s) h0 (by rw [hE]; exact hD)
   rw [e1, e2, hE]
   rw [show (1 - t * s) * (1 - t * s) - (t + s) * (t + s) = (1 - t * t) * (1 - s * s) - (t + t) * (s + s) by grind, show (t + s + (t + s)) * (1 - t * s) = (t + t) * (1 - s * s) + (1 - t * t) * (s + s) by grind]
   exact ⟨rfl, rfl⟩
 ·by_cases h0 : t = 0
  ·subst h0
   simp only [if_true]
   constructor <;> grind
  ·simp only [if_neg h0]
   have hE : t * t + -1 * -1 = 1 + t * t := by grind
   obtain ⟨e1, e2⟩ := q_cos (n := -1) (d := t) h0 (by rw [hE]; exact ht)
   rw [e1, e2, hE]
   generalize 1 + t * t = D at *
   constructor <;> grind
 ·by_cases h0 : s = 0
  ·subst h0
   simp only [if_true]
   constructor <;> grind
  ·simp only [if_neg h0]
   have hE : s * s + -1 * -1 = 1 + s * s := by grind
   obtain ⟨e1, e2⟩ := q_cos (n := -1) (d := s) h0 (by rw [hE]; exact hs)
   rw [e1, e2, hE]
   generalize 1 + s * s = D at *
   constructor <;> grind
 ·constructor <;> grind
theorem th_norm (h : Bool) (t : Rat) (g : Bool) (s : Rat) : thH h t g s = true -> thT h t g s = 0 := by
 rw [thH, thT, qe, qe]
 cases h <;> cases g <;> simp only [Bool.false_eq_true, if_false, if_true, kD]
 ·intro h; rw [if_pos h]
 ·intro h; rw [if_pos h]
 ·intro h; rw [if_pos h]
 ·exact fun h => h.elim
theorem ft_of {h : Bool} {t : Rat} (n : h = true -> t = 0) : ftT h t = t := by
 rw [ftT, qe]
 cases h
 ·rfl
 ·exact (n rfl).symm
structure Sp where
 lo : Rat
 hi : Rat
 ok : lo <= hi
def Sp.has (s : Sp) (x : Rat) : Prop := s.lo <= x /\ x <= s.hi
def Sp.win (s t : Sp) : Prop := t.lo <= s.lo /\ s.hi <= t.hi
theorem Sp.has_lo (s : Sp) : s.has s.lo := ⟨Rat.le_refl, s.ok⟩
theorem Sp.has_hi (s : Sp) : s.has s.hi := ⟨s.ok, Rat.le_refl⟩
theorem Sp.win_has {s t : Sp} {x : Rat} (h : s.win t) (hx : s.has x) : t.has x := ⟨Rat.le_trans h.1 hx.1, Rat.le_trans hx.2 h.2⟩
theorem Sp.win_refl (s : Sp) : s.win s := ⟨Rat.le_refl, Rat.le_refl⟩
def qk (a b : Rat) : Sp := if h : a <= b then ⟨a, b, h⟩ else ⟨0, 0, Rat.le_refl⟩
theorem qM (s : Sp) : qk s.lo s.hi = s := by unfold qk; rw [dif_pos s.ok]
theorem fitS_lo {a b : Rat} (h : a <= b) : (qk a b).lo = a := by unfold qk; rw [dif_pos h]
theorem fitS_hi {a b : Rat} (h : a <= b) : (qk a b).hi = b := by unfold qk; rw [dif_pos h]
def ofS (x : Rat) : Sp := ⟨x, x, Rat.le_refl⟩
theorem ofS_has (x : Rat) : (ofS x).has x := ⟨Rat.le_refl, Rat.le_refl⟩
theorem mnR_l (a b : Rat) : mnR a b <= a := by unfold mnR; split <;> grind
theorem mnR_r (a b : Rat) : mnR a b <= b := by unfold mnR; split <;> grind
theorem le_mnR {a b x : Rat} (h : x <= a) (h' : x <= b) : x <= mnR a b := by unfold mnR; split <;> assumption
theorem mxR_l (a b : Rat) : a <= mxR a b := by unfold mxR; split <;> grind
theorem mxR_r (a b : Rat) : b <= mxR a b := by unfold mxR; split <;> grind
theorem mxR_le {a b x : Rat} (h : a <= x) (h' : b <= x) : mxR a b <= x := by unfold mxR; split <;> assumption
theorem mn_mx (a b : Rat) : mnR a b <= mxR a b := Rat.le_trans (mnR_l a b) (mxR_l a b)
def addS (A B : Sp) : Sp := ⟨A.lo + B.lo, A.hi + B.hi, by have := A.ok; have := B.ok; grind⟩
def subS (A B : Sp) : Sp := ⟨A.lo - B.hi, A.hi - B.lo, by have := A.ok; have := B.ok; grind⟩
theorem add_has {A B : Sp} {x y : Rat} (hx : A.has x) (hy : B.has y) : (addS A B).has (x + y) := by
 obtain ⟨a, b⟩ := hx; obtain ⟨c, d⟩ := hy
 show A.lo + B.lo <= x + y /\ x + y <= A.hi + B.hi
 constructor <;> grind
theorem sub_has {A B : Sp} {x y : Rat} (hx : A.has x) (hy : B.has y) : (subS A B).has (x - y) := by
 obtain ⟨a, b⟩ := hx; obtain ⟨c, d⟩ := hy
 show A.lo - B.hi <= x - y /\ x - y <= A.hi - B.lo
 constructor <;> grind
theorem add_win {A B A' B' : Sp} (hA : A'.win A) (hB : B'.win B) : (addS A' B').win (addS A B) := by
 obtain ⟨a, b⟩ := hA; obtain ⟨c, d⟩ := hB
 show A.lo + B.lo <= A'.lo + B'.lo /\ A'.hi + B'.hi <= A.hi + B.hi
 constructor <;> grind
theorem sub_win {A B A' B' : Sp} (hA : A'.win A) (hB : B'.win B) : (subS A' B').win (subS A B) := by
 obtain ⟨a, b⟩ := hA; obtain ⟨c, d⟩ := hB
 show A.lo - B.hi <= A'.lo - B'.hi /\ A'.hi - B'.lo <= A.hi - B.lo
 constructor <;> grind
theorem lin_lo {a c d y m : Rat} (h1 : c <= y) (h2 : y <= d) (h3 : m <= a * c) (h4 : m <= a * d) : m <= a * y := by
 rcases Rat.le_total (a := 0) (b := a) with h | h
 ·exact Rat.le_trans h3 (Rat.mul_le_mul_of_nonneg_left h1 h)
 ·have := Rat.mul_le_mul_of_nonneg_left (c := -a) h2 (by grind)
  grind
theorem lin_hi {a c d y m : Rat} (h1 : c <= y) (h2 : y <= d) (h3 : a * c <= m) (h4 : a * d <= m) : a * y <= m := by
 rcases Rat.le_total (a := 0) (b := a) with h | h
 ·exact Rat.le_trans (Rat.mul_le_mul_of_nonneg_left h2 h) h4
 ·have := Rat.mul_le_mul_of_nonneg_left (c := -a) h1 (by grind)
  grind
def spmL (A B : Sp) : Rat := mnR (mnR (mnR (A.lo * B.lo) (A.lo * B.hi)) (A.hi * B.lo)) (A.hi * B.hi)
def spmH (A B : Sp) : Rat := mxR (mxR (mxR (A.lo * B.lo) (A.lo * B.hi)) (A.hi * B.lo)) (A.hi * B.hi)
theorem spmL_le (A B : Sp) : spmL A B <= A.lo * B.lo /\ spmL A B <= A.lo * B.hi /\ spmL A B <= A.hi * B.lo /\ spmL A B <= A.hi * B.hi := by
 have h1 := mnR_l (mnR (mnR (A.lo * B.lo) (A.lo * B.hi)) (A.hi * B.lo)) (A.hi * B.hi)
 have h2 := mnR_l (mnR (A.lo * B.lo) (A.lo * B.hi)) (A.hi * B.lo)
 exact ⟨Rat.le_trans h1 (Rat.le_trans h2 (mnR_l _ _)), Rat.le_trans h1 (Rat.le_trans h2 (mnR_r _ _)), Rat.le_trans h1 (mnR_r _ _), mnR_r _ _⟩
theorem le_spmH (A B : Sp) : A.lo * B.lo <= spmH A B /\ A.lo * B.hi <= spmH A B /\ A.hi * B.lo <= spmH A B /\ A.hi * B.hi <= spmH A B := by
 have h1 := mxR_l (mxR (mxR (A.lo * B.lo) (A.lo * B.hi)) (A.hi * B.lo)) (A.hi * B.hi)
 have h2 := mxR_l (mxR (A.lo * B.lo) (A.lo * B.hi)) (A.hi * B.lo)
 exact ⟨Rat.le_trans (mxR_l _ _) (Rat.le_trans h2 h1), Rat.le_trans (mxR_r _ _) (Rat.le_trans h2 h1), Rat.le_trans (mxR_r _ _) h1, mxR_r _ _⟩
def mulS (A B : Sp) : Sp := ⟨spmL A B, spmH A B, Rat.le_trans (spmL_le A B).1 (le_spmH A B).1⟩
theorem mul_has {A B : Sp} {x y : Rat} (hx : A.has x) (hy : B.has y) : (mulS A B).has (x * y) := by
 obtain ⟨a, b⟩ := hx; obtain ⟨c, d⟩ := hy
 obtain ⟨l1, l2, l3, l4⟩ := spmL_le A B
 obtain ⟨u1, u2, u3, u4⟩ := le_spmH A B
 constructor
 ·have e1 := lin_lo c d l1 l2
  have e2 := lin_lo c d l3 l4
  rw [Rat.mul_comm] at e1 e2 ⊢
  exact lin_lo a b e1 e2
 ·have e1 := lin_hi c d u1 u2
  have e2 := lin_hi c d u3 u4
  rw [Rat.mul_comm] at e1 e2 ⊢
  exact lin_hi a b e1 e2
theorem mul_win {A B A' B' : Sp} (hA : A'.win A) (hB : B'.win B) : (mulS A' B').win (mulS A B) := by
 have ha := Sp.win_has hA A'.has_lo
 have hb := Sp.win_has hA A'.has_hi
 have hc := Sp.win_has hB B'.has_lo
 have hd := Sp.win_has hB B'.has_hi
 have p1 := mul_has ha hc
 have p2 := mul_has ha hd
 have p3 := mul_has hb hc
 have p4 := mul_has hb hd
 exact ⟨le_mnR (le_mnR (le_mnR p1.1 p2.1) p3.1) p4.1, mxR_le (mxR_le (mxR_le p1.2 p2.2) p3.2) p4.2⟩
def sqL (A : Sp) : Rat := if A.lo <= 0 /\ 0 <= A.hi then 0 else mnR (A.lo * A.lo) (A.hi * A.hi)
theorem sqL_nn (A : Sp) : 0 <= sqL A := by
 unfold sqL
 split
 ·exact Rat.le_refl
 ·exact le_mnR (sq_nn _) (sq_nn _)
theorem sq_bd {A : Sp} {x : Rat} (hx : A.has x) : sqL A <= x * x /\ x * x <= mxR (A.lo * A.lo) (A.hi * A.hi) := by
 obtain ⟨a, b⟩ := hx
 constructor
 ·unfold sqL
  split
  ·exact sq_nn x
  ·rename_i h
   rcases Rat.le_total (a := A.lo) (b := 0) with g | g
   ·have h2 : A.hi <= 0 := by
     rcases Rat.le_total (a := A.hi) (b := 0) with k | k
     ·exact k
     ·exact absurd ⟨g, k⟩ h
    have := sq_le_sq (x := -A.hi) (y := -x) (by grind) (by grind)
    exact Rat.le_trans (mnR_r _ _) (by grind)
   ·exact Rat.le_trans (mnR_l _ _) (sq_le_sq g a)
 ·rcases Rat.le_total (a := 0) (b := x) with g | g
  ·exact Rat.le_trans (sq_le_sq g b) (mxR_r _ _)
  ·have := sq_le_sq (x := -x) (y := -A.lo) (by grind) (by grind)
   exact Rat.le_trans (by grind) (mxR_l (A.lo * A.lo) (A.hi * A.hi))
def sqS (A : Sp) : Sp := ⟨sqL A, mxR (A.lo * A.lo) (A.hi * A.hi), Rat.le_trans (sq_bd A.has_lo).1 (sq_bd A.has_lo).2⟩
theorem sq_has {A : Sp} {x : Rat} (hx : A.has x) : (sqS A).has (x * x) := sq_bd hx
theorem sq_win {A A' : Sp} (hA : A'.win A) : (sqS A').win (sqS A) := by
 have ha := sq_has (Sp.win_has hA A'.has_lo)
 have hb := sq_has (Sp.win_has hA A'.has_hi)
 refine ⟨?_, mxR_le ha.2 hb.2⟩
 show sqL A <= sqL A'
 by_cases h : A'.lo <= 0 /\ 0 <= A'.hi
 ·have h2 : A.lo <= 0 /\ 0 <= A.hi := ⟨Rat.le_trans hA.1 h.1, Rat.le_trans h.2 hA.2⟩
  rw [sqL, if_pos h2, sqL, if_pos h]
  exact Rat.le_refl
 ·rw [show sqL A' = mnR (A'.lo * A'.lo) (A'.hi * A'.hi) by rw [sqL, if_neg h]]
  exact le_mnR ha.1 hb.1
theorem div_le {x y d e : Rat} (hd : 0 < d) (he : 0 < e) (h : x * e <= y * d) : x / d <= y / e := by
 have hd0 : ¬ d = 0 := fun h => by rw [h] at hd; exact absurd hd (by decide)
 have he0 : ¬ e = 0 := fun h => by rw [h] at he; exact absurd he (by decide)
 have h1 : (d * e) * (x / d) = x * e := by grind
 have h2 : (d * e) * (y / e) = y * d := by grind
 exact Rat.le_of_mul_le_mul_left (by rw [h1, h2]; exact h) (Rat.mul_pos hd he)
def cf (a : Rat) : Rat := (1 - a) / (1 + a)
theorem cf_anti {a b : Rat} (ha : 0 <= a) (h : a <= b) : cf b <= cf a := by
 unfold cf
 exact div_le (by grind) (by grind) (by grind)
theorem cos_cf (x : Rat) : qN false x = cf (x * x) := by
 rw [qN, qe]; rfl
def cosS (A : Sp) : Sp := ⟨cf (sqS A).hi, cf (sqS A).lo, cf_anti (sqL_nn A) (sqS A).ok⟩
theorem cos_has {A : Sp} {x : Rat} (hx : A.has x) : (cosS A).has (qN false x) := by
 rw [cos_cf]
 have h := sq_has hx
 exact ⟨cf_anti (sq_nn x) h.2, cf_anti (sqL_nn A) h.1⟩
theorem cos_win {A A' : Sp} (hA : A'.win A) : (cosS A').win (cosS A) := by
 have h := sq_win hA
 exact ⟨cf_anti (Rat.le_trans (sqL_nn A') (sqS A').ok) h.2, cf_anti (sqL_nn A) h.1⟩
theorem sin_eq (x : Rat) : qx false x = (x + x) / (1 + x * x) := by
 rw [qx, qe]; rfl
theorem one_sq (x : Rat) : 0 < 1 + x * x := by have := sq_nn x; grind
theorem sin_up {a b : Rat} (h : a <= b) (h1 : a * b <= 1) : qx false a <= qx false b := by
 rw [sin_eq, sin_eq]
 have := Rat.mul_nonneg (a := b - a) (b := 1 - a * b) (by grind) (by grind)
 exact div_le (one_sq a) (one_sq b) (by grind)
theorem sin_dn {a b : Rat} (h : a <= b) (h1 : 1 <= a * b) : qx false b <= qx false a := by
 rw [sin_eq, sin_eq]
 have := Rat.mul_nonneg (a := b - a) (b := a * b - 1) (by grind) (by grind)
 exact div_le (one_sq b) (one_sq a) (by grind)
theorem sin_1 : qx false 1 = 1 := by rw [sin_eq]; grind
theorem sin_m1 : qx false (-1) = -1 := by rw [sin_eq]; grind
theorem sin_le1 (x : Rat) : qx false x <= 1 := by
 rw [sin_eq]
 have := sq_nn (1 - x)
 exact Rat.le_trans (div_le (y := 1) (e := 1) (one_sq x) (by decide) (by grind)) (by grind)
theorem sin_ge1 (x : Rat) : -1 <= qx false x := by
 rw [sin_eq]
 have := sq_nn (1 + x)
 exact Rat.le_trans (by grind) (div_le (x := -1) (d := 1) (by decide) (one_sq x) (by grind))
theorem unit_mul {x y : Rat} (h1 : -1 <= x) (h2 : x <= 1) (h3 : -1 <= y) (h4 : y <= 1) : x * y <= 1 := by
 have a := Rat.mul_nonneg (a := 1 - x) (b := 1 + y) (by grind) (by grind)
 have b := Rat.mul_nonneg (a := 1 + x) (b := 1 - y) (by grind) (by grind)
 grind
theorem big_mul {x y : Rat} (h1 : 1 <= x) (h2 : 1 <= y) : 1 <= x * y := by
 have a := Rat.mul_nonneg (a := x - 1) (b := y - 1) (by grind) (by grind)
 grind
theorem sin_max {A : Sp} {x : Rat} (hx : A.has x) (h1 : ¬ A.has 1) : qx false x <= mxR (qx false A.lo) (qx false A.hi) := by
 obtain ⟨a, b⟩ := hx
 have hc : 1 < A.lo \/ A.hi < 1 := by
  rcases Rat.le_total (a := A.lo) (b := 1) with g | g
  ·rcases Rat.le_total (a := 1) (b := A.hi) with k | k
   ·exact absurd ⟨g, k⟩ h1
   ·rcases Rat.le_iff_lt_or_eq.1 k with k | k
    ·exact .inr k
    ·exact absurd ⟨g, by rw [k]; exact Rat.le_refl⟩ h1
  ·rcases Rat.le_iff_lt_or_eq.1 g with k | k
   ·exact .inl k
   ·exact absurd ⟨by rw [k]; exact Rat.le_refl, by rw [k]; exact A.ok⟩ h1
 rcases hc with hc | hc
 ·exact Rat.le_trans (sin_dn a (big_mul (by grind) (by grind))) (mxR_l _ _)
 ·rcases Rat.le_total (a := -1) (b := x) with g | g
  ·exact Rat.le_trans (sin_up b (unit_mul g (by grind) (by grind) (by grind))) (mxR_r _ _)
  ·have := big_mul (x := -A.lo) (y := -x) (by grind) (by grind)
   exact Rat.le_trans (sin_dn a (by grind)) (mxR_l _ _)
theorem sin_min {A : Sp} {x : Rat} (hx : A.has x) (h1 : ¬ A.has (-1)) : mnR (qx false A.lo) (qx false A.hi) <= qx false x := by
 obtain ⟨a, b⟩ := hx
 have hc : -1 < A.lo \/ A.hi < -1 := by
  rcases Rat.le_total (a := A.lo) (b := -1) with g | g
  ·rcases Rat.le_total (a := -1) (b := A.hi) with k | k
   ·exact absurd ⟨g, k⟩ h1
   ·rcases Rat.le_iff_lt_or_eq.1 k with k | k
    ·exact .inr k
    ·exact absurd ⟨g, by rw [k]; exact Rat.le_refl⟩ h1
  ·rcases Rat.le_iff_lt_or_eq.1 g with k | k
   ·exact .inl k
   ·exact absurd ⟨by rw [k]; exact Rat.le_refl, by rw [k]; exact A.ok⟩ h1
 rcases hc with hc | hc
 ·rcases Rat.le_total (a := x) (b := 1) with g | g
  ·exact Rat.le_trans (mnR_l _ _) (sin_up a (unit_mul (by grind) (by grind) (by grind) g))
  ·exact Rat.le_trans (mnR_r _ _) (sin_dn b (big_mul g (by grind)))
 ·have := big_mul (x := -x) (y := -A.hi) (by grind) (by grind)
  exact Rat.le_trans (mnR_r _ _) (sin_dn b (by grind))
def joinS (A B : Sp) : Sp := ⟨mnR A.lo B.lo, mxR A.hi B.hi, Rat.le_trans (mnR_l _ _) (Rat.le_trans A.ok (mxR_l _ _))⟩
theorem join_l (A B : Sp) : A.win (joinS A B) := ⟨mnR_l _ _, mxR_l _ _⟩
theorem join_r (A B : Sp) : B.win (joinS A B) := ⟨mnR_r _ _, mxR_r _ _⟩
theorem join_win {A B C : Sp} (h : A.win C) (h' : B.win C) : (joinS A B).win C := ⟨le_mnR h.1 h'.1, mxR_le h.2 h'.2⟩
theorem ofS_win {C : Sp} {x : Rat} (h : C.has x) : (ofS x).win C := h
theorem Sp.win_trans {A B C : Sp} (h : A.win B) (h' : B.win C) : A.win C := ⟨Rat.le_trans h'.1 h.1, Rat.le_trans h.2 h'.2⟩
def hasB (A : Sp) (x : Rat) : Bool := decide (A.lo <= x) && decide (x <= A.hi)
theorem hasB_iff {A : Sp} {x : Rat} : hasB A x = true ↔ A.has x := by simp [hasB, Sp.has]
def sinS0 (A : Sp) : Sp := joinS (ofS (qx false A.lo)) (ofS (qx false A.hi))
def sinS1 (A : Sp) : Sp := if hasB A (-1) = true then joinS (sinS0 A) (ofS (-1)) else sinS0 A
def sinS (A : Sp) : Sp := if hasB A 1 = true then joinS (sinS1 A) (ofS 1) else sinS1 A
theorem sin01 (A : Sp) : (sinS0 A).win (sinS1 A) := by
 unfold sinS1; split
 ·exact join_l _ _
 ·exact Sp.win_refl _
theorem sin12 (A : Sp) : (sinS1 A).win (sinS A) := by
 unfold sinS; split
 ·exact join_l _ _
 ·exact Sp.win_refl _
theorem sin_has {A : Sp} {x : Rat} (hx : A.has x) : (sinS A).has (qx false x) := by
 constructor
 ·by_cases h : A.has (-1)
  ·have e : (ofS (-1)).win (sinS1 A) := by
    rw [sinS1, if_pos (hasB_iff.2 h)]; exact join_r _ _
   exact Rat.le_trans (Sp.win_trans e (sin12 A)).1 (sin_ge1 x)
  ·exact Rat.le_trans (Sp.win_trans (sin01 A) (sin12 A)).1 (sin_min hx h)
 ·by_cases h : A.has 1
  ·have e : (ofS 1).win (sinS A) := by
    rw [sinS, if_pos (hasB_iff.2 h)]; exact join_r _ _
   exact Rat.le_trans (sin_le1 x) e.2
  ·exact Rat.le_trans (sin_max hx h) (Sp.win_trans (sin01 A) (sin12 A)).2
theorem sin_win {A A' : Sp} (hA : A'.win A) : (sinS A').win (sinS A) := by
 have h0 : (sinS0 A').win (sinS A) := join_win (ofS_win (sin_has (Sp.win_has hA A'.has_lo))) (ofS_win (sin_has (Sp.win_has hA A'.has_hi)))
 have h1 : (sinS1 A').win (sinS A) := by
  unfold sinS1
  split
  ·rename_i h
   have := sin_has (Sp.win_has hA (hasB_iff.1 h))
   rw [sin_m1] at this
   exact join_win h0 (ofS_win this)
  ·exact h0
 show (if hasB A' 1 = true then joinS (sinS1 A') (ofS 1) else sinS1 A').win (sinS A)
 split
 ·rename_i h
  have := sin_has (Sp.win_has hA (hasB_iff.1 h))
  rw [sin_1] at this
  exact join_win h1 (ofS_win this)
 ·exact h1
def dnR (x : Rat) : Rat := hide (((x * 1000000).floor : Rat) / 1000000)
def upR (x : Rat) : Rat := hide (-(dnR (-x)))
theorem dn_le (x : Rat) : dnR x <= x := by
 rw [dnR, qe]
 have h := Rat.floor_le (x * 1000000)
 have e : x = (x * 1000000) / 1000000 := by grind
 conv => rhs; rw [e]
 generalize ((x * 1000000).floor : Rat) = k at *
 generalize x * 1000000 = z at *
 exact div_le (by decide) (by decide) (by grind)
theorem dn_mono {x y : Rat} (h : x <= y) : dnR x <= dnR y := by
 rw [dnR, dnR, qe, qe]
 have h1 : (x * 1000000).floor <= (y * 1000000).floor := Rat.floor_monotone (by grind)
 have h2 : ((x * 1000000).floor : Rat) <= ((y * 1000000).floor : Rat) := by exact_mod_cast h1
 exact div_le (by decide) (by decide) (by grind)
theorem up_ge (x : Rat) : x <= upR x := by
 rw [upR, qe]; have := dn_le (-x); grind
theorem up_mono {x y : Rat} (h : x <= y) : upR x <= upR y := by
 rw [upR, upR, qe, qe]; have := dn_mono (x := -y) (y := -x) (by grind); grind
def cutL (A : Sp) : Rat := hide (mxR (dnR A.lo) (-1))
def cutH (A : Sp) : Rat := hide (mnR (upR A.hi) 1)
def cutS (A : Sp) : Sp := qk (cutL A) (cutH A)
theorem cut_raw {A : Sp} {x : Rat} (hx : A.has x) (h1 : -1 <= x) (h2 : x <= 1) : cutL A <= x /\ x <= cutH A := by
 rw [cutL, cutH, qe, qe]
 exact ⟨mxR_le (Rat.le_trans (dn_le _) hx.1) h1, le_mnR (Rat.le_trans hx.2 (up_ge _)) h2⟩
theorem cut_ok {A : Sp} {x : Rat} (hx : A.has x) (h1 : -1 <= x) (h2 : x <= 1) : cutL A <= cutH A := Rat.le_trans (cut_raw hx h1 h2).1 (cut_raw hx h1 h2).2
theorem cut_has {A : Sp} {x : Rat} (hx : A.has x) (h1 : -1 <= x) (h2 : x <= 1) : (cutS A).has x := by
 have h := cut_ok hx h1 h2
 unfold cutS Sp.has
 rw [fitS_lo h, fitS_hi h]
 exact cut_raw hx h1 h2
theorem cut_win {A A' : Sp} {x : Rat} (hA : A'.win A) (hx : A'.has x) (h1 : -1 <= x) (h2 : x <= 1) : (cutS A').win (cutS A) := by
 have h := cut_ok hx h1 h2
 have h' := cut_ok (Sp.win_has hA hx) h1 h2
 unfold cutS Sp.win
 rw [fitS_lo h, fitS_hi h, fitS_lo h', fitS_hi h', cutL, cutL, cutH, cutH, qe, qe, qe, qe]
 exact ⟨mxR_le (Rat.le_trans (dn_mono hA.1) (mxR_l _ _)) (mxR_r _ _), le_mnR (Rat.le_trans (mnR_l _ _) (up_mono hA.2)) (mnR_r _ _)⟩
structure Lz where
 X : Sp
 Y : Sp
 C : Sp
 S : Sp
def Lz.hasF (l : Lz) (f : Fr) : Prop := l.X.has f.x /\ l.Y.has f.y /\ l.C.has (qN f.h f.t) /\ l.S.has (qx f.h f.t)
def Lz.win (l m : Lz) : Prop := l.X.win m.X /\ l.Y.win m.Y /\ l.C.win m.C /\ l.S.win m.S
def lz0 (b : Fr) : Lz := ⟨ofS b.x, ofS b.y, ofS (qN b.h b.t), ofS (qx b.h b.t)⟩
def lcC (Q : Sp) (l : Lz) : Sp := subS (mulS l.C (cosS Q)) (mulS l.S (sinS Q))
def lcS (Q : Sp) (l : Lz) : Sp := addS (mulS l.S (cosS Q)) (mulS l.C (sinS Q))
def lturn (Q : Sp) (l : Lz) : Lz := ⟨l.X, l.Y, cutS (lcC Q l), cutS (lcS Q l)⟩
def lstep (L : Rat) (l : Lz) : Lz := ⟨addS l.X (mulS (ofS L) l.C), addS l.Y (mulS (ofS L) l.S), l.C, l.S⟩
def lzE (b : Fr) (Q : Nat -> Sp) (L : Nat -> Rat) : Nat -> Lz
 | 0 => lz0 b
 | i + 1 => lstep (L i) (lturn (Q i) (lzE b Q L i))
def lzF (b : Fr) (Q : Nat -> Sp) (L : Nat -> Rat) (i : Nat) : Lz := lturn (Q i) (lzE b Q L i)
def lzA (b : Fr) (Q : Nat -> Sp) (L : Nat -> Rat) (n i : Nat) : Lz := if i < n then lzF b Q L i else lzE b Q L n
theorem cs_bd (h : Bool) (t : Rat) : (-1 <= qN h t /\ qN h t <= 1) /\ (-1 <= qx h t /\ qx h t <= 1) := by
 have e := cos_sin h t
 have a := sq_nn (qN h t)
 have b := sq_nn (qx h t)
 have up : ∀ z : Rat, z * z <= 1 -> -1 <= z /\ z <= 1 := fun z hz => by
  have h1 := sq_le_of (x := z) (y := 1) (by decide) (by grind)
  have h2 := sq_le_of (x := -z) (y := 1) (by decide) (by grind)
  exact ⟨by grind, h1⟩
 exact ⟨up _ (by grind), up _ (by grind)⟩
theorem lc_has {b : Fr} {Q : Sp} {l : Lz} {q : Rat} (h : l.hasF b) (hq : Q.has q) : (lcC Q l).has (qN (thH b.h b.t false q) (thT b.h b.t false q)) /\ (lcS Q l).has (qx (thH b.h b.t false q) (thT b.h b.t false q)) := by
 obtain ⟨h1, h2, h3, h4⟩ := h
 obtain ⟨c, s⟩ := then_cs b.h b.t false q
 rw [c, s]
 exact ⟨sub_has (mul_has h3 (cos_has hq)) (mul_has h4 (sin_has hq)), add_has (mul_has h4 (cos_has hq)) (mul_has h3 (sin_has hq))⟩
theorem lturn_has {b : Fr} {Q : Sp} {l : Lz} {q : Rat} (h : l.hasF b) (hq : Q.has q) : (lturn Q l).hasF (fstep q b) := by
 obtain ⟨c, s⟩ := lc_has h hq
 have bd := cs_bd (thH b.h b.t false q) (thT b.h b.t false q)
 exact ⟨h.1, h.2.1, cut_has c bd.1.1 bd.1.2, cut_has s bd.2.1 bd.2.2⟩
theorem lstep_has {f : Fr} {l : Lz} {L : Rat} (h : l.hasF f) (hf : f.h = true -> f.t = 0) : (lstep L l).hasF (estep L f) := by
 obtain ⟨h1, h2, h3, h4⟩ := h
 unfold estep
 rw [ft_of hf]
 exact ⟨add_has h1 (mul_has (ofS_has L) h3), add_has h2 (mul_has (ofS_has L) h4), h3, h4⟩
theorem lzE_has {b : Fr} {Q : Nat -> Sp} {q L : Nat -> Rat} : ∀ (i : Nat), (∀ j, j < i -> (Q j).has (q j)) -> (lzE b Q L i).hasF (endR b q L i)
 | 0, _ => ⟨ofS_has _, ofS_has _, ofS_has _, ofS_has _⟩
 | i + 1, h => lstep_has (lturn_has (lzE_has i fun j hj => h j (by omega)) (h i (by omega))) (th_norm _ _ _ _)
theorem lzF_has {b : Fr} {Q : Nat -> Sp} {q L : Nat -> Rat} (i : Nat) (h : ∀ j, j <= i -> (Q j).has (q j)) : (lzF b Q L i).hasF (frmF b q L i) :=
 lturn_has (lzE_has i fun j hj => h j (by omega)) (h i (Nat.le_refl _))
theorem lzA_has {b : Fr} {Q : Nat -> Sp} {q L : Nat -> Rat} {n i : Nat} (hi : i <= n) (h : ∀ j, j < n -> (Q j).has (q j)) : (lzA b Q L n i).hasF (allF b q L n i) := by
 unfold lzA allF
 split
 ·exact lzF_has i fun j hj => h j (by omega)
 ·exact lzE_has n h
theorem lturn_win {b : Fr} {Q Q' : Sp} {l l' : Lz} {q : Rat} (h : l'.hasF b) (hq : Q'.has q) (hl : l'.win l) (hQ : Q'.win Q) : (lturn Q' l').win (lturn Q l) := by
 obtain ⟨c, s⟩ := lc_has h hq
 have bd := cs_bd (thH b.h b.t false q) (thT b.h b.t false q)
 obtain ⟨w1, w2, w3, w4⟩ := hl
 exact ⟨w1, w2, cut_win (sub_win (mul_win w3 (cos_win hQ)) (mul_win w4 (sin_win hQ))) c bd.1.1 bd.1.2, cut_win (add_win (mul_win w4 (cos_win hQ)) (mul_win w3 (sin_win hQ))) s bd.2.1 bd.2.2⟩
theorem lstep_win {l l' : Lz} {L : Rat} (hl : l'.win l) : (lstep L l').win (lstep L l) := by
 obtain ⟨w1, w2, w3, w4⟩ := hl
 exact ⟨add_win w1 (mul_win (Sp.win_refl _) w3), add_win w2 (mul_win (Sp.win_refl _) w4), w3, w4⟩
theorem lzE_win {b : Fr} {Q Q' : Nat -> Sp} {L : Nat -> Rat} : ∀ (i : Nat), (∀ j, j < i -> (Q' j).win (Q j)) -> (lzE b Q' L i).win (lzE b Q L i)
 | 0, _ => ⟨Sp.win_refl _, Sp.win_refl _, Sp.win_refl _, Sp.win_refl _⟩
 | i + 1, h => lstep_win (lturn_win (b := endR b (fun j => (Q' j).lo) L i) (q := (Q' i).lo) (lzE_has i fun j _ => (Q' j).has_lo) (Q' i).has_lo (lzE_win i fun j hj => h j (by omega)) (h i (by omega)))
theorem lzA_win {b : Fr} {Q Q' : Nat -> Sp} {L : Nat -> Rat} {n i : Nat} (hi : i <= n) (h : ∀ j, j < n -> (Q' j).win (Q j)) : (lzA b Q' L n i).win (lzA b Q L n i) := by
 unfold lzA
 split
 ·exact lturn_win (b := endR b (fun j => (Q' j).lo) L i) (q := (Q' i).lo) (lzE_has i fun j _ => (Q' j).has_lo) (Q' i).has_lo (lzE_win i fun j hj => h j (by omega)) (h i (by omega))
 ·exact lzE_win n h
def atX (l : Lz) (x y : Rat) : Sp := addS l.X (subS (mulS (ofS x) l.C) (mulS (ofS y) l.S))
def atY (l : Lz) (x y : Rat) : Sp := addS l.Y (addS (mulS (ofS x) l.S) (mulS (ofS y) l.C))
def ptX (f : Fr) (x y : Rat) : Rat := f.x + (x * qN f.h f.t - y * qx f.h f.t)
def ptY (f : Fr) (x y : Rat) : Rat := f.y + (x * qx f.h f.t + y * qN f.h f.t)
theorem at_has {l : Lz} {f : Fr} (h : l.hasF f) (x y : Rat) : (atX l x y).has (ptX f x y) /\ (atY l x y).has (ptY f x y) :=
 ⟨add_has h.1 (sub_has (mul_has (ofS_has x) h.2.2.1) (mul_has (ofS_has y) h.2.2.2)), add_has h.2.1 (add_has (mul_has (ofS_has x) h.2.2.2) (mul_has (ofS_has y) h.2.2.1))⟩
def jnS (g : Nat -> Sp) : Nat -> Sp
 | 0 => g 0
 | k + 1 => joinS (jnS g k) (g (k + 1))
theorem jn_has {g : Nat -> Sp} {x : Rat} {i : Nat} (hx : (g i).has x) : ∀ k, i <= k -> (jnS g k).has x
 | 0, h => by rw [show i = 0 by omega] at hx; exact hx
 | k + 1, h => by
  rcases Nat.lt_or_ge i (k + 1) with hi | hi
  ·exact Sp.win_has (join_l _ _) (jn_has hx k (by omega))
  ·rw [show i = k + 1 by omega] at hx
   exact Sp.win_has (join_r _ _) hx
end
section
open Go Tryz
set_option maxRecDepth 100000
variable {G : World -> (Nat -> Prop) -> Prop} (hG : GOk G)
theorem enLi : Enters prog 116 f116 (qd f116) := ⟨func116, by kernel_rfl, rfl⟩
theorem enPl : Enters prog 68 f68 (qd f68) := ⟨func68, by kernel_rfl, rfl⟩
def bLi : Code := (qi (qd f116)).getD 0 .skip
def polLi : Pol := { live := [(3, [2, 5, 11, 12, 13])] }
def OLi : Orc := [(89, g92)]
def lLi : qy := unr prog OLi [] polLi f116.ntmps 0 [2, 5, 11, 12, 13] bLi 5
theorem eLi3 (f : Fr) (px py : Nat -> Rat) : (evF prog OLi [(3, lLi)] polLi f116 [frP f 20000 1500, .lst 6 (.fn 3 (pv px py))] [] ql).run =
 (Tr.ok (.ret (.fr 6 (.fn 3 fun (j : Nat) => bif (j + 0).beq (2 : Nat) then .agg [.q (f.x + (px (2 : Nat) * qN f.h f.t - py (2 : Nat) * qx f.h f.t)) 32138, .q (f.y + (px (2 : Nat) * qx f.h f.t + py (2 : Nat) * qN f.h f.t)) 32138] else bif (j + 0).beq (1 : Nat) then .agg [.q (f.x + (px (1 : Nat) * qN f.h f.t - py (1 : Nat) * qx f.h f.t)) 32138, .q (f.y + (px (1 : Nat) * qx f.h f.t + py (1 : Nat) * qN f.h f.t)) 32138] else bif (j + 0).beq (0 : Nat) then .agg [.q (f.x + (px (0 : Nat) * qN f.h f.t - py (0 : Nat) * qx f.h f.t)) 32138, .q (f.y + (px (0 : Nat) * qx f.h f.t + py (0 : Nat) * qN f.h f.t)) 32138] else .agg [.agg [.bl false, .s (ByteArray.mk #[]), .s (ByteArray.mk #[])], .agg [.bl false, .s (ByteArray.mk #[]), .s (ByteArray.mk #[])]])) [])).run := by kernel_rfl
theorem eLi4 (f : Fr) (px py : Nat -> Rat) : (evF prog OLi [(3, lLi)] polLi f116 [frP f 20000 1500, .lst 6 (.fn 4 (pv px py))] [] ql).run =
 (Tr.ok (.ret (.fr 6 (.fn 4 fun (j : Nat) => bif (j + 0).beq (3 : Nat) then .agg [.q (f.x + (px (3 : Nat) * qN f.h f.t - py (3 : Nat) * qx f.h f.t)) 32138, .q (f.y + (px (3 : Nat) * qx f.h f.t + py (3 : Nat) * qN f.h f.t)) 32138] else bif (j + 0).beq (2 : Nat) then .agg [.q (f.x + (px (2 : Nat) * qN f.h f.t - py (2 : Nat) * qx f.h f.t)) 32138, .q (f.y + (px (2 : Nat) * qx f.h f.t + py (2 : Nat) * qN f.h f.t)) 32138] else bif (j + 0).beq (1 : Nat) then .agg [.q (f.x + (px (1 : Nat) * qN f.h f.t - py (1 : Nat) * qx f.h f.t)) 32138, .q (f.y + (px (1 : Nat) * qx f.h f.t + py (1 : Nat) * qN f.h f.t)) 32138] else bif (j + 0).beq (0 : Nat) then .agg [.q (f.x + (px (0 : Nat) * qN f.h f.t - py (0 : Nat) * qx f.h f.t)) 32138, .q (f.y + (px (0 : Nat) * qx f.h f.t + py (0 : Nat) * qN f.h f.t)) 32138] else .agg [.agg [.bl false, .s (ByteArray.mk #[]), .s (ByteArray.mk #[])], .agg [.bl false, .s (ByteArray.mk #[]), .s (ByteArray.mk #[])]])) [])).run := by kernel_rfl
def dF : PV -> Fr
 | .agg [.agg [.q x _, .q y _], .agg [hv, .q t _]] => ⟨x, y, (bof hv).getD false, t⟩
 | _ => ⟨0, 0, false, 0⟩
def plP (f : Fr) (px py : Nat -> Rat) (j : Nat) : PV := .agg [.q (ptX f (px j) (py j)) 32138, .q (ptY f (px j) (py j)) 32138]
def plF (v : PV) (g : Nat -> PV) : Nat -> PV := plP (dF v) (fun j => dq (fldV (g j) 0)) (fun j => dq (fldV (g j) 1))
def isLi (v : PV) (n : Nat) (g : Nat -> PV) : Prop := ∃ f px py, v = frP f 20000 1500 /\ g = pv px py /\ (n = 3 \/ n = 4)
def gLi : Spec := fun args hs K => match args, hs with
 | [v, .lst 6 (.fn n g)], [] => .br (qg (isLi v n g)) (K (.fr 6 (.fn n (plF v g))) []) (.no 1)
 | _, _ => .no 1
def armQ (A : Am) (n : Nat) : PV := .agg [.s A.name, .agg [.agg [.q A.bx 64, .q A.by_ 64], .agg [.bl false, .q A.t 64]], .lst 16 (.fn n (fun j => lkPV (A.lk j)))]
def bPl : Code := (qi (qd f68)).getD 0 .skip
def polPl : Pol := { live := [(6, [6, 8, 21, 22, 23])] }
def lPl : qy := unr prog [(116, gLi)] [] polPl f68.ntmps 0 [6, 8, 21, 22, 23] bPl 4
def OPl (A : Am) (n N : Nat) (q : List Rat) (ff : Nat -> Fr) : Orc := [(87, cst [armQ A n, .lst 3 (.rats 64 q)] True (.tup [.fr 10 (.fn N (fun i => frP (ff i) 20000 1500)), .i .i64 0])), (116, gLi)]
theorem ePl1 (A : Am) (q : List Rat) (ff : Nat -> Fr) : (evF prog (OPl A 1 2 q ff) [(6, lPl)] polPl f68 [armQ A 1, .lst 3 (.rats 64 q)] [] ql).run =
 (Tr.br (qg (isA [.agg [.s A.name, .agg [.agg [.q A.bx 64, .q A.by_ 64], .agg [.bl false, .q A.t 64]], .lst 16 (.fn 1 fun (j : Nat) => lkPV (A.lk j))], .lst 3 (.rats 64 q)] True [.agg [.s A.name, .agg [.agg [.q A.bx 64, .q A.by_ 64], .agg [.bl false, .q A.t 64]], .lst 16 (.fn 1 fun (j : Nat) => lkPV (A.lk j))], .lst 3 (.rats 64 q)])) (.br (qg (isLi (frP (ff (0 : Nat)) 20000 1500) (A.lk (0 : Nat)).np (pv (A.lk (0 : Nat)).px (A.lk (0 : Nat)).py))) (.br ((0 + (A.lk (0 : Nat)).np).ble (A.lk (0 : Nat)).np) (.ok (.ret (.tup [.fr 1 (.vals [.lst 6 (.fn (A.lk (0 : Nat)).np fun (j : Nat) => .agg [.q (ptX (dF (frP (ff (0 : Nat)) 20000 1500)) (dq (.q ((A.lk (0 : Nat)).px (j + 0)) 64)) (dq (.q ((A.lk (0 : Nat)).py (j + 0)) 64))) 32138, .q (ptY (dF (frP (ff (0 : Nat)) 20000 1500)) (dq (.q ((A.lk (0 : Nat)).px (j + 0)) 64)) (dq (.q ((A.lk (0 : Nat)).py (j + 0)) 64))) 32138])]), .i .i64 0]) [])) (.no 9004)) (.no 1)) (.no 1)).run := by kernel_rfl
theorem ePl2 (A : Am) (q : List Rat) (ff : Nat -> Fr) : (evF prog (OPl A 2 3 q ff) [(6, lPl)] polPl f68 [armQ A 2, .lst 3 (.rats 64 q)] [] ql).run =
 (Tr.br (qg (isA [.agg [.s A.name, .agg [.agg [.q A.bx 64, .q A.by_ 64], .agg [.bl false, .q A.t 64]], .lst 16 (.fn 2 fun (j : Nat) => lkPV (A.lk j))], .lst 3 (.rats 64 q)] True [.agg [.s A.name, .agg [.agg [.q A.bx 64, .q A.by_ 64], .agg [.bl false, .q A.t 64]], .lst 16 (.fn 2 fun (j : Nat) => lkPV (A.lk j))], .lst 3 (.rats 64 q)])) (.br (qg (isLi (frP (ff (0 : Nat)) 20000 1500) (A.lk (0 : Nat)).np (pv (A.lk (0 : Nat)).px (A.lk (0 : Nat)).py))) (.br ((0 + (A.lk (0 : Nat)).np).ble (A.lk (0 : Nat)).np) (.br (qg (isLi (frP (ff (1 : Nat)) 20000 1500) (A.lk (1 : Nat)).np (pv (A.lk (1 : Nat)).px (A.lk (1 : Nat)).py))) (.br ((0 + (A.lk (1 : Nat)).np).ble (A.lk (1 : Nat)).np) (.ok (.ret (.tup [.fr 1 (.vals [.lst 6 (.fn (A.lk (0 : Nat)).np fun (j : Nat) => .agg [.q (ptX (dF (frP (ff (0 : Nat)) 20000 1500)) (dq (.q ((A.lk (0 : Nat)).px (j + 0)) 64)) (dq (.q ((A.lk (0 : Nat)).py (j + 0)) 64))) 32138, .q (ptY (dF (frP (ff (0 : Nat)) 20000 1500)) (dq (.q ((A.lk (0 : Nat)).px (j + 0)) 64)) (dq (.q ((A.lk (0 : Nat)).py (j + 0)) 64))) 32138]), .lst 6 (.fn (A.lk (1 : Nat)).np fun (j : Nat) => .agg [.q (ptX (dF (frP (ff (1 : Nat)) 20000 1500)) (dq (.q ((A.lk (1 : Nat)).px (j + 0)) 64)) (dq (.q ((A.lk (1 : Nat)).py (j + 0)) 64))) 32138, .q (ptY (dF (frP (ff (1 : Nat)) 20000 1500)) (dq (.q ((A.lk (1 : Nat)).px (j + 0)) 64)) (dq (.q ((A.lk (1 : Nat)).py (j + 0)) 64))) 32138])]), .i .i64 0]) [])) (.no 9004)) (.no 1)) (.no 9004)) (.no 1)) (.no 1)).run := by kernel_rfl
theorem ePl3 (A : Am) (q : List Rat) (ff : Nat -> Fr) : (evF prog (OPl A 3 4 q ff) [(6, lPl)] polPl f68 [armQ A 3, .lst 3 (.rats 64 q)] [] ql).run =
 (Tr.br (qg (isA [.agg [.s A.name, .agg [.agg [.q A.bx 64, .q A.by_ 64], .agg [.bl false, .q A.t 64]], .lst 16 (.fn 3 fun (j : Nat) => lkPV (A.lk j))], .lst 3 (.rats 64 q)] True [.agg [.s A.name, .agg [.agg [.q A.bx 64, .q A.by_ 64], .agg [.bl false, .q A.t 64]], .lst 16 (.fn 3 fun (j : Nat) => lkPV (A.lk j))], .lst 3 (.rats 64 q)])) (.br (qg (isLi (frP (ff (0 : Nat)) 20000 1500) (A.lk (0 : Nat)).np (pv (A.lk (0 : Nat)).px (A.lk (0 : Nat)).py))) (.br ((0 + (A.lk (0 : Nat)).np).ble (A.lk (0 : Nat)).np) (.br (qg (isLi (frP (ff (1 : Nat)) 20000 1500) (A.lk (1 : Nat)).np (pv (A.lk (1 : Nat)).px (A.lk (1 : Nat)).py))) (.br ((0 + (A.lk (1 : Nat)).np).ble (A.lk (1 : Nat)).np) (.br (qg (isLi (frP (ff (2 : Nat)) 20000 1500) (A.lk (2 : Nat)).np (pv (A.lk (2 : Nat)).px (A.lk (2 : Nat)).py))) (.br ((0 + (A.lk (2 : Nat)).np).ble (A.lk (2 : Nat)).np) (.ok (.ret (.tup [.fr 1 (.vals [.lst 6 (.fn (A.lk (0 : Nat)).np fun (j : Nat) => .agg [.q (ptX (dF (frP (ff (0 : Nat)) 20000 1500)) (dq (.q ((A.lk (0 : Nat)).px (j + 0)) 64)) (dq (.q ((A.lk (0 : Nat)).py (j + 0)) 64))) 32138, .q (ptY (dF (frP (ff (0 : Nat)) 20000 1500)) (dq (.q ((A.lk (0 : Nat)).px (j + 0)) 64)) (dq (.q ((A.lk (0 : Nat)).py (j + 0)) 64))) 32138]), .lst 6 (.fn (A.lk (1 : Nat)).np fun (j : Nat) => .agg [.q (ptX (dF (frP (ff (1 : Nat)) 20000 1500)) (dq (.q ((A.lk (1 : Nat)).px (j + 0)) 64)) (dq (.q ((A.lk (1 : Nat)).py (j + 0)) 64))) 32138, .q (ptY (dF (frP (ff (1 : Nat)) 20000 1500)) (dq (.q ((A.lk (1 : Nat)).px (j + 0)) 64)) (dq (.q ((A.lk (1 : Nat)).py (j + 0)) 64))) 32138]), .lst 6 (.fn (A.lk (2 : Nat)).np fun (j : Nat) => .agg [.q (ptX (dF (frP (ff (2 : Nat)) 20000 1500)) (dq (.q ((A.lk (2 : Nat)).px (j + 0)) 64)) (dq (.q ((A.lk (2 : Nat)).py (j + 0)) 64))) 32138, .q (ptY (dF (frP (ff (2 : Nat)) 20000 1500)) (dq (.q ((A.lk (2 : Nat)).px (j + 0)) 64)) (dq (.q ((A.lk (2 : Nat)).py (j + 0)) 64))) 32138])]), .i .i64 0]) [])) (.no 9004)) (.no 1)) (.no 9004)) (.no 1)) (.no 9004)) (.no 1)) (.no 1)).run := by kernel_rfl
theorem kl_ff {e n : Nat} {f g : Nat -> PV} (h : ∀ i, i < n -> noRef 8 (f i) = true /\ VLe (f i) (g i)) : KLe ⟨e, .fn n f⟩ ⟨e, .fn n g⟩ := by
 intro w S μ a z hb
 obtain ⟨c, T, cs, h1, h2, h3, h4, h5, h6⟩ := hb
 refine ⟨c, T, cs, h1, h2, h3, fun i hi => ?_, h5, h6⟩
 have h7 := h4 i hi
 simp only [Cont.get, qB] at h7 ⊢
 exact ((h i hi).2.2 w S qO).1 _ h7
theorem fr_ff (e n : Nat) {f g : Nat -> PV} (h : ∀ i, i < n -> noRef 8 (f i) = true /\ VLe (f i) (g i)) : RLe (.fr e (.fn n f)) (.fr e (.fn n g)) :=
 ⟨fun m => .refl _, fun m => KsLe.one (kl_ff h)⟩
include hG in
theorem gkLi (hT : qo G) : qc prog G 116 gLi := by
 intro args hs K x h
 unfold gLi at h
 split at h
 case h_2 => cases h
 rename_i v n g
 obtain ⟨hc, hr⟩ := k8 h
 obtain ⟨f, px, py, rfl, rfl, hn⟩ := decP_iff.1 hc
 have orc : OrcOK prog G OLi := .cons (gk92 hG hT) .nil
 have hl := lps1 (P := prog) (G := G) (pol := polLi) (n := f116.ntmps) (m := 0) (L := [(3, lLi)]) (c := qd f116) (b := bLi) (live := [2, 5, 11, 12, 13]) (sp := lLi) (by kernel_rfl) (by kernel_rfl) (by kernel_rfl) (unr_ok hG orc mix (k9 (by kernel_rfl)) 5)
 refine ⟨_, _, ?_, hr⟩
 rcases hn with rfl | rfl
 ·refine (qj hG orc mix enLi (hs := []) (pol := polLi) (L := [(3, lLi)]) hl ((eLi3 f px py).trans k7)).le (fr_ff 6 3 fun i hi => ?_) (.refl _)
  match i, hi with
  | 0, _ => exact ⟨rfl, .refl _⟩
  | 1, _ => exact ⟨rfl, .refl _⟩
  | 2, _ => exact ⟨rfl, .refl _⟩
  | i + 3, hi => exact absurd hi (by omega)
 ·refine (qj hG orc mix enLi (hs := []) (pol := polLi) (L := [(3, lLi)]) hl ((eLi4 f px py).trans k7)).le (fr_ff 6 4 fun i hi => ?_) (.refl _)
  match i, hi with
  | 0, _ => exact ⟨rfl, .refl _⟩
  | 1, _ => exact ⟨rfl, .refl _⟩
  | 2, _ => exact ⟨rfl, .refl _⟩
  | 3, _ => exact ⟨rfl, .refl _⟩
  | i + 4, hi => exact absurd hi (by omega)
def plC (A : Am) (ff : Nat -> Fr) (i : Nat) : PV := .lst 6 (.fn (A.lk i).np (plP (ff i) (A.lk i).px (A.lk i).py))
def shp (A : Am) : Prop := ∀ j, j < A.n -> (A.lk j).np = 3 \/ (A.lk j).np = 4
include hG in
theorem pcPl (hT : qo G) (A : Am) (hA : armB A = true) (hS : shp A) (q : List Rat) (hq : q.length = A.n) :
  PC prog G 68 [qA A, .lst 3 (.rats 64 q)] [] (.tup [.fr 1 (.fn A.n (plC A (allF (bsF A) (qf q) (fun j => (A.lk j).len) A.n))), .i .i64 0]) [] := by
 have p13 := pc39 hG hT A hA q hq
 unfold frs at p13
 obtain ⟨a1, a2, a3, a4, h1, h3, a7⟩ := armB_c hA
 generalize allF (bsF A) (qf q) (fun j => (A.lk j).len) A.n = ff at *
 have hl := lps1 (P := prog) (G := G) (pol := polPl) (n := f68.ntmps) (m := 0) (L := [(6, lPl)]) (c := qd f68) (b := bPl) (live := [6, 8, 21, 22, 23]) (sp := lPl) (by kernel_rfl) (by kernel_rfl) (by kernel_rfl) (unr_ok hG (.cons (gkLi hG hT) .nil) mix (k9 (by kernel_rfl)) 4)
 have ha : qA A = armQ A A.n := rfl
 rw [ha] at p13 ⊢
 unfold shp at hS
 rcases (show A.n = 1 \/ A.n = 2 \/ A.n = 3 by omega) with hn | hn | hn
 ·rw [hn] at p13 hS ⊢
  refine (qj hG (.cons (cst_t p13) (.cons (gkLi hG hT) .nil)) mix enPl (hs := []) (pol := polPl) (L := [(6, lPl)]) hl (r := .tup [.fr 1 (.vals [plC A ff 0]), .i .i64 0]) (hs' := []) ?_).le (frs_le0 _ _ _ _ rfl fun i v hi => ?_) (.refl _)
  ·refine (ePl1 A q ff).trans ?_
   repeat (refine Eq.trans (k5 ?_) ?_; first | exact decP_iff.2 ⟨rfl, trivial⟩ | exact decP_iff.2 ⟨_, _, _, rfl, rfl, hS _ (by omega)⟩ | (rw [kG]; omega))
   rw [k7]; rfl
  ·match i, hi with
   | 0, hi => simp at hi; subst hi; exact ⟨rfl, .refl _⟩
   | i + 1, hi => simp at hi
 ·rw [hn] at p13 hS ⊢
  refine (qj hG (.cons (cst_t p13) (.cons (gkLi hG hT) .nil)) mix enPl (hs := []) (pol := polPl) (L := [(6, lPl)]) hl (r := .tup [.fr 1 (.vals [plC A ff 0, plC A ff 1]), .i .i64 0]) (hs' := []) ?_).le (frs_le0 _ _ _ _ rfl fun i v hi => ?_) (.refl _)
  ·refine (ePl2 A q ff).trans ?_
   repeat (refine Eq.trans (k5 ?_) ?_; first | exact decP_iff.2 ⟨rfl, trivial⟩ | exact decP_iff.2 ⟨_, _, _, rfl, rfl, hS _ (by omega)⟩ | (rw [kG]; omega))
   rw [k7]; rfl
  ·match i, hi with
   | 0, hi => simp at hi; subst hi; exact ⟨rfl, .refl _⟩
   | 1, hi => simp at hi; subst hi; exact ⟨rfl, .refl _⟩
   | i + 2, hi => simp at hi
 ·rw [hn] at p13 hS ⊢
  refine (qj hG (.cons (cst_t p13) (.cons (gkLi hG hT) .nil)) mix enPl (hs := []) (pol := polPl) (L := [(6, lPl)]) hl (r := .tup [.fr 1 (.vals [plC A ff 0, plC A ff 1, plC A ff 2]), .i .i64 0]) (hs' := []) ?_).le (frs_le0 _ _ _ _ rfl fun i v hi => ?_) (.refl _)
  ·refine (ePl3 A q ff).trans ?_
   repeat (refine Eq.trans (k5 ?_) ?_; first | exact decP_iff.2 ⟨rfl, trivial⟩ | exact decP_iff.2 ⟨_, _, _, rfl, rfl, hS _ (by omega)⟩ | (rw [kG]; omega))
   rw [k7]; rfl
  ·match i, hi with
   | 0, hi => simp at hi; subst hi; exact ⟨rfl, .refl _⟩
   | 1, hi => simp at hi; subst hi; exact ⟨rfl, .refl _⟩
   | 2, hi => simp at hi; subst hi; exact ⟨rfl, .refl _⟩
   | i + 3, hi => simp at hi
theorem shp_V (v : PV) : shp (qP v) := by
 intro j _
 show (shV _).len = 3 \/ (shV _).len = 4
 unfold shV
 split
 ·exact .inl rfl
 ·exact .inr rfl
structure Pg where
 n : Nat
 u : Nat -> Rat
 v : Nat -> Rat
def pw (x y : Rat) : PV := .agg [.q x 32138, .q y 32138]
def pgC (P : Pg) : Cont := .fn P.n (fun j => pw (P.u j) (P.v j))
def pgV (P : Pg) : PV := .lst 6 (pgC P)
theorem enLf : Enters prog 190 f190 (qd f190) := ⟨func190, by kernel_rfl, rfl⟩
def OLf : Orc := [(215, g97), (141, g41), (97, g26)]
theorem eLf (a b c d e f : Rat) : (evF prog OLf [] {} f190 [pw a b, pw c d, pw e f] [] ql).run = some (.ret (.i .i64 (rcmp (tri a b c d e f) 0)) []) := by kernel_rfl
def gLf : Spec := fun args hs K => match args, hs with
 | [.agg [.q a 32138, .q b 32138], .agg [.q c 32138, .q d 32138], .agg [.q e 32138, .q f 32138]], [] => K (.i .i64 (rcmp (tri a b c d e f) 0)) []
 | _, _ => .no 1
include hG in
theorem gkLf (hT : qo G) : qc prog G 190 gLf := by
 intro args hs K x h
 unfold gLf at h
 split at h
 case h_2 => cases h
 rename_i a b c d e f
 exact ⟨_, _, qj hG (.cons (gk97 hG hT) (.cons (gk41 hG hT) (.cons (gk26 hG hT) .nil))) mix enLf (hs := []) (L := []) (pol := {}) (k9 (by kernel_rfl)) (eLf a b c d e f), h⟩
theorem enPk : Enters prog 151 f151 (qd f151) := ⟨func151, by kernel_rfl, rfl⟩
def bCk : Code := (qi (qd f151)).getD 0 .skip
def iCk : Code := (qi (qd f151)).getD 1 .skip
def polCk : Pol := { live := [(7, [0, 4, 5, 18, 19, 20]), (10, [0, 4, 5, 6, 7, 8, 18, 19, 20])] }
def siCk (P : Pg) (e i k : Int) : LS := ⟨[pgV P, .i .i64 e, .i .i64 P.n, .i .i64 i, .ptr 0 6 0 0 [], .i .i64 k, pgV P, .i .i64 P.n, .i .i64 i], [some ⟨6, .vals [pw (P.u i.toNat) (P.v i.toNat)]⟩]⟩
def soCk (P : Pg) (e i : Int) : LS := ⟨[pgV P, .i .i64 e, .i .i64 P.n, pgV P, .i .i64 P.n, .i .i64 i], []⟩
def trP (P : Pg) (i j k : Nat) : Rat := tri (P.u i) (P.v i) (P.u j) (P.v j) (P.u k) (P.v k)
theorem tiCk (P : Pg) (i k : Int) : (qh prog [(190, gLf)] [] polCk f151.ntmps 0 [0, 4, 5, 6, 7, 8, 18, 19, 20] iCk (siCk P 0 i k)).run =
  (Tr.br (decide (k < (P.n : Int))) (.br (ovf (i + 1)) (.br (!decide ((P.n : Int) = 0)) (.br (ix ((i + 1).tmod P.n) ((P.n : Int))) (.br (ovf (i + k)) (.br (!decide ((P.n : Int) = 0)) (.br (ix ((i + k).tmod P.n) ((P.n : Int))) (.br (decide (rcmp (trP P i.toNat ((i + 1).tmod P.n).toNat ((i + k).tmod P.n).toNat) 0 <= 0)) (.ok (.out .ret (siCk P 3 i k))) (.br (ovf (k + 1)) (.ok (.out .normal (siCk P 0 i (k + 1)))) (.no 1))) (.no 1)) (.no 1)) (.no 1)) (.no 1)) (.no 1)) (.no 1)) (.ok (.out (.exit 3) (siCk P 0 i k)))).run := by kernel_rfl
theorem toCk (P : Pg) (i j k : Int) : (qh prog [(190, gLf)] [(10, qI (siCk P 0 j 2) (.exit 3) (siCk P 0 j k))] polCk f151.ntmps 0 [0, 4, 5, 18, 19, 20] bCk (soCk P 0 i)).run =
  (Tr.br (decide (i < (P.n : Int))) (.br (ix (i) ((P.n : Int))) (.br (qg (isLS (siCk P 0 j 2) (siCk P 0 i 2))) (.br (ovf (j + 1)) (.ok (.out .normal (soCk P 0 (j + 1)))) (.no 1)) (.no 1)) (.no 1)) (.ok (.out (.exit 1) (soCk P 0 i)))).run := by kernel_rfl
theorem toCkb (P : Pg) (i j k : Int) : (qh prog [(190, gLf)] [(10, qI (siCk P 0 j 2) .ret (siCk P 3 j k))] polCk f151.ntmps 0 [0, 4, 5, 18, 19, 20] bCk (soCk P 0 i)).run =
  (Tr.br (decide (i < (P.n : Int))) (.br (ix (i) ((P.n : Int))) (.br (qg (isLS (siCk P 0 j 2) (siCk P 0 i 2))) (.ok (.out .ret (soCk P 3 j))) (.no 1)) (.no 1)) (.ok (.out (.exit 1) (soCk P 0 i)))).run := by kernel_rfl
theorem eCkg (P : Pg) (m : Int) : (evF prog [(190, gLf)] [(7, qI (soCk P 0 0) (.exit 1) (soCk P 0 P.n))] polCk f151 [pgV P, .i .i64 m] [] ql).run =
  (Tr.br (decide (m < (P.n : Int))) (.ok (.ret (.i .i64 2) [])) (.br (decide ((P.n : Int) < 3)) (.ok (.ret (.i .i64 3) [])) (.br (qg (isLS (soCk P 0 0) (soCk P 0 0))) (.ok (.ret (.i .i64 0) [])) (.no 1)))).run := by kernel_rfl
theorem eCkb (P : Pg) (m i : Int) : (evF prog [(190, gLf)] [(7, qI (soCk P 0 0) .ret (soCk P 3 i))] polCk f151 [pgV P, .i .i64 m] [] ql).run =
  (Tr.br (decide (m < (P.n : Int))) (.ok (.ret (.i .i64 2) [])) (.br (decide ((P.n : Int) < 3)) (.ok (.ret (.i .i64 3) [])) (.br (qg (isLS (soCk P 0 0) (soCk P 0 0))) (.ok (.ret (.i .i64 3) [])) (.no 1)))).run := by kernel_rfl
def pkR (P : Pg) (i k : Nat) : Bool := decide (0 < trP P i ((i + 1) % P.n) ((i + k) % P.n))
def pkI (P : Pg) (i : Nat) : Bool := (List.range (P.n - 2)).all fun j => pkR P i (j + 2)
def pkB (P : Pg) : Bool := (List.range P.n).all (pkI P)
def pkE (P : Pg) : Int := if pkB P = true then 0 else 3
theorem all_r {n : Nat} {f : Nat -> Bool} : (List.range n).all f = true ↔ ∀ j, 0 <= j -> j < n -> f j = true := by
 simp [List.all_eq_true, List.mem_range]
include hG in
theorem goesCi (hT : qo G) (P : Pg) (h3 : 3 <= P.n) (h8 : P.n <= 8) (i : Nat) (hi : i < P.n) :
  (pkI P i = true -> Goes (Rnd prog G f151.ntmps 0 [0, 4, 5, 6, 7, 8, 18, 19, 20] iCk) (siCk P 0 i 2) (.exit 3) (siCk P 0 i P.n)) /\
  (pkI P i = false -> ∃ k : Int, Goes (Rnd prog G f151.ntmps 0 [0, 4, 5, 6, 7, 8, 18, 19, 20] iCk) (siCk P 0 i 2) .ret (siCk P 3 i k)) := by
 have rd : ∀ (k : Int) (e : Exit) (ls : LS), (qh prog [(190, gLf)] [] polCk f151.ntmps 0 [0, 4, 5, 6, 7, 8, 18, 19, 20] iCk (siCk P 0 i k)).run = some (.out e ls) ->
   Rnd prog G f151.ntmps 0 [0, 4, 5, 6, 7, 8, 18, 19, 20] iCk (siCk P 0 i k) e ls := fun k e ls h =>
  qb hG (.cons (gkLf hG hT) .nil) mix (L := []) (pol := polCk) (k9 (by kernel_rfl)) (Nat.zero_le _) h
 have e1 : (((i : Nat) : Int) + 1).tmod P.n = (((i + 1) % P.n : Nat) : Int) := tmod_nat (i + 1) P.n
 have m1 := Nat.mod_lt (i + 1) (show 0 < P.n by omega)
 have st : ∀ j, j < P.n - 2 -> ∀ r, (Tr.br (decide (rcmp (trP P i ((i + 1) % P.n) ((i + (j + 2)) % P.n)) 0 <= (0 : Int))) (.ok (.out .ret (siCk P 3 i ((j + 2 : Nat) : Int)))) (.br (ovf (((j + 2 : Nat) : Int) + 1)) (.ok (.out .normal (siCk P 0 i (((j + 2 : Nat) : Int) + 1)))) (.no 1))).run = some r ->
   (qh prog [(190, gLf)] [] polCk f151.ntmps 0 [0, 4, 5, 6, 7, 8, 18, 19, 20] iCk (siCk P 0 i ((j + 2 : Nat) : Int))).run = some r := fun j hj r h => by
  have e2 : (((i : Nat) : Int) + ((j + 2 : Nat) : Int)).tmod P.n = (((i + (j + 2)) % P.n : Nat) : Int) := tmod_nat (i + (j + 2)) P.n
  have m2 := Nat.mod_lt (i + (j + 2)) (show 0 < P.n by omega)
  refine (tiCk P i ((j + 2 : Nat) : Int)).trans ?_
  rw [e1, e2, Int.toNat_natCast, Int.toNat_natCast, Int.toNat_natCast]
  generalize (i + 1) % P.n = a at *
  generalize (i + (j + 2)) % P.n = b at *
  rw [k5 (kE (by omega)), k5 (by simp only [ovf, kA, kD]; omega), k5 (by rw [kJ, kK]; omega), k5 (by simp only [kA, kD]; omega), k5 (by simp only [ovf, kA, kD]; omega), k5 (by rw [kJ, kK]; omega),
   k5 (by simp only [kA, kD]; omega)]
  exact h
 obtain ⟨w1, w2⟩ := Goes.search (R := Rnd prog G f151.ntmps 0 [0, 4, 5, 6, 7, 8, 18, 19, 20] iCk) (fun j => siCk P 0 i ((j + 2 : Nat) : Int)) (fun j => siCk P 3 i ((j + 2 : Nat) : Int)) (fun j => pkR P i (j + 2)) (P.n - 2) (e0 := .exit 3) (e1 := .ret) (fin := siCk P 0 i P.n) (by simp) (by simp)
  (fun j hj ok => by
   refine rd _ _ _ (st j hj _ ?_)
   rw [k6 (kF (by rw [rcmp_le]; exact Rat.not_le.2 (of_decide_eq_true ok))), k5 (by simp only [ovf, kA, kD]; omega), k7]
   rfl)
  (fun j hj ok => by
   refine rd _ _ _ (st j hj _ ?_)
   rw [k5 (kE (by rw [rcmp_le]; exact Rat.not_lt.1 (of_decide_eq_false ok))), k7])
  (by
   refine rd _ _ _ ((tiCk P i ((P.n - 2 + 2 : Nat) : Int)).trans ?_)
   rw [k6 (kF (by omega)), k7, show ((P.n - 2 + 2 : Nat) : Int) = (P.n : Int) by omega]) (P.n - 2) 0 (by omega)
 refine ⟨fun h => w1 (all_r.1 h), fun h => ⟨_, w2 fun h' => ?_⟩⟩
 have := all_r.2 h'
 rw [pkI] at h
 rw [this] at h
 cases h
include hG in
theorem pcCk (hT : qo G) (P : Pg) (h3 : 3 <= P.n) (h8 : P.n <= 8) (m : Int) (hm : (P.n : Int) <= m) : PC prog G 151 [pgV P, .i .i64 m] [] (.i .i64 (pkE P)) [] := by
 have gi := goesCi hG hT P h3 h8
 have orc : OrcOK prog G [(190, gLf)] := .cons (gkLf hG hT) .nil
 have rd : ∀ (i : Nat) (e : Exit) (ls S0 S1 : LS) (e' : Exit), Goes (Rnd prog G f151.ntmps 0 [0, 4, 5, 6, 7, 8, 18, 19, 20] iCk) S0 e' S1 -> (qh prog [(190, gLf)] [(10, qI S0 e' S1)] polCk f151.ntmps 0 [0, 4, 5, 18, 19, 20] bCk (soCk P 0 i)).run = some (.out e ls) ->
   Rnd prog G f151.ntmps 0 [0, 4, 5, 18, 19, 20] bCk (soCk P 0 i) e ls := fun i e ls S0 S1 e' g h =>
  qb hG orc mix (pol := polCk) (lps1 (b := iCk) (live := [0, 4, 5, 6, 7, 8, 18, 19, 20]) (m := 0) (by kernel_rfl) (by kernel_rfl) (by kernel_rfl) (qC g)) (Nat.zero_le _) h
 have hl : ∀ (lQ : qy), qw prog G f151.ntmps 0 [0, 4, 5, 18, 19, 20] bCk lQ -> LpsOK prog G polCk f151.ntmps 0 [(7, lQ)] (qd f151) := fun lQ h =>
  lps1n (b := bCk) (b' := iCk) (live := [0, 4, 5, 18, 19, 20]) (m := 0) (by kernel_rfl) (by kernel_rfl) (by kernel_rfl) (by kernel_rfl) h
 have hx : Rnd prog G f151.ntmps 0 [0, 4, 5, 18, 19, 20] bCk (soCk P 0 P.n) (.exit 1) (soCk P 0 P.n) := by
  cases hB : pkI P 0 with
  | true =>
   refine rd P.n _ _ _ _ _ ((gi 0 (by omega)).1 hB) ((toCk P P.n ((0 : Nat) : Int) P.n).trans ?_)
   rw [k6 (kF (by omega)), k7]
  | false =>
   obtain ⟨k, g⟩ := (gi 0 (by omega)).2 hB
   refine rd P.n _ _ _ _ _ g ((toCkb P P.n ((0 : Nat) : Int) k).trans ?_)
   rw [k6 (kF (by omega)), k7]
 obtain ⟨w1, w2⟩ := Goes.search (R := Rnd prog G f151.ntmps 0 [0, 4, 5, 18, 19, 20] bCk) (fun i => soCk P 0 ((i : Nat) : Int)) (fun i => soCk P 3 ((i : Nat) : Int)) (pkI P) P.n (e0 := .exit 1) (e1 := .ret) (fin := soCk P 0 P.n) (by simp) (by simp)
  (fun i hi ok => by
   refine rd i _ _ _ _ _ ((gi i hi).1 ok) ((toCk P i i P.n).trans ?_)
   rw [k5 (kE (by omega)), k5 (by simp only [kA, kD]; omega), k5 isLS_t, k5 (by simp only [ovf, kA, kD]; omega), k7]
   rfl)
  (fun i hi ok => by
   obtain ⟨k, g⟩ := (gi i hi).2 ok
   refine rd i _ _ _ _ _ g ((toCkb P i i k).trans ?_)
   rw [k5 (kE (by omega)), k5 (by simp only [kA, kD]; omega), k5 isLS_t, k7])
  hx P.n 0 (by omega)
 unfold pkE
 cases hB : pkB P with
 | true =>
  rw [if_pos rfl]
  have g : Goes (Rnd prog G f151.ntmps 0 [0, 4, 5, 18, 19, 20] bCk) (soCk P 0 0) (.exit 1) (soCk P 0 P.n) := w1 (all_r.1 hB)
  refine qj hG orc mix enPk (hs := []) (pol := polCk) (L := [(7, qI (soCk P 0 0) (.exit 1) (soCk P 0 P.n))]) (hl _ (qC g)) ?_
  refine (eCkg P m).trans ?_
  rw [k6 (kF (by omega)), k6 (kF (by omega)), k5 isLS_t, k7]
 | false =>
  rw [if_neg (by decide)]
  have hn : ¬ ∀ j, 0 <= j -> j < P.n -> pkI P j = true := fun h => by
   have := all_r.2 h
   rw [pkB, this] at hB
   cases hB
  have g : Goes (Rnd prog G f151.ntmps 0 [0, 4, 5, 18, 19, 20] bCk) (soCk P 0 0) .ret (soCk P 3 ((fbad (pkI P) P.n 0 : Nat) : Int)) := w2 hn
  generalize ((fbad (pkI P) P.n 0 : Nat) : Int) = q at g
  refine qj hG orc mix enPk (hs := []) (pol := polCk) (L := [(7, qI (soCk P 0 0) .ret (soCk P 3 q))]) (hl _ (qC g)) ?_
  refine (eCkb P m q).trans ?_
  rw [k6 (kF (by omega)), k6 (kF (by omega)), k5 isLS_t, k7]
theorem enCv : Enters prog 191 f191 (qd f191) := ⟨func191, by kernel_rfl, rfl⟩
theorem enCh : Enters prog 117 f117 (qd f117) := ⟨func117, by kernel_rfl, rfl⟩
theorem eCv (P : Pg) (e : Int) : (evF prog [(151, cst [pgV P, .i .i64 64] True (.i .i64 e))] [] {} f191 [pgV P] [] ql).run = (Tr.br (qg (isA [pgV P, .i .i64 64] True [pgV P, .i .i64 64])) (.ok (.ret (.i .i64 e) [])) (.no 1)).run := by kernel_rfl
theorem eCh (P : Pg) (e : Int) : (evF prog [(151, cst [pgV P, .i .i64 8] True (.i .i64 e))] [] {} f117 [pgV P] [] ql).run = (Tr.br (qg (isA [pgV P, .i .i64 8] True [pgV P, .i .i64 8])) (.ok (.ret (.i .i64 e) [])) (.no 1)).run := by kernel_rfl
include hG in
theorem pcCv (hT : qo G) (P : Pg) (h3 : 3 <= P.n) (h8 : P.n <= 8) : PC prog G 191 [pgV P] [] (.i .i64 (pkE P)) [] := by
 refine qj hG (.cons (cst_t (pcCk hG hT P h3 h8 64 (by omega))) .nil) mix enCv (hs := []) (L := []) (pol := {}) (k9 (by kernel_rfl)) ((eCv P (pkE P)).trans ?_)
 rw [k5 (decP_iff.2 ⟨rfl, trivial⟩), k7]
include hG in
theorem pcCh (hT : qo G) (P : Pg) (h3 : 3 <= P.n) (h8 : P.n <= 8) : PC prog G 117 [pgV P] [] (.i .i64 (pkE P)) [] := by
 refine qj hG (.cons (cst_t (pcCk hG hT P h3 h8 8 (by omega))) .nil) mix enCh (hs := []) (L := []) (pol := {}) (k9 (by kernel_rfl)) ((eCh P (pkE P)).trans ?_)
 rw [k5 (decP_iff.2 ⟨rfl, trivial⟩), k7]
def rz : PV := .agg [.bl false, .s ⟨#[]⟩, .s ⟨#[]⟩]
def rzV : PV := .agg [rz, rz]
def rzB : PV := .agg [rzV, rzV]
theorem eGdR : (evF prog [] [] {} f104 [rz] [] ql).run = some (.ret (.bl false) []) := by kernel_rfl
theorem eFtR : (evF prog [(104, cst [rz] True (.bl false)), (105, s110)] [] {} f58 [rz] [] ql).run = (Tr.br (qg (isA [rz] True [rz])) (.ok (.ret (.agg [.bl false, .s ⟨#[]⟩, .s ⟨#[1]⟩]) [])) (.no 1)).run := by kernel_rfl
theorem eAdR : (evF prog [(58, cst [rz] True (.q 0 1)), (61, g75), (62, g76 1), (60, h77)] [] {} f25 [rz, rz] [] ql).run =
  (Tr.br (qg (isA [rz] True [rz])) (.br (qg (isA [rz] True [rz])) (.br (qg (M76 (sgV (qn (0 : Rat)) (qr (0 : Rat)) (qn (0 : Rat)) (qr (0 : Rat))) (qt (0 : Rat)) 1)) (.ok (.ret (.q (mkq (sgB (qn (0 : Rat)) (qr (0 : Rat)) (qn (0 : Rat)) (qr (0 : Rat))) (sgV (qn (0 : Rat)) (qr (0 : Rat)) (qn (0 : Rat)) (qr (0 : Rat))) (qt (0 : Rat))) 1) [])) (.no 1)) (.no 1)) (.no 1)).run := by kernel_rfl
theorem eVaR : (evF prog [(25, cst [rz, rz] True (.q 0 1))] [] {} f67 [rzV, rzV] [] ql).run = (Tr.br (qg (isA [rz, rz] True [rz, rz])) (.br (qg (isA [rz, rz] True [rz, rz])) (.ok (.ret (.agg [.q 0 1, .q 0 1]) [])) (.no 1)) (.no 1)).run := by kernel_rfl
include hG in
theorem pcVaR (hT : qo G) : PC prog G 67 [rzV, rzV] [] (.agg [.q 0 1, .q 0 1]) [] := by
 have p92 : PC prog G 104 [rz] [] (.bl false) [] := qj hG .nil mix enter109 (hs := []) (L := []) (pol := {}) (k9 (by kernel_rfl)) eGdR
 have p64 : PC prog G 58 [rz] [] (.q 0 1) [] := by
  refine (qj hG (.cons (cst_t p92) (.cons (ok110 hG) .nil)) mix enter74 (hs := []) (L := []) (pol := {}) (k9 (by kernel_rfl)) (eFtR.trans (k5 (decP_iff.2 ⟨rfl, trivial⟩)))).le ?_ (.refl _)
  have h := made_z (nv := .bl false) (neg := false) rfl 1 (W := 1) (by omega)
  rw [show mkz false 0 1 = 0 by rfl] at h
  exact h
 have p52 : PC prog G 25 [rz, rz] [] (.q 0 1) [] := by
  refine qj hG (.cons (cst_t p64) (.cons (gk75 hG) (.cons (gk76 hG hT 1) (.cons (hk77 hG) .nil)))) mix enter21 (hs := []) (L := []) (pol := {}) (k9 (by kernel_rfl)) (eAdR.trans ?_)
  rw [k5 (decP_iff.2 ⟨rfl, trivial⟩), k5 (decP_iff.2 ⟨rfl, trivial⟩)]
  simp only [rnum_eq, rden_eq, sgB_nb, sgV_nb]
  have hb := sgn2_le (qn (0 : Rat)) (0 : Rat).num.natAbs (qn (0 : Rat)) (0 : Rat).num.natAbs
  have z0 : (0 : Rat).num.natAbs = 0 := rfl
  have z1 : (0 : Rat).den = 1 := rfl
  rw [k5 (decP_iff.2 ⟨by rw [qD], by rw [qD], by rw [qD]; omega, by rw [qD]; omega, by rw [qD]; omega, by omega, by omega⟩), k7, mkq_nb, <- rat_add_same 0 0 rfl, Rat.add_zero]
 exact qj hG (.cons (cst_t p52) .nil) mix enter57 (hs := []) (L := []) (pol := {}) (k9 (by kernel_rfl)) (eVaR.trans ((k5 (decP_iff.2 ⟨rfl, trivial⟩)).trans (k5 (decP_iff.2 ⟨rfl, trivial⟩))))
def gVa : Spec := fun args hs K => match args with
 | [.agg [.agg a, b], c] => cst [rzV, rzV] True (.agg [.q 0 1, .q 0 1]) [.agg [.agg a, b], c] hs K
 | args => g57 args hs K
include hG in
theorem gkVa (hT : qo G) : qc prog G 67 gVa := by
 intro args hs K x h
 unfold gVa at h
 split at h
 ·exact cst_t (pcVaR hG hT) _ _ _ _ h
 ·exact gk57 hG hT _ _ _ _ h
theorem enBo' : Enters prog 119 f119 (qd f119) := ⟨func119, by kernel_rfl, rfl⟩
def bBo : Code := (qi (qd f119)).getD 0 .skip
def polBo : Pol := { live := [(7, [2, 5, 26, 27, 28])] }
def bb (a b c d : Rat) : PV := .agg [.agg [.q a 32140, .q b 32140], .agg [.q c 32140, .q d 32140]]
def stBo (P : Pg) (a b c d : Rat) (i : Int) : LS := ⟨[.ptr 0 12 0 0 [], .ptr 1 12 0 0 [], .lst 6 (.fn (P.n - 1) (fun j => pw (P.u (j + 1)) (P.v (j + 1)))), .i .i64 ((P.n - 1 : Nat) : Int), .i .i64 i], [some ⟨12, .vals [rzB]⟩, some ⟨12, .vals [bb a b c d]⟩]⟩
theorem tBo (P : Pg) (a b c d : Rat) (i : Int) : (qh prog [(122, g86), (121, g80)] [] polBo f119.ntmps 0 [2, 5, 26, 27, 28] bBo (stBo P a b c d i)).run =
  (Tr.br (decide (i < ((P.n - 1 : Nat) : Int))) (.br (ix (i) (((P.n - 1 : Nat) : Int))) (.br (ovf (i + 1)) (.ok (.out .normal (stBo P (mnR a (P.u (i.toNat + 1))) (mnR b (P.v (i.toNat + 1))) (mxR c (P.u (i.toNat + 1))) (mxR d (P.v (i.toNat + 1))) (i + 1)))) (.no 1)) (.no 1)) (.ok (.out (.exit 0) (stBo P a b c d i)))).run := by kernel_rfl
theorem eBo (P : Pg) (a b c d : Rat) : (evF prog [(67, gVa)] [(7, qI (stBo P (P.u 0 + 0) (P.v 0 + 0) (P.u 0 + 0) (P.v 0 + 0) 0) (.exit 0) (stBo P a b c d ((P.n - 1 : Nat) : Int)))] polBo f119 [pgV P] [] ql).run =
  (Tr.br (qg (isA [rzV, rzV] True [rzV, rzV])) (.br (decide ((P.n : Int) = 0)) (.ok (.ret (.agg [.agg [.q 0 1, .q 0 1], .agg [.q 0 1, .q 0 1]]) [])) (.br (decide ((0 : Int) <= 0) && decide (0 < (P.n : Int))) (.br (decide ((0 : Int) <= 1) && decide (1 <= (P.n : Int))) (.br (qg (isLS (stBo P (P.u 0 + 0) (P.v 0 + 0) (P.u 0 + 0) (P.v 0 + 0) 0) (stBo P (P.u 0 + 0) (P.v 0 + 0) (P.u 0 + 0) (P.v 0 + 0) 0))) (.ok (.ret (bb a b c d) [])) (.no 1)) (.no 1)) (.no 1))) (.no 1)).run := by kernel_rfl
def mnF (u : Nat -> Rat) : Nat -> Rat
 | 0 => u 0 + 0
 | k + 1 => mnR (mnF u k) (u (k + 1))
def mxF (u : Nat -> Rat) : Nat -> Rat
 | 0 => u 0 + 0
 | k + 1 => mxR (mxF u k) (u (k + 1))
def bxV (P : Pg) : PV := bb (mnF P.u (P.n - 1)) (mnF P.v (P.n - 1)) (mxF P.u (P.n - 1)) (mxF P.v (P.n - 1))
include hG in
theorem pcBo (hT : qo G) (P : Pg) (h3 : 3 <= P.n) (h8 : P.n <= 8) : PC prog G 119 [pgV P] [] (bxV P) [] := by
 have orc : OrcOK prog G [(122, g86), (121, g80)] := .cons (gk86 hG hT) (.cons (gk80 hG hT) .nil)
 have w := Goes.count (R := Rnd prog G f119.ntmps 0 [2, 5, 26, 27, 28] bBo) (fun i => stBo P (mnF P.u i) (mnF P.v i) (mxF P.u i) (mxF P.v i) ((i : Nat) : Int)) (e := .exit 0) (ls' := stBo P (mnF P.u (P.n - 1)) (mnF P.v (P.n - 1)) (mxF P.u (P.n - 1)) (mxF P.v (P.n - 1)) ((P.n - 1 : Nat) : Int)) (by simp) (P.n - 1) 0
  (fun i _ hi => by
   refine qb hG orc mix (L := []) (pol := polBo) (k9 (by kernel_rfl)) (Nat.zero_le _) ((tBo P _ _ _ _ i).trans ?_)
   rw [k5 (kE (by omega)), k5 (by simp only [kA, kD]; omega), k5 (by simp only [ovf, kA, kD]; omega), k7]
   rfl)
  (by
   refine qb hG orc mix (L := []) (pol := polBo) (k9 (by kernel_rfl)) (Nat.zero_le _) ((tBo P _ _ _ _ _).trans ?_)
   rw [Nat.zero_add, k6 (kF (by omega)), k7])
 have g : Goes (Rnd prog G f119.ntmps 0 [2, 5, 26, 27, 28] bBo) (stBo P (P.u 0 + 0) (P.v 0 + 0) (P.u 0 + 0) (P.v 0 + 0) 0) (.exit 0) (stBo P (mnF P.u (P.n - 1)) (mnF P.v (P.n - 1)) (mxF P.u (P.n - 1)) (mxF P.v (P.n - 1)) ((P.n - 1 : Nat) : Int)) := w
 refine qj hG (.cons (gkVa hG hT) .nil) mix enBo' (hs := []) (pol := polBo) (L := [(7, qI (stBo P (P.u 0 + 0) (P.v 0 + 0) (P.u 0 + 0) (P.v 0 + 0) 0) (.exit 0) (stBo P (mnF P.u (P.n - 1)) (mnF P.v (P.n - 1)) (mxF P.u (P.n - 1)) (mxF P.v (P.n - 1)) ((P.n - 1 : Nat) : Int)))]) (lps1 (b := bBo) (live := [2, 5, 26, 27, 28]) (m := 0) (by kernel_rfl) (by kernel_rfl) (by kernel_rfl) (qC g)) ((eBo P _ _ _ _).trans ?_)
 rw [k5 (decP_iff.2 ⟨rfl, trivial⟩), k6 (kF (by omega)), k5 (by simp only [kA, kD]; omega), k5 (by simp only [kA, kD]; omega), k5 isLS_t, k7]
 rfl
theorem enVl : Enters prog 152 f152 (qd f152) := ⟨func152, by kernel_rfl, rfl⟩
theorem enAb : Enters prog 118 f118 (qd f118) := ⟨func118, by kernel_rfl, rfl⟩
def gVl : Spec := evF prog [(23, g27)] [] {} f152
def rl (x y : Rat) : Bool := decide (rcmp x y <= (0 : Int))
def trA (c1 c2 c3 c4 c5 c6 c7 c8 : Bool) : Tr :=
 .br c1 (.br c2 (.br c3 (.br c4 (.br c5 (.br c6 (.br c7 (.ok (.ret (.b c8) [])) (.ok (.ret (.bl false) []))) (.ok (.ret (.bl false) []))) (.ok (.ret (.bl false) []))) (.ok (.ret (.bl false) []))) (.ok (.ret (.bl false) []))) (.ok (.ret (.bl false) []))) (.ok (.ret (.bl false) []))
theorem eAb (a b c d p q r s : Rat) : (evF prog [(23, g27), (152, gVl)] [] {} f118 [bb a b c d, bb p q r s] [] ql).run = (trA (rl a c) (rl b d) (rl p r) (rl q s) (rl a r) (rl p c) (rl b s) (rl q d)).run := by kernel_rfl
theorem trA_run : ∀ (c1 c2 c3 c4 c5 c6 c7 c8 : Bool), ∃ r, (trA c1 c2 c3 c4 c5 c6 c7 c8).run = some (.ret r []) /\ RLe r (.bl (c1 && c2 && c3 && c4 && c5 && c6 && c7 && c8))
 | false, _, _, _, _, _, _, _ => ⟨_, rfl, .refl _⟩
 | true, false, _, _, _, _, _, _ => ⟨_, rfl, .refl _⟩
 | true, true, false, _, _, _, _, _ => ⟨_, rfl, .refl _⟩
 | true, true, true, false, _, _, _, _ => ⟨_, rfl, .refl _⟩
 | true, true, true, true, false, _, _, _ => ⟨_, rfl, .refl _⟩
 | true, true, true, true, true, false, _, _ => ⟨_, rfl, .refl _⟩
 | true, true, true, true, true, true, false, _ => ⟨_, rfl, .refl _⟩
 | true, true, true, true, true, true, true, _ => ⟨_, rfl, rle_b rfl⟩
def bxB (P Q : Pg) : Bool := rl (mnF P.u (P.n - 1)) (mxF P.u (P.n - 1)) && rl (mnF P.v (P.n - 1)) (mxF P.v (P.n - 1)) && rl (mnF Q.u (Q.n - 1)) (mxF Q.u (Q.n - 1)) && rl (mnF Q.v (Q.n - 1)) (mxF Q.v (Q.n - 1)) &&
 rl (mnF P.u (P.n - 1)) (mxF Q.u (Q.n - 1)) && rl (mnF Q.u (Q.n - 1)) (mxF P.u (P.n - 1)) && rl (mnF P.v (P.n - 1)) (mxF Q.v (Q.n - 1)) && rl (mnF Q.v (Q.n - 1)) (mxF P.v (P.n - 1))
include hG in
theorem pcAb (hT : qo G) (P Q : Pg) : PC prog G 118 [bxV P, bxV Q] [] (.bl (bxB P Q)) [] := by
 obtain ⟨r, h1, h2⟩ := trA_run (rl (mnF P.u (P.n - 1)) (mxF P.u (P.n - 1))) (rl (mnF P.v (P.n - 1)) (mxF P.v (P.n - 1))) (rl (mnF Q.u (Q.n - 1)) (mxF Q.u (Q.n - 1))) (rl (mnF Q.v (Q.n - 1)) (mxF Q.v (Q.n - 1)))
  (rl (mnF P.u (P.n - 1)) (mxF Q.u (Q.n - 1))) (rl (mnF Q.u (Q.n - 1)) (mxF P.u (P.n - 1))) (rl (mnF P.v (P.n - 1)) (mxF Q.v (Q.n - 1))) (rl (mnF Q.v (Q.n - 1)) (mxF P.v (P.n - 1)))
 exact (qj hG (.cons (gk27 hG hT) (.cons (spec_ev hG (.cons (gk27 hG hT) .nil) mix enVl (fun _ => k9 (by kernel_rfl))) .nil)) mix enAb (hs := []) (L := []) (pol := {}) (k9 (by kernel_rfl)) ((eAb _ _ _ _ _ _ _ _).trans h1)).le h2 (.refl _)
theorem enBy : Enters prog 154 f154 (qd f154) := ⟨func154, by kernel_rfl, rfl⟩
def bBy : Code := (qi (qd f154)).getD 0 .skip
def iBy : Code := (qi (qd f154)).getD 1 .skip
def polBy : Pol := { live := [(2, [0, 1, 4, 5, 13, 14, 15]), (8, [0, 1, 4, 5, 7, 9, 10, 13, 14, 15, 36, 37, 38])] }
def gDt : Spec := evF prog [(25, g21), (75, g43)] [] {} f192
theorem enDt : Enters prog 192 f192 (qd f192) := ⟨func192, by kernel_rfl, rfl⟩
def RBy : Orc := [(141, g41), (102, g83), (97, g26), (192, gDt)]
include hG in
theorem orcBy (hT : qo G) : OrcOK prog G RBy := .cons (gk41 hG hT) (.cons (gk83 hG hT) (.cons (gk26 hG hT) (.cons (spec_ev hG (.cons (gk21 hG hT) (.cons (gk43 hG hT) .nil)) mix enDt (fun _ => k9 (by kernel_rfl))) .nil)))
def nv (a b : Rat) : PV := .agg [.q a 64277, .q b 64277]
def siBy (P Q : Pg) (i : Int) (k : Nat) (a b : Rat) (far : PV) (j : Int) : LS := ⟨[pgV P, pgV Q, .ptr 0 6 0 0 [], .bl false, .ptr 1 6 0 0 [], .ptr 2 6 0 0 [], far, pgV P, .i .i64 P.n, .i .i64 i, pgV Q, .i .i64 Q.n, .i .i64 j], [some ⟨6, .vals [rzV]⟩, some ⟨6, .vals [pw (P.u k) (P.v k)]⟩, some ⟨6, .vals [nv a b]⟩]⟩
def soBy (P Q : Pg) (i : Int) (r : PV) (v : PV) : LS := ⟨[pgV P, pgV Q, .ptr 0 6 0 0 [], r, pgV P, .i .i64 P.n, .i .i64 i], [some ⟨6, .vals [v]⟩]⟩
def trB (P Q : Pg) (i : Int) (k : Nat) (a b : Rat) (j : Int) (far far' : PV) : Tr :=
 .br (decide (j < (Q.n : Int))) (.br (decide ((0 : Int) <= j) && decide (j < (Q.n : Int))) (.br (ovf (j + 1)) (.ok (.out .normal (siBy P Q i k a b far' (j + 1)))) (.no 1)) (.no 1)) (.ok (.out (.exit 2) (siBy P Q i k a b far j)))
def dV (P Q : Pg) (k : Nat) (a b : Rat) (j : Nat) : Bool := decide ((0 : Int) < rcmp (a * (Q.u j - P.u k) + b * (Q.v j - P.v k)) 0)
theorem tiA (P Q : Pg) (i : Int) (k : Nat) (a b : Rat) (j : Int) : (qh prog RBy [] polBy f154.ntmps 0 [0, 1, 4, 5, 7, 9, 10, 13, 14, 15, 36, 37, 38] iBy (siBy P Q i k a b (.bl true) j)).run = (trB P Q i k a b j (.bl true) (.b (dV P Q k a b j.toNat))).run := by kernel_rfl
theorem tiB (P Q : Pg) (i : Int) (k : Nat) (a b : Rat) (j : Int) : (qh prog RBy [] polBy f154.ntmps 0 [0, 1, 4, 5, 7, 9, 10, 13, 14, 15, 36, 37, 38] iBy (siBy P Q i k a b (.b true) j)).run = (trB P Q i k a b j (.b true) (.b (dV P Q k a b j.toNat))).run := by kernel_rfl
theorem tiC (P Q : Pg) (i : Int) (k : Nat) (a b : Rat) (j : Int) : (qh prog RBy [] polBy f154.ntmps 0 [0, 1, 4, 5, 7, 9, 10, 13, 14, 15, 36, 37, 38] iBy (siBy P Q i k a b (.b false) j)).run = (trB P Q i k a b j (.b false) (.bl false)).run := by kernel_rfl
theorem tiD (P Q : Pg) (i : Int) (k : Nat) (a b : Rat) (j : Int) : (qh prog RBy [] polBy f154.ntmps 0 [0, 1, 4, 5, 7, 9, 10, 13, 14, 15, 36, 37, 38] iBy (siBy P Q i k a b (.bl false) j)).run = (trB P Q i k a b j (.bl false) (.bl false)).run := by kernel_rfl
def nX (P : Pg) (i k : Nat) : Rat := P.v k - P.v i
def nY (P : Pg) (i k : Nat) : Rat := -(P.u k - P.u i)
def trOB (P Q : Pg) (i : Int) (S0 : LS) (res : Tr) : Tr :=
 .br (decide (i < (P.n : Int))) (.br (decide ((0 : Int) <= i) && decide (i < (P.n : Int))) (.br (ovf (i + 1)) (.br (!decide ((P.n : Int) = 0)) (.br (decide ((0 : Int) <= (i + 1).tmod P.n) && decide ((i + 1).tmod P.n < (P.n : Int)))
  (.br (qg (isLS S0 (siBy P Q i i.toNat (nX P i.toNat ((i + 1).tmod P.n).toNat) (nY P i.toNat ((i + 1).tmod P.n).toNat) (.bl true) 0))) res (.no 1)) (.no 1)) (.no 1)) (.no 1)) (.no 1)) (.ok (.out (.exit 0) (soBy P Q i (.bl false) rzV)))
theorem toT (P Q : Pg) (i q : Int) (k : Nat) (a b : Rat) : (qh prog RBy [(8, qI (siBy P Q q k a b (.bl true) 0) (.exit 2) (siBy P Q q k a b (.b true) Q.n))] polBy f154.ntmps 0 [0, 1, 4, 5, 13, 14, 15] bBy (soBy P Q i (.bl false) rzV)).run =
  (trOB P Q i (siBy P Q q k a b (.bl true) 0) (.ok (.out .ret (soBy P Q q (.bl true) (nv a b))))).run := by kernel_rfl
theorem toF (P Q : Pg) (i q : Int) (k : Nat) (a b : Rat) : (qh prog RBy [(8, qI (siBy P Q q k a b (.bl true) 0) (.exit 2) (siBy P Q q k a b (.b false) Q.n))] polBy f154.ntmps 0 [0, 1, 4, 5, 13, 14, 15] bBy (soBy P Q i (.bl false) rzV)).run =
  (trOB P Q i (siBy P Q q k a b (.bl true) 0) (.br (ovf (q + 1)) (.ok (.out .normal (soBy P Q (q + 1) (.bl false) rzV))) (.no 1))).run := by kernel_rfl
theorem toG (P Q : Pg) (i q : Int) (k : Nat) (a b : Rat) : (qh prog RBy [(8, qI (siBy P Q q k a b (.bl true) 0) (.exit 2) (siBy P Q q k a b (.bl false) Q.n))] polBy f154.ntmps 0 [0, 1, 4, 5, 13, 14, 15] bBy (soBy P Q i (.bl false) rzV)).run =
  (trOB P Q i (siBy P Q q k a b (.bl true) 0) (.br (ovf (q + 1)) (.ok (.out .normal (soBy P Q (q + 1) (.bl false) rzV))) (.no 1))).run := by kernel_rfl
theorem eByT (P Q : Pg) (q : Int) (a b : Rat) : (evF prog RBy [(2, qI (soBy P Q 0 (.bl false) rzV) .ret (soBy P Q q (.bl true) (nv a b)))] polBy f154 [pgV P, pgV Q] [] ql).run =
  (Tr.br (qg (isLS (soBy P Q 0 (.bl false) rzV) (soBy P Q 0 (.bl false) rzV))) (.ok (.ret (.tup [nv a b, .bl true]) [])) (.no 1)).run := by kernel_rfl
theorem eByF (P Q : Pg) : (evF prog RBy [(2, qI (soBy P Q 0 (.bl false) rzV) (.exit 0) (soBy P Q P.n (.bl false) rzV))] polBy f154 [pgV P, pgV Q] [] ql).run =
  (Tr.br (qg (isLS (soBy P Q 0 (.bl false) rzV) (soBy P Q 0 (.bl false) rzV))) (.ok (.ret (.tup [rzV, .bl false]) [])) (.no 1)).run := by kernel_rfl
def dB (P Q : Pg) (i j : Nat) : Bool := dV P Q i (nX P i ((i + 1) % P.n)) (nY P i ((i + 1) % P.n)) j
def bgB (P Q : Pg) (i : Nat) : Bool := (List.range Q.n).all (dB P Q i)
def byB (P Q : Pg) : Bool := !(List.range P.n).all (fun i => !bgB P Q i)
def fa (P Q : Pg) (i : Nat) : Nat -> PV
 | 0 => .bl true
 | j + 1 => if (List.range j).all (dB P Q i) = true then .b (dB P Q i j) else .bl false
theorem fa_succ (P Q : Pg) (i j : Nat) : fa P Q i (j + 1) = if (List.range j).all (dB P Q i) = true then .b (dB P Q i j) else .bl false := rfl
theorem all_succ {f : Nat -> Bool} {j : Nat} : (List.range (j + 1)).all f = ((List.range j).all f && f j) := by
 rw [List.range_succ, List.all_append]
 simp
include hG in
theorem goesBi (hT : qo G) (P Q : Pg) (h3 : 1 <= Q.n) (h8 : Q.n <= 8) (i : Nat) :
  Goes (Rnd prog G f154.ntmps 0 [0, 1, 4, 5, 7, 9, 10, 13, 14, 15, 36, 37, 38] iBy) (siBy P Q i i (nX P i ((i + 1) % P.n)) (nY P i ((i + 1) % P.n)) (.bl true) 0) (.exit 2) (siBy P Q i i (nX P i ((i + 1) % P.n)) (nY P i ((i + 1) % P.n)) (fa P Q i Q.n) Q.n) := by
 have key : ∀ (j : Nat), ∃ far', (qh prog RBy [] polBy f154.ntmps 0 [0, 1, 4, 5, 7, 9, 10, 13, 14, 15, 36, 37, 38] iBy (siBy P Q i i (nX P i ((i + 1) % P.n)) (nY P i ((i + 1) % P.n)) (fa P Q i j) j)).run = (trB P Q i i (nX P i ((i + 1) % P.n)) (nY P i ((i + 1) % P.n)) j (fa P Q i j) far').run /\ far' = fa P Q i (j + 1) := by
  intro j
  match j with
  | 0 => exact ⟨_, tiA P Q i i _ _ _, rfl⟩
  | k + 1 =>
   rw [fa_succ P Q i k, fa_succ P Q i (k + 1), all_succ]
   cases h1 : (List.range k).all (dB P Q i) with
   | false =>
    rw [if_neg (by decide), if_neg (by simp)]
    exact ⟨_, tiD P Q i i _ _ _, rfl⟩
   | true =>
    rw [if_pos rfl]
    cases h2 : dB P Q i k with
    | false =>
     rw [if_neg (by decide)]
     exact ⟨_, tiC P Q i i _ _ _, rfl⟩
    | true =>
     rw [if_pos (by decide)]
     exact ⟨_, tiB P Q i i _ _ _, rfl⟩
 have w := Goes.count (R := Rnd prog G f154.ntmps 0 [0, 1, 4, 5, 7, 9, 10, 13, 14, 15, 36, 37, 38] iBy) (fun j => siBy P Q i i (nX P i ((i + 1) % P.n)) (nY P i ((i + 1) % P.n)) (fa P Q i j) ((j : Nat) : Int)) (e := .exit 2) (ls' := siBy P Q i i (nX P i ((i + 1) % P.n)) (nY P i ((i + 1) % P.n)) (fa P Q i Q.n) Q.n) (by simp) Q.n 0
  (fun j _ hj => by
   obtain ⟨f', k1, rfl⟩ := key j
   refine qb hG (orcBy hG hT) mix (L := []) (pol := polBy) (k9 (by kernel_rfl)) (Nat.zero_le _) (k1.trans ?_)
   unfold trB
   rw [k5 (kE (by omega)), k5 (by simp only [kA, kD]; omega), k5 (by simp only [ovf, kA, kD]; omega), k7]
   rfl)
  (by
   obtain ⟨f', k1, rfl⟩ := key Q.n
   rw [Nat.zero_add]
   refine qb hG (orcBy hG hT) mix (L := []) (pol := polBy) (k9 (by kernel_rfl)) (Nat.zero_le _) (k1.trans ?_)
   unfold trB
   rw [k6 (kF (by omega)), k7])
 exact w
theorem fa_t {P Q : Pg} {i : Nat} (h1 : 1 <= Q.n) (h : bgB P Q i = true) : fa P Q i Q.n = .b true := by
 obtain ⟨m, hm⟩ : ∃ m, Q.n = m + 1 := ⟨Q.n - 1, by omega⟩
 unfold bgB at h
 rw [hm] at h ⊢
 rw [all_succ, kA] at h
 rw [fa_succ, if_pos h.1, h.2]
theorem fa_f {P Q : Pg} {i : Nat} (h1 : 1 <= Q.n) (h : bgB P Q i = false) : fa P Q i Q.n = .b false \/ fa P Q i Q.n = .bl false := by
 obtain ⟨m, hm⟩ : ∃ m, Q.n = m + 1 := ⟨Q.n - 1, by omega⟩
 unfold bgB at h
 rw [hm] at h ⊢
 rw [all_succ] at h
 rw [fa_succ]
 cases h2 : (List.range m).all (dB P Q i) with
 | false => exact .inr rfl
 | true =>
  rw [h2] at h
  exact .inl (by rw [if_pos rfl, show dB P Q i m = false from h])
def nA (P Q : Pg) : Rat := nX P (fbad (fun i => !bgB P Q i) P.n 0) ((fbad (fun i => !bgB P Q i) P.n 0 + 1) % P.n)
def nB (P Q : Pg) : Rat := nY P (fbad (fun i => !bgB P Q i) P.n 0) ((fbad (fun i => !bgB P Q i) P.n 0 + 1) % P.n)
include hG in
theorem pcBy (hT : qo G) (P Q : Pg) (p3 : 3 <= P.n) (p8 : P.n <= 8) (q3 : 3 <= Q.n) (q8 : Q.n <= 8) :
  (byB P Q = true -> PC prog G 154 [pgV P, pgV Q] [] (.tup [nv (nA P Q) (nB P Q), .bl true]) []) /\ (byB P Q = false -> PC prog G 154 [pgV P, pgV Q] [] (.tup [rzV, .bl false]) []) := by
 have gi := goesBi hG hT P Q (by omega) q8
 have rd : ∀ (i : Int) (e : Exit) (ls S0 S1 : LS), Goes (Rnd prog G f154.ntmps 0 [0, 1, 4, 5, 7, 9, 10, 13, 14, 15, 36, 37, 38] iBy) S0 (.exit 2) S1 -> (qh prog RBy [(8, qI S0 (.exit 2) S1)] polBy f154.ntmps 0 [0, 1, 4, 5, 13, 14, 15] bBy (soBy P Q i (.bl false) rzV)).run = some (.out e ls) ->
   Rnd prog G f154.ntmps 0 [0, 1, 4, 5, 13, 14, 15] bBy (soBy P Q i (.bl false) rzV) e ls := fun i e ls S0 S1 g h =>
  qb hG (orcBy hG hT) mix (pol := polBy) (lps1 (b := iBy) (live := [0, 1, 4, 5, 7, 9, 10, 13, 14, 15, 36, 37, 38]) (m := 0) (by kernel_rfl) (by kernel_rfl) (by kernel_rfl) (qC g)) (Nat.zero_le _) h
 have hl : ∀ (lQ : qy), qw prog G f154.ntmps 0 [0, 1, 4, 5, 13, 14, 15] bBy lQ -> LpsOK prog G polBy f154.ntmps 0 [(2, lQ)] (qd f154) := fun lQ h =>
  lps1n (b := bBy) (b' := iBy) (live := [0, 1, 4, 5, 13, 14, 15]) (m := 0) (by kernel_rfl) (by kernel_rfl) (by kernel_rfl) (by kernel_rfl) h
 have step : ∀ (i : Nat) (res : Tr) (r : Res), i < P.n -> res.run = some r -> (trOB P Q i (siBy P Q i i (nX P i ((i + 1) % P.n)) (nY P i ((i + 1) % P.n)) (.bl true) 0) res).run = some r := fun i res r hi h => by
  have e1 : (((i : Nat) : Int) + 1).tmod P.n = (((i + 1) % P.n : Nat) : Int) := tmod_nat (i + 1) P.n
  have m1 := Nat.mod_lt (i + 1) (show 0 < P.n by omega)
  unfold trOB
  rw [e1, Int.toNat_natCast, Int.toNat_natCast]
  generalize (i + 1) % P.n = a at *
  rw [k5 (kE (by omega)), k5 (by simp only [kA, kD]; omega), k5 (by simp only [ovf, kA, kD]; omega), k5 (by rw [kJ, kK]; omega), k5 (by simp only [kA, kD]; omega), k5 isLS_t]
  exact h
 have ext : ∀ (S0 : LS) (res : Tr), (trOB P Q P.n S0 res).run = some (.out (.exit 0) (soBy P Q P.n (.bl false) rzV)) := fun S0 res => by
  unfold trOB
  rw [k6 (kF (by omega)), k7]
 have hx : Rnd prog G f154.ntmps 0 [0, 1, 4, 5, 13, 14, 15] bBy (soBy P Q P.n (.bl false) rzV) (.exit 0) (soBy P Q P.n (.bl false) rzV) := by
  have g := gi 0
  cases hB : bgB P Q 0 with
  | true => rw [fa_t (by omega) hB] at g; exact rd P.n _ _ _ _ g ((toT P Q P.n _ _ _ _).trans (ext _ _))
  | false =>
   rcases fa_f (by omega) hB with hf | hf
   ·rw [hf] at g; exact rd P.n _ _ _ _ g ((toF P Q P.n _ _ _ _).trans (ext _ _))
   ·rw [hf] at g; exact rd P.n _ _ _ _ g ((toG P Q P.n _ _ _ _).trans (ext _ _))
 obtain ⟨w1, w2⟩ := Goes.search (R := Rnd prog G f154.ntmps 0 [0, 1, 4, 5, 13, 14, 15] bBy) (fun i => soBy P Q ((i : Nat) : Int) (.bl false) rzV) (fun i => soBy P Q ((i : Nat) : Int) (.bl true) (nv (nX P i ((i + 1) % P.n)) (nY P i ((i + 1) % P.n)))) (fun i => !bgB P Q i) P.n (e0 := .exit 0) (e1 := .ret) (fin := soBy P Q P.n (.bl false) rzV) (by simp) (by simp)
  (fun i hi ok => by
   have g := gi i
   rcases fa_f (by omega) (show bgB P Q i = false by simpa using ok) with hf | hf
   ·rw [hf] at g
    refine rd i _ _ _ _ g ((toF P Q i i i _ _).trans (step i _ _ hi ?_))
    rw [k5 (by simp only [ovf, kA, kD]; omega), k7]
    rfl
   ·rw [hf] at g
    refine rd i _ _ _ _ g ((toG P Q i i i _ _).trans (step i _ _ hi ?_))
    rw [k5 (by simp only [ovf, kA, kD]; omega), k7]
    rfl)
  (fun i hi ok => by
   have g := gi i
   rw [fa_t (by omega) (show bgB P Q i = true by simpa using ok)] at g
   exact rd i _ _ _ _ g ((toT P Q i i i _ _).trans (step i _ _ hi rfl)))
  hx P.n 0 (by omega)
 refine ⟨fun h => ?_, fun h => ?_⟩
 ·have hn : ¬ ∀ j, 0 <= j -> j < P.n -> (!bgB P Q j) = true := fun h' => by
   have := all_r.2 h'
   rw [byB, this] at h
   cases h
  have g : Goes (Rnd prog G f154.ntmps 0 [0, 1, 4, 5, 13, 14, 15] bBy) (soBy P Q 0 (.bl false) rzV) .ret (soBy P Q ((fbad (fun i => !bgB P Q i) P.n 0 : Nat) : Int) (.bl true) (nv (nA P Q) (nB P Q))) := w2 hn
  generalize ((fbad (fun i => !bgB P Q i) P.n 0 : Nat) : Int) = q at g
  refine qj hG (orcBy hG hT) mix enBy (hs := []) (pol := polBy) (L := [(2, qI (soBy P Q 0 (.bl false) rzV) .ret (soBy P Q q (.bl true) (nv (nA P Q) (nB P Q))))]) (hl _ (qC g)) ((eByT P Q q _ _).trans ?_)
  rw [k5 isLS_t, k7]
 ·have hn : ∀ j, 0 <= j -> j < P.n -> (!bgB P Q j) = true := all_r.1 (by simpa [byB] using h)
  have g : Goes (Rnd prog G f154.ntmps 0 [0, 1, 4, 5, 13, 14, 15] bBy) (soBy P Q 0 (.bl false) rzV) (.exit 0) (soBy P Q P.n (.bl false) rzV) := w1 hn
  refine qj hG (orcBy hG hT) mix enBy (hs := []) (pol := polBy) (L := [(2, qI (soBy P Q 0 (.bl false) rzV) (.exit 0) (soBy P Q P.n (.bl false) rzV))]) (hl _ (qC g)) ((eByF P Q).trans ?_)
  rw [k5 isLS_t, k7]
def dPg : PV -> Pg
 | .lst 6 (.fn n g) => ⟨n, fun j => dq (fldV (g j) 0), fun j => dq (fldV (g j) 1)⟩
 | _ => ⟨0, fun _ => 0, fun _ => 0⟩
def okP (P : Pg) : Prop := 3 <= P.n /\ P.n <= 8
def isPg (p : PV) : Prop := ∃ P, p = pgV P /\ okP P
def gCv : Spec := fun args hs K => match args, hs with
 | [p], [] => .br (qg (isPg p)) (K (.i .i64 (pkE (dPg p))) []) (.no 1)
 | _, _ => .no 1
include hG in
theorem gkCv (hT : qo G) : qc prog G 191 gCv := by
 intro args hs K x h
 unfold gCv at h
 split at h
 case h_2 => cases h
 obtain ⟨hc, hr⟩ := k8 h
 obtain ⟨P, rfl, h3, h8⟩ := decP_iff.1 hc
 exact ⟨_, _, pcCv hG hT P h3 h8, hr⟩
def gBx : Spec := fun args hs K => match args, hs with
 | [p], [] => .br (qg (isPg p)) (K (bxV (dPg p)) []) (.no 1)
 | _, _ => .no 1
include hG in
theorem gkBx (hT : qo G) : qc prog G 119 gBx := by
 intro args hs K x h
 unfold gBx at h
 split at h
 case h_2 => cases h
 obtain ⟨hc, hr⟩ := k8 h
 obtain ⟨P, rfl, h3, h8⟩ := decP_iff.1 hc
 exact ⟨_, _, pcBo hG hT P h3 h8, hr⟩
def gBy : Spec := fun args hs K => match args, hs with
 | [p, q], [] => .br (qg (isPg p /\ isPg q)) (.br (byB (dPg p) (dPg q)) (K (.tup [nv (nA (dPg p) (dPg q)) (nB (dPg p) (dPg q)), .bl true]) []) (K (.tup [rzV, .bl false]) [])) (.no 1)
 | _, _ => .no 1
include hG in
theorem gkBy (hT : qo G) : qc prog G 154 gBy := by
 intro args hs K x h
 unfold gBy at h
 split at h
 case h_2 => cases h
 obtain ⟨hc, hr⟩ := k8 h
 obtain ⟨⟨P, rfl, h3, h8⟩, Q, rfl, q3, q8⟩ := decP_iff.1 hc
 obtain ⟨h1, h2⟩ := pcBy hG hT P Q h3 h8 q3 q8
 have e1 : dPg (pgV P) = P := rfl
 have e2 : dPg (pgV Q) = Q := rfl
 rw [e1, e2] at hr
 cases hB : byB P Q with
 | true => rw [k5 hB] at hr; exact ⟨_, _, h1 hB, hr⟩
 | false => rw [k6 hB] at hr; exact ⟨_, _, h2 hB, hr⟩
theorem enBoth : Enters prog 153 f153 (qd f153) := ⟨func153, by kernel_rfl, rfl⟩
theorem enMt : Enters prog 120 f120 (qd f120) := ⟨func120, by kernel_rfl, rfl⟩
theorem eBoth (P Q : Pg) : (evF prog [(191, gCv)] [] {} f153 [pgV P, pgV Q] [] ql).run =
  (Tr.br (qg (isPg (pgV P))) (.br (!decide (pkE P = 0)) (.ok (.ret (.i .i64 (pkE P)) [])) (.br (qg (isPg (pgV Q))) (.ok (.ret (.i .i64 (pkE Q)) [])) (.no 1))) (.no 1)).run := by kernel_rfl
def mtE (P Q : Pg) : Int := if pkE P = 0 then pkE Q else pkE P
include hG in
theorem pcBtt (hT : qo G) (P Q : Pg) (hp : okP P) (hq : okP Q) : PC prog G 153 [pgV P, pgV Q] [] (.i .i64 (mtE P Q)) [] := by
 refine qj hG (.cons (gkCv hG hT) .nil) mix enBoth (hs := []) (L := []) (pol := {}) (k9 (by kernel_rfl)) ((eBoth P Q).trans ?_)
 rw [k5 (decP_iff.2 ⟨P, rfl, hp⟩)]
 unfold mtE
 by_cases h : pkE P = 0
 ·rw [k6 (by simp [h]), k5 (decP_iff.2 ⟨Q, rfl, hq⟩), k7, if_pos h]
 ·rw [k5 (by simp [h]), k7, if_neg h]
theorem eMt (P Q : Pg) (e : Int) : (evF prog [(153, cst [pgV P, pgV Q] True (.i .i64 e)), (154, gBy)] [] {} f120 [pgV P, pgV Q] [] ql).run =
  (Tr.br (qg (isA [pgV P, pgV Q] True [pgV P, pgV Q])) (.br (!decide (e = 0)) (.ok (.ret (.tup [.bl false, .i .i64 e]) [])) (.br (qg (isPg (pgV P) /\ isPg (pgV Q))) (.br (byB P Q) (.br (qg (isPg (pgV Q) /\ isPg (pgV P))) (.br (byB Q P) (.ok (.ret (.tup [.bl false, .i .i64 0]) [])) (.ok (.ret (.tup [.bl false, .i .i64 0]) []))) (.no 1)) (.br (qg (isPg (pgV Q) /\ isPg (pgV P))) (.br (byB Q P) (.ok (.ret (.tup [.bl false, .i .i64 0]) [])) (.ok (.ret (.tup [.bl true, .i .i64 0]) []))) (.no 1))) (.no 1))) (.no 1)).run := by kernel_rfl
def mtB (P Q : Pg) : Bool := decide (mtE P Q = 0) && !byB P Q && !byB Q P
include hG in
theorem pcMt (hT : qo G) (P Q : Pg) (hp : okP P) (hq : okP Q) : PC prog G 120 [pgV P, pgV Q] [] (.tup [.bl (mtB P Q), .i .i64 (mtE P Q)]) [] := by
 refine qj hG (.cons (cst_t (pcBtt hG hT P Q hp hq)) (.cons (gkBy hG hT) .nil)) mix enMt (hs := []) (L := []) (pol := {}) (k9 (by kernel_rfl)) ((eMt P Q (mtE P Q)).trans ?_)
 rw [k5 (decP_iff.2 ⟨rfl, trivial⟩)]
 unfold mtB
 by_cases h : mtE P Q = 0
 ·rw [k6 (by simp [h]), k5 (decP_iff.2 ⟨⟨P, rfl, hp⟩, Q, rfl, hq⟩), h]
  cases h1 : byB P Q <;> cases h2 : byB Q P <;> simp only [Tr.run, decP_iff.2 (show isPg (pgV Q) /\ isPg (pgV P) from ⟨⟨Q, rfl, hq⟩, P, rfl, hp⟩)] <;> rfl
 ·rw [k5 (by simp [h]), k7, kF h]
  rfl
theorem enFr : Enters prog 70 f70 (qd f70) := ⟨func70, by kernel_rfl, rfl⟩
def bFr : Code := (qi (qd f70)).getD 0 .skip
def iFr : Code := (qi (qd f70)).getD 1 .skip
def polFr : Pol := { live := [(2, [1, 4, 11, 12, 13]), (5, [1, 4, 6, 11, 12, 13, 17, 18, 19])] }
def lsV (n : Nat) (L : Nat -> Pg) : PV := .lst 1 (.fn n (fun i => pgV (L i)))
def siFr (n : Nat) (L : Nat -> Pg) (m : Nat) (M : Nat -> Pg) (i j : Int) : LS := ⟨[lsV m M, .bl false, pgV (L i.toNat), lsV n L, .i .i64 n, .i .i64 i, lsV m M, .i .i64 m, .i .i64 j], []⟩
def soFr (n : Nat) (L : Nat -> Pg) (m : Nat) (M : Nat -> Pg) (i : Int) : LS := ⟨[lsV m M, .bl false, lsV n L, .i .i64 n, .i .i64 i], []⟩
def RFr (P Q : Pg) (b mm : Bool) (e : Int) : Orc := [(118, cst [bxV P, bxV Q] True (.bl b)), (119, gBx), (120, cst [pgV P, pgV Q] True (.tup [.bl mm, .i .i64 e]))]
def trF (n : Nat) (L : Nat -> Pg) (m : Nat) (M : Nat -> Pg) (i j : Int) (P Q : Pg) (res : Tr) : Tr :=
 .br (decide (j < (m : Int))) (.br (decide ((0 : Int) <= j) && decide (j < (m : Int))) (.br (qg (isPg (pgV (L i.toNat)))) (.br (qg (isPg (pgV (M j.toNat))))
  (.br (qg (isA [bxV P, bxV Q] True [bxV (L i.toNat), bxV (M j.toNat)])) res (.no 1)) (.no 1)) (.no 1)) (.no 1)) (.ok (.out (.exit 2) (siFr n L m M i j)))
def trM (L : Nat -> Pg) (M : Nat -> Pg) (i j : Int) (P Q : Pg) (res : Tr) : Tr := .br (qg (isA [pgV P, pgV Q] True [pgV (L i.toNat), pgV (M j.toNat)])) res (.no 1)
theorem tfA (n : Nat) (L : Nat -> Pg) (m : Nat) (M : Nat -> Pg) (i j : Int) (P Q : Pg) (mm : Bool) (e : Int) : (qh prog (RFr P Q false mm e) [] polFr f70.ntmps 0 [1, 4, 6, 11, 12, 13, 17, 18, 19] iFr (siFr n L m M i j)).run = (trF n L m M i j P Q (.br (ovf (j + 1)) (.ok (.out .normal (siFr n L m M i (j + 1)))) (.no 1))).run := by kernel_rfl
theorem tfB (n : Nat) (L : Nat -> Pg) (m : Nat) (M : Nat -> Pg) (i j : Int) (P Q : Pg) (e : Int) : (qh prog (RFr P Q true true e) [] polFr f70.ntmps 0 [1, 4, 6, 11, 12, 13, 17, 18, 19] iFr (siFr n L m M i j)).run = (trF n L m M i j P Q (trM L M i j P Q (.ok (.out .ret (siFr n L m M i j))))).run := by kernel_rfl
theorem tfC (n : Nat) (L : Nat -> Pg) (m : Nat) (M : Nat -> Pg) (i j : Int) (P Q : Pg) (e : Int) : (qh prog (RFr P Q true false e) [] polFr f70.ntmps 0 [1, 4, 6, 11, 12, 13, 17, 18, 19] iFr (siFr n L m M i j)).run =
  (trF n L m M i j P Q (trM L M i j P Q (.br (!decide (e = 0)) (.ok (.out .ret (siFr n L m M i j))) (.br (ovf (j + 1)) (.ok (.out .normal (siFr n L m M i (j + 1)))) (.no 1))))).run := by kernel_rfl
def trG (n : Nat) (L : Nat -> Pg) (m : Nat) (M : Nat -> Pg) (i q : Int) (res : Tr) : Tr :=
 .br (decide (i < (n : Int))) (.br (decide ((0 : Int) <= i) && decide (i < (n : Int))) (.br (qg (isLS (siFr n L m M q 0) (siFr n L m M i 0))) res (.no 1)) (.no 1)) (.ok (.out (.exit 0) (soFr n L m M i)))
theorem toFt (n : Nat) (L : Nat -> Pg) (m : Nat) (M : Nat -> Pg) (i q : Int) : (qh prog [] [(5, qI (siFr n L m M q 0) (.exit 2) (siFr n L m M q m))] polFr f70.ntmps 0 [1, 4, 11, 12, 13] bFr (soFr n L m M i)).run =
  (trG n L m M i q (.br (ovf (q + 1)) (.ok (.out .normal (soFr n L m M (q + 1)))) (.no 1))).run := by kernel_rfl
theorem toFb (n : Nat) (L : Nat -> Pg) (m : Nat) (M : Nat -> Pg) (i q k : Int) : (qh prog [] [(5, qI (siFr n L m M q 0) .ret (siFr n L m M q k))] polFr f70.ntmps 0 [1, 4, 11, 12, 13] bFr (soFr n L m M i)).run =
  (trG n L m M i q (.ok (.out .ret (soFr n L m M q)))).run := by kernel_rfl
theorem eFrT (n : Nat) (L : Nat -> Pg) (m : Nat) (M : Nat -> Pg) : (evF prog [] [(2, qI (soFr n L m M 0) (.exit 0) (soFr n L m M n))] polFr f70 [lsV n L, lsV m M] [] ql).run = (Tr.br (qg (isLS (soFr n L m M 0) (soFr n L m M 0))) (.ok (.ret (.bl true) [])) (.no 1)).run := by kernel_rfl
theorem eFrF (n : Nat) (L : Nat -> Pg) (m : Nat) (M : Nat -> Pg) (q : Int) : (evF prog [] [(2, qI (soFr n L m M 0) .ret (soFr n L m M q))] polFr f70 [lsV n L, lsV m M] [] ql).run = (Tr.br (qg (isLS (soFr n L m M 0) (soFr n L m M 0))) (.ok (.ret (.bl false) [])) (.no 1)).run := by kernel_rfl
def frB (P Q : Pg) : Bool := !bxB P Q || (decide (mtE P Q = 0) && !mtB P Q)
def frI (L : Nat -> Pg) (m : Nat) (M : Nat -> Pg) (i : Nat) : Bool := (List.range m).all fun j => frB (L i) (M j)
def freeB (n : Nat) (L : Nat -> Pg) (m : Nat) (M : Nat -> Pg) : Bool := (List.range n).all (frI L m M)
include hG in
theorem orcFr (hT : qo G) (P Q : Pg) (hp : okP P) (hq : okP Q) : OrcOK prog G (RFr P Q (bxB P Q) (mtB P Q) (mtE P Q)) := .cons (cst_t (pcAb hG hT P Q)) (.cons (gkBx hG hT) (.cons (cst_t (pcMt hG hT P Q hp hq)) .nil))
include hG in
theorem goesFi (hT : qo G) (n : Nat) (L : Nat -> Pg) (m : Nat) (M : Nat -> Pg) (hm : m <= 100) (i : Nat) (hp : okP (L i)) (hq : ∀ j, j < m -> okP (M j)) :
  (frI L m M i = true -> Goes (Rnd prog G f70.ntmps 0 [1, 4, 6, 11, 12, 13, 17, 18, 19] iFr) (siFr n L m M i 0) (.exit 2) (siFr n L m M i m)) /\ (frI L m M i = false -> ∃ k : Int, Goes (Rnd prog G f70.ntmps 0 [1, 4, 6, 11, 12, 13, 17, 18, 19] iFr) (siFr n L m M i 0) .ret (siFr n L m M i k)) := by
 have pre : ∀ (j : Nat) (res : Tr) (r : Res), j < m -> res.run = some r -> (trF n L m M i j (L i) (M j) res).run = some r := fun j res r hj h => by
  unfold trF
  rw [Int.toNat_natCast, Int.toNat_natCast, k5 (kE (by omega)), k5 (by simp only [kA, kD]; omega), k5 (decP_iff.2 ⟨_, rfl, hp⟩), k5 (decP_iff.2 ⟨_, rfl, hq j hj⟩), k5 (decP_iff.2 ⟨rfl, trivial⟩)]
  exact h
 have prm : ∀ (j : Nat) (res : Tr) (r : Res), res.run = some r -> (trM L M i j (L i) (M j) res).run = some r := fun j res r h => by
  unfold trM
  rw [Int.toNat_natCast, Int.toNat_natCast, k5 (decP_iff.2 ⟨rfl, trivial⟩)]
  exact h
 have nx : ∀ (j : Nat), j < m -> (Tr.br (ovf ((j : Int) + 1)) (.ok (.out .normal (siFr n L m M i ((j : Int) + 1)))) (.no 1)).run = some (.out .normal (siFr n L m M i ((j + 1 : Nat) : Int))) := fun j hj => by
  rw [k5 (by simp only [ovf, kA, kD]; omega), k7]
  rfl
 have rd : ∀ (j : Nat) (e : Exit) (ls : LS), j < m -> (qh prog (RFr (L i) (M j) (bxB (L i) (M j)) (mtB (L i) (M j)) (mtE (L i) (M j))) [] polFr f70.ntmps 0 [1, 4, 6, 11, 12, 13, 17, 18, 19] iFr (siFr n L m M i j)).run = some (.out e ls) ->
   Rnd prog G f70.ntmps 0 [1, 4, 6, 11, 12, 13, 17, 18, 19] iFr (siFr n L m M i j) e ls := fun j e ls hj h =>
  qb hG (orcFr hG hT (L i) (M j) hp (hq j hj)) mix (L := []) (pol := polFr) (k9 (by kernel_rfl)) (Nat.zero_le _) h
 have ho : OrcOK prog G [] := .nil
 obtain ⟨w1, w2⟩ := Goes.search (R := Rnd prog G f70.ntmps 0 [1, 4, 6, 11, 12, 13, 17, 18, 19] iFr) (fun j => siFr n L m M i ((j : Nat) : Int)) (fun j => siFr n L m M i ((j : Nat) : Int)) (fun j => frB (L i) (M j)) m (e0 := .exit 2) (e1 := .ret) (fin := siFr n L m M i m) (by simp) (by simp)
  (fun j hj ok => by
   refine rd j _ _ hj ?_
   unfold frB at ok
   cases h1 : bxB (L i) (M j) with
   | false => exact (tfA n L m M i j _ _ _ _).trans (pre j _ _ hj (nx j hj))
   | true =>
    rw [h1] at ok
    simp only [Bool.not_true, Bool.false_or, kA, kD, kJ] at ok
    rw [ok.2]
    refine (tfC n L m M i j _ _ _).trans (pre j _ _ hj (prm j _ _ ?_))
    rw [k6 (by simp [ok.1])]
    exact nx j hj)
  (fun j hj ok => by
   refine rd j _ _ hj ?_
   unfold frB at ok
   cases h1 : bxB (L i) (M j) with
   | false => rw [h1] at ok; cases ok
   | true =>
    rw [h1] at ok
    cases h2 : mtB (L i) (M j) with
    | true => exact (tfB n L m M i j _ _ _).trans (pre j _ _ hj (prm j _ _ rfl))
    | false =>
     rw [h2] at ok
     refine (tfC n L m M i j _ _ _).trans (pre j _ _ hj (prm j _ _ ?_))
     rw [k5 (by simpa using ok), k7])
  (by
   refine qb hG (O := RFr (L i) (L i) (bxB (L i) (L i)) (mtB (L i) (L i)) (mtE (L i) (L i))) (orcFr hG hT (L i) (L i) hp hp) mix (L := []) (pol := polFr) (k9 (by kernel_rfl)) (Nat.zero_le _) ?_
   have ex : ∀ res, (trF n L m M i m (L i) (L i) res).run = some (.out (.exit 2) (siFr n L m M i m)) := fun res => by
    unfold trF
    rw [k6 (kF (by omega)), k7]
   cases h1 : bxB (L i) (L i) with
   | false => exact (tfA n L m M i m _ _ _ _).trans (ex _)
   | true =>
    cases h2 : mtB (L i) (L i) with
    | true => exact (tfB n L m M i m _ _ _).trans (ex _)
    | false => exact (tfC n L m M i m _ _ _).trans (ex _)) m 0 (by omega)
 refine ⟨fun h => w1 (all_r.1 h), fun h => ⟨_, w2 fun h' => ?_⟩⟩
 have := all_r.2 h'
 rw [frI, this] at h
 cases h
include hG in
theorem pcFr (hT : qo G) (n : Nat) (L : Nat -> Pg) (m : Nat) (M : Nat -> Pg) (h1 : 1 <= n) (hn : n <= 100) (hm : m <= 100) (hp : ∀ i, i < n -> okP (L i)) (hq : ∀ j, j < m -> okP (M j)) : PC prog G 70 [lsV n L, lsV m M] [] (.bl (freeB n L m M)) [] := by
 have gi := fun i hi => goesFi hG hT n L m M hm i (hp i hi) hq
 have rd : ∀ (i : Int) (e : Exit) (ls S0 S1 : LS) (e' : Exit), Goes (Rnd prog G f70.ntmps 0 [1, 4, 6, 11, 12, 13, 17, 18, 19] iFr) S0 e' S1 -> (qh prog [] [(5, qI S0 e' S1)] polFr f70.ntmps 0 [1, 4, 11, 12, 13] bFr (soFr n L m M i)).run = some (.out e ls) ->
   Rnd prog G f70.ntmps 0 [1, 4, 11, 12, 13] bFr (soFr n L m M i) e ls := fun i e ls S0 S1 e' g h =>
  qb hG .nil mix (pol := polFr) (lps1 (b := iFr) (live := [1, 4, 6, 11, 12, 13, 17, 18, 19]) (m := 0) (by kernel_rfl) (by kernel_rfl) (by kernel_rfl) (qC g)) (Nat.zero_le _) h
 have hl : ∀ (lQ : qy), qw prog G f70.ntmps 0 [1, 4, 11, 12, 13] bFr lQ -> LpsOK prog G polFr f70.ntmps 0 [(2, lQ)] (qd f70) := fun lQ h =>
  lps1n (b := bFr) (b' := iFr) (live := [1, 4, 11, 12, 13]) (m := 0) (by kernel_rfl) (by kernel_rfl) (by kernel_rfl) (by kernel_rfl) h
 have step : ∀ (i : Nat) (res : Tr) (r : Res), i < n -> res.run = some r -> (trG n L m M i i res).run = some r := fun i res r hi h => by
  unfold trG
  rw [k5 (kE (by omega)), k5 (by simp only [kA, kD]; omega), k5 isLS_t]
  exact h
 have ext : ∀ (q : Int) (res : Tr), (trG n L m M n q res).run = some (.out (.exit 0) (soFr n L m M n)) := fun q res => by
  unfold trG
  rw [k6 (kF (by omega)), k7]
 have hx : Rnd prog G f70.ntmps 0 [1, 4, 11, 12, 13] bFr (soFr n L m M n) (.exit 0) (soFr n L m M n) := by
  cases hB : frI L m M 0 with
  | true => exact rd n _ _ _ _ _ ((gi 0 (by omega)).1 hB) ((toFt n L m M n _).trans (ext _ _))
  | false =>
   obtain ⟨k, g⟩ := (gi 0 (by omega)).2 hB
   exact rd n _ _ _ _ _ g ((toFb n L m M n _ k).trans (ext _ _))
 obtain ⟨w1, w2⟩ := Goes.search (R := Rnd prog G f70.ntmps 0 [1, 4, 11, 12, 13] bFr) (fun i => soFr n L m M ((i : Nat) : Int)) (fun i => soFr n L m M ((i : Nat) : Int)) (frI L m M) n (e0 := .exit 0) (e1 := .ret) (fin := soFr n L m M n) (by simp) (by simp)
  (fun i hi ok => by
   refine rd i _ _ _ _ _ ((gi i hi).1 ok) ((toFt n L m M i i).trans (step i _ _ hi ?_))
   rw [k5 (by simp only [ovf, kA, kD]; omega), k7]
   rfl)
  (fun i hi ok => by
   obtain ⟨k, g⟩ := (gi i hi).2 ok
   exact rd i _ _ _ _ _ g ((toFb n L m M i i k).trans (step i _ _ hi rfl)))
  hx n 0 (by omega)
 cases hB : freeB n L m M with
 | true =>
  have g : Goes (Rnd prog G f70.ntmps 0 [1, 4, 11, 12, 13] bFr) (soFr n L m M 0) (.exit 0) (soFr n L m M n) := w1 (all_r.1 hB)
  refine qj hG .nil mix enFr (hs := []) (pol := polFr) (L := [(2, qI (soFr n L m M 0) (.exit 0) (soFr n L m M n))]) (hl _ (qC g)) ((eFrT n L m M).trans ?_)
  rw [k5 isLS_t, k7]
 | false =>
  have hn' : ¬ ∀ j, 0 <= j -> j < n -> frI L m M j = true := fun h => by
   have := all_r.2 h
   rw [freeB, this] at hB
   cases hB
  have g : Goes (Rnd prog G f70.ntmps 0 [1, 4, 11, 12, 13] bFr) (soFr n L m M 0) .ret (soFr n L m M ((fbad (frI L m M) n 0 : Nat) : Int)) := w2 hn'
  generalize ((fbad (frI L m M) n 0 : Nat) : Int) = q at g
  refine qj hG .nil mix enFr (hs := []) (pol := polFr) (L := [(2, qI (soFr n L m M 0) .ret (soFr n L m M q))]) (hl _ (qC g)) ((eFrF n L m M q).trans ?_)
  rw [k5 isLS_t, k7]
end
section
open Go
set_option maxRecDepth 100000
variable {G : World -> (Nat -> Prop) -> Prop} (hG : GOk G)
def Asam (l : List Int) : Am := ⟨⟨#[111, 110, 101]⟩, mkRat 0 1, mkRat 0 1, mkRat 0 1, l.length, fun j => smL (l.getD j 0)⟩
include hG in
theorem sam_ok (l : List Int) (h : (evF Tryz.prog O32 [(3, l32)] pol32 Tryz.f64 [.lst 1 (.ints .i64 l)] [] ql).run = some (.ret (frA ⟨#[111, 110, 101]⟩ (mkRat 0 1) (mkRat 0 1) (mkRat 0 1) (.fr 16 (.vals (l.map smV)))) [])) : PC Tryz.prog G 64 [.lst 1 (.ints .i64 l)] [] (armFr (Asam l)) [] := by
 refine (qj hG (.cons (ok23 hG) (.cons (ok84 hG) .nil)) mix enter32 (O := O32) (L := [(3, l32)]) (pol := pol32) (lps1 (b := b32) (live := [2, 3, 11, 12, 13]) (sp := l32) (m := 0) (by kernel_rfl) (by kernel_rfl) (by kernel_rfl) (unr_ok hG (.cons (ok23 hG) (.cons (ok84 hG) .nil)) mix (k9 (by kernel_rfl)) 3)) h).le ?_ (.refl _)
 refine rle_arm _ _ _ _ _ _ _ (by rw [List.length_map]; rfl) fun i u hu => ?_
 rw [List.getElem?_map] at hu
 cases hx : l[i]? with
 | none => rw [hx] at hu; cases hu
 | some x =>
  rw [hx] at hu
  obtain rfl := Option.some.inj hu
  refine ⟨rfl, ?_⟩
  show VLe _ (lkPV (smL (l.getD i 0)))
  rw [List.getD_eq_getElem?_getD, hx]
  exact smV_le x
include hG in
theorem sam3 : PC Tryz.prog G 64 [.lst 1 (.ints .i64 [3])] [] (armFr (Asam [3])) [] := sam_ok hG [3] (by kernel_rfl)
theorem armB_3 : armB (Asam [3]) = true := by kernel_rfl
end
section
open Go Tryz
set_option maxRecDepth 100000
variable {G : World -> (Nat -> Prop) -> Prop} (hG : GOk G)
theorem enWk : Enters prog 69 f69 (qd f69) := ⟨func69, by kernel_rfl, rfl⟩
theorem enWl : Enters prog 29 f29 (qd f29) := ⟨func29, by kernel_rfl, rfl⟩
theorem enCl : Enters prog 26 f26 (qd f26) := ⟨func26, by kernel_rfl, rfl⟩
def gCh : Spec := fun args hs K => match args, hs with
 | [p], [] => .br (qg (isPg p)) (K (.i .i64 (pkE (dPg p))) []) (.no 1)
 | _, _ => .no 1
def bWk : Code := (qi (qd f69)).getD 0 .skip
def polWk : Pol := { live := [(4, [2, 9, 10, 11])] }
def stWk (m : Nat) (M : Nat -> Pg) (e j : Int) : LS := ⟨[.i .i64 e, lsV m M, .i .i64 m, .i .i64 j], []⟩
theorem tWk (m : Nat) (M : Nat -> Pg) (j : Int) : (qh prog [(117, gCh)] [] polWk f69.ntmps 0 [2, 9, 10, 11] bWk (stWk m M 0 j)).run =
  (Tr.br (decide (j < (m : Int))) (.br (ix (j) ((m : Int))) (.br (qg (isPg (pgV (M j.toNat)))) (.br (!decide (pkE (M j.toNat) = 0)) (.ok (.out .ret (stWk m M (pkE (M j.toNat)) j))) (.br (ovf (j + 1)) (.ok (.out .normal (stWk m M 0 (j + 1)))) (.no 1))) (.no 1)) (.no 1)) (.ok (.out (.exit 0) (stWk m M 0 j)))).run := by kernel_rfl
theorem eWkT (m : Nat) (M : Nat -> Pg) : (evF prog [(117, gCh)] [(4, qI (stWk m M 0 0) (.exit 0) (stWk m M 0 m))] polWk f69 [lsV m M] [] ql).run =
  (Tr.br (decide (20 < (m : Int))) (.ok (.ret (.i .i64 2) [])) (.br (qg (isLS (stWk m M 0 0) (stWk m M 0 0))) (.ok (.ret (.i .i64 0) [])) (.no 1))).run := by kernel_rfl
def plG (A : Am) (q : List Rat) (i : Nat) : Pg :=
 ⟨(A.lk i).np, fun k => ptX (allF (bsF A) (qf q) (fun j => (A.lk j).len) A.n i) ((A.lk i).px k) ((A.lk i).py k), fun k => ptY (allF (bsF A) (qf q) (fun j => (A.lk j).len) A.n i) ((A.lk i).px k) ((A.lk i).py k)⟩
theorem eWl (A : Am) (q : List Rat) (n : Nat) (L : Nat -> Pg) (m : Nat) (M : Nat -> Pg) (f : Bool) : (evF prog [(68, cst [qA A, .lst 3 (.rats 64 q)] True (.tup [.fr 1 (.fn n (fun i => pgV (L i))), .i .i64 0])), (70, cst [lsV n L, lsV m M] True (.bl f)), (69, cst [lsV m M] True (.i .i64 0))] [] {} f29 [qA A, .lst 3 (.rats 64 q), lsV m M] [] ql).run =
  (Tr.br (qg (isA [qA A, .lst 3 (.rats 64 q)] True [qA A, .lst 3 (.rats 64 q)])) (.br ((0 + n).ble n) (.br (qg (isA [lsV m M] True [lsV m M])) (.br (qg (isA [lsV n L, lsV m M] True [lsV n L, lsV m M])) (.ok (.ret (.tup [.bl f, .i .i64 0]) [])) (.no 1)) (.no 1)) (.no 1)) (.no 1)).run := by kernel_rfl
include hG in
theorem gkCh (hT : qo G) : qc prog G 117 gCh := by
 intro args hs K x h
 unfold gCh at h
 split at h
 case h_2 => cases h
 obtain ⟨hc, hr⟩ := k8 h
 obtain ⟨P, rfl, h3, h8⟩ := decP_iff.1 hc
 exact ⟨_, _, pcCh hG hT P h3 h8, hr⟩
include hG in
theorem pcWk (hT : qo G) (m : Nat) (M : Nat -> Pg) (hm : m <= 20) (hq : ∀ j, j < m -> okP (M j) /\ pkE (M j) = 0) : PC prog G 69 [lsV m M] [] (.i .i64 0) [] := by
 have orc : OrcOK prog G [(117, gCh)] := .cons (gkCh hG hT) .nil
 have w := Goes.count (R := Rnd prog G f69.ntmps 0 [2, 9, 10, 11] bWk) (fun j => stWk m M 0 ((j : Nat) : Int)) (e := .exit 0) (ls' := stWk m M 0 m) (by simp) m 0
  (fun j _ hj => by
   obtain ⟨h1, h2⟩ := hq j (by omega)
   refine qb hG orc mix (L := []) (pol := polWk) (k9 (by kernel_rfl)) (Nat.zero_le _) ((tWk m M j).trans ?_)
   rw [Int.toNat_natCast, k5 (kE (by omega)), k5 (by simp only [kA, kD]; omega), k5 (decP_iff.2 ⟨_, rfl, h1⟩), k6 (by simp [h2]), k5 (by simp only [ovf, kA, kD]; omega), k7]
   rfl)
  (by
   refine qb hG orc mix (L := []) (pol := polWk) (k9 (by kernel_rfl)) (Nat.zero_le _) ((tWk m M _).trans ?_)
   rw [Nat.zero_add, k6 (kF (by omega)), k7])
 have g : Goes (Rnd prog G f69.ntmps 0 [2, 9, 10, 11] bWk) (stWk m M 0 0) (.exit 0) (stWk m M 0 m) := w
 refine qj hG orc mix enWk (hs := []) (pol := polWk) (L := [(4, qI (stWk m M 0 0) (.exit 0) (stWk m M 0 m))]) (lps1 (b := bWk) (live := [2, 9, 10, 11]) (m := 0) (by kernel_rfl) (by kernel_rfl) (by kernel_rfl) (qC g)) ((eWkT m M).trans ?_)
 rw [k6 (kF (by omega)), k5 isLS_t, k7]
theorem plG_ok {A : Am} (hS : shp A) {q : List Rat} {i : Nat} (hi : i < A.n) : okP (plG A q i) := by
 have := hS i hi
 show 3 <= (A.lk i).np /\ (A.lk i).np <= 8
 omega
include hG in
theorem pcWl (hT : qo G) (A : Am) (hA : armB A = true) (hS : shp A) (q : List Rat) (hl : q.length = A.n) (m : Nat) (M : Nat -> Pg) (hm : m <= 20) (hq : ∀ j, j < m -> okP (M j) /\ pkE (M j) = 0) :
  PC prog G 29 [qA A, .lst 3 (.rats 64 q), lsV m M] [] (.tup [.bl (freeB A.n (plG A q) m M), .i .i64 0]) [] := by
 obtain ⟨a1, a2, a3, a4, h1, h3, a7⟩ := armB_c hA
 have p33 : PC prog G 68 [qA A, .lst 3 (.rats 64 q)] [] (.tup [.fr 1 (.fn A.n (fun i => pgV (plG A q i))), .i .i64 0]) [] := pcPl hG hT A hA hS q hl
 have p71 := pcFr hG hT A.n (plG A q) m M h1 (by omega) (by omega) (fun i hi => plG_ok hS hi) (fun j hj => (hq j hj).1)
 refine qj hG (.cons (cst_t p33) (.cons (cst_t p71) (.cons (cst_t (pcWk hG hT m M hm hq)) .nil))) mix enWl (hs := []) (L := []) (pol := {}) (k9 (by kernel_rfl)) ((eWl A q A.n (plG A q) m M _).trans ?_)
 rw [k5 (decP_iff.2 ⟨rfl, trivial⟩), k5 (by rw [kG]; omega), k5 (decP_iff.2 ⟨rfl, trivial⟩), k5 (decP_iff.2 ⟨rfl, trivial⟩), k7]
def wlV : PV := .lst 1 (.vals [.lst 6 (.vals [.agg [.q (mkRat 2 1) 64, .q (mkRat 0 1) 64], .agg [.q (mkRat 4 1) 64, .q (mkRat 0 1) 64], .agg [.q (mkRat 4 1) 64, .q (mkRat 1 1) 64]])])
def wlP : Pg := ⟨3, fun j => [mkRat 2 1, mkRat 4 1, mkRat 4 1].getD j 0, fun j => [mkRat 0 1, mkRat 0 1, mkRat 1 1].getD j 0⟩
theorem wl_le : VLe wlV (lsV 1 (fun _ => wlP)) := by
 refine VLe.lst rfl fun i hi => ?_
 have hi' : i < 1 := hi
 match i, hi' with
 | 0, _ =>
  refine VLe.lst rfl fun i hi => ?_
  have hi' : i < 3 := hi
  match i, hi' with
  | 0, _ => exact VLe.agg (qJ (qF (show 64 <= 32138 by omega)) (qJ (qF (show 64 <= 32138 by omega)) vll0))
  | 1, _ => exact VLe.agg (qJ (qF (show 64 <= 32138 by omega)) (qJ (qF (show 64 <= 32138 by omega)) vll0))
  | 2, _ => exact VLe.agg (qJ (qF (show 64 <= 32138 by omega)) (qJ (qF (show 64 <= 32138 by omega)) vll0))
  | i + 3, h => omega
 | i + 1, h => omega
def fq (q : Rat) : Fr := allF (bsF (Asam [3])) (qf [q]) (fun j => ((Asam [3]).lk j).len) (Asam [3]).n 0
def pgS (c s : Rat) : Pg := ⟨4, fun k => 0 + (((Asam [3]).lk 0).px k * c - ((Asam [3]).lk 0).py k * s), fun k => 0 + (((Asam [3]).lk 0).px k * s + ((Asam [3]).lk 0).py k * c)⟩
theorem plG_s {q c s : Rat} (h1 : (fq q).x = 0) (h2 : (fq q).y = 0) (h3 : qN (fq q).h (fq q).t = c) (h4 : qx (fq q).h (fq q).t = s) : plG (Asam [3]) [q] 0 = pgS c s := by
 show (⟨4, fun k => ptX (fq q) (((Asam [3]).lk 0).px k) (((Asam [3]).lk 0).py k), fun k => ptY (fq q) (((Asam [3]).lk 0).px k) (((Asam [3]).lk 0).py k)⟩ : Pg) = _
 simp only [ptX, ptY, h1, h2, h3, h4]
 rfl
theorem pg0 : plG (Asam [3]) [0] 0 = pgS 1 0 := by
 refine plG_s ?_ ?_ ?_ ?_ <;> simp only [fq, allF, frmF, endR, fstep, thH, thT, qN, qx, ftT, qe] <;> kernel_rfl
theorem pg2 : plG (Asam [3]) [2] 0 = pgS (-3 / 5) (4 / 5) := by
 refine plG_s ?_ ?_ ?_ ?_ <;> simp only [fq, allF, frmF, endR, fstep, thH, thT, qN, qx, ftT, qe] <;> kernel_rfl
theorem free_1 (L M : Nat -> Pg) : freeB 1 L 1 M = frB (L 0) (M 0) := by simp [freeB, frI, List.range_succ]
theorem fr0 : freeB 1 (plG (Asam [3]) [0]) 1 (fun _ => wlP) = false := by
 rw [free_1, pg0]
 kernel_rfl
theorem fr2 : freeB 1 (plG (Asam [3]) [2]) 1 (fun _ => wlP) = true := by
 rw [free_1, pg2]
 kernel_rfl
theorem wlK : pkE wlP = 0 := by kernel_rfl
def isWl (a w : PV) (q : Rat) : Prop := a = qA (Asam [3]) /\ w = wlV /\ (q = 0 \/ q = 2)
def vWl : Spec := fun args hs K => match args, hs with
 | [a, .lst 3 (.rats 64 [q]), w], [] => .br (qg (isWl a w q)) (match decide (q = 2) with | true => K (.tup [.bl true, .i .i64 0]) [] | false => K (.tup [.bl false, .i .i64 0]) []) (.no 1)
 | _, _ => .no 1
include hG in
theorem vkWl (hT : qo G) : qc prog G 29 vWl := by
 intro args hs K x h
 unfold vWl at h
 split at h
 case h_2 => cases h
 obtain ⟨hc, hr⟩ := k8 h
 obtain ⟨rfl, rfl, hq⟩ := decP_iff.1 hc
 have p := fun (q : Rat) => PC.args (.cons (.refl _) (.cons (.refl _) (.cons wl_le .nil))) (pcWl hG hT (Asam [3]) armB_3 (fun _ _ => .inr rfl) [q] rfl 1 (fun _ => wlP) (by omega) (fun _ _ => ⟨⟨by decide, by decide⟩, wlK⟩))
 rcases hq with rfl | rfl
 ·have p0 := p 0
  rw [show (Asam [3]).n = 1 from rfl, fr0] at p0
  exact ⟨_, _, p0, hr⟩
 ·have p2 := p 2
  rw [show (Asam [3]).n = 1 from rfl, fr2] at p2
  exact ⟨_, _, p2, hr⟩
theorem eCl : (evF prog [(64, cst [.lst 1 (.ints .i64 [3])] True (armFr (Asam [3]))), (65, s23), (63, s84), (29, vWl)] [] {} f26 [] [] ql).run =
  (Tr.br (qg (isA [.lst 1 (.ints .i64 [3])] True [.lst 1 (.ints .i64 [3])])) (.br (qg (isWl (qA (Asam [3])) wlV (mkRat 0 1))) (.br (qg (isA [.lst 1 (.ints .i64 [3])] True [.lst 1 (.ints .i64 [3])])) (.br (qg (isWl (qA (Asam [3])) wlV (mkRat 2 1))) (.ok (.ret (.bl true) [])) (.no 1)) (.no 1)) (.no 1)) (.no 1)).run := by kernel_rfl
include hG in
theorem pcCl (hT : qo G) : PC prog G 26 [] [] (.bl true) [] := by
 refine qj hG (.cons (cst_t (sam3 hG)) (.cons (ok23 hG) (.cons (ok84 hG) (.cons (vkWl hG hT) .nil)))) mix enCl (hs := []) (L := []) (pol := {}) (k9 (by kernel_rfl)) (eCl.trans ?_)
 rw [k5 (decP_iff.2 ⟨rfl, trivial⟩), k5 (decP_iff.2 ⟨rfl, rfl, .inl (by kernel_rfl)⟩), k5 (decP_iff.2 ⟨rfl, trivial⟩), k5 (decP_iff.2 ⟨rfl, rfl, .inr (by kernel_rfl)⟩), k7]
end
section
open Go
set_option maxRecDepth 100000
variable {G : World -> (Nat -> Prop) -> Prop} (hG : GOk G)
theorem mn_mxF (u : Nat -> Rat) : ∀ k, mnF u k <= mxF u k
 | 0 => Rat.le_refl
 | k + 1 => Rat.le_trans (mnR_l _ _) (Rat.le_trans (mn_mxF u k) (mxR_l _ _))
end
section
open Go Tryz
set_option maxRecDepth 100000
variable {G : World -> (Nat -> Prop) -> Prop} (hG : GOk G)
theorem enterWh : Enters prog 165 f165 (qd f165) := ⟨func165, by kernel_rfl, rfl⟩
theorem kWh (x : Rat) (n : Nat) (W : Nat) : evF prog [(62, g76 W), (101, h108), (114, h113)] [] {} f165 [.q x n] [] ql =
 Tr.br (bz (qr x) && bz (qt x) && decide ((0 : Nat) < val (qt x))) (.br (qn x) (.br (!decide (rmB (qr x) (qt x) = ByteArray.mk #[])) (.br (bz (quB (qr x) (qt x)) && bz (ByteArray.mk #[(1 : UInt8)])) (.br (qg (M76 (adB (quB (qr x) (qt x)) (ByteArray.mk #[(1 : UInt8)])) (ByteArray.mk #[(1 : UInt8)]) W)) (.ok (.ret (.q (mkq (qn x) (adB (quB (qr x) (qt x)) (ByteArray.mk #[(1 : UInt8)])) (ByteArray.mk #[(1 : UInt8)])) W) [])) (.no 1)) (.no 1)) (.br (qg (M76 (quB (qr x) (qt x)) (ByteArray.mk #[(1 : UInt8)]) W)) (.ok (.ret (.q (mkq (qn x) (quB (qr x) (qt x)) (ByteArray.mk #[(1 : UInt8)])) W) [])) (.no 1))) (.br (qg (M76 (quB (qr x) (qt x)) (ByteArray.mk #[(1 : UInt8)]) W)) (.ok (.ret (.q (mkq (qn x) (quB (qr x) (qt x)) (ByteArray.mk #[(1 : UInt8)])) W) [])) (.no 1))) (.no 1) := by kernel_rfl
def gWh : Spec := fun args hs K => match args, hs with
 | [.q x n], [] => .br (Nat.ble n 790000) (K (.q (x.floor : Rat) (n + 1)) []) (.no 1)
 | _, _ => .no 1
theorem floor_z (x : Rat) : (x.floor : Rat) = if qn x = true /\ x.num.natAbs % x.den ≠ 0 then mkz (qn x) (x.num.natAbs / x.den + 1) 1 else mkz (qn x) (x.num.natAbs / x.den) 1 := by
 have hd := x.den_pos
 have hf : x.floor = x.num / (x.den : Int) := by
  rw [Rat.floor_def]
 rw [hf]
 have e := Nat.div_add_mod x.num.natAbs x.den
 have hm := Nat.mod_lt x.num.natAbs hd
 generalize hq : x.num.natAbs / x.den = q at *
 generalize hr : x.num.natAbs % x.den = r at *
 have hD : (0 : Int) < (x.den : Int) := by omega
 by_cases hn : qn x = true
 ·have hneg : x.num < 0 := of_decide_eq_true hn
  have hx : x.num = -((x.den : Int) * q + r) := by
   have : (x.num.natAbs : Int) = (x.den : Int) * q + r := by rw [<- e]; simp
   omega
  by_cases h0 : r = 0
  ·rw [if_neg (fun h => h.2 h0), hn, mkz_int, hx, h0]
   congr 1
   show -((x.den : Int) * q + (0 : Nat)) / (x.den : Int) = -(q : Int)
   rw [show -((x.den : Int) * q + ((0 : Nat) : Int)) = (x.den : Int) * (-(q : Int)) by simp [Int.mul_neg]]
   exact Int.mul_ediv_cancel_left _ (by omega)
  ·rw [if_pos ⟨hn, h0⟩, hn, mkz_int, hx]
   congr 1
   show -((x.den : Int) * q + r) / (x.den : Int) = -((q + 1 : Nat) : Int)
   rw [show -((x.den : Int) * q + (r : Int)) = ((x.den : Int) - r) + (x.den : Int) * (-(q + 1 : Int)) by rw [Int.mul_neg, Int.mul_add]; omega]
   rw [Int.add_mul_ediv_left _ _ (by omega), Int.ediv_eq_zero_of_lt (by omega) (by omega)]
   omega
 ·have hnn : 0 <= x.num := by
   have : ¬ x.num < 0 := fun h => hn (kE h)
   omega
  rw [if_neg (fun h => hn h.1), show qn x = false by simpa using hn, mkz_int]
  congr 1
  have hx : x.num = (x.den : Int) * q + r := by
   have : (x.num.natAbs : Int) = (x.den : Int) * q + r := by rw [<- e]; simp
   omega
  show x.num / (x.den : Int) = (q : Int)
  rw [hx, Int.add_comm, Int.add_mul_ediv_left _ _ (by omega), Int.ediv_eq_zero_of_lt (by omega) (by omega)]
  omega
theorem one1 : (⟨#[1]⟩ : ByteArray) = nb 1 := by kernel_rfl
theorem emp0 : (⟨#[]⟩ : ByteArray) = nb 0 := by kernel_rfl
theorem M76_nb {a d W : Nat} (h0 : 0 < d) (ha : a < 2 ^ W) (hd : d < 2 ^ W) (h1 : 0 < W) (h8 : W <= 800000) : qg (M76 (nb a) (nb d) W) = true :=
 decP_iff.2 ⟨by rw [qD], by rw [qD], by rw [qD]; exact h0, by rw [qD]; exact ha, by rw [qD]; exact hd, h1, h8⟩
include hG in
theorem gkWh (hT : qo G) : qc prog G 165 gWh := by
 intro args hs K y h
 unfold gWh at h
 split at h
 case h_2 => cases h
 rename_i x n
 obtain ⟨hc, hr⟩ := k8 h
 rw [kG] at hc
 refine ⟨_, _, ?_, hr⟩
 refine pc_assume _ q1_sz fun hq => ?_
 obtain ⟨s1, s2, s3⟩ := sz_lt hq
 have hd := x.den_pos
 have p1 : 2 ^ n < 2 ^ (n + 1) := Nat.pow_lt_pow_right (by omega) (by omega)
 have p0 : 1 < 2 ^ (n + 1) := Nat.lt_of_le_of_lt (Nat.one_le_two_pow) p1
 have hqle : x.num.natAbs / x.den <= x.num.natAbs := Nat.div_le_self _ _
 refine qj hG (.cons (gk76 hG hT (n + 1)) (.cons (hk108 hG) (.cons (hk113 hG) .nil))) mix enterWh (L := []) (pol := {}) (k9 (by kernel_rfl)) ?_
 rw [kWh x n (n + 1)]
 simp only [rnum_eq, rden_eq, one1, emp0, quB_nb, rmB_nb, adB_nb, val_nb, mkq_nb]
 rw [floor_z]
 have b0 : (bz (nb x.num.natAbs) && bz (nb x.den) && decide (0 < x.den)) = true := by
  rw [qE s1 (by omega), qE s2 (by omega), kE hd]; rfl
 have b1 : (bz (nb (x.num.natAbs / x.den)) && bz (nb 1)) = true := by
  rw [qE (k := x.num.natAbs / x.den) (n := n) (by omega) (by omega), qE (k := 1) (n := n + 1) p0 (by omega)]; rfl
 have m1 : qg (M76 (nb (x.num.natAbs / x.den)) (nb 1) (n + 1)) = true := M76_nb (by omega) (by omega) p0 (by omega) (by omega)
 have m2 : qg (M76 (nb (x.num.natAbs / x.den + 1)) (nb 1) (n + 1)) = true := M76_nb (by omega) (by omega) p0 (by omega) (by omega)
 have nbz : ∀ k : Nat, (nb k = nb 0) ↔ k = 0 := fun k => ⟨fun h => by have := congrArg (fun b : ByteArray => bv b.data.toList) h; simpa [qD] using this, fun h => by rw [h]⟩
 rw [k5 b0]
 cases hn : qn x with
 | false =>
  rw [k6 rfl, k5 m1, if_neg (by simp), k7]
 | true =>
  rw [k5 rfl]
  by_cases h0 : x.num.natAbs % x.den = 0
  ·rw [k6 (by rw [kE ((nbz _).2 h0)]; rfl), k5 m1, if_neg (fun h => h.2 h0), k7]
  ·rw [k5 (by rw [kF (fun h => h0 ((nbz _).1 h))]; rfl), k5 b1, k5 m2, if_pos ⟨rfl, h0⟩, k7]
theorem enterDn : Enters prog 216 f216 (qd f216) := ⟨func216, by kernel_rfl, rfl⟩
theorem enterUp : Enters prog 217 f217 (qd f217) := ⟨func217, by kernel_rfl, rfl⟩
def isMil (a b : ByteArray) : Prop := a = nb 1000000 /\ b = nb 1
def gMil : Spec := fun args hs K => match args, hs with
 | [.q x n, .agg [.bl false, .s a, .s b]], [] => .br (qg (isMil a b)) (.br (Nat.ble (n + 20) 800000) (K (.q (x * 1000000) (n + 20)) []) (.no 1)) (.no 1)
 | _, _ => .no 1
theorem kDn (x : Rat) (n : Nat) (W : Nat) : evF prog [(75, gMil), (62, g76 W), (100, s107), (165, gWh)] [] {} f216 [.q x n, .i .i64 1000000] [] ql =
 Tr.br (decide ((if (1 : Int) > (1000000 : Int) then (1 : Int) else (1000000 : Int)) <= 9223372036854775807)) (.br (qg (isMil (nb (if (1 : Int) > (1000000 : Int) then (1 : Int) else (1000000 : Int)).toNat) (ByteArray.mk #[(1 : UInt8)]))) (.br ((n + 20).ble 800000) (.br ((n + 20).ble 790000) (.br (qg (M76 (qr (↑(x * 1000000).floor : Rat)) (nb (if (1 : Int) > (1000000 : Int) then (1 : Int) else (1000000 : Int)).toNat) W)) (.ok (.ret (.q (mkq (qn (↑(x * 1000000).floor : Rat)) (qr (↑(x * 1000000).floor : Rat)) (nb (if (1 : Int) > (1000000 : Int) then (1 : Int) else (1000000 : Int)).toNat)) W) [])) (.no 1)) (.no 1)) (.no 1)) (.no 1)) (.no 1) := by kernel_rfl
def gDn : Spec := fun args hs K => match args, hs with
 | [.q x n, .i .i64 1000000], [] => .br (Nat.ble n 700000) (K (.q (dnR x) (n + 42)) []) (.no 1)
 | _, _ => .no 1
def gUp : Spec := fun args hs K => match args, hs with
 | [.q x n, .i .i64 1000000], [] => .br (Nat.ble n 700000) (K (.q (upR x) (n + 42)) []) (.no 1)
 | _, _ => .no 1
theorem kUp (x : Rat) (n : Nat) : evF prog [(102, g83), (216, gDn)] [] {} f217 [.q x n, .i .i64 1000000] [] ql =
 Tr.br (n.ble 800000) (.br (n.ble 700000) (.br ((n + 42).ble 800000) (.ok (.ret (.q (-dnR (-x)) (n + 42)) [])) (.no 1)) (.no 1)) (.no 1) := by kernel_rfl
theorem mil_sz : sz (1000000 : Rat) <= 20 := by decide +kernel
include hG in
theorem gkMil (hT : qo G) : qc prog G 75 gMil := by
 intro args hs K y h
 unfold gMil at h
 split at h
 case h_2 => cases h
 rename_i x n a b
 obtain ⟨hc, hr⟩ := k8 h
 obtain ⟨hb, hr⟩ := k8 hr
 obtain ⟨rfl, rfl⟩ := decP_iff.1 hc
 refine ⟨_, _, ?_, hr⟩
 have hv : VLe (.agg [.bl false, .s (nb 1000000), .s (nb 1)]) (.q 1000000 20) := by
  have key : ∀ (w : World) (S : Nat -> Prop) (μ : Mu) (cs : List Value), RepC w S μ (.agg [.bl false, .s (nb 1000000), .s (nb 1)]) cs -> RepC w S μ (.q 1000000 20) cs := by
   intro w S μ cs hc
   cases hc with
   | agg _ _ _ h1 =>
    cases h1 with
    | cons _ _ _ c1 d1 h2 h3 =>
     cases h2
     cases h3 with
     | cons _ _ _ c2 d2 h4 h5 =>
      cases h4
      cases h5 with
      | cons _ _ _ c3 d3 h6 h7 =>
       cases h6
       cases h7
       exact .q _ (1000000 : Rat) 20 mil_sz
  refine ⟨rfl, fun w S μ => ⟨key w S μ, fun x hx => ?_⟩⟩
  cases hx with
  | cell _ _ _ hv _ => cases hv
  | agg _ _ cs hv hc => exact .agg _ _ _ rfl (key w S μ cs hc)
 exact PC.args (.cons (.refl _) (.cons hv .nil)) (pc_spec (gk43 hG hT) (r := .q (x * 1000000) (n + 20)) (hs' := []) ((k5 hb).trans rfl))
theorem mk_mil (k : Int) : mkz (qn (k : Rat)) ((k : Rat).num.natAbs) 1000000 = (k : Rat) / 1000000 := by
 unfold mkz
 rw [sg_num]
 show mkRat k 1000000 = _
 rw [Rat.mkRat_eq_div]
 rfl
theorem ab_up (x : Rat) : x <= ((x.num.natAbs : Int) : Rat) := by
 rw [Rat.le_iff]
 have h := Nat.le_mul_of_pos_right x.num.natAbs x.den_pos
 have h2 : ((x.num.natAbs * x.den : Nat) : Int) = (x.num.natAbs : Int) * (x.den : Int) := by simp
 show x.num * ((1 : Nat) : Int) <= (x.num.natAbs : Int) * (x.den : Int)
 rw [<- h2]
 omega
theorem ab_dn (x : Rat) : -((x.num.natAbs : Int) : Rat) <= x := by
 have h := ab_up (-x)
 rw [neg_natAbs] at h
 grind
theorem fl_bd (x : Rat) (c : Int) (hc : 0 <= c) : (x * (c : Rat)).floor.natAbs <= x.num.natAbs * c.natAbs := by
 have hc' : (0 : Rat) <= (c : Rat) := Rat.intCast_le_intCast.2 hc
 have h1 := Rat.mul_le_mul_of_nonneg_right (ab_up x) hc'
 have h2 := Rat.mul_le_mul_of_nonneg_right (ab_dn x) hc'
 have e1 : ((x.num.natAbs : Int) : Rat) * (c : Rat) = (((x.num.natAbs : Int) * c : Int) : Rat) := by rw [Rat.intCast_mul]
 have e2 : -((x.num.natAbs : Int) : Rat) * (c : Rat) = ((-((x.num.natAbs : Int) * c) : Int) : Rat) := by rw [Rat.intCast_neg, Rat.intCast_mul]; grind
 rw [e1] at h1
 rw [e2] at h2
 have f1 := Rat.intCast_le_intCast.1 (Rat.le_trans (Rat.floor_le _) h1)
 have f2 := Rat.le_floor_iff.2 h2
 have e3 : ((x.num.natAbs * c.natAbs : Nat) : Int) = (x.num.natAbs : Int) * c := by
  rw [Int.natCast_mul, Int.natAbs_of_nonneg hc]
 omega
include hG in
theorem gkDn (hT : qo G) : qc prog G 216 gDn := by
 intro args hs K y h
 unfold gDn at h
 split at h
 case h_2 => cases h
 rename_i x n
 obtain ⟨hc, hr⟩ := k8 h
 rw [kG] at hc
 refine ⟨_, _, ?_, hr⟩
 refine pc_assume (sz x <= n) (fun w S μ vs h => by cases h with | cons _ _ _ _ _ h _ => exact q_szV h) fun hq => ?_
 obtain ⟨s1, s2, s3⟩ := sz_lt hq
 have hz := fl_bd x 1000000 (by decide)
 have p20 : (1000000 : Nat) < 2 ^ 20 := by decide
 have hb : (x * ((1000000 : Int) : Rat)).floor.natAbs < 2 ^ (n + 42) := by
  refine Nat.lt_of_le_of_lt hz ?_
  show x.num.natAbs * 1000000 < _
  have a1 : x.num.natAbs * 1000000 < 2 ^ n * 2 ^ 20 := Nat.mul_lt_mul_of_lt_of_le s1 (Nat.le_of_lt p20) (by decide)
  rw [<- Nat.pow_add] at a1
  exact Nat.lt_of_lt_of_le a1 (Nat.pow_le_pow_right (by omega) (by omega))
 have hd : (1000000 : Nat) < 2 ^ (n + 42) := Nat.lt_of_lt_of_le p20 (Nat.pow_le_pow_right (by omega) (by omega))
 refine qj hG (.cons (gkMil hG hT) (.cons (gk76 hG hT (n + 42)) (.cons (ok107 hG) (.cons (gkWh hG hT) .nil)))) mix enterDn (L := []) (pol := {}) (k9 (by kernel_rfl)) ?_
 rw [kDn x n (n + 42)]
 rw [dnR, qe, <- mk_mil]
 have hi : (if (1 : Int) > 1000000 then (1 : Int) else 1000000).toNat = 1000000 := by decide
 simp only [hi, rnum_eq, mkq_nb]
 have hb' : ((x * 1000000).floor : Rat).num.natAbs < 2 ^ (n + 42) := hb
 rw [k5 (by decide), k5 (decP_iff.2 ⟨rfl, one1⟩), k5 (by rw [kG]; omega), k5 (by rw [kG]; omega), k5 (M76_nb (by omega) hb' hd (by omega) (by omega)), k7]
include hG in
theorem gkUp (hT : qo G) : qc prog G 217 gUp := by
 intro args hs K y h
 unfold gUp at h
 split at h
 case h_2 => cases h
 rename_i x n
 obtain ⟨hc, hr⟩ := k8 h
 rw [kG] at hc
 refine ⟨_, _, ?_, hr⟩
 refine qj hG (.cons (gk83 hG hT) (.cons (gkDn hG hT) .nil)) mix enterUp (L := []) (pol := {}) (k9 (by kernel_rfl)) ?_
 rw [kUp x n, upR, qe, k5 (by rw [kG]; omega), k5 (by rw [kG]; omega), k5 (by rw [kG]; omega), k7]
theorem enOf : Enters prog 155 f155 (qd f155) := ⟨func155, by kernel_rfl, rfl⟩
theorem enGd : Enters prog 199 f199 (qd f199) := ⟨func199, by kernel_rfl, rfl⟩
theorem enFt : Enters prog 164 f164 (qd f164) := ⟨func164, by kernel_rfl, rfl⟩
theorem enHs : Enters prog 195 f195 (qd f195) := ⟨func195, by kernel_rfl, rfl⟩
theorem enJn : Enters prog 125 f125 (qd f125) := ⟨func125, by kernel_rfl, rfl⟩
theorem enAd : Enters prog 163 f163 (qd f163) := ⟨func163, by kernel_rfl, rfl⟩
theorem enSb : Enters prog 161 f161 (qd f161) := ⟨func161, by kernel_rfl, rfl⟩
theorem enAr : Enters prog 198 f198 (qd f198) := ⟨func198, by kernel_rfl, rfl⟩
theorem enMu : Enters prog 162 f162 (qd f162) := ⟨func162, by kernel_rfl, rfl⟩
theorem enSq : Enters prog 193 f193 (qd f193) := ⟨func193, by kernel_rfl, rfl⟩
theorem enOu : Enters prog 196 f196 (qd f196) := ⟨func196, by kernel_rfl, rfl⟩
def eqN (args : List PV) (n m : Nat) : Prop := (∃ a b c d, args = [.agg [.q a n, .q b n], .agg [.q c m, .q d m]]) /\ 1 <= n /\ 1 <= m /\ n + m <= 50000
def eqN1 (n m : Nat) : Prop := n = m /\ 1 <= n /\ n <= 25000
def spR (a b : Rat) (n : Nat) : PV := .agg [.q a n, .q b n]
def gOf : Spec := fun args hs K => match args, hs with
 | [.q x n], [] => .br (Nat.ble n 400000) (K (.agg [.q x n, .q x n]) []) (.no 1)
 | _, _ => .no 1
theorem kOf (x : Rat) (n : Nat) : evF prog [(121, v80)] [] {} f155 [.q x n] [] ql =
 Tr.br (qg (x = x /\ n = n /\ n <= 400000)) (.ok (.ret (.agg [.q x n, .q x n]) [])) (.no 1) := by kernel_rfl
def gGd : Spec := evF prog [(23, g27), (104, g109)] [] {} f199
def gFt : Spec := fun args hs K => match args, hs with
 | [.agg [.q a n, .q b m]], [] => .br (Nat.ble 1 n && Nat.ble 1 m && Nat.ble (n + m) 800000) (K (.agg [.q (qk a b).lo n, .q (qk a b).hi m]) []) (.no 1)
 | _, _ => .no 1
theorem kFt (a b : Rat) (n m : Nat) : evF prog [(155, gOf), (53, g71), (199, gGd)] [] {} f164 [.agg [.q a n, .q b m]] [] ql =
 Tr.br (n.ble 800000) (.br (m.ble 800000) (.br ((n + m).ble 800000) (.br (!decide (rcmp a b <= 0)) (.br (decide ((-72057594037927936 : Int) < 0) && decide ((0 : Int) <= 9223372036854775807)) (.br (((Int.natAbs (0 : Int)).log2 + 1).ble 400000) (.ok (.ret (.agg [.q (↑(0 : Int) : Rat) 1, .q (↑(0 : Int) : Rat) 1]) [])) (.no 1)) (.no 1)) (.ok (.ret (.agg [.q a n, .q b m]) []))) (.no 1)) (.no 1)) (.no 1) := by kernel_rfl
def gHs : Spec := fun args hs K => match args, hs with
 | [.agg [.q a n, .q b m], .q x k], [] => .br (Nat.ble 1 n && Nat.ble 1 m && Nat.ble (n + m + k) 400000) (K (.b (hasB (qk a b) x)) []) (.no 1)
 | _, _ => .no 1
theorem kHs (a b x : Rat) (n m k : Nat) : evF prog [(164, gFt), (23, g27)] [] {} f195 [.agg [.q a n, .q b m], .q x k] [] ql =
 Tr.br (Nat.ble 1 n && Nat.ble 1 m && (n + m).ble 800000) (.br ((n + k).ble 800000) (.br (decide (rcmp (qk a b).lo x <= 0)) (.br ((k + m).ble 800000) (.ok (.ret (.b (decide (rcmp x (qk a b).hi <= 0))) [])) (.no 1)) (.ok (.ret (.bl false) []))) (.no 1)) (.no 1) := by kernel_rfl
def gJn : Spec := fun args hs K => match args, hs with
 | [.agg [.q a n, .q b _], .agg [.q c m, .q d _]], [] => .br (qg (eqN args n m)) (K (.agg [.q (joinS (qk a b) (qk c d)).lo (Nat.max n m), .q (joinS (qk a b) (qk c d)).hi (Nat.max n m)]) []) (.no 1)
 | _, _ => .no 1
def gAd : Spec := fun args hs K => match args, hs with
 | [.agg [.q a n, .q b _], .agg [.q c m, .q d _]], [] => .br (qg (eqN args n m)) (K (.agg [.q (addS (qk a b) (qk c d)).lo (n + m + 1), .q (addS (qk a b) (qk c d)).hi (n + m + 1)]) []) (.no 1)
 | _, _ => .no 1
def gSb : Spec := fun args hs K => match args, hs with
 | [.agg [.q a n, .q b _], .agg [.q c m, .q d _]], [] => .br (qg (eqN args n m)) (K (.agg [.q (subS (qk a b) (qk c d)).lo (n + m + 1), .q (subS (qk a b) (qk c d)).hi (n + m + 1)]) []) (.no 1)
 | _, _ => .no 1
def gMu : Spec := fun args hs K => match args, hs with
 | [.agg [.q a n, .q b _], .agg [.q c m, .q d _]], [] => .br (qg (eqN args n m)) (K (.agg [.q (mulS (qk a b) (qk c d)).lo (n + m), .q (mulS (qk a b) (qk c d)).hi (n + m)]) []) (.no 1)
 | _, _ => .no 1
def gSq : Spec := fun args hs K => match args, hs with
 | [.agg [.q a n, .q b m]], [] => .br (qg (eqN1 n m)) (K (.agg [.q (sqS (qk a b)).lo (n + n), .q (sqS (qk a b)).hi (n + n)]) []) (.no 1)
 | _, _ => .no 1
def gOu : Spec := fun args hs K => match args, hs with
 | [.agg [.q a n, .q b m], .i .i64 1000000], [] => .br (qg (eqN1 n m)) (K (.agg [.q (dnR (qk a b).lo) (n + 42), .q (upR (qk a b).hi) (n + 42)]) []) (.no 1)
 | _, _ => .no 1
def gAr : Spec := fun args hs K => match args, hs with
 | [.lst 3 (.rats w [a, b, c, d])], [] => .br (Nat.ble 1 w && Nat.ble w 200000) (K (.agg [.q (mnR (mnR (mnR a b) c) d) w, .q (mxR (mxR (mxR a b) c) d) w]) []) (.no 1)
 | [.lst 3 (.rats w [a, b])], [] => .br (Nat.ble 1 w && Nat.ble w 200000) (K (.agg [.q (mnR a b) w, .q (mxR a b) w]) []) (.no 1)
 | _, _ => .no 1
def OFt : Orc := [(122, g86), (121, g80), (25, g21), (75, g43), (54, g29), (164, gFt), (198, gAr)]
theorem kJn (a b c d : Rat) (n m : Nat) : evF prog OFt [] {} f125 [spR a b n, spR c d m] [] ql =
 Tr.br (Nat.ble 1 n && Nat.ble 1 n && (n + n).ble 800000) (.br (Nat.ble 1 m && Nat.ble 1 m && (m + m).ble 800000) (.br ((n + m).ble 400000) (.br ((n + m).ble 400000) (.ok (.ret (.agg [.q (mnR (qk a b).lo (qk c d).lo) (n.max m), .q (mxR (qk a b).hi (qk c d).hi) (n.max m)]) [])) (.no 1)) (.no 1)) (.no 1)) (.no 1) := by kernel_rfl
theorem kAd (a b c d : Rat) (n m : Nat) : evF prog OFt [] {} f163 [spR a b n, spR c d m] [] ql =
 Tr.br (Nat.ble 1 n && Nat.ble 1 n && (n + n).ble 800000) (.br (Nat.ble 1 m && Nat.ble 1 m && (m + m).ble 800000) (.br ((n + m + 1).ble 800000) (.br ((n + m + 1).ble 800000) (.ok (.ret (.agg [.q ((qk a b).lo + (qk c d).lo) (n + m + 1), .q ((qk a b).hi + (qk c d).hi) (n + m + 1)]) [])) (.no 1)) (.no 1)) (.no 1)) (.no 1) := by kernel_rfl
theorem kSb (a b c d : Rat) (n m : Nat) : evF prog OFt [] {} f161 [spR a b n, spR c d m] [] ql =
 Tr.br (Nat.ble 1 n && Nat.ble 1 n && (n + n).ble 800000) (.br (Nat.ble 1 m && Nat.ble 1 m && (m + m).ble 800000) (.br ((n + m + 1).ble 800000) (.br ((n + m + 1).ble 800000) (.ok (.ret (.agg [.q ((qk a b).lo - (qk c d).hi) (n + m + 1), .q ((qk a b).hi - (qk c d).lo) (n + m + 1)]) [])) (.no 1)) (.no 1)) (.no 1)) (.no 1) := by kernel_rfl
theorem kMu (a b c d : Rat) (n m : Nat) : evF prog OFt [] {} f162 [spR a b n, spR c d m] [] ql =
 Tr.br (Nat.ble 1 n && Nat.ble 1 n && (n + n).ble 800000) (.br (Nat.ble 1 m && Nat.ble 1 m && (m + m).ble 800000) (.br ((n + m).ble 800000) (.br ((n + m).ble 800000) (.br ((n + m).ble 800000) (.br ((n + m).ble 800000) (.br (Nat.ble 1 ((n + m).max ((n + m).max ((n + m).max ((n + m).max (0 : Nat))))) && ((n + m).max ((n + m).max ((n + m).max ((n + m).max (0 : Nat))))).ble 200000) (.ok (.ret (.agg [.q (mnR (mnR (mnR ((qk a b).lo * (qk c d).lo) ((qk a b).lo * (qk c d).hi)) ((qk a b).hi * (qk c d).lo)) ((qk a b).hi * (qk c d).hi)) ((n + m).max ((n + m).max ((n + m).max ((n + m).max (0 : Nat))))), .q (mxR (mxR (mxR ((qk a b).lo * (qk c d).lo) ((qk a b).lo * (qk c d).hi)) ((qk a b).hi * (qk c d).lo)) ((qk a b).hi * (qk c d).hi)) ((n + m).max ((n + m).max ((n + m).max ((n + m).max (0 : Nat)))))]) [])) (.no 1)) (.no 1)) (.no 1)) (.no 1)) (.no 1)) (.no 1)) (.no 1) := by kernel_rfl
theorem kSq (a b : Rat) (n : Nat) : evF prog [(195, gHs), (53, g71), (75, g43), (164, gFt), (198, gAr)] [] {} f193 [spR a b n] [] ql =
 Tr.br (Nat.ble 1 n && Nat.ble 1 n && (n + n).ble 800000) (.br ((n + n).ble 800000) (.br ((n + n).ble 800000) (.br (Nat.ble 1 ((n + n).max ((n + n).max (0 : Nat))) && ((n + n).max ((n + n).max (0 : Nat))).ble 200000) (.br (decide ((-72057594037927936 : Int) < 0) && decide ((0 : Int) <= 9223372036854775807)) (.br (Nat.ble 1 n && Nat.ble 1 n && (n + n + ((Int.natAbs (0 : Int)).log2 + 1)).ble 400000) (.br (hasB (qk (qk a b).lo (qk a b).hi) (↑(0 : Int) : Rat)) (.br (decide ((-72057594037927936 : Int) < 0) && decide ((0 : Int) <= 9223372036854775807)) (.ok (.ret (.agg [.q (↑(0 : Int) : Rat) 1, .q (mxR ((qk a b).lo * (qk a b).lo) ((qk a b).hi * (qk a b).hi)) ((n + n).max ((n + n).max (0 : Nat)))]) [])) (.no 1)) (.ok (.ret (.agg [.q (mnR ((qk a b).lo * (qk a b).lo) ((qk a b).hi * (qk a b).hi)) ((n + n).max ((n + n).max (0 : Nat))), .q (mxR ((qk a b).lo * (qk a b).lo) ((qk a b).hi * (qk a b).hi)) ((n + n).max ((n + n).max (0 : Nat)))]) []))) (.no 1)) (.no 1)) (.no 1)) (.no 1)) (.no 1)) (.no 1) := by kernel_rfl
theorem kOu (a b : Rat) (n : Nat) : evF prog [(164, gFt), (216, gDn), (217, gUp)] [] {} f196 [spR a b n, .i .i64 1000000] [] ql =
 Tr.br (Nat.ble 1 n && Nat.ble 1 n && (n + n).ble 800000) (.br (n.ble 700000) (.br (n.ble 700000) (.ok (.ret (.agg [.q (dnR (qk a b).lo) (n + 42), .q (upR (qk a b).hi) (n + 42)]) [])) (.no 1)) (.no 1)) (.no 1) := by kernel_rfl
def bAr : Code := (qi (qd f198)).getD 0 .skip
def polAr : Pol := { live := [(3, [2, 3, 11, 12, 13])] }
def OAr : Orc := [(122, g86), (155, gOf), (121, g80)]
def lAr : qy := unr prog OAr [] polAr f198.ntmps 0 [2, 3, 11, 12, 13] bAr 4
theorem kAr4 (w : Nat) (a b c d : Rat) : (evF prog OAr [(3, lAr)] polAr f198 [.lst 3 (.rats w [a, b, c, d])] [] ql).run =
 (Tr.br (ix ((0 : Int)) ((↑[a, b, c, d].length : Int))) (.br (w.ble 400000) (.br (decide ((0 : Int) <= 1) && decide (1 <= (↑[a, b, c, d].length : Int))) (.br (decide (0 < (↑[b, c, d].length : Int))) (.br (ix ((0 : Int)) ((↑[b, c, d].length : Int))) (.br ((w + w).ble 400000) (.br ((w + w).ble 400000) (.br (decide (1 < (↑[b, c, d].length : Int))) (.br (ix ((1 : Int)) ((↑[b, c, d].length : Int))) (.br ((w.max w + w).ble 400000) (.br ((w.max w + w).ble 400000) (.br (decide (2 < (↑[b, c, d].length : Int))) (.br (ix ((2 : Int)) ((↑[b, c, d].length : Int))) (.br (((w.max w).max w + w).ble 400000) (.br (((w.max w).max w + w).ble 400000) (.br (decide (3 < (↑[b, c, d].length : Int))) (.br (ix ((3 : Int)) ((↑[b, c, d].length : Int))) (.br ((((w.max w).max w).max w + w).ble 400000) (.br ((((w.max w).max w).max w + w).ble 400000) (.no 16) (.no 1)) (.no 1)) (.no 5004)) (.ok (.ret (.agg [.q (mnR (mnR (mnR ([a, b, c, d].getD 0 0) ((List.take ([a, b, c, d].length - 1) (List.drop 1 [a, b, c, d])).getD (0 : Nat) (0 : Rat))) ((List.take ([a, b, c, d].length - 1) (List.drop 1 [a, b, c, d])).getD (1 : Nat) (0 : Rat))) ((List.take ([a, b, c, d].length - 1) (List.drop 1 [a, b, c, d])).getD (2 : Nat) (0 : Rat))) (((w.max w).max w).max w), .q (mxR (mxR (mxR ([a, b, c, d].getD 0 0) ((List.take ([a, b, c, d].length - 1) (List.drop 1 [a, b, c, d])).getD (0 : Nat) (0 : Rat))) ((List.take ([a, b, c, d].length - 1) (List.drop 1 [a, b, c, d])).getD (1 : Nat) (0 : Rat))) ((List.take ([a, b, c, d].length - 1) (List.drop 1 [a, b, c, d])).getD (2 : Nat) (0 : Rat))) (((w.max w).max w).max w)]) []))) (.no 1)) (.no 1)) (.no 5004)) (.ok (.ret (.agg [.q (mnR (mnR ([a, b, c, d].getD 0 0) ((List.take ([a, b, c, d].length - 1) (List.drop 1 [a, b, c, d])).getD (0 : Nat) (0 : Rat))) ((List.take ([a, b, c, d].length - 1) (List.drop 1 [a, b, c, d])).getD (1 : Nat) (0 : Rat))) ((w.max w).max w), .q (mxR (mxR ([a, b, c, d].getD 0 0) ((List.take ([a, b, c, d].length - 1) (List.drop 1 [a, b, c, d])).getD (0 : Nat) (0 : Rat))) ((List.take ([a, b, c, d].length - 1) (List.drop 1 [a, b, c, d])).getD (1 : Nat) (0 : Rat))) ((w.max w).max w)]) []))) (.no 1)) (.no 1)) (.no 5004)) (.ok (.ret (.agg [.q (mnR ([a, b, c, d].getD 0 0) ((List.take ([a, b, c, d].length - 1) (List.drop 1 [a, b, c, d])).getD (0 : Nat) (0 : Rat))) (w.max w), .q (mxR ([a, b, c, d].getD 0 0) ((List.take ([a, b, c, d].length - 1) (List.drop 1 [a, b, c, d])).getD (0 : Nat) (0 : Rat))) (w.max w)]) []))) (.no 1)) (.no 1)) (.no 5004)) (.ok (.ret (.agg [.q ([a, b, c, d].getD 0 0) w, .q ([a, b, c, d].getD 0 0) w]) []))) (.no 3003)) (.no 1)) (.no 2005)).run := by kernel_rfl
theorem kAr2 (w : Nat) (a b : Rat) : (evF prog OAr [(3, lAr)] polAr f198 [.lst 3 (.rats w [a, b])] [] ql).run =
 (Tr.br (ix ((0 : Int)) ((↑[a, b].length : Int))) (.br (w.ble 400000) (.br (decide ((0 : Int) <= 1) && decide (1 <= (↑[a, b].length : Int))) (.br (decide (0 < (↑[b].length : Int))) (.br (ix ((0 : Int)) ((↑[b].length : Int))) (.br ((w + w).ble 400000) (.br ((w + w).ble 400000) (.br (decide (1 < (↑[b].length : Int))) (.br (ix ((1 : Int)) ((↑[b].length : Int))) (.br ((w.max w + w).ble 400000) (.br ((w.max w + w).ble 400000) (.br (decide (2 < (↑[b].length : Int))) (.br (ix ((2 : Int)) ((↑[b].length : Int))) (.br (((w.max w).max w + w).ble 400000) (.br (((w.max w).max w + w).ble 400000) (.br (decide (3 < (↑[b].length : Int))) (.br (ix ((3 : Int)) ((↑[b].length : Int))) (.br ((((w.max w).max w).max w + w).ble 400000) (.br ((((w.max w).max w).max w + w).ble 400000) (.no 16) (.no 1)) (.no 1)) (.no 5004)) (.ok (.ret (.agg [.q (mnR (mnR (mnR ([a, b].getD 0 0) ((List.take ([a, b].length - 1) (List.drop 1 [a, b])).getD (0 : Nat) (0 : Rat))) ((List.take ([a, b].length - 1) (List.drop 1 [a, b])).getD (1 : Nat) (0 : Rat))) ((List.take ([a, b].length - 1) (List.drop 1 [a, b])).getD (2 : Nat) (0 : Rat))) (((w.max w).max w).max w), .q (mxR (mxR (mxR ([a, b].getD 0 0) ((List.take ([a, b].length - 1) (List.drop 1 [a, b])).getD (0 : Nat) (0 : Rat))) ((List.take ([a, b].length - 1) (List.drop 1 [a, b])).getD (1 : Nat) (0 : Rat))) ((List.take ([a, b].length - 1) (List.drop 1 [a, b])).getD (2 : Nat) (0 : Rat))) (((w.max w).max w).max w)]) []))) (.no 1)) (.no 1)) (.no 5004)) (.ok (.ret (.agg [.q (mnR (mnR ([a, b].getD 0 0) ((List.take ([a, b].length - 1) (List.drop 1 [a, b])).getD (0 : Nat) (0 : Rat))) ((List.take ([a, b].length - 1) (List.drop 1 [a, b])).getD (1 : Nat) (0 : Rat))) ((w.max w).max w), .q (mxR (mxR ([a, b].getD 0 0) ((List.take ([a, b].length - 1) (List.drop 1 [a, b])).getD (0 : Nat) (0 : Rat))) ((List.take ([a, b].length - 1) (List.drop 1 [a, b])).getD (1 : Nat) (0 : Rat))) ((w.max w).max w)]) []))) (.no 1)) (.no 1)) (.no 5004)) (.ok (.ret (.agg [.q (mnR ([a, b].getD 0 0) ((List.take ([a, b].length - 1) (List.drop 1 [a, b])).getD (0 : Nat) (0 : Rat))) (w.max w), .q (mxR ([a, b].getD 0 0) ((List.take ([a, b].length - 1) (List.drop 1 [a, b])).getD (0 : Nat) (0 : Rat))) (w.max w)]) []))) (.no 1)) (.no 1)) (.no 5004)) (.ok (.ret (.agg [.q ([a, b].getD 0 0) w, .q ([a, b].getD 0 0) w]) []))) (.no 3003)) (.no 1)) (.no 2005)).run := by kernel_rfl

theorem one_q0 {n : Nat} (h : 1 <= n) : VLe (.q ((0 : Int) : Rat) 1) (.q 0 n) := qF h
theorem fitS_no {a b : Rat} (h : ¬ a <= b) : qk a b = ⟨0, 0, Rat.le_refl⟩ := by unfold qk; rw [dif_neg h]
include hG in
theorem gkOf (hT : qo G) : qc prog G 155 gOf := by
 intro args hs K y h
 unfold gOf at h
 split at h
 case h_2 => cases h
 rename_i x n
 obtain ⟨hc, hr⟩ := k8 h
 rw [kG] at hc
 refine ⟨_, _, qj hG (.cons (vk80 hG hT) .nil) mix enOf (L := []) (pol := {}) (k9 (by kernel_rfl)) ?_, hr⟩
 rw [kOf, k5 (decP_iff.2 ⟨rfl, rfl, hc⟩), k7]
include hG in
theorem gkGd (hT : qo G) : qc prog G 199 gGd := spec_ev hG (.cons (gk27 hG hT) (.cons (gk109 hG hT) .nil)) mix enGd (fun _ => k9 (by kernel_rfl))
theorem ble3 {a b c : Nat} {n m k : Nat} (h : (Nat.ble a n && Nat.ble b m && Nat.ble k c) = true) : a <= n /\ b <= m /\ k <= c := by
 simp only [kA, kG] at h; exact ⟨h.1.1, h.1.2, h.2⟩
include hG in
theorem gkFt (hT : qo G) : qc prog G 164 gFt := by
 intro args hs K y h
 unfold gFt at h
 split at h
 case h_2 => cases h
 rename_i a n b m
 obtain ⟨hc, hr⟩ := k8 h
 obtain ⟨h1, h2, h3⟩ := ble3 hc
 by_cases g : a <= b
 ·refine ⟨_, _, qj hG (.cons (gkOf hG hT) (.cons (gk71 hG) (.cons (gkGd hG hT) .nil))) mix enFt (L := []) (pol := {}) (k9 (by kernel_rfl)) ?_, hr⟩
  rw [kFt, fitS_lo g, fitS_hi g, k5 (by rw [kG]; omega), k5 (by rw [kG]; omega), k5 (by rw [kG]; omega), k6 (by rw [kE (rcmp_le.2 g)]; rfl), k7]
 ·refine ⟨_, _, (qj hG (.cons (gkOf hG hT) (.cons (gk71 hG) (.cons (gkGd hG hT) .nil))) mix enFt (L := []) (pol := {}) (k9 (by kernel_rfl)) (r := .agg [.q ((0 : Int) : Rat) 1, .q ((0 : Int) : Rat) 1]) (hs' := []) ?_).le (rle_of_vle (fun _ => rfl) (fun _ => rfl) (VLe.agg (qJ (one_q0 h1) (qJ (one_q0 h2) vll0)))) (.refl _), by rw [fitS_no g] at hr; exact hr⟩
  rw [kFt, k5 (by rw [kG]; omega), k5 (by rw [kG]; omega), k5 (by rw [kG]; omega), k5 (by rw [kF (fun h => g (rcmp_le.1 h))]; rfl), k5 (by decide), k5 (by decide), k7]
include hG in
theorem gkHs (hT : qo G) : qc prog G 195 gHs := by
 intro args hs K y h
 unfold gHs at h
 split at h
 case h_2 => cases h
 rename_i a n b m x k
 obtain ⟨hc, hr⟩ := k8 h
 obtain ⟨h1, h2, h3⟩ := ble3 hc
 by_cases g : (qk a b).lo <= x
 ·refine ⟨_, _, (qj hG (.cons (gkFt hG hT) (.cons (gk27 hG hT) .nil)) mix enHs (L := []) (pol := {}) (k9 (by kernel_rfl)) (r := .b (hasB (qk a b) x)) (hs' := []) ?_), hr⟩
  rw [kHs, k5 (by simp only [kA, kG]; omega), k5 (by rw [kG]; omega), k5 (kE (rcmp_le.2 g)), k5 (by rw [kG]; omega), k7]
  unfold hasB
  rw [kE g, Bool.true_and]
  congr 4
  exact propext rcmp_le
 ·refine ⟨_, _, (qj hG (.cons (gkFt hG hT) (.cons (gk27 hG hT) .nil)) mix enHs (L := []) (pol := {}) (k9 (by kernel_rfl)) (r := .bl false) (hs' := []) ?_).le (rle_bl (y := hasB (qk a b) x) (by unfold hasB; rw [kF g]; rfl)) (.refl _), hr⟩
  rw [kHs, k5 (by simp only [kA, kG]; omega), k5 (by rw [kG]; omega), k6 (kF (fun h => g (rcmp_le.1 h))), k7]
include hG in
theorem orcAr (hT : qo G) : OrcOK prog G OAr := .cons (gk86 hG hT) (.cons (gkOf hG hT) (.cons (gk80 hG hT) .nil))
include hG in
theorem gkAr (hT : qo G) : qc prog G 198 gAr := by
 have hl := fun m : Nat => lps1 (P := prog) (G := G) (pol := polAr) (n := f198.ntmps) (m := 0) (L := [(3, lAr)]) (c := qd f198) (b := bAr) (live := [2, 3, 11, 12, 13]) (sp := lAr) (by kernel_rfl) (by kernel_rfl) (by kernel_rfl) (unr_ok hG (orcAr hG hT) mix (k9 (by kernel_rfl)) 4)
 intro args hs K y h
 unfold gAr at h
 split at h
 case h_3 => cases h
 ·rename_i w a b c d
  obtain ⟨hc, hr⟩ := k8 h
  simp only [kA, kG] at hc
  refine ⟨_, _, qj hG (orcAr hG hT) mix enAr (hs := []) (L := [(3, lAr)]) (pol := polAr) (hl 0) ?_, hr⟩
  rw [kAr4]
  simp only [Nat.max_self]
  repeat first | rw [k5 (by first | (simp only [kA, Bool.or_eq_true, kD, kG, Nat.blt_eq, kH, kI, kJ, kK]; omega) | exact kF (by simp) | exact decP_iff.2 ⟨rfl, trivial⟩ | exact decP_iff.2 rfl | exact kE rfl | decide)] | rw [k6 (by first | (simp only [Bool.and_eq_false_iff, Bool.not_eq_false', kD, kK]; omega) | exact kF (by simp) | exact congrArg (!·) (kE rfl) | decide)]
  rw [k7]
  rfl
 ·rename_i w a b
  obtain ⟨hc, hr⟩ := k8 h
  simp only [kA, kG] at hc
  refine ⟨_, _, qj hG (orcAr hG hT) mix enAr (hs := []) (L := [(3, lAr)]) (pol := polAr) (hl 0) ?_, hr⟩
  rw [kAr2]
  simp only [Nat.max_self]
  repeat first | rw [k5 (by first | (simp only [kA, Bool.or_eq_true, kD, kG, Nat.blt_eq, kH, kI, kJ, kK]; omega) | exact kF (by simp) | exact decP_iff.2 ⟨rfl, trivial⟩ | exact decP_iff.2 rfl | exact kE rfl | decide)] | rw [k6 (by first | (simp only [Bool.and_eq_false_iff, Bool.not_eq_false', kD, kK]; omega) | exact kF (by simp) | exact congrArg (!·) (kE rfl) | decide)]
  rw [k7]
  rfl
include hG in
theorem orcFt (hT : qo G) : OrcOK prog G OFt := .cons (gk86 hG hT) (.cons (gk80 hG hT) (.cons (gk21 hG hT) (.cons (gk43 hG hT) (.cons (gk29 hG hT) (.cons (gkFt hG hT) (.cons (gkAr hG hT) .nil))))))
theorem mx4 (k : Nat) : k.max (k.max (k.max (k.max 0))) = k := by simp [Nat.max_def]
theorem mx2 (k : Nat) : k.max (k.max 0) = k := by simp [Nat.max_def]
include hG in
theorem gkJn (hT : qo G) : qc prog G 125 gJn := by
 intro args hs K y h
 unfold gJn at h
 split at h
 case h_2 => cases h
 rename_i a n b n' c m d m'
 obtain ⟨hc, hr⟩ := k8 h
 obtain ⟨⟨a0, b0, c0, d0, he⟩, h1, h2, h3⟩ := decP_iff.1 hc
 cases he
 refine ⟨_, _, qj hG (orcFt hG hT) mix enJn (L := []) (pol := {}) (k9 (by kernel_rfl)) ?_, hr⟩
 refine (congrArg Tr.run (kJn a b c d n m)).trans ?_
 repeat first | rw [k5 (by first | (simp only [kA, Bool.or_eq_true, kD, kG, Nat.blt_eq, kH, kI, kJ, kK]; omega) | exact decP_iff.2 ⟨rfl, trivial⟩ | exact decP_iff.2 rfl | exact kE rfl | decide)] | rw [k6 (by first | (simp only [Bool.and_eq_false_iff, Bool.not_eq_false', kD, kK]; omega) | exact congrArg (!·) (kE rfl) | decide)]
 rw [k7]
 rfl
include hG in
theorem gkAd (hT : qo G) : qc prog G 163 gAd := by
 intro args hs K y h
 unfold gAd at h
 split at h
 case h_2 => cases h
 rename_i a n b n' c m d m'
 obtain ⟨hc, hr⟩ := k8 h
 obtain ⟨⟨a0, b0, c0, d0, he⟩, h1, h2, h3⟩ := decP_iff.1 hc
 cases he
 refine ⟨_, _, qj hG (orcFt hG hT) mix enAd (L := []) (pol := {}) (k9 (by kernel_rfl)) ?_, hr⟩
 refine (congrArg Tr.run (kAd a b c d n m)).trans ?_
 repeat first | rw [k5 (by first | (simp only [kA, Bool.or_eq_true, kD, kG, Nat.blt_eq, kH, kI, kJ, kK]; omega) | exact decP_iff.2 ⟨rfl, trivial⟩ | exact decP_iff.2 rfl | exact kE rfl | decide)] | rw [k6 (by first | (simp only [Bool.and_eq_false_iff, Bool.not_eq_false', kD, kK]; omega) | exact congrArg (!·) (kE rfl) | decide)]
 rw [k7]
 rfl
include hG in
theorem gkSb (hT : qo G) : qc prog G 161 gSb := by
 intro args hs K y h
 unfold gSb at h
 split at h
 case h_2 => cases h
 rename_i a n b n' c m d m'
 obtain ⟨hc, hr⟩ := k8 h
 obtain ⟨⟨a0, b0, c0, d0, he⟩, h1, h2, h3⟩ := decP_iff.1 hc
 cases he
 refine ⟨_, _, qj hG (orcFt hG hT) mix enSb (L := []) (pol := {}) (k9 (by kernel_rfl)) ?_, hr⟩
 refine (congrArg Tr.run (kSb a b c d n m)).trans ?_
 repeat first | rw [k5 (by first | (simp only [kA, Bool.or_eq_true, kD, kG, Nat.blt_eq, kH, kI, kJ, kK]; omega) | exact decP_iff.2 ⟨rfl, trivial⟩ | exact decP_iff.2 rfl | exact kE rfl | decide)] | rw [k6 (by first | (simp only [Bool.and_eq_false_iff, Bool.not_eq_false', kD, kK]; omega) | exact congrArg (!·) (kE rfl) | decide)]
 rw [k7]
 rfl
include hG in
theorem gkMu (hT : qo G) : qc prog G 162 gMu := by
 intro args hs K y h
 unfold gMu at h
 split at h
 case h_2 => cases h
 rename_i a n b n' c m d m'
 obtain ⟨hc, hr⟩ := k8 h
 obtain ⟨⟨a0, b0, c0, d0, he⟩, h1, h2, h3⟩ := decP_iff.1 hc
 cases he
 refine ⟨_, _, qj hG (orcFt hG hT) mix enMu (L := []) (pol := {}) (k9 (by kernel_rfl)) ?_, hr⟩
 refine (congrArg Tr.run (kMu a b c d n m)).trans ?_
 simp only [mx4]
 repeat first | rw [k5 (by first | (simp only [kA, Bool.or_eq_true, kD, kG, Nat.blt_eq, kH, kI, kJ, kK]; omega) | exact decP_iff.2 ⟨rfl, trivial⟩ | exact decP_iff.2 rfl | exact kE rfl | decide)] | rw [k6 (by first | (simp only [Bool.and_eq_false_iff, Bool.not_eq_false', kD, kK]; omega) | exact congrArg (!·) (kE rfl) | decide)]
 rw [k7]
 rfl
include hG in
theorem gkSq (hT : qo G) : qc prog G 193 gSq := by
 intro args hs K y h
 unfold gSq at h
 split at h
 case h_2 => cases h
 rename_i a n b m
 obtain ⟨hc, hr⟩ := k8 h
 obtain ⟨rfl, h1, h2⟩ := decP_iff.1 hc
 have lg0' : (Int.natAbs (0 : Int)).log2 = 0 := by decide
 by_cases g : hasB (qk a b) ((0 : Int) : Rat) = true
 ·have g' : (qk a b).lo <= 0 /\ 0 <= (qk a b).hi := hasB_iff.1 g
  refine ⟨_, _, (qj hG (.cons (gkHs hG hT) (.cons (gk71 hG) (.cons (gk43 hG hT) (.cons (gkFt hG hT) (.cons (gkAr hG hT) .nil))))) mix enSq (L := []) (pol := {}) (k9 (by kernel_rfl)) (r := .agg [.q ((0 : Int) : Rat) 1, .q (mxR ((qk a b).lo * (qk a b).lo) ((qk a b).hi * (qk a b).hi)) (n + n)]) (hs' := []) ?_).le (rle_of_vle (fun _ => rfl) (fun _ => rfl) (VLe.agg (qJ (qF (m := n + n) (by omega)) (qJ (.refl _) vll0)))) (.refl _), ?_⟩
  ·refine (congrArg Tr.run (kSq a b n)).trans ?_
   simp only [mx2, qM, lg0']
   repeat first | rw [k5 (by first | (simp only [kA, Bool.or_eq_true, kD, kG, Nat.blt_eq, kH, kI, kJ, kK]; omega) | exact g | exact decP_iff.2 ⟨rfl, trivial⟩ | exact decP_iff.2 rfl | exact kE rfl | decide)] | rw [k6 (by first | (simp only [Bool.and_eq_false_iff, Bool.not_eq_false', kD, kK]; omega) | exact g | exact congrArg (!·) (kE rfl) | decide)]
   rw [k7]
  ·rw [show (sqS (qk a b)).lo = ((0 : Int) : Rat) from if_pos g'] at hr
   exact hr
 ·have g' : ¬ ((qk a b).lo <= 0 /\ 0 <= (qk a b).hi) := fun h => g (hasB_iff.2 h)
  refine ⟨_, _, qj hG (.cons (gkHs hG hT) (.cons (gk71 hG) (.cons (gk43 hG hT) (.cons (gkFt hG hT) (.cons (gkAr hG hT) .nil))))) mix enSq (L := []) (pol := {}) (k9 (by kernel_rfl)) (r := .agg [.q (mnR ((qk a b).lo * (qk a b).lo) ((qk a b).hi * (qk a b).hi)) (n + n), .q (mxR ((qk a b).lo * (qk a b).lo) ((qk a b).hi * (qk a b).hi)) (n + n)]) (hs' := []) ?_, ?_⟩
  ·refine (congrArg Tr.run (kSq a b n)).trans ?_
   simp only [mx2, qM, lg0']
   repeat first | rw [k5 (by first | (simp only [kA, Bool.or_eq_true, kD, kG, Nat.blt_eq, kH, kI, kJ, kK]; omega) | exact (by simpa using g) | exact decP_iff.2 ⟨rfl, trivial⟩ | exact decP_iff.2 rfl | exact kE rfl | decide)] | rw [k6 (by first | (simp only [Bool.and_eq_false_iff, Bool.not_eq_false', kD, kK]; omega) | exact (by simpa using g) | exact congrArg (!·) (kE rfl) | decide)]
   rw [k7]
  ·rw [show (sqS (qk a b)).lo = mnR ((qk a b).lo * (qk a b).lo) ((qk a b).hi * (qk a b).hi) from if_neg g'] at hr
   exact hr
include hG in
theorem gkOu (hT : qo G) : qc prog G 196 gOu := by
 intro args hs K y h
 unfold gOu at h
 split at h
 case h_2 => cases h
 rename_i a n b m
 obtain ⟨hc, hr⟩ := k8 h
 obtain ⟨rfl, h1, h2⟩ := decP_iff.1 hc
 refine ⟨_, _, qj hG (.cons (gkFt hG hT) (.cons (gkDn hG hT) (.cons (gkUp hG hT) .nil))) mix enOu (L := []) (pol := {}) (k9 (by kernel_rfl)) ?_, hr⟩
 refine (congrArg Tr.run (kOu a b n)).trans ?_
 repeat first | rw [k5 (by first | (simp only [kA, Bool.or_eq_true, kD, kG, Nat.blt_eq, kH, kI, kJ, kK]; omega) | exact decP_iff.2 ⟨rfl, trivial⟩ | exact decP_iff.2 rfl | exact kE rfl | decide)] | rw [k6 (by first | (simp only [Bool.and_eq_false_iff, Bool.not_eq_false', kD, kK]; omega) | exact congrArg (!·) (kE rfl) | decide)]
 rw [k7]
end
section
open Go
set_option maxRecDepth 100000
variable {G : World -> (Nat -> Prop) -> Prop} (hG : GOk G)
def c71 : Spec := fun args hs K => match args, hs with
 | [.i .i64 n], [] => .br (decide (-1000000000 < n) && decide (n < 1000000000)) (K (.q (n : Rat) 64) []) (.no 1)
 | _, _ => .no 1
include hG in
theorem ck71 : qc Tryz.prog G 53 c71 := by
 intro args hs K x h
 unfold c71 at h
 split at h
 case h_2 => cases h
 rename_i n
 obtain ⟨hc, hr⟩ := k8 h
 simp only [kA, kD] at hc
 refine ⟨_, _, (pc_spec (gk71 hG) (args := [.i .i64 n]) (r := .q (n : Rat) (Nat.log2 n.natAbs + 1)) (hs' := []) ?_).le (q_rle rfl ?_) (.refl _), hr⟩
 ·show (Tr.br _ _ _).run = _
  rw [k5 (by simp only [kA, kD]; omega)]
  rfl
 ·have h1 : n.natAbs < 2 ^ 63 := by omega
  by_cases h0 : n.natAbs = 0
  ·rw [h0]; decide
  ·have := (Nat.log2_lt h0).2 h1
   omega
def nz72 (y : Rat) : Prop := ¬ y = 0
def c72 : Spec := fun args hs K => match args, hs with
 | [.q x n, .q y m], [] => .br (qg (nz72 y)) (.br (Nat.ble (n + m) 800000) (K (.tup [.q (x / y) (n + m), .i .i64 0]) []) (.no 1)) (.no 1)
 | _, _ => .no 1
include hG in
theorem ck72 (hT : qo G) : qc Tryz.prog G 86 c72 := by
 intro args hs K x h
 unfold c72 at h
 split at h
 case h_2 => cases h
 rename_i x n y m
 obtain ⟨hc, hr⟩ := k8 h
 obtain ⟨hb, hr⟩ := k8 hr
 exact ⟨_, _, pc_spec (gk72 hG hT) ((k5 hb).trans ((k6 (kF (decP_iff.1 hc))).trans rfl)), hr⟩
end
section
open Go Tryz
set_option maxRecDepth 100000
variable {G : World -> (Nat -> Prop) -> Prop} (hG : GOk G)
theorem enOn : Enters prog 197 f197 (qd f197) := ⟨func197, by kernel_rfl, rfl⟩
theorem enCu : Enters prog 160 f160 (qd f160) := ⟨func160, by kernel_rfl, rfl⟩
theorem enCs : Enters prog 158 f158 (qd f158) := ⟨func158, by kernel_rfl, rfl⟩
theorem enCc : Enters prog 194 f194 (qd f194) := ⟨func194, by kernel_rfl, rfl⟩
theorem enSn : Enters prog 159 f159 (qd f159) := ⟨func159, by kernel_rfl, rfl⟩
def gOn : Spec := evF prog [(53, g71)] [] {} f197
theorem kCu (a b : Rat) (n : Nat) : evF prog [(122, g86), (121, g80), (196, gOu), (197, gOn)] [] {} f160 [spR a b n] [] ql =
 Tr.br (qg (eqN1 n n)) (.br (decide ((-72057594037927936 : Int) < (-1)) && decide ((-1 : Int) <= 9223372036854775807)) (.br (decide ((-72057594037927936 : Int) < 1) && decide ((1 : Int) <= 9223372036854775807)) (.br ((n + 42 + ((-1 : Int).natAbs.log2 + 1)).ble 400000) (.br (decide ((-72057594037927936 : Int) < (-1)) && decide ((-1 : Int) <= 9223372036854775807)) (.br (decide ((-72057594037927936 : Int) < 1) && decide ((1 : Int) <= 9223372036854775807)) (.br ((n + 42 + ((Int.natAbs (1 : Int)).log2 + 1)).ble 400000) (.ok (.ret (.agg [.q (mxR (dnR (qk a b).lo) (↑(-1 : Int) : Rat)) ((n + 42).max ((-1 : Int).natAbs.log2 + 1)), .q (mnR (upR (qk a b).hi) (↑(1 : Int) : Rat)) ((n + 42).max ((Int.natAbs (1 : Int)).log2 + 1))]) [])) (.no 1)) (.no 1)) (.no 1)) (.no 1)) (.no 1)) (.no 1)) (.no 1) := by kernel_rfl
def okC (a b : Rat) (n m : Nat) : Prop := eqN1 n m /\ cutL (qk a b) <= cutH (qk a b)
def gCu : Spec := fun args hs K => match args, hs with
 | [.agg [.q a n, .q b m]], [] => .br (qg (okC a b n m)) (K (.agg [.q (cutL (qk a b)) 300, .q (cutH (qk a b)) 300]) []) (.no 1)
 | _, _ => .no 1
def gCc : Spec := fun args hs K => match args, hs with
 | [.q a n], [] => .br (qg (nz72 (1 + a))) (.br (Nat.ble n 50000) (K (.q (cf a) (2 * n + 4)) []) (.no 1)) (.no 1)
 | _, _ => .no 1
theorem kCc (a : Rat) (n : Nat) : evF prog [(53, g71), (25, g21), (54, g29), (86, c72)] [] {} f194 [.q a n] [] ql =
 Tr.br (decide ((-72057594037927936 : Int) < 1) && decide ((1 : Int) <= 9223372036854775807)) (.br (((Int.natAbs (1 : Int)).log2 + 1 + n + 1).ble 800000) (.br (decide ((-72057594037927936 : Int) < 1) && decide ((1 : Int) <= 9223372036854775807)) (.br (((Int.natAbs (1 : Int)).log2 + 1 + n + 1).ble 800000) (.br (qg (nz72 ((↑(1 : Int) : Rat) + a))) (.br (((Int.natAbs (1 : Int)).log2 + 1 + n + 1 + ((Int.natAbs (1 : Int)).log2 + 1 + n + 1)).ble 800000) (.ok (.ret (.q (((↑(1 : Int) : Rat) - a) / ((↑(1 : Int) : Rat) + a)) ((Int.natAbs (1 : Int)).log2 + 1 + n + 1 + ((Int.natAbs (1 : Int)).log2 + 1 + n + 1))) [])) (.no 1)) (.no 1)) (.no 1)) (.no 1)) (.no 1)) (.no 1) := by kernel_rfl
def gCs : Spec := fun args hs K => match args, hs with
 | [.agg [.q a n, .q b m]], [] => .br (qg (eqN1 n m)) (K (.agg [.q (cosS (qk a b)).lo (4 * n + 4), .q (cosS (qk a b)).hi (4 * n + 4)]) []) (.no 1)
 | _, _ => .no 1
theorem kCs (a b : Rat) (n : Nat) : evF prog [(193, gSq), (194, gCc)] [] {} f158 [spR a b n] [] ql =
 Tr.br (qg (eqN1 n n)) (.br (qg (nz72 ((1 : Rat) + (sqS (qk a b)).hi))) (.br ((n + n).ble 50000) (.br (qg (nz72 ((1 : Rat) + (sqS (qk a b)).lo))) (.br ((n + n).ble 50000) (.ok (.ret (.agg [.q (cf (sqS (qk a b)).hi) ((2 : Nat) * (n + n) + 4), .q (cf (sqS (qk a b)).lo) ((2 : Nat) * (n + n) + 4)]) [])) (.no 1)) (.no 1)) (.no 1)) (.no 1)) (.no 1) := by kernel_rfl
def bSn : Code := (qi (qd f159)).getD 0 .skip
def polSn : Pol := { live := [(4, [1, 2, 3, 21, 22, 23])] }
def OSn : Orc := [(195, gHs), (157, g134), (155, gOf), (53, c71), (135, g50), (125, gJn)]
def zSp : PV := .agg [.agg [.bl false, .s ⟨#[]⟩, .s ⟨#[]⟩], .agg [.bl false, .s ⟨#[]⟩, .s ⟨#[]⟩]]
def stSn (T R : Sp) (n k : Nat) (i : Int) : LS := ⟨[.ptr 0 6 0 0 [], .ptr 1 6 0 0 [], .ptr 2 6 0 0 [], .lst 1 (.ints .i64 [-1, 1]), .i .i64 2, .i .i64 i], [some ⟨6, .vals [spR T.lo T.hi n]⟩, some ⟨6, .vals [zSp]⟩, some ⟨6, .vals [spR R.lo R.hi k]⟩]⟩
theorem tSn0 (T R : Sp) : (qh prog OSn [] polSn f159.ntmps 0 [1, 2, 3, 21, 22, 23] bSn (stSn T R 260 1044 0)).run =
 (Tr.br (hasB (qk T.lo T.hi) (↑(-1 : Int) : Rat)) (.br (qg (eqN [.agg [.q R.lo 1044, .q R.hi 1044], .agg [.q (↑(-1 : Int) : Rat) 64, .q (↑(-1 : Int) : Rat) 64]] (1044 : Nat) (64 : Nat))) (.ok (.out .normal (LS.mk [.ptr 0 6 0 0 [], .ptr 1 6 0 0 [], .ptr 2 6 0 0 [], .lst 1 (.ints .i64 [(-1 : Int), (1 : Int)]), .i .i64 2, .i .i64 1] [some (.mk 6 (.vals [.agg [.q T.lo 260, .q T.hi 260]])), some (.mk 6 (.vals [.agg [.agg [.bl false, .s (ByteArray.mk #[]), .s (ByteArray.mk #[])], .agg [.bl false, .s (ByteArray.mk #[]), .s (ByteArray.mk #[])]]])), some (.mk 6 (.vals [.agg [.q (joinS (qk R.lo R.hi) (qk (↑(-1 : Int) : Rat) (↑(-1 : Int) : Rat))).lo 1044, .q (joinS (qk R.lo R.hi) (qk (↑(-1 : Int) : Rat) (↑(-1 : Int) : Rat))).hi 1044]]))]))) (.no 1)) (.ok (.out .normal (LS.mk [.ptr 0 6 0 0 [], .ptr 1 6 0 0 [], .ptr 2 6 0 0 [], .lst 1 (.ints .i64 [(-1 : Int), (1 : Int)]), .i .i64 2, .i .i64 1] [some (.mk 6 (.vals [.agg [.q T.lo 260, .q T.hi 260]])), some (.mk 6 (.vals [.agg [.agg [.bl false, .s (ByteArray.mk #[]), .s (ByteArray.mk #[])], .agg [.bl false, .s (ByteArray.mk #[]), .s (ByteArray.mk #[])]]])), some (.mk 6 (.vals [.agg [.q R.lo 1044, .q R.hi 1044]]))])))).run := by kernel_rfl
theorem tSn1 (T R : Sp) : (qh prog OSn [] polSn f159.ntmps 0 [1, 2, 3, 21, 22, 23] bSn (stSn T R 260 1044 1)).run =
 (Tr.br (hasB (qk T.lo T.hi) (↑(1 : Int) : Rat)) (.br (qg (eqN [.agg [.q R.lo 1044, .q R.hi 1044], .agg [.q (↑(1 : Int) : Rat) 64, .q (↑(1 : Int) : Rat) 64]] (1044 : Nat) (64 : Nat))) (.ok (.out .normal (LS.mk [.ptr 0 6 0 0 [], .ptr 1 6 0 0 [], .ptr 2 6 0 0 [], .lst 1 (.ints .i64 [(-1 : Int), (1 : Int)]), .i .i64 2, .i .i64 2] [some (.mk 6 (.vals [.agg [.q T.lo 260, .q T.hi 260]])), some (.mk 6 (.vals [.agg [.agg [.bl false, .s (ByteArray.mk #[]), .s (ByteArray.mk #[])], .agg [.bl false, .s (ByteArray.mk #[]), .s (ByteArray.mk #[])]]])), some (.mk 6 (.vals [.agg [.q (joinS (qk R.lo R.hi) (qk (↑(1 : Int) : Rat) (↑(1 : Int) : Rat))).lo 1044, .q (joinS (qk R.lo R.hi) (qk (↑(1 : Int) : Rat) (↑(1 : Int) : Rat))).hi 1044]]))]))) (.no 1)) (.ok (.out .normal (LS.mk [.ptr 0 6 0 0 [], .ptr 1 6 0 0 [], .ptr 2 6 0 0 [], .lst 1 (.ints .i64 [(-1 : Int), (1 : Int)]), .i .i64 2, .i .i64 2] [some (.mk 6 (.vals [.agg [.q T.lo 260, .q T.hi 260]])), some (.mk 6 (.vals [.agg [.agg [.bl false, .s (ByteArray.mk #[]), .s (ByteArray.mk #[])], .agg [.bl false, .s (ByteArray.mk #[]), .s (ByteArray.mk #[])]]])), some (.mk 6 (.vals [.agg [.q R.lo 1044, .q R.hi 1044]]))])))).run := by kernel_rfl
theorem tSn2 (T R : Sp) : (qh prog OSn [] polSn f159.ntmps 0 [1, 2, 3, 21, 22, 23] bSn (stSn T R 260 1044 2)).run =
 (Tr.ok (.out (.exit 0) (LS.mk [.ptr 0 6 0 0 [], .ptr 1 6 0 0 [], .ptr 2 6 0 0 [], .lst 1 (.ints .i64 [(-1 : Int), (1 : Int)]), .i .i64 2, .i .i64 2] [some (.mk 6 (.vals [.agg [.q T.lo 260, .q T.hi 260]])), some (.mk 6 (.vals [.agg [.agg [.bl false, .s (ByteArray.mk #[]), .s (ByteArray.mk #[])], .agg [.bl false, .s (ByteArray.mk #[]), .s (ByteArray.mk #[])]]])), some (.mk 6 (.vals [.agg [.q R.lo 1044, .q R.hi 1044]]))]))).run := by kernel_rfl
theorem kSn (T R0 R : Sp) (a b : Rat) : (evF prog OSn [(4, qI (stSn T R0 260 1044 0) (.exit 0) (stSn T R 260 1044 2))] polSn f159 [spR a b 260] [] ql).run =
 (Tr.br (qg (eqN [.agg [.q a 260, .q b 260], .agg [.q a 260, .q b 260]] (260 : Nat) (260 : Nat))) (.br (qg (eqN [.agg [.q (qx false (joinS (qk a b) (qk a b)).lo) 1044, .q (qx false (joinS (qk a b) (qk a b)).lo) 1044], .agg [.q (qx false (joinS (qk a b) (qk a b)).hi) 1044, .q (qx false (joinS (qk a b) (qk a b)).hi) 1044]] (1044 : Nat) (1044 : Nat))) (.br (qg (isLS (LS.mk [.ptr 0 6 0 0 [], .ptr 1 6 0 0 [], .ptr 2 6 0 0 [], .lst 1 (.ints .i64 [(-1 : Int), (1 : Int)]), .i .i64 2, .i .i64 0] [some (.mk 6 (.vals [.agg [.q T.lo 260, .q T.hi 260]])), some (.mk 6 (.vals [.agg [.agg [.bl false, .s (ByteArray.mk #[]), .s (ByteArray.mk #[])], .agg [.bl false, .s (ByteArray.mk #[]), .s (ByteArray.mk #[])]]])), some (.mk 6 (.vals [.agg [.q R0.lo 1044, .q R0.hi 1044]]))]) (LS.mk [.ptr 0 6 0 0 [], .ptr 1 6 0 0 [], .ptr 2 6 0 0 [], .lst 1 (.ints .i64 [(-1 : Int), (1 : Int)]), .i .i64 2, .i .i64 0] [some (.mk 6 (.vals [.agg [.q (joinS (qk a b) (qk a b)).lo 260, .q (joinS (qk a b) (qk a b)).hi 260]])), some (.mk 6 (.vals [.agg [.agg [.bl false, .s (ByteArray.mk #[]), .s (ByteArray.mk #[])], .agg [.bl false, .s (ByteArray.mk #[]), .s (ByteArray.mk #[])]]])), some (.mk 6 (.vals [.agg [.q (joinS (qk (qx false (joinS (qk a b) (qk a b)).lo) (qx false (joinS (qk a b) (qk a b)).lo)) (qk (qx false (joinS (qk a b) (qk a b)).hi) (qx false (joinS (qk a b) (qk a b)).hi))).lo 1044, .q (joinS (qk (qx false (joinS (qk a b) (qk a b)).lo) (qx false (joinS (qk a b) (qk a b)).lo)) (qk (qx false (joinS (qk a b) (qk a b)).hi) (qx false (joinS (qk a b) (qk a b)).hi))).hi 1044]]))]))) (.ok (.ret (.agg [.q R.lo 1044, .q R.hi 1044]) [])) (.no 1)) (.no 1)) (.no 1)).run := by kernel_rfl
theorem join_self (A : Sp) : joinS A A = A := by
 obtain ⟨a, b, h⟩ := A
 unfold joinS mnR mxR
 simp [Rat.le_refl]
theorem fitS_self (x : Rat) : qk x x = ofS x := by unfold qk; rw [dif_pos Rat.le_refl]; rfl
theorem sz_unit {z : Rat} (hd : z.den <= 1000000) (h1 : -1 <= z) (h2 : z <= 1) : sz z <= 300 := by
 have a1 : z.num <= z.den := by
  have := (Rat.le_iff _ _).1 h2
  have e : (1 : Rat).num = 1 := rfl
  have e2 : (1 : Rat).den = 1 := rfl
  rw [e, e2] at this
  omega
 have a2 : -(z.den : Int) <= z.num := by
  have := (Rat.le_iff _ _).1 h1
  have e : (-1 : Rat).num = -1 := rfl
  have e2 : (-1 : Rat).den = 1 := rfl
  rw [e, e2] at this
  omega
 have lg : ∀ k : Nat, k <= 1000000 -> Nat.log2 k <= 20 := fun k hk => by
  by_cases h0 : k = 0
  ·subst h0; decide
  ·have := (Nat.log2_lt (k := 20) h0).2 (by omega)
   omega
 have b1 := lg z.num.natAbs (by omega)
 have b2 := lg z.den hd
 unfold sz
 omega
theorem dn_den (x : Rat) : (dnR x).den <= 1000000 := by
 rw [dnR, qe, <- mk_mil, mkz_den (by decide)]
 exact Nat.div_le_self _ _
theorem up_den (x : Rat) : (upR x).den <= 1000000 := by
 rw [upR, qe, neg_den]; exact dn_den _
theorem cut_bd {A : Sp} (h : cutL A <= cutH A) : (-1 <= cutL A /\ cutL A <= 1) /\ (-1 <= cutH A /\ cutH A <= 1) := by
 have h1 : -1 <= cutL A := by rw [cutL, qe]; exact mxR_r _ _
 have h2 : cutH A <= 1 := by rw [cutH, qe]; exact mnR_r _ _
 exact ⟨⟨h1, Rat.le_trans h h2⟩, ⟨Rat.le_trans h1 h, h2⟩⟩
theorem cutL_sz {A : Sp} (h : cutL A <= cutH A) : sz (cutL A) <= 300 := by
 obtain ⟨h1, h2⟩ := (cut_bd h).1
 refine sz_unit ?_ h1 h2
 rw [cutL, qe, mxR]
 split
 ·exact dn_den _
 ·decide
theorem cutH_sz {A : Sp} (h : cutL A <= cutH A) : sz (cutH A) <= 300 := by
 obtain ⟨h1, h2⟩ := (cut_bd h).2
 refine sz_unit ?_ h1 h2
 rw [cutH, qe, mnR]
 split
 ·exact up_den _
 ·decide
include hG in
theorem gkOn : qc prog G 197 gOn := spec_ev hG (.cons (gk71 hG) .nil) mix enOn (fun _ => k9 (by kernel_rfl))
include hG in
theorem gkCu (hT : qo G) : qc prog G 160 gCu := by
 intro args hs K y h
 unfold gCu at h
 split at h
 case h_2 => cases h
 rename_i a n b m
 obtain ⟨hc, hr⟩ := k8 h
 obtain ⟨⟨rfl, h1, h2⟩, ho⟩ := decP_iff.1 hc
 refine ⟨_, _, (qj hG (.cons (gk86 hG hT) (.cons (gk80 hG hT) (.cons (gkOu hG hT) (.cons (gkOn hG) .nil)))) mix enCu (L := []) (pol := {}) (k9 (by kernel_rfl)) (r := .agg [.q (mxR (dnR (qk a b).lo) (-1)) ((n + 42).max ((-1 : Int).natAbs.log2 + 1)), .q (mnR (upR (qk a b).hi) 1) ((n + 42).max ((Int.natAbs (1 : Int)).log2 + 1))]) (hs' := []) ?_).le
  (rle_of_vle (fun _ => rfl) (fun _ => rfl) (VLe.agg (qJ (?_ : VLe _ (.q (cutL (qk a b)) 300)) (qJ (?_ : VLe _ (.q (cutH (qk a b)) 300)) vll0)))) (.refl _), hr⟩
 ·refine (congrArg Tr.run (kCu a b n)).trans ?_
  have l1 : (-1 : Int).natAbs.log2 = 0 := by decide
  have l2 : (Int.natAbs (1 : Int)).log2 = 0 := by decide
  repeat first | rw [k5 (by first | (simp only [kA, Bool.or_eq_true, kD, kG, Nat.blt_eq, kH, kI, kJ, kK]; omega) | exact decP_iff.2 ⟨rfl, h1, h2⟩ | (rw [l1, kG]; omega) | (rw [l2, kG]; omega) | exact decP_iff.2 ⟨rfl, trivial⟩ | exact decP_iff.2 rfl | exact kE rfl | decide)] | rw [k6 (by first | (simp only [Bool.and_eq_false_iff, Bool.not_eq_false', kD, kK]; omega) | exact decP_iff.2 ⟨rfl, h1, h2⟩ | (rw [l1, kG]; omega) | (rw [l2, kG]; omega) | exact congrArg (!·) (kE rfl) | decide)]
  rw [k7]
  rfl
 ·rw [show mxR (dnR (qk a b).lo) (-1) = cutL (qk a b) by rw [cutL, qe]]
  exact vle_qq (cutL_sz ho)
 ·rw [show mnR (upR (qk a b).hi) 1 = cutH (qk a b) by rw [cutH, qe]]
  exact vle_qq (cutH_sz ho)
include hG in
theorem gkCc (hT : qo G) : qc prog G 194 gCc := by
 intro args hs K y h
 unfold gCc at h
 split at h
 case h_2 => cases h
 rename_i a n
 obtain ⟨hz, hr⟩ := k8 h
 obtain ⟨hc, hr⟩ := k8 hr
 rw [kG] at hc
 have l2 : (Int.natAbs (1 : Int)).log2 = 0 := by decide
 refine ⟨_, _, (qj hG (.cons (gk71 hG) (.cons (gk21 hG hT) (.cons (gk29 hG hT) (.cons (ck72 hG hT) .nil)))) mix enCc (L := []) (pol := {}) (k9 (by kernel_rfl)) (r := .q (cf a) (0 + 1 + n + 1 + (0 + 1 + n + 1))) (hs' := []) ?_).le (q_rle rfl (by omega)) (.refl _), hr⟩
 refine (congrArg Tr.run (kCc a n)).trans ?_
 simp only [l2]
 repeat first | rw [k5 (by first | (simp only [kA, Bool.or_eq_true, kD, kG, Nat.blt_eq, kH, kI, kJ, kK]; omega) | exact hz | exact decP_iff.2 ⟨rfl, trivial⟩ | exact decP_iff.2 rfl | exact kE rfl | decide)] | rw [k6 (by first | (simp only [Bool.and_eq_false_iff, Bool.not_eq_false', kD, kK]; omega) | exact hz | exact congrArg (!·) (kE rfl) | decide)]
 rw [k7]
 rfl
theorem nz_1 {a : Rat} (h : 0 <= a) : qg (nz72 (1 + a)) = true := by
 refine decP_iff.2 ?_
 intro e
 have : (0 : Rat) < 1 + a := by grind
 rw [e] at this
 exact absurd this (by decide)
include hG in
theorem gkCs (hT : qo G) : qc prog G 158 gCs := by
 intro args hs K y h
 unfold gCs at h
 split at h
 case h_2 => cases h
 rename_i a n b m
 obtain ⟨hc, hr⟩ := k8 h
 obtain ⟨rfl, h1, h2⟩ := decP_iff.1 hc
 have p1 := nz_1 (show 0 <= (sqS (qk a b)).lo from sqL_nn (qk a b))
 have p2 := nz_1 (Rat.le_trans (sqL_nn (qk a b)) (sqS (qk a b)).ok)
 refine ⟨_, _, (qj hG (.cons (gkSq hG hT) (.cons (gkCc hG hT) .nil)) mix enCs (L := []) (pol := {}) (k9 (by kernel_rfl)) (r := .agg [.q (cosS (qk a b)).lo (2 * (n + n) + 4), .q (cosS (qk a b)).hi (2 * (n + n) + 4)]) (hs' := []) ?_), by rw [show 2 * (n + n) + 4 = 4 * n + 4 by omega]; exact hr⟩
 refine (congrArg Tr.run (kCs a b n)).trans ?_
 rw [k5 hc, k5 p2, k5 (by rw [kG]; omega), k5 p1, k5 (by rw [kG]; omega), k7]
 rfl
include hG in
theorem orcSn (hT : qo G) : OrcOK prog G OSn := .cons (gkHs hG hT) (.cons (gk134 hG hT) (.cons (gkOf hG hT) (.cons (ck71 hG) (.cons (gk50 hG hT) (.cons (gkJn hG hT) .nil)))))
include hG in
theorem goesSn (hT : qo G) (T : Sp) : Goes (Rnd prog G f159.ntmps 0 [1, 2, 3, 21, 22, 23] bSn) (stSn T (sinS0 T) 260 1044 0) (.exit 0) (stSn T (sinS T) 260 1044 2) := by
 have r0 : Rnd prog G f159.ntmps 0 [1, 2, 3, 21, 22, 23] bSn (stSn T (sinS0 T) 260 1044 0) .normal (stSn T (sinS1 T) 260 1044 1) := by
  refine qb hG (orcSn hG hT) mix (L := []) (pol := polSn) (O := OSn) (k9 (by kernel_rfl)) (Nat.zero_le _) ?_
  rw [tSn0]
  simp only [qM, fitS_self]
  by_cases h : hasB T ((-1 : Int) : Rat) = true
  ·rw [k5 h, k5 (decP_iff.2 ⟨⟨_, _, _, _, rfl⟩, by omega, by omega, by omega⟩), k7, show sinS1 T = joinS (sinS0 T) (ofS ((-1 : Int) : Rat)) from if_pos h]
   rfl
  ·rw [k6 (by simpa using h), k7, show sinS1 T = sinS0 T from if_neg h]
   rfl
 have r1 : Rnd prog G f159.ntmps 0 [1, 2, 3, 21, 22, 23] bSn (stSn T (sinS1 T) 260 1044 1) .normal (stSn T (sinS T) 260 1044 2) := by
  refine qb hG (orcSn hG hT) mix (L := []) (pol := polSn) (O := OSn) (k9 (by kernel_rfl)) (Nat.zero_le _) ?_
  rw [tSn1]
  simp only [qM, fitS_self]
  by_cases h : hasB T ((1 : Int) : Rat) = true
  ·rw [k5 h, k5 (decP_iff.2 ⟨⟨_, _, _, _, rfl⟩, by omega, by omega, by omega⟩), k7, show sinS T = joinS (sinS1 T) (ofS ((1 : Int) : Rat)) from if_pos h]
   rfl
  ·rw [k6 (by simpa using h), k7, show sinS T = sinS1 T from if_neg h]
   rfl
 refine .more _ _ _ _ r0 (.more _ _ _ _ r1 (.last _ _ _ ?_ (by simp)))
 refine qb hG (orcSn hG hT) mix (L := []) (pol := polSn) (O := OSn) (k9 (by kernel_rfl)) (Nat.zero_le _) ?_
 rw [tSn2, k7]
 rfl
def gSn : Spec := fun args hs K => match args, hs with
 | [.agg [.q a 260, .q b 260]], [] => K (.agg [.q (sinS (qk a b)).lo 1044, .q (sinS (qk a b)).hi 1044]) []
 | _, _ => .no 1
include hG in
theorem gkSn (hT : qo G) : qc prog G 159 gSn := by
 intro args hs K y h
 unfold gSn at h
 split at h
 case h_2 => cases h
 rename_i a b
 have g := goesSn hG hT (qk a b)
 refine ⟨_, _, qj hG (orcSn hG hT) mix enSn (hs := []) (pol := polSn) (L := [(4, qI (stSn (qk a b) (sinS0 (qk a b)) 260 1044 0) (.exit 0) (stSn (qk a b) (sinS (qk a b)) 260 1044 2))]) (lps1 (b := bSn) (live := [1, 2, 3, 21, 22, 23]) (m := 0) (by kernel_rfl) (by kernel_rfl) (by kernel_rfl) (qC g)) ?_, h⟩
 refine (kSn (qk a b) (sinS0 (qk a b)) (sinS (qk a b)) a b).trans ?_
 simp only [join_self, fitS_self]
 rw [k5 (decP_iff.2 ⟨⟨_, _, _, _, rfl⟩, by omega, by omega, by omega⟩), k5 (decP_iff.2 ⟨⟨_, _, _, _, rfl⟩, by omega, by omega, by omega⟩)]
 refine Eq.trans (k5 ?_) ?_
 ·exact decP_iff.2 rfl
 ·rw [k7]
end
section
open Go Tryz
set_option maxRecDepth 100000
variable {G : World -> (Nat -> Prop) -> Prop} (hG : GOk G)
def isB (F : Sp -> Sp -> Sp) (args : List PV) (n m : Nat) (r : Sp) (w : Nat) : Prop := (∃ A B : Sp, args = [spR A.lo A.hi n, spR B.lo B.hi m] /\ r = F A B) /\ 1 <= n /\ 1 <= m /\ n + m < w /\ w <= 50000
def isU (F : Sp -> Sp) (args : List PV) (n : Nat) (r : Sp) : Prop := ∃ A : Sp, args = [spR A.lo A.hi n] /\ r = F A
def isC (args : List PV) (n : Nat) (r : Sp) (w : Nat) : Prop := (∃ A : Sp, args = [spR A.lo A.hi n] /\ r = cutS A /\ cutL A <= cutH A) /\ 1 <= n /\ n <= 25000 /\ 300 <= w
abbrev Tab2 := Nat -> Nat -> Option (Sp × Nat)
abbrev Tab1 := Nat -> Option (Sp × Nat)
def vB (F : Sp -> Sp -> Sp) (tab : Tab2) : Spec := fun args hs K => match args, hs with
 | [.agg [.q a n, .q b n'], .agg [.q c m, .q d m']], [] => match tab n m with
  | some (r, w) => .br (qg (isB F [.agg [.q a n, .q b n'], .agg [.q c m, .q d m']] n m r w)) (K (.agg [.q r.lo w, .q r.hi w]) []) (.no 1)
  | none => .no 1
 | _, _ => .no 1
def vU (F : Sp -> Sp) (r : Sp) (w : Nat) : Spec := fun args hs K => match args, hs with
 | [.agg [.q a 260, .q b n']], [] => .br (qg (isU F [.agg [.q a 260, .q b n']] 260 r)) (K (.agg [.q r.lo w, .q r.hi w]) []) (.no 1)
 | _, _ => .no 1
def vCut (tab : Tab1) : Spec := fun args hs K => match args, hs with
 | [.agg [.q a n, .q b n']], [] => match tab n with
  | some (r, w) => .br (qg (isC [.agg [.q a n, .q b n']] n r w)) (K (.agg [.q r.lo w, .q r.hi w]) []) (.no 1)
  | none => .no 1
 | _, _ => .no 1
def tb (n m : Nat) (r : Sp) (w : Nat) (t : Tab2) : Tab2 := fun a b => match Nat.beq a n && Nat.beq b m with | true => some (r, w) | false => t a b
def tn : Tab2 := fun _ _ => none
def tc (n : Nat) (r : Sp) (w : Nat) (t : Tab1) : Tab1 := fun a => match Nat.beq a n with | true => some (r, w) | false => t a
theorem enSp : Enters prog 123 f123 (qd f123) := ⟨func123, by kernel_rfl, rfl⟩
def bSp : Code := (qi (qd f123)).getD 0 .skip
def polSp : Pol := { live := [(8, [1, 8, 9, 43, 44, 45])] }
def nowP (l : Lz) (W : Nat) : PV := .agg [.agg [.q l.X.lo W, .q l.X.hi W], .agg [.q l.Y.lo W, .q l.Y.hi W], .agg [.q l.C.lo 300, .q l.C.hi 300], .agg [.q l.S.lo 301, .q l.S.hi 301]]
def spsC (n : Nat) (Q : Nat -> Sp) : Cont := .fn n (fun j => .agg [.q (Q j).lo 260, .q (Q j).hi 260])
def stSp (n : Nat) (Q : Nat -> Sp) (lk : Nat -> Lk) (l : Lz) (W : Nat) (o : PV) (bs : List (Option Blk)) (i : Int) : LS :=
 ⟨[.lst 6 (spsC n Q), .ptr 0 24 0 0 [], o, .lst 16 (.fn n (fun j => lkPV (lk j))), .i .i64 n, .i .i64 i], some ⟨24, .vals [nowP l W]⟩ :: bs⟩
def RSp (W : Nat) (c s m1 m2 d1 C m3 m4 d2 S m5 m6 x y : Sp) : Orc :=
 [(155, gOf), (158, vU cosS c 1044), (159, vU sinS s 1045), (160, vCut (tc 2901 C 300 (tc 2902 S 301 (fun _ => none)))), (161, vB subS (tb 1401 1402 d1 2901 tn)),
  (162, vB mulS (tb 300 1044 m1 1401 (tb 301 1045 m2 1402 (tb 301 1044 m3 1403 (tb 300 1045 m4 1404 (tb 64 300 m5 401 (tb 64 301 m6 402 tn))))))),
  (163, vB addS (tb 1403 1404 d2 2902 (tb W 401 x (W + 403) (tb W 402 y (W + 403) tn))))]
def wdSp : Nat -> Nat
 | 0 => 260
 | 1 => 663
 | 2 => 1066
 | _ => 1469
def oSp : Nat -> PV
 | 0 => .nil
 | k + 1 => .sl 1 24 0 (k + 1)
def lsSp (P : Nat -> Lz) (k : Nat) : List PV := (List.range k).map fun j => nowP (P j) (wdSp j)
def bkSp (P : Nat -> Lz) : Nat -> List (Option Blk)
 | 0 => []
 | k + 1 => [some ⟨24, .vals (lsSp P (k + 1))⟩]
def stSpk (n : Nat) (Q : Nat -> Sp) (lk : Nat -> Lk) (P : Nat -> Lz) (l : Lz) (k : Nat) (i : Int) : LS := stSp n Q lk l (wdSp k) (oSp k) (bkSp P k) i
def stSpn (n : Nat) (Q : Nat -> Sp) (lk : Nat -> Lk) (P : Nat -> Lz) (l l' : Lz) (x y : Sp) (k : Nat) (i : Int) : LS := stSp n Q lk ⟨x, y, l'.C, l'.S⟩ (wdSp (k + 1)) (oSp (k + 1)) [some ⟨24, .vals (lsSp P k ++ [nowP l' (wdSp k)])⟩] i
theorem lsSp_s (P : Nat -> Lz) (k : Nat) : lsSp P (k + 1) = lsSp P k ++ [nowP (P k) (wdSp k)] := by
 unfold lsSp
 rw [List.range_succ, List.map_append]
 rfl
theorem wdSp_bd (k : Nat) : 1 <= wdSp k /\ wdSp k <= 1469 := by unfold wdSp; split <;> exact ⟨by decide, by decide⟩
def pvSp (A : Sp) (w : Nat) : PV := .agg [.q A.lo w, .q A.hi w]
def puSp (x : Rat) : PV := .agg [.q x 64, .q x 64]
def brSp (p : Prop) (t : Tr) : Tr := .br (qg p) t (.no 1)
def trSpk (n : Nat) (Q : Sp) (L : Rat) (l : Lz) (W : Nat) (i : Int) (c s m1 m2 d1 C m3 m4 d2 S m5 m6 x y : Sp) (nt ex : LS) : Tr :=
 .br (decide (i < (n : Int))) (.br (decide ((0 : Int) <= i) && decide (i < (n : Int))) (.br (decide ((0 : Int) <= i) && decide (i < (n : Int))) (brSp (isU cosS [pvSp Q 260] 260 c) (.br (decide ((0 : Int) <= i) && decide (i < (n : Int))) (brSp (isU sinS [pvSp Q 260] 260 s)
  (brSp (isB mulS [pvSp l.C 300, pvSp c 1044] 300 1044 m1 1401) (brSp (isB mulS [pvSp l.S 301, pvSp s 1045] 301 1045 m2 1402) (brSp (isB subS [pvSp m1 1401, pvSp m2 1402] 1401 1402 d1 2901) (brSp (isC [pvSp d1 2901] 2901 C 300)
  (brSp (isB mulS [pvSp l.S 301, pvSp c 1044] 301 1044 m3 1403) (brSp (isB mulS [pvSp l.C 300, pvSp s 1045] 300 1045 m4 1404) (brSp (isB addS [pvSp m3 1403, pvSp m4 1404] 1403 1404 d2 2902) (brSp (isC [pvSp d2 2902] 2902 S 301)
  (brSp (isB mulS [puSp L, pvSp C 300] 64 300 m5 401) (brSp (isB addS [pvSp l.X W, pvSp m5 401] W 401 x (W + 403)) (brSp (isB mulS [puSp L, pvSp S 301] 64 301 m6 402) (brSp (isB addS [pvSp l.Y W, pvSp m6 402] W 402 y (W + 403))
  (.br (ovf (i + 1)) (.ok (.out .normal nt)) (.no 1))))))))))))))) (.no 1))) (.no 1)) (.no 1)) (.ok (.out (.exit 0) ex))
theorem tSp (n : Nat) (Q : Nat -> Sp) (lk : Nat -> Lk) (P : Nat -> Lz) (l : Lz) (i : Int) (c s m1 m2 d1 C m3 m4 d2 S m5 m6 x y : Sp) : ∀ k, k < 3 -> (qh prog (RSp (wdSp k) c s m1 m2 d1 C m3 m4 d2 S m5 m6 x y) [] polSp f123.ntmps 0 [1, 8, 9, 43, 44, 45] bSp (stSpk n Q lk P l k i)).run =
  (trSpk n (Q i.toNat) (lk i.toNat).len l (wdSp k) i c s m1 m2 d1 C m3 m4 d2 S m5 m6 x y (stSpn n Q lk P l ⟨l.X, l.Y, C, S⟩ x y k (i + 1)) (stSpk n Q lk P l k i)).run
 | 0, _ => by kernel_rfl
 | 1, _ => by kernel_rfl
 | 2, _ => by kernel_rfl
 | k + 3, h => by omega
theorem tSpx (n : Nat) (Q : Nat -> Sp) (lk : Nat -> Lk) (P : Nat -> Lz) (l : Lz) (i : Int) : ∀ k, k < 4 -> (qh prog [] [] polSp f123.ntmps 0 [1, 8, 9, 43, 44, 45] bSp (stSpk n Q lk P l k i)).run =
  (Tr.br (decide (i < (n : Int))) (.br (decide ((0 : Int) <= i) && decide (i < (n : Int))) (.br (decide ((0 : Int) <= i) && decide (i < (n : Int))) (.no 1) (.no 1)) (.no 1)) (.ok (.out (.exit 0) (stSpk n Q lk P l k i)))).run
 | 0, _ => by kernel_rfl
 | 1, _ => by kernel_rfl
 | 2, _ => by kernel_rfl
 | 3, _ => by kernel_rfl
 | k + 4, h => by omega
def gC0 (F : Rat -> Rat) (w : Nat) : Spec := fun args hs K => match args, hs with
 | [.agg [.bl false, .q t 64]], [] => K (.q (F t) w) []
 | _, _ => .no 1
def gO0 : Spec := fun args hs K => match args, hs with
 | [.q z 64], [] => K (.agg [.q z 260, .q z 260]) []
 | [.q z 300], [] => K (.agg [.q z 300, .q z 300]) []
 | [.q z 301], [] => K (.agg [.q z 301, .q z 301]) []
 | _, _ => .no 1
def OSp (A : Am) (k : Int) : Orc := [(156, gC0 (qN false) 300), (157, gC0 (qx false) 301), (57, cst [qA A, .i .i64 k] True (.i .i64 0)), (155, gO0)]
theorem eSp (A : Am) (Q : Nat -> Sp) (P : Nat -> Lz) (l : Lz) : ∀ k, 1 <= k -> k < 4 -> (evF prog (OSp A A.n) [(8, qI (stSpk A.n Q A.lk P (lz0 ⟨A.bx, A.by_, false, A.t⟩) 0 0) (.exit 0) (stSpk A.n Q A.lk P l k k))] polSp f123 [qA A, .lst 6 (spsC A.n Q)] [] ql).run =
  (brSp (isA [qA A, .i .i64 A.n] True [qA A, .i .i64 A.n]) (brSp (isLS (stSpk A.n Q A.lk P (lz0 ⟨A.bx, A.by_, false, A.t⟩) 0 0) (stSpk A.n Q A.lk P (lz0 ⟨A.bx, A.by_, false, A.t⟩) 0 0)) (.ok (.ret (.tup [.fr 24 (.vals (lsSp P k ++ [nowP l (wdSp k)])), .i .i64 0]) [])))).run
 | 1, _, _ => by kernel_rfl
 | 2, _, _ => by kernel_rfl
 | 3, _, _ => by kernel_rfl
 | 0, h, _ => absurd h (by decide)
 | k + 4, _, h => by omega
theorem brSp_t {p : Prop} {t : Tr} {x : Option Res} (h : p) (ht : t.run = x) : (brSp p t).run = x := (k5 (decP_iff.2 h)).trans ht
theorem sp_rle {r : Sp} {n w : Nat} (h : n <= w) : RLe (.agg [.q r.lo n, .q r.hi n]) (.agg [.q r.lo w, .q r.hi w]) := rle_of_vle (fun _ => rfl) (fun _ => rfl) (VLe.agg (qJ (qF h) (qJ (qF h) vll0)))
theorem vB_ok {g : Nat} {F : Sp -> Sp -> Sp} {tab : Tab2} {sp : Spec} (h : qc prog G g sp) (e : ∀ (A B : Sp) (n m : Nat), 1 <= n -> 1 <= m -> n + m <= 50000 -> ∃ w0, w0 <= n + m + 1 /\ (sp [spR A.lo A.hi n, spR B.lo B.hi m] [] ql).run = some (.ret (.agg [.q (F A B).lo w0, .q (F A B).hi w0]) [])) :
  qc prog G g (vB F tab) := by
 intro args hs K y hh
 unfold vB at hh
 split at hh
 case h_2 => cases hh
 rename_i a n b n' c m d m'
 split at hh
 case h_2 => cases hh
 rename_i r w ht
 obtain ⟨hc, hr⟩ := k8 hh
 obtain ⟨⟨A, B, he, rfl⟩, h1, h2, h3, h4⟩ := decP_iff.1 hc
 obtain ⟨w0, hw, hrun⟩ := e A B n m h1 h2 (by omega)
 exact ⟨_, _, by rw [he]; exact (pc_spec h hrun).le (sp_rle (by omega)) (.refl _), hr⟩
theorem vU_ok {g : Nat} {F : Sp -> Sp} {r : Sp} {w : Nat} {sp : Spec} (hw : 1044 <= w) (h : qc prog G g sp) (e : ∀ (A : Sp), (sp [spR A.lo A.hi 260] [] ql).run = some (.ret (.agg [.q (F A).lo 1044, .q (F A).hi 1044]) [])) : qc prog G g (vU F r w) := by
 intro args hs K y hh
 unfold vU at hh
 split at hh
 case h_2 => cases hh
 rename_i a b n'
 obtain ⟨hc, hr⟩ := k8 hh
 obtain ⟨A, he, rfl⟩ := decP_iff.1 hc
 exact ⟨_, _, by rw [he]; exact (pc_spec h (e A)).le (sp_rle hw) (.refl _), hr⟩
include hG in
theorem vCut_ok (hT : qo G) {tab : Tab1} : qc prog G 160 (vCut tab) := by
 intro args hs K y hh
 unfold vCut at hh
 split at hh
 case h_2 => cases hh
 rename_i a n b n'
 split at hh
 case h_2 => cases hh
 rename_i r w ht
 obtain ⟨hc, hr⟩ := k8 hh
 obtain ⟨⟨A, he, rfl, ho⟩, h1, h2, h3⟩ := decP_iff.1 hc
 have p := pc_spec (gkCu hG hT) (args := [spR A.lo A.hi n]) (r := .agg [.q (cutL A) 300, .q (cutH A) 300]) (hs := []) (hs' := []) (by
  show (Tr.br _ _ _).run = _
  rw [k5 (decP_iff.2 ⟨⟨rfl, h1, h2⟩, by rw [qM]; exact ho⟩), qM]; rfl)
 refine ⟨_, _, ?_, hr⟩
 rw [he]
 refine p.le ?_ (.refl _)
 have e1 : (cutS A).lo = cutL A := fitS_lo ho
 have e2 : (cutS A).hi = cutH A := fitS_hi ho
 rw [<- e1, <- e2]
 exact sp_rle h3
include hG in
theorem orcRSp (hT : qo G) (W : Nat) (c s m1 m2 d1 C m3 m4 d2 S m5 m6 x y : Sp) : OrcOK prog G (RSp W c s m1 m2 d1 C m3 m4 d2 S m5 m6 x y) := by
 refine .cons (gkOf hG hT) (.cons (vU_ok (by omega) (gkCs hG hT) fun A => ?_) (.cons (vU_ok (by omega) (gkSn hG hT) fun A => ?_) (.cons (vCut_ok hG hT) (.cons (vB_ok (gkSb hG hT) fun A B n m h1 h2 h3 => ?_) (.cons (vB_ok (gkMu hG hT) fun A B n m h1 h2 h3 => ?_) (.cons (vB_ok (gkAd hG hT) fun A B n m h1 h2 h3 => ?_) .nil))))))
 ·refine (k5 (decP_iff.2 ⟨rfl, by omega, by omega⟩)).trans ?_
  rw [qM]; rfl
 ·show some (Res.ret (.agg [.q (sinS (qk A.lo A.hi)).lo 1044, .q (sinS (qk A.lo A.hi)).hi 1044]) []) = _
  rw [qM]
 ·refine ⟨_, Nat.le_refl _, (k5 (decP_iff.2 ⟨⟨_, _, _, _, rfl⟩, h1, h2, h3⟩)).trans ?_⟩
  rw [qM, qM]; rfl
 ·refine ⟨n + m, by omega, (k5 (decP_iff.2 ⟨⟨_, _, _, _, rfl⟩, h1, h2, h3⟩)).trans ?_⟩
  rw [qM, qM]; rfl
 ·refine ⟨_, Nat.le_refl _, (k5 (decP_iff.2 ⟨⟨_, _, _, _, rfl⟩, h1, h2, h3⟩)).trans ?_⟩
  rw [qM, qM]; rfl
section
variable (n : Nat) (Q : Nat -> Sp) (lk : Nat -> Lk) (l : Lz)
def okL (l : Lz) (Q : Sp) : Prop := cutL (lcC Q l) <= cutH (lcC Q l) /\ cutL (lcS Q l) <= cutH (lcS Q l)
def nx_ (L : Rat) (Q : Sp) (l : Lz) : Lz := lstep L (lturn Q l)
include hG in
theorem rSpk (hT : qo G) (P : Nat -> Lz) (k : Nat) (hk : k < 3) (hi : k < n) (hn : n <= 3) (ho : okL l (Q k)) (hP : P k = lturn (Q k) l) : Rnd prog G f123.ntmps 0 [1, 8, 9, 43, 44, 45] bSp (stSpk n Q lk P l k (k : Nat)) .normal
  (stSpk n Q lk P (nx_ (lk k).len (Q k) l) (k + 1) ((k + 1 : Nat) : Int)) := by
 have e : stSpn n Q lk P l ⟨l.X, l.Y, cutS (lcC (Q k) l), cutS (lcS (Q k) l)⟩ (addS l.X (mulS (ofS (lk k).len) (cutS (lcC (Q k) l)))) (addS l.Y (mulS (ofS (lk k).len) (cutS (lcS (Q k) l)))) k (((k : Nat) : Int) + 1) = stSpk n Q lk P (nx_ (lk k).len (Q k) l) (k + 1) ((k + 1 : Nat) : Int) := by
  show stSp n Q lk _ (wdSp (k + 1)) (oSp (k + 1)) _ _ = stSp n Q lk _ (wdSp (k + 1)) (oSp (k + 1)) [some ⟨24, .vals (lsSp P (k + 1))⟩] _
  rw [lsSp_s, hP]
  rfl
 have w0 := wdSp_bd k
 rw [<- e]
 refine qb hG (orcRSp hG hT (wdSp k) (cosS (Q k)) (sinS (Q k)) (mulS l.C (cosS (Q k))) (mulS l.S (sinS (Q k))) (lcC (Q k) l) (cutS (lcC (Q k) l)) (mulS l.S (cosS (Q k))) (mulS l.C (sinS (Q k))) (lcS (Q k) l) (cutS (lcS (Q k) l)) (mulS (ofS (lk k).len) (cutS (lcC (Q k) l))) (mulS (ofS (lk k).len) (cutS (lcS (Q k) l))) (addS l.X (mulS (ofS (lk k).len) (cutS (lcC (Q k) l)))) (addS l.Y (mulS (ofS (lk k).len) (cutS (lcS (Q k) l))))) mix (L := []) (pol := polSp) (k9 (by kernel_rfl)) (Nat.zero_le _) ((tSp n Q lk P l k _ _ _ _ _ _ _ _ _ _ _ _ _ _ k hk).trans ?_)
 rw [Int.toNat_natCast]
 have ix : (decide ((0 : Int) <= (k : Nat)) && decide (((k : Nat) : Int) < (n : Int))) = true := by simp only [kA, kD]; omega
 have m : ∀ {A B r : Sp} {F : Sp -> Sp -> Sp} {a b w : Nat}, r = F A B -> 1 <= a -> 1 <= b -> a + b < w -> w <= 50000 -> isB F [pvSp A a, pvSp B b] a b r w := fun {A B} _ _ _ _ _ h h1 h2 h3 h4 => ⟨⟨A, B, rfl, h⟩, h1, h2, h3, h4⟩
 unfold trSpk
 rw [k5 (kE (by omega)), k5 ix, k5 ix]
 refine brSp_t ⟨_, rfl, rfl⟩ ((k5 ix).trans (brSp_t ⟨_, rfl, rfl⟩ (brSp_t (m rfl (by decide) (by decide) (by decide) (by decide)) (brSp_t (m rfl (by decide) (by decide) (by decide) (by decide)) (brSp_t (m rfl (by decide) (by decide) (by decide) (by decide)) (brSp_t ⟨⟨_, rfl, rfl, ho.1⟩, by decide, by decide, by decide⟩
  (brSp_t (m rfl (by decide) (by decide) (by decide) (by decide)) (brSp_t (m rfl (by decide) (by decide) (by decide) (by decide)) (brSp_t (m rfl (by decide) (by decide) (by decide) (by decide)) (brSp_t ⟨⟨_, rfl, rfl, ho.2⟩, by decide, by decide, by decide⟩
  (brSp_t (m (A := ofS _) rfl (by decide) (by decide) (by decide) (by decide)) (brSp_t (m rfl w0.1 (by decide) (by omega) (by omega)) (brSp_t (m (A := ofS _) rfl (by decide) (by decide) (by decide) (by decide)) (brSp_t (m rfl w0.1 (by decide) (by omega) (by omega)) ((k5 (by simp only [ovf, kA, kD]; omega)).trans rfl)))))))))))))))
end
theorem okL_of {b : Fr} {Q : Nat -> Sp} {L : Nat -> Rat} (i : Nat) : okL (lzE b Q L i) (Q i) := by
 have h := lzE_has (b := b) (Q := Q) (q := fun j => (Q j).lo) (L := L) i fun j _ => (Q j).has_lo
 obtain ⟨c, s⟩ := lc_has h (Q i).has_lo
 have bd := cs_bd (thH (endR b (fun j => (Q j).lo) L i).h (endR b (fun j => (Q j).lo) L i).t false (Q i).lo) (thT (endR b (fun j => (Q j).lo) L i).h (endR b (fun j => (Q j).lo) L i).t false (Q i).lo)
 exact ⟨cut_ok c bd.1.1 bd.1.2, cut_ok s bd.2.1 bd.2.2⟩
include hG in
theorem gC0_c (hT : qo G) : qc prog G 156 (gC0 (qN false) 300) := by
 intro args hs K y h
 unfold gC0 at h
 split at h
 case h_2 => cases h
 exact ⟨_, _, (pc_spec (gk133 hG hT) (args := [.agg [.bl false, .q _ 64]]) (hs := []) (r := .q (qN false _) (4 * 64 + 4)) (hs' := []) rfl).le (q_rle rfl (by omega)) (.refl _), h⟩
include hG in
theorem gC0_s (hT : qo G) : qc prog G 157 (gC0 (qx false) 301) := by
 intro args hs K y h
 unfold gC0 at h
 split at h
 case h_2 => cases h
 exact ⟨_, _, (pc_spec (gk134 hG hT) (args := [.agg [.bl false, .q _ 64]]) (hs := []) (r := .q (qx false _) (4 * 64 + 4)) (hs' := []) rfl).le (q_rle rfl (by omega)) (.refl _), h⟩
include hG in
theorem gO0_ok (hT : qo G) : qc prog G 155 gO0 := by
 intro args hs K y h
 unfold gO0 at h
 split at h
 case h_4 => cases h
 ·exact ⟨_, _, (pc_spec (gkOf hG hT) (args := [.q _ 64]) (hs := []) (r := .agg [.q _ 64, .q _ 64]) (hs' := []) rfl).le (rle_of_vle (fun _ => rfl) (fun _ => rfl) (VLe.agg (qJ (qF (by omega)) (qJ (qF (by omega)) vll0)))) (.refl _), h⟩
 ·exact ⟨_, _, pc_spec (gkOf hG hT) (args := [.q _ 300]) (hs := []) (hs' := []) rfl, h⟩
 ·exact ⟨_, _, pc_spec (gkOf hG hT) (args := [.q _ 301]) (hs := []) (hs' := []) rfl, h⟩
include hG in
theorem pcHas (A : Am) (hA : armB A = true) : PC prog G 57 [qA A, .i .i64 A.n] [] (.i .i64 0) [] :=
 pc_spec (ok85 hG) (k5 (decP_iff.2 ⟨qA A, A, rfl, .refl _, hA⟩))
def nowW (l : Lz) : PV := .agg [.agg [.q l.X.lo 1500, .q l.X.hi 1500], .agg [.q l.Y.lo 1500, .q l.Y.hi 1500], .agg [.q l.C.lo 301, .q l.C.hi 301], .agg [.q l.S.lo 301, .q l.S.hi 301]]
theorem sp_vle {r : Sp} {n w : Nat} (h : n <= w) : VLe (.agg [.q r.lo n, .q r.hi n]) (.agg [.q r.lo w, .q r.hi w]) := VLe.agg (qJ (qF h) (qJ (qF h) vll0))
theorem now_le {l : Lz} {W : Nat} (h : W <= 1500) : VLe (nowP l W) (nowW l) := VLe.agg (qJ (sp_vle h) (qJ (sp_vle h) (qJ (sp_vle (by omega)) (qJ (sp_vle (by omega)) vll0))))
def lzs (A : Am) (Q : Nat -> Sp) (i : Nat) : Lz := lzA (bsF A) Q (fun j => (A.lk j).len) A.n i
include hG in
theorem pcSp (hT : qo G) (A : Am) (hA : armB A = true) (Q : Nat -> Sp) :
  PC prog G 123 [qA A, .lst 6 (spsC A.n Q)] [] (.tup [.fr 24 (.fn (A.n + 1) (fun i => nowW (lzs A Q i))), .i .i64 0]) [] := by
 obtain ⟨a1, a2, a3, a4, h1, h3, a7⟩ := armB_c hA
 have orc : OrcOK prog G (OSp A A.n) := .cons (gC0_c hG hT) (.cons (gC0_s hG hT) (.cons (cst_t (pcHas hG A hA)) (.cons (gO0_ok hG hT) .nil)))
 have g := Goes.count (R := Rnd prog G f123.ntmps 0 [1, 8, 9, 43, 44, 45] bSp) (fun k => stSpk A.n Q A.lk (lzF (bsF A) Q (fun j => (A.lk j).len)) (lzE (bsF A) Q (fun j => (A.lk j).len) k) k ((k : Nat) : Int)) (e := .exit 0) (ls' := stSpk A.n Q A.lk (lzF (bsF A) Q (fun j => (A.lk j).len)) (lzE (bsF A) Q (fun j => (A.lk j).len) A.n) A.n ((A.n : Nat) : Int)) (by simp) A.n 0
  (fun k _ hk => rSpk hG A.n Q A.lk (lzE (bsF A) Q (fun j => (A.lk j).len) k) hT _ k (by omega) (by omega) h3 (okL_of k) rfl)
  (by
   rw [Nat.zero_add]
   refine qb hG .nil mix (L := []) (pol := polSp) (k9 (by kernel_rfl)) (Nat.zero_le _) ((tSpx A.n Q A.lk _ _ _ A.n (by omega)).trans ?_)
   rw [k6 (kF (by omega)), k7])
 refine (qj hG orc mix enSp (hs := []) (pol := polSp) (L := [(8, qI (stSpk A.n Q A.lk (lzF (bsF A) Q (fun j => (A.lk j).len)) (lz0 ⟨A.bx, A.by_, false, A.t⟩) 0 0) (.exit 0) (stSpk A.n Q A.lk (lzF (bsF A) Q (fun j => (A.lk j).len)) (lzE (bsF A) Q (fun j => (A.lk j).len) A.n) A.n A.n))])
  (lps1 (b := bSp) (live := [1, 8, 9, 43, 44, 45]) (m := 0) (by kernel_rfl) (by kernel_rfl) (by kernel_rfl) (qC g)) ((eSp A Q _ _ A.n h1 (by omega)).trans (brSp_t ⟨rfl, trivial⟩ (brSp_t rfl k7)))).le ?_ (.refl _)
 refine frs_le0 _ _ _ _ (by rw [List.length_append, lsSp, List.length_map, List.length_range]; rfl) fun i v hi => ?_
 have hlt : i < A.n + 1 := by
  have := (List.getElem?_eq_some_iff.1 hi).1
  rw [List.length_append, lsSp, List.length_map, List.length_range] at this
  exact this
 have hw : ∀ j, wdSp j <= 1500 := fun j => by have := (wdSp_bd j).2; omega
 by_cases h : i < A.n
 ·rw [List.getElem?_append_left (by rw [lsSp, List.length_map, List.length_range]; exact h), lsSp, List.getElem?_map, List.getElem?_range h] at hi
  obtain rfl := Option.some.inj hi
  exact ⟨rfl, by show VLe _ (nowW (lzA _ _ _ A.n i)); rw [lzA, if_pos h]; exact now_le (hw i)⟩
 ·obtain rfl : i = A.n := by omega
  rw [List.getElem?_append_right (by rw [lsSp, List.length_map, List.length_range]; exact Nat.le_refl _), lsSp, List.length_map, List.length_range, Nat.sub_self] at hi
  obtain rfl := Option.some.inj hi
  exact ⟨rfl, by show VLe _ (nowW (lzA _ _ _ A.n A.n)); rw [lzA, if_neg (by omega)]; exact now_le (hw _)⟩
end
section
open Go
set_option maxRecDepth 100000
variable {G : World -> (Nat -> Prop) -> Prop} (hG : GOk G)
def spn (p q : List Rat) (j : Nat) : Sp := ⟨mnR (p.getD j 0) (q.getD j 0), mxR (p.getD j 0) (q.getD j 0), mn_mx _ _⟩
include hG in
theorem pArm (l : PV) (hl : okW l = true) : PC Tryz.prog G 13 [.w l] [] (armFr (qP l)) [] := by
 obtain ⟨r, hs', p, e⟩ := ok15 hG [.w l] [] (fun r hs' => .ok (.ret r hs')) (.ret (armFr (qP l)) []) (by show (Tr.br _ _ _).run = _; rw [k5 hl]; rfl)
 cases e
 exact p
include hG in
theorem pConf (A : Am) (hA : armB A = true) (hX : limX A = true) (m : PV) (hm : okW m = true) : PC Tryz.prog G 15 [qA A, .w m] [] (.fr 3 (.rats 64 (cfL A.lk m A.n))) [] := by
 obtain ⟨r, hs', p, e⟩ := ok33 hG [qA A, .w m] [] (fun r hs' => .ok (.ret r hs')) (.ret (.fr 3 (.rats 64 (cfL A.lk m A.n))) []) (by
  show (Tr.br _ _ _).run = _
  rw [k5 (decP_iff.2 ⟨okA_arm hA, hX, hm⟩)]; rfl)
 cases e
 exact p
def isCf (A : Am) (a m : PV) : Prop := a = qA A /\ okW m = true
def vCf (A : Am) (CF : PV -> List Rat) : Spec := fun args hs K => match args, hs with
 | [a, .w m], [] => .br (qg (isCf A a m)) (K (.fr 3 (.rats 64 (CF m))) []) (.no 1)
 | _, _ => .no 1
include hG in
theorem vCf_ok (A : Am) (hA : armB A = true) (hX : limX A = true) : qc Tryz.prog G 15 (vCf A (fun m => cfL A.lk m A.n)) := by
 intro args hs K x h
 unfold vCf at h
 split at h
 case h_2 => cases h
 obtain ⟨hc, hr⟩ := k8 h
 obtain ⟨rfl, hm⟩ := decP_iff.1 hc
 exact ⟨_, _, pConf hG A hA hX _ hm, hr⟩
theorem lzs_has {A : Am} {Q : Nat -> Sp} {r : List Rat} {i : Nat} (hi : i <= A.n) (h : ∀ j, j < A.n -> (Q j).has (r.getD j 0)) : (lzs A Q i).hasF (allF (bsF A) (qf r) (fun j => (A.lk j).len) A.n i) :=
 lzA_has (q := qf r) hi h
end
section
open Go Tryz
set_option maxRecDepth 100000
variable {G : World -> (Nat -> Prop) -> Prop} (hG : GOk G)
theorem enBo : Enters prog 126 f126 (qd f126) := ⟨func126, by kernel_rfl, rfl⟩
def gBo : Spec := evF prog [] [] {} f126
include hG in
theorem gkBo : qc prog G 126 gBo := spec_ev hG .nil mix enBo (fun _ => k9 (by kernel_rfl))
end
section
open Go
set_option maxRecDepth 100000
variable {G : World -> (Nat -> Prop) -> Prop} (hG : GOk G)
def R9 : Orc := [(25, g21), (23, g27)]
def nowL (c s : Nat) (l : Lz) : PV := .agg [spR l.X.lo l.X.hi 1500, spR l.Y.lo l.Y.hi 1500, spR l.C.lo l.C.hi c, spR l.S.lo l.S.hi s]
def nowI : Nat -> Lz -> PV
 | 0, l => nowL 310 320 l
 | 1, l => nowL 311 321 l
 | _, l => nowL 312 322 l
theorem KLe.ff {e n : Nat} {f g : Nat -> PV} (h : ∀ i, i < n -> noRef 8 (f i) = true /\ VLe (f i) (g i)) : KLe ⟨e, .fn n f⟩ ⟨e, .fn n g⟩ := by
 intro w S μ a z hb
 obtain ⟨c, T, cs, h1, h2, h3, h4, h5, h6⟩ := hb
 refine ⟨c, T, cs, h1, h2, h3, fun i hi => ?_, h5, h6⟩
 have h7 := h4 i hi
 simp only [Cont.get, qB] at h7 ⊢
 exact ((h i hi).2.2 w S qO).1 _ h7
theorem nowI_le (l : Lz) : ∀ i, VLe (nowW l) (nowI i l)
 | 0 => VLe.agg (qJ (sp_vle (by omega)) (qJ (sp_vle (by omega)) (qJ (sp_vle (by omega)) (qJ (sp_vle (by omega)) vll0))))
 | 1 => VLe.agg (qJ (sp_vle (by omega)) (qJ (sp_vle (by omega)) (qJ (sp_vle (by omega)) (qJ (sp_vle (by omega)) vll0))))
 | _ + 2 => VLe.agg (qJ (sp_vle (by omega)) (qJ (sp_vle (by omega)) (qJ (sp_vle (by omega)) (qJ (sp_vle (by omega)) vll0))))
def hld (n : Nat) (B : Nat -> Sp) (ls : List Rat) : Prop := ∀ j, j < n -> (B j).hi <= ls.getD j 0 /\ -(B j).lo <= ls.getD j 0
end
section
open Go Tryz
set_option maxRecDepth 100000
variable {G : World -> (Nat -> Prop) -> Prop} (hG : GOk G)
theorem enAt : Enters prog 124 f124 (qd f124) := ⟨func124, by kernel_rfl, rfl⟩
def RAt (m1 m2 m3 m4 d s x y : Sp) : Orc :=
 [(155, gOf), (161, vB subS (tb 400 401 d 802 tn)), (162, vB mulS (tb 64 310 m1 400 (tb 65 320 m2 401 (tb 64 320 m3 402 (tb 65 310 m4 403 tn))))), (163, vB addS (tb 402 403 s 810 (tb 1500 802 x 2320 (tb 1500 810 y 2320 tn))))]
theorem eAt (l : Lz) (u v : Rat) (m1 m2 m3 m4 d s x y : Sp) : (evF prog (RAt m1 m2 m3 m4 d s x y) [] {} f124 [nowL 310 320 l, .agg [.q u 64, .q v 65]] [] ql).run =
 (Tr.br (qg (isB mulS [.agg [.q u 64, .q u 64], .agg [.q l.C.lo 310, .q l.C.hi 310]] (64 : Nat) (310 : Nat) m1 (400 : Nat))) (.br (qg (isB mulS [.agg [.q v 65, .q v 65], .agg [.q l.S.lo 320, .q l.S.hi 320]] (65 : Nat) (320 : Nat) m2 (401 : Nat))) (.br (qg (isB subS [.agg [.q m1.lo 400, .q m1.hi 400], .agg [.q m2.lo 401, .q m2.hi 401]] (400 : Nat) (401 : Nat) d (802 : Nat))) (.br (qg (isB addS [.agg [.q l.X.lo 1500, .q l.X.hi 1500], .agg [.q d.lo 802, .q d.hi 802]] (1500 : Nat) (802 : Nat) x (2320 : Nat))) (.br (qg (isB mulS [.agg [.q u 64, .q u 64], .agg [.q l.S.lo 320, .q l.S.hi 320]] (64 : Nat) (320 : Nat) m3 (402 : Nat))) (.br (qg (isB mulS [.agg [.q v 65, .q v 65], .agg [.q l.C.lo 310, .q l.C.hi 310]] (65 : Nat) (310 : Nat) m4 (403 : Nat))) (.br (qg (isB addS [.agg [.q m3.lo 402, .q m3.hi 402], .agg [.q m4.lo 403, .q m4.hi 403]] (402 : Nat) (403 : Nat) s (810 : Nat))) (.br (qg (isB addS [.agg [.q l.Y.lo 1500, .q l.Y.hi 1500], .agg [.q s.lo 810, .q s.hi 810]] (1500 : Nat) (810 : Nat) y (2320 : Nat))) (.ok (.ret (.tup [.agg [.q x.lo 2320, .q x.hi 2320], .agg [.q y.lo 2320, .q y.hi 2320]]) [])) (.no 1)) (.no 1)) (.no 1)) (.no 1)) (.no 1)) (.no 1)) (.no 1)) (.no 1)).run := by kernel_rfl
def sp2 (S : Sp) : PV := .agg [.q S.lo 2320, .q S.hi 2320]
def q2 (x y : Rat) : PV := .agg [.q x 64, .q y 64]
theorem enBs : Enters prog 72 f72 (qd f72) := ⟨func72, by kernel_rfl, rfl⟩
def bBs : Code := (qi (qd f72)).getD 0 .skip
def iBs : Code := (qi (qd f72)).getD 1 .skip
def polBs : Pol := { live := [(6, [6, 8, 27, 28, 29]), (10, [6, 8, 9, 11, 12, 27, 28, 29, 48, 49, 50])] }
def stBs (N : Nat) (lz : Nat -> Lz) (n : Nat) (lk : Nat -> Lk) (o : PV) (bs : List (Option Blk)) (i : Int) : LS := ⟨[.lst 24 (.fn N (fun j => nowW (lz j))), o, .lst 16 (.fn n (fun j => lkPV (lk j))), .i .i64 n, .i .i64 i], bs⟩
def shC (d : Lk) : Cont := .fn (d.np - 1) (fun j => q2 (d.px (j + 1)) (d.py (j + 1)))
def inS (N : Nat) (lz : Nat -> Lz) (n : Nat) (lk : Nat -> Lk) (o : PV) (i : Int) (a b : Nat) (d : Lk) (k : Int) (bs : List (Option Blk)) : LS :=
 ⟨[.lst 24 (.fn N (fun j => nowW (lz j))), o, .i .i64 i, .ptr a 6 0 0 [], .ptr b 6 0 0 [], .lst 16 (.fn n (fun j => lkPV (lk j))), .i .i64 n, .i .i64 i, .lst 6 (shC d), .i .i64 ((d.np - 1 : Nat) : Int), .i .i64 k], bs⟩
def bX (x : Sp) : Option Blk := some ⟨6, .vals [sp2 x]⟩
def bx2 (x y : Sp) : PV := .agg [.agg [.q x.lo 2320, .q y.lo 2320], .agg [.q x.hi 2320, .q y.hi 2320]]
def RIn (l : Lz) (x y : Rat) (u v : Sp) : Orc := [(124, cst [nowW l, q2 x y] True (.tup [sp2 u, sp2 v])), (125, gJn)]
def RBs (l : Lz) (x y : Rat) (u v : Sp) : Orc := [(126, gBo), (124, cst [nowW l, q2 x y] True (.tup [sp2 u, sp2 v]))]
def trI (i k : Int) (N : Nat) (d : Lk) (l : Lz) (x y u v : Sp) (L : Int -> Sp -> Sp -> LS) : Tr :=
 .br (decide (k < ((d.np - 1 : Nat) : Int))) (.br (decide ((0 : Int) <= k) && decide (k < ((d.np - 1 : Nat) : Int))) (.br (decide ((0 : Int) <= i) && decide (i < (N : Int)))
  (.br (qg (isA [nowW l, q2 (d.px (k.toNat + 1)) (d.py (k.toNat + 1))] True [nowW l, q2 (d.px (k.toNat + 1)) (d.py (k.toNat + 1))]))
  (.br (qg (eqN [sp2 x, sp2 u] 2320 2320)) (.br (qg (eqN [sp2 y, sp2 v] 2320 2320)) (.br (ovf (k + 1))
   (.ok (.out .normal (L (k + 1) (joinS (qk x.lo x.hi) (qk u.lo u.hi)) (joinS (qk y.lo y.hi) (qk v.lo v.hi)))))
  (.no 1)) (.no 1)) (.no 1)) (.no 1)) (.no 1)) (.no 1)) (.ok (.out (.exit 2) (L k x y)))
include hG in
theorem orcRAt (hT : qo G) (m1 m2 m3 m4 d s x y : Sp) : OrcOK prog G (RAt m1 m2 m3 m4 d s x y) := by
 refine .cons (gkOf hG hT) (.cons (vB_ok (gkSb hG hT) fun A B n m h1 h2 h3 => ?_) (.cons (vB_ok (gkMu hG hT) fun A B n m h1 h2 h3 => ?_) (.cons (vB_ok (gkAd hG hT) fun A B n m h1 h2 h3 => ?_) .nil)))
 ·refine ⟨_, Nat.le_refl _, (k5 (decP_iff.2 ⟨⟨_, _, _, _, rfl⟩, h1, h2, h3⟩)).trans ?_⟩
  rw [qM, qM]; rfl
 ·refine ⟨n + m, by omega, (k5 (decP_iff.2 ⟨⟨_, _, _, _, rfl⟩, h1, h2, h3⟩)).trans ?_⟩
  rw [qM, qM]; rfl
 ·refine ⟨_, Nat.le_refl _, (k5 (decP_iff.2 ⟨⟨_, _, _, _, rfl⟩, h1, h2, h3⟩)).trans ?_⟩
  rw [qM, qM]; rfl
include hG in
theorem pcAt (hT : qo G) (l : Lz) (u v : Rat) : PC prog G 124 [nowW l, q2 u v] [] (.tup [sp2 (atX l u v), sp2 (atY l u v)]) [] := by
 refine PC.args (.cons (nowI_le l 0) (.cons (VLe.agg (qJ (.refl _) (qJ (qF (show 64 <= 65 by omega)) vll0))) .nil)) ?_
 refine qj hG (orcRAt hG hT (mulS (ofS u) l.C) (mulS (ofS v) l.S) (mulS (ofS u) l.S) (mulS (ofS v) l.C) (subS (mulS (ofS u) l.C) (mulS (ofS v) l.S)) (addS (mulS (ofS u) l.S) (mulS (ofS v) l.C)) (atX l u v) (atY l u v)) mix enAt (hs := []) (L := []) (pol := {}) (k9 (by kernel_rfl)) ?_
 refine (eAt l u v _ _ _ _ _ _ _ _).trans ?_
 repeat (refine Eq.trans (k5 ?_) ?_; first | exact decP_iff.2 ⟨⟨_, _, rfl, rfl⟩, by decide, by decide, by decide, by decide⟩ | exact decP_iff.2 ⟨⟨ofS _, _, rfl, rfl⟩, by decide, by decide, by decide, by decide⟩)
 rw [k7]; rfl
def gX (l : Lz) (d : Lk) (j : Nat) : Sp := atX l (d.px j) (d.py j)
def gY (l : Lz) (d : Lk) (j : Nat) : Sp := atY l (d.px j) (d.py j)
include hG in
theorem goesIn (hT : qo G) (N : Nat) (lz : Nat -> Lz) (n : Nat) (lk : Nat -> Lk) (o : PV) (i a b : Nat) (d : Lk) (B : List (Option Blk)) (hi : i < N) (hp : 1 <= d.np) (hp8 : d.np <= 8)
  (hk : ∀ (k : Int) (x y u v : Sp), (qh prog (RIn (lz i) (d.px (k.toNat + 1)) (d.py (k.toNat + 1)) u v) [] polBs f72.ntmps 0 [6, 8, 9, 11, 12, 27, 28, 29, 48, 49, 50] iBs (inS N lz n lk o i a b d k (B ++ [bX x, bX y]))).run =
   (trI i k N d (lz i) x y u v fun k x y => inS N lz n lk o i a b d k (B ++ [bX x, bX y])).run) :
  Goes (Rnd prog G f72.ntmps 0 [6, 8, 9, 11, 12, 27, 28, 29, 48, 49, 50] iBs) (inS N lz n lk o i a b d 0 (B ++ [bX (gX (lz i) d 0), bX (gY (lz i) d 0)])) (.exit 2)
   (inS N lz n lk o i a b d ((d.np - 1 : Nat) : Int) (B ++ [bX (jnS (gX (lz i) d) (d.np - 1)), bX (jnS (gY (lz i) d) (d.np - 1))])) := by
 have rd : ∀ (k : Nat) (x y : Sp) (e : Exit) (ls : LS), (trI i ((k : Nat) : Int) N d (lz i) x y (gX (lz i) d (k + 1)) (gY (lz i) d (k + 1)) fun k x y => inS N lz n lk o i a b d k (B ++ [bX x, bX y])).run = some (.out e ls) ->
   Rnd prog G f72.ntmps 0 [6, 8, 9, 11, 12, 27, 28, 29, 48, 49, 50] iBs (inS N lz n lk o i a b d k (B ++ [bX x, bX y])) e ls := fun k x y e ls h => by
  refine qb hG (.cons (cst_t (pcAt hG hT (lz i) (d.px (k + 1)) (d.py (k + 1)))) (.cons (gkJn hG hT) .nil)) mix (L := []) (pol := polBs) (O := RIn (lz i) (d.px (k + 1)) (d.py (k + 1)) (gX (lz i) d (k + 1)) (gY (lz i) d (k + 1))) (k9 (by kernel_rfl)) (Nat.zero_le _) ?_
  exact (hk ((k : Nat) : Int) x y _ _).trans h
 have w := Goes.count (R := Rnd prog G f72.ntmps 0 [6, 8, 9, 11, 12, 27, 28, 29, 48, 49, 50] iBs) (fun k => inS N lz n lk o i a b d ((k : Nat) : Int) (B ++ [bX (jnS (gX (lz i) d) k), bX (jnS (gY (lz i) d) k)])) (e := .exit 2) (ls' := inS N lz n lk o i a b d ((d.np - 1 : Nat) : Int) (B ++ [bX (jnS (gX (lz i) d) (d.np - 1)), bX (jnS (gY (lz i) d) (d.np - 1))])) (by simp) (d.np - 1) 0
  (fun k _ hk1 => by
   refine rd k _ _ _ _ ?_
   unfold trI
   rw [k5 (kE (by omega)), k5 (by simp only [kA, kD]; omega), k5 (by simp only [kA, kD]; omega), k5 (decP_iff.2 ⟨rfl, trivial⟩), k5 (decP_iff.2 ⟨⟨_, _, _, _, rfl⟩, by decide, by decide, by decide⟩), k5 (decP_iff.2 ⟨⟨_, _, _, _, rfl⟩, by decide, by decide, by decide⟩),
    k5 (by simp only [ovf, kA, kD]; omega), k7]
   simp only [qM]
   rfl)
  (by
   refine rd _ _ _ _ _ ?_
   unfold trI
   rw [Nat.zero_add, k6 (kF (by omega)), k7])
 exact w
def trO (i : Int) (N n : Nat) (d : Lk) (v : PV) (S0 ex nx : LS) : Tr :=
 .br (decide (i < (n : Int))) (.br (decide ((0 : Int) <= i) && decide (i < (n : Int))) (.br (decide ((0 : Int) <= i) && decide (i < (N : Int))) (.br (decide ((0 : Int) <= 0) && decide ((0 : Int) < (d.np : Int)))
  (.br (qg (isA [v, q2 (d.px 0) (d.py 0)] True [v, q2 (d.px 0) (d.py 0)])) (.br (decide ((0 : Int) <= 1) && decide ((1 : Int) <= (d.np : Int))) (.br (qg (isLS S0 S0)) (.br (ovf (i + 1)) (.ok (.out .normal nx))
  (.no 1)) (.no 1)) (.no 1)) (.no 1)) (.no 1)) (.no 1)) (.no 1)) (.ok (.out (.exit 0) ex))
include hG in
theorem rdO (hT : qo G) (N : Nat) (lz : Nat -> Lz) (n : Nat) (lk : Nat -> Lk) (i : Nat) (hi : i < n) (hN : n <= N) (hn : n <= 3) (hp : 1 <= (lk i).np) (o : PV) (B : List (Option Blk)) (S0 S1 nx : LS)
  (hg : Goes (Rnd prog G f72.ntmps 0 [6, 8, 9, 11, 12, 27, 28, 29, 48, 49, 50] iBs) S0 (.exit 2) S1)
  (hr : (qh prog (RBs (lz i) ((lk i).px 0) ((lk i).py 0) (gX (lz i) (lk i) 0) (gY (lz i) (lk i) 0)) [(10, qI S0 (.exit 2) S1)] polBs f72.ntmps 0 [6, 8, 27, 28, 29] bBs (stBs N lz n lk o B i)).run = (trO i N n (lk i) (nowW (lz i)) S0 (stBs N lz n lk o B i) nx).run) :
  Rnd prog G f72.ntmps 0 [6, 8, 27, 28, 29] bBs (stBs N lz n lk o B i) .normal nx := by
 refine qb hG (.cons (gkBo hG) (.cons (cst_t (pcAt hG hT (lz i) ((lk i).px 0) ((lk i).py 0))) .nil)) mix (L := [(10, qI S0 (.exit 2) S1)]) (pol := polBs) (O := RBs (lz i) ((lk i).px 0) ((lk i).py 0) (gX (lz i) (lk i) 0) (gY (lz i) (lk i) 0))
  (lps1 (b := iBs) (live := [6, 8, 9, 11, 12, 27, 28, 29, 48, 49, 50]) (m := 0) (by kernel_rfl) (by kernel_rfl) (by kernel_rfl) (qC hg)) (Nat.zero_le _) ?_
 refine hr.trans ?_
 unfold trO
 rw [k5 (kE (by omega)), k5 (by simp only [kA, kD]; omega), k5 (by simp only [kA, kD]; omega), k5 (by simp only [kA, kD]; omega), k5 (decP_iff.2 ⟨rfl, trivial⟩), k5 (by simp only [kA, kD]; omega), k5 isLS_t,
  k5 (by simp only [ovf, kA, kD]; omega), k7]
def jX (lz : Nat -> Lz) (lk : Nat -> Lk) (i : Nat) : Sp := jnS (gX (lz i) (lk i)) ((lk i).np - 1)
def jY (lz : Nat -> Lz) (lk : Nat -> Lk) (i : Nat) : Sp := jnS (gY (lz i) (lk i)) ((lk i).np - 1)
def jB (lz : Nat -> Lz) (lk : Nat -> Lk) (i : Nat) : PV := bx2 (jX lz lk i) (jY lz lk i)
def OBs (A : Am) (n : Nat) (Q : Nat -> Sp) (lz : Nat -> Lz) : Orc := [(123, cst [armQ A n, .lst 6 (spsC n Q)] True (.tup [.fr 24 (.fn (n + 1) (fun i => nowW (lz i))), .i .i64 0]))]
include hG in
theorem pcBs1 (A : Am) (n : Nat) (Q : Nat -> Sp) (lz : Nat -> Lz) (ys : List PV) (k : Nat) (h11 : PC prog G 123 [armQ A n, .lst 6 (spsC n Q)] [] (.tup [.fr 24 (.fn (n + 1) (fun i => nowW (lz i))), .i .i64 0]) [])
  (hg : Goes (Rnd prog G f72.ntmps 0 [6, 8, 27, 28, 29] bBs) (stBs (n + 1) lz n A.lk .nil [] 0) (.exit 0) (stBs (n + 1) lz n A.lk (.sl 0 12 0 k) [some ⟨12, .vals ys⟩] n))
  (hr : (evF prog (OBs A n Q lz) [(6, qI (stBs (n + 1) lz n A.lk .nil [] 0) (.exit 0) (stBs (n + 1) lz n A.lk (.sl 0 12 0 k) [some ⟨12, .vals ys⟩] n))] polBs f72 [armQ A n, .lst 6 (spsC n Q)] [] ql).run =
   (Tr.br (qg (isA [armQ A n, .lst 6 (spsC n Q)] True [armQ A n, .lst 6 (spsC n Q)])) (.br (qg (isLS (stBs (n + 1) lz n A.lk .nil [] 0) (stBs (n + 1) lz n A.lk .nil [] 0))) (.ok (.ret (.tup [.fr 12 (.vals ys), .i .i64 0]) [])) (.no 1)) (.no 1)).run) :
  PC prog G 72 [armQ A n, .lst 6 (spsC n Q)] [] (.tup [.fr 12 (.vals ys), .i .i64 0]) [] := by
 refine qj hG (.cons (cst_t h11) .nil) mix enBs (hs := []) (pol := polBs) (L := [(6, qI (stBs (n + 1) lz n A.lk .nil [] 0) (.exit 0) (stBs (n + 1) lz n A.lk (.sl 0 12 0 k) [some ⟨12, .vals ys⟩] n))])
  (lps1n (b := bBs) (b' := iBs) (live := [6, 8, 27, 28, 29]) (m := 0) (by kernel_rfl) (by kernel_rfl) (by kernel_rfl) (by kernel_rfl) (qC hg)) ?_
 refine hr.trans ?_
 rw [k5 (decP_iff.2 ⟨rfl, trivial⟩), k5 isLS_t, k7]
include hG in
theorem rdX (O : Orc) (hO : OrcOK prog G O) (st : LS) (S0 S1 : LS) (hg : Goes (Rnd prog G f72.ntmps 0 [6, 8, 9, 11, 12, 27, 28, 29, 48, 49, 50] iBs) S0 (.exit 2) S1)
  (hr : (qh prog O [(10, qI S0 (.exit 2) S1)] polBs f72.ntmps 0 [6, 8, 27, 28, 29] bBs st).run = some (.out (.exit 0) st)) : Rnd prog G f72.ntmps 0 [6, 8, 27, 28, 29] bBs st (.exit 0) st :=
 qb hG hO mix (L := [(10, qI S0 (.exit 2) S1)]) (pol := polBs) (O := O) (lps1 (b := iBs) (live := [6, 8, 9, 11, 12, 27, 28, 29, 48, 49, 50]) (m := 0) (by kernel_rfl) (by kernel_rfl) (by kernel_rfl) (qC hg)) (Nat.zero_le _) hr
include hG in
theorem pcBs (hT : qo G) (A : Am) (hA : armB A = true) (hS : shp A) (Q : Nat -> Sp) :
  PC prog G 72 [qA A, .lst 6 (spsC A.n Q)] [] (.tup [.fr 12 (.fn A.n (jB (lzs A Q) A.lk)), .i .i64 0]) [] := by
 have p11 := pcSp hG hT A hA Q
 obtain ⟨a1, a2, a3, a4, h1, h3, a7⟩ := armB_c hA
 generalize lzs A Q = lz at *
 have ha : qA A = armQ A A.n := rfl
 rw [ha] at p11 ⊢
 unfold shp at hS
 have g0 : ∀ n, 1 <= n -> n = A.n -> _ := fun n hn he => goesIn hG hT (n + 1) lz n A.lk .nil 0 0 1 (A.lk 0) [] (by omega) (by have := hS 0 (by omega); omega) (by have := hS 0 (by omega); omega) (fun k x y u v => by kernel_rfl)
 have g1 : ∀ n, 2 <= n -> n = A.n -> _ := fun n hn he => goesIn hG hT (n + 1) lz n A.lk (.sl 0 12 0 1) 1 1 2 (A.lk 1) [some ⟨12, .vals [jB lz A.lk 0]⟩] (by omega) (by have := hS 1 (by omega); omega) (by have := hS 1 (by omega); omega) (fun k x y u v => by kernel_rfl)
 have g2 : ∀ n, 3 <= n -> n = A.n -> _ := fun n hn he => goesIn hG hT (n + 1) lz n A.lk (.sl 0 12 0 2) 2 1 2 (A.lk 2) [some ⟨12, .vals [jB lz A.lk 0, jB lz A.lk 1]⟩] (by omega) (by have := hS 2 (by omega); omega) (by have := hS 2 (by omega); omega) (fun k x y u v => by kernel_rfl)
 have r0 : ∀ n, (h1 : 1 <= n) -> (he : n = A.n) -> Rnd prog G f72.ntmps 0 [6, 8, 27, 28, 29] bBs (stBs (n + 1) lz n A.lk .nil [] 0) .normal (stBs (n + 1) lz n A.lk (.sl 0 12 0 1) [some ⟨12, .vals [jB lz A.lk 0]⟩] 1) := fun n hn he => rdO hG hT (n + 1) lz n A.lk 0 (by omega) (by omega) (by omega) (by have := hS 0 (by omega); omega) .nil [] _ _ _ (g0 n hn he) (by kernel_rfl)
 have r1 : ∀ n, (h1 : 2 <= n) -> (he : n = A.n) -> Rnd prog G f72.ntmps 0 [6, 8, 27, 28, 29] bBs (stBs (n + 1) lz n A.lk (.sl 0 12 0 1) [some ⟨12, .vals [jB lz A.lk 0]⟩] 1) .normal (stBs (n + 1) lz n A.lk (.sl 0 12 0 2) [some ⟨12, .vals [jB lz A.lk 0, jB lz A.lk 1]⟩] 2) := fun n hn he => rdO hG hT (n + 1) lz n A.lk 1 (by omega) (by omega) (by omega) (by have := hS 1 (by omega); omega) _ _ _ _ _ (g1 n hn he) (by kernel_rfl)
 have r2 : ∀ n, (h1 : 3 <= n) -> (he : n = A.n) -> Rnd prog G f72.ntmps 0 [6, 8, 27, 28, 29] bBs (stBs (n + 1) lz n A.lk (.sl 0 12 0 2) [some ⟨12, .vals [jB lz A.lk 0, jB lz A.lk 1]⟩] 2) .normal (stBs (n + 1) lz n A.lk (.sl 0 12 0 3) [some ⟨12, .vals [jB lz A.lk 0, jB lz A.lk 1, jB lz A.lk 2]⟩] 3) := fun n hn he => rdO hG hT (n + 1) lz n A.lk 2 (by omega) (by omega) (by omega) (by have := hS 2 (by omega); omega) _ _ _ _ _ (g2 n hn he) (by kernel_rfl)
 rcases (show A.n = 1 \/ A.n = 2 \/ A.n = 3 by omega) with hn | hn | hn
 ·rw [hn] at p11 ⊢
  have hx := rdX hG [] .nil (stBs 2 lz 1 A.lk (.sl 0 12 0 1) [some ⟨12, .vals [jB lz A.lk 0]⟩] 1) _ _ (g0 1 (by omega) hn.symm) (by kernel_rfl)
  refine (pcBs1 hG A 1 Q lz [jB lz A.lk 0] 1 p11 (.more _ _ _ _ (r0 1 (by omega) hn.symm) (.last _ _ _ hx (by simp))) (by kernel_rfl)).le (frs_le0 _ _ _ _ rfl fun i v hi => ?_) (.refl _)
  match i, hi with
  | 0, hi => simp at hi; subst hi; exact ⟨rfl, .refl _⟩
  | i + 1, hi => simp at hi
 ·rw [hn] at p11 ⊢
  have hx := rdX hG [] .nil (stBs 3 lz 2 A.lk (.sl 0 12 0 2) [some ⟨12, .vals [jB lz A.lk 0, jB lz A.lk 1]⟩] 2) _ _ (g0 2 (by omega) hn.symm) (by kernel_rfl)
  refine (pcBs1 hG A 2 Q lz [jB lz A.lk 0, jB lz A.lk 1] 2 p11 (.more _ _ _ _ (r0 2 (by omega) hn.symm) (.more _ _ _ _ (r1 2 (by omega) hn.symm) (.last _ _ _ hx (by simp)))) (by kernel_rfl)).le (frs_le0 _ _ _ _ rfl fun i v hi => ?_) (.refl _)
  match i, hi with
  | 0, hi => simp at hi; subst hi; exact ⟨rfl, .refl _⟩
  | 1, hi => simp at hi; subst hi; exact ⟨rfl, .refl _⟩
  | i + 2, hi => simp at hi
 ·rw [hn] at p11 ⊢
  have hx := rdX hG [] .nil (stBs 4 lz 3 A.lk (.sl 0 12 0 3) [some ⟨12, .vals [jB lz A.lk 0, jB lz A.lk 1, jB lz A.lk 2]⟩] 3) _ _ (g0 3 (by omega) hn.symm) (by kernel_rfl)
  refine (pcBs1 hG A 3 Q lz [jB lz A.lk 0, jB lz A.lk 1, jB lz A.lk 2] 3 p11 (.more _ _ _ _ (r0 3 (by omega) hn.symm) (.more _ _ _ _ (r1 3 (by omega) hn.symm) (.more _ _ _ _ (r2 3 (by omega) hn.symm) (.last _ _ _ hx (by simp))))) (by kernel_rfl)).le (frs_le0 _ _ _ _ rfl fun i v hi => ?_) (.refl _)
  match i, hi with
  | 0, hi => simp at hi; subst hi; exact ⟨rfl, .refl _⟩
  | 1, hi => simp at hi; subst hi; exact ⟨rfl, .refl _⟩
  | 2, hi => simp at hi; subst hi; exact ⟨rfl, .refl _⟩
  | i + 3, hi => simp at hi
end
section
open Go
set_option maxRecDepth 100000
variable {G : World -> (Nat -> Prop) -> Prop} (hG : GOk G)
theorem pt_has {A : Am} {Q : Nat -> Sp} {r : List Rat} {i k : Nat} (hi : i < A.n) (h : ∀ j, j < A.n -> (Q j).has (r.getD j 0)) (hk : k < (A.lk i).np) :
  (jX (lzs A Q) A.lk i).has (ptX (allF (bsF A) (qf r) (fun j => (A.lk j).len) A.n i) ((A.lk i).px k) ((A.lk i).py k)) /\ (jY (lzs A Q) A.lk i).has (ptY (allF (bsF A) (qf r) (fun j => (A.lk j).len) A.n i) ((A.lk i).px k) ((A.lk i).py k)) := by
 have hf := lzs_has (A := A) (Nat.le_of_lt hi) h
 have ha := at_has hf ((A.lk i).px k) ((A.lk i).py k)
 exact ⟨jn_has (g := gX (lzs A Q i) (A.lk i)) ha.1 _ (by omega), jn_has (g := gY (lzs A Q i) (A.lk i)) ha.2 _ (by omega)⟩
end
section
open Go
set_option maxRecDepth 100000
theorem ptTri (f : Fr) (a b c d e g : Rat) : tri (ptX f a b) (ptY f a b) (ptX f c d) (ptY f c d) (ptX f e g) (ptY f e g) = tri a b c d e g := by
 unfold tri ptX ptY
 have h := cos_sin f.h f.t
 generalize qN f.h f.t = C at *
 generalize qx f.h f.t = S at *
 grind
theorem pkOf {P : Pg} (h : ∀ i k, i < P.n -> 2 <= k -> k < P.n -> 0 < trP P i ((i + 1) % P.n) ((i + k) % P.n)) : pkE P = 0 := by
 unfold pkE
 exact if_pos (show pkB P = true from all_r.2 fun i _ hi => all_r.2 fun j _ hj => kE (h i (j + 2) hi (by omega) (by omega)))
theorem pk_to {P : Pg} (h : pkE P = 0) {i k : Nat} (hi : i < P.n) (h2 : 2 <= k) (hk : k < P.n) : 0 < trP P i ((i + 1) % P.n) ((i + k) % P.n) := by
 unfold pkE at h
 split at h
 case isFalse => cases h
 rename_i hb
 have h1 := all_r.1 (all_r.1 hb i (Nat.zero_le _) hi) (k - 2) (Nat.zero_le _) (by omega)
 rw [show k - 2 + 2 = k by omega] at h1
 exact of_decide_eq_true h1
theorem lkPos {A : Am} (hA : armB A = true) {i : Nat} (hi : i < A.n) : polyB (A.lk i).np (A.lk i).px (A.lk i).py = true := by
 have h := (armB_c hA).2.2.2.2.2.2 i hi
 simp only [lkB, kA] at h
 exact h.2
theorem pk_plG {A : Am} (hA : armB A = true) (q : List Rat) {i : Nat} (hi : i < A.n) : pkE (plG A q i) = 0 := by
 obtain ⟨h1, h2, h3, h4⟩ := polyB_c (lkPos hA hi)
 refine pkOf fun a k ha hk hkn => ?_
 unfold trP plG
 simp only
 rw [ptTri]
 exact h4 a k ha hk hkn
def cor (x y : Sp) : Pg := ⟨4, fun k => match k with | 0 => x.lo | 1 => x.hi | 2 => x.hi | _ => x.lo, fun k => match k with | 0 => y.lo | 1 => y.lo | 2 => y.hi | _ => y.hi⟩
def inP (P : Pg) (x y : Sp) : Prop := ∀ k, k < P.n -> x.has (P.u k) /\ y.has (P.v k)
theorem le_mnF {u : Nat -> Rat} {c : Rat} : ∀ (k : Nat), (∀ j, j <= k -> c <= u j) -> c <= mnF u k
 | 0, h => by rw [mnF, Rat.add_zero]; exact h 0 (Nat.le_refl _)
 | k + 1, h => le_mnR (le_mnF k fun j hj => h j (by omega)) (h _ (Nat.le_refl _))
theorem mxF_le {u : Nat -> Rat} {c : Rat} : ∀ (k : Nat), (∀ j, j <= k -> u j <= c) -> mxF u k <= c
 | 0, h => by rw [mxF, Rat.add_zero]; exact h 0 (Nat.le_refl _)
 | k + 1, h => mxR_le (mxF_le k fun j hj => h j (by omega)) (h _ (Nat.le_refl _))
theorem mnF_le {u : Nat -> Rat} {j : Nat} : ∀ (k : Nat), j <= k -> mnF u k <= u j
 | 0, h => by rw [show j = 0 by omega, mnF, Rat.add_zero]; exact Rat.le_refl
 | k + 1, h => by
  rcases Nat.lt_or_ge j (k + 1) with g | g
  ·exact Rat.le_trans (mnR_l _ _) (mnF_le k (by omega))
  ·rw [show j = k + 1 by omega]; exact mnR_r _ _
theorem le_mxF {u : Nat -> Rat} {j : Nat} : ∀ (k : Nat), j <= k -> u j <= mxF u k
 | 0, h => by rw [show j = 0 by omega, mxF, Rat.add_zero]; exact Rat.le_refl
 | k + 1, h => by
  rcases Nat.lt_or_ge j (k + 1) with g | g
  ·exact Rat.le_trans (le_mxF k (by omega)) (mxR_l _ _)
  ·rw [show j = k + 1 by omega]; exact mxR_r _ _
theorem mxF_lt {u : Nat -> Rat} {c : Rat} : ∀ (k : Nat), (∀ j, j <= k -> u j < c) -> mxF u k < c
 | 0, h => by rw [mxF, Rat.add_zero]; exact h 0 (Nat.le_refl _)
 | k + 1, h => by
  have h1 := mxF_lt k fun j hj => h j (by omega)
  have h2 := h _ (Nat.le_refl (k + 1))
  rw [mxF]; unfold mxR; split <;> assumption
theorem lt_mnF {u : Nat -> Rat} {c : Rat} : ∀ (k : Nat), (∀ j, j <= k -> c < u j) -> c < mnF u k
 | 0, h => by rw [mnF, Rat.add_zero]; exact h 0 (Nat.le_refl _)
 | k + 1, h => by
  have h1 := lt_mnF k fun j hj => h j (by omega)
  have h2 := h _ (Nat.le_refl (k + 1))
  rw [mnF]; unfold mnR; split <;> assumption
theorem rl_iff {x y : Rat} : rl x y = true ↔ x <= y := by unfold rl; rw [kD]; exact rcmp_le
theorem bx_iff (P Q : Pg) : bxB P Q = true ↔ (mnF P.u (P.n - 1) <= mxF Q.u (Q.n - 1) /\ mnF Q.u (Q.n - 1) <= mxF P.u (P.n - 1)) /\ mnF P.v (P.n - 1) <= mxF Q.v (Q.n - 1) /\ mnF Q.v (Q.n - 1) <= mxF P.v (P.n - 1) := by
 have h : ∀ (u : Nat -> Rat) k, mnF u k <= mxF u k := mn_mxF
 simp only [bxB, kA, rl_iff, h, true_and, and_assoc]
theorem cor_mn (x y : Sp) : (mnF (cor x y).u 3 = x.lo /\ mxF (cor x y).u 3 = x.hi) /\ mnF (cor x y).v 3 = y.lo /\ mxF (cor x y).v 3 = y.hi := by
 have hx := x.ok
 have hy := y.ok
 refine ⟨⟨Rat.le_antisymm (mnF_le (u := (cor x y).u) (j := 0) 3 (by omega)) (le_mnF 3 fun j hj => ?_), Rat.le_antisymm (mxF_le 3 fun j hj => ?_) (le_mxF (u := (cor x y).u) (j := 1) 3 (by omega))⟩, Rat.le_antisymm (mnF_le (u := (cor x y).v) (j := 0) 3 (by omega)) (le_mnF 3 fun j hj => ?_), Rat.le_antisymm (mxF_le 3 fun j hj => ?_) (le_mxF (u := (cor x y).v) (j := 2) 3 (by omega))⟩
 all_goals
  match j, hj with
  | 0, _ => first | exact Rat.le_refl | exact hx | exact hy
  | 1, _ => first | exact Rat.le_refl | exact hx | exact hy
  | 2, _ => first | exact Rat.le_refl | exact hx | exact hy
  | 3, _ => first | exact Rat.le_refl | exact hx | exact hy
  | j + 4, h => exact absurd h (by omega)
theorem mt0 {P Q : Pg} : mtE P Q = 0 ↔ pkE P = 0 /\ pkE Q = 0 := by
 unfold mtE
 by_cases h : pkE P = 0
 ·rw [if_pos h]; exact ⟨fun h' => ⟨h, h'⟩, fun h' => h'.2⟩
 ·rw [if_neg h]; exact ⟨fun h' => absurd h' h, fun h' => absurd h'.1 h⟩
theorem by_iff {P Q : Pg} : byB P Q = true ↔ ∃ i, i < P.n /\ ∀ j, j < Q.n -> 0 < nX P i ((i + 1) % P.n) * (Q.u j - P.u i) + nY P i ((i + 1) % P.n) * (Q.v j - P.v i) := by
 have key : ∀ i, bgB P Q i = true ↔ ∀ j, j < Q.n -> 0 < nX P i ((i + 1) % P.n) * (Q.u j - P.u i) + nY P i ((i + 1) % P.n) * (Q.v j - P.v i) := fun i => by
  unfold bgB
  rw [all_r]
  refine ⟨fun h j hj => ?_, fun h j _ hj => ?_⟩
  ·have := h j (Nat.zero_le _) hj
   unfold dB dV at this
   exact rcmp_gt.1 (of_decide_eq_true this)
  ·unfold dB dV
   exact kE (rcmp_gt.2 (h j hj))
 unfold byB
 constructor
 ·intro h
  apply Classical.byContradiction
  intro hn
  have : (List.range P.n).all (fun i => !bgB P Q i) = true := all_r.2 fun i _ hi => by
   cases hb : bgB P Q i with
   | false => rfl
   | true => exact absurd ⟨i, hi, (key i).1 hb⟩ hn
  rw [this] at h
  cases h
 ·intro ⟨i, hi, h⟩
  cases hb : (List.range P.n).all (fun i => !bgB P Q i) with
  | false => rfl
  | true =>
   have := all_r.1 hb i (Nat.zero_le _) hi
   rw [(key i).2 h] at this
   cases this
theorem fr_iff {P Q : Pg} : frB P Q = true ↔ bxB P Q = false \/ (pkE P = 0 /\ pkE Q = 0 /\ (byB P Q = true \/ byB Q P = true)) := by
 unfold frB mtB
 cases hb : bxB P Q with
 | false => simp
 | true =>
  by_cases hm : mtE P Q = 0
  ·have := mt0.1 hm
   simp only [hm, this, decide_true, Bool.true_and, Bool.not_true, Bool.false_or, true_and]
   cases byB P Q <;> cases byB Q P <;> simp
  ·rw [kF hm]
   have : ¬ (pkE P = 0 /\ pkE Q = 0) := fun h => hm (mt0.2 h)
   simp only [Bool.not_true, Bool.false_or, Bool.false_and, Bool.false_eq_true, false_iff]
   intro h
   rcases h with h | ⟨h1, h2, _⟩
   ·cases h
   ·exact this ⟨h1, h2⟩
theorem lin_box {a b p q : Rat} {x y : Sp} {u v : Rat} (hu : x.has u) (hv : y.has v) (h0 : 0 < a * (x.lo - p) + b * (y.lo - q)) (h1 : 0 < a * (x.hi - p) + b * (y.lo - q)) (h2 : 0 < a * (x.hi - p) + b * (y.hi - q)) (h3 : 0 < a * (x.lo - p) + b * (y.hi - q)) :
  0 < a * (u - p) + b * (v - q) := by
 obtain ⟨u1, u2⟩ := hu
 obtain ⟨v1, v2⟩ := hv
 have mono : ∀ {a s t : Rat}, 0 <= a -> s <= t -> a * s <= a * t := fun ha h => Rat.mul_le_mul_of_nonneg_left h ha
 have anti : ∀ {a s t : Rat}, a <= 0 -> s <= t -> a * t <= a * s := fun {a s t} ha h => by
  have := Rat.mul_le_mul_of_nonneg_left h (show 0 <= -a by grind)
  grind
 rcases Rat.le_total (a := 0) (b := a) with ha | ha <;> rcases Rat.le_total (a := 0) (b := b) with hb | hb
 ·have := mono ha u1; have := mono hb v1; grind
 ·have := mono ha u1; have := anti hb v2; grind
 ·have := anti ha u2; have := mono hb v1; grind
 ·have := anti ha u2; have := anti hb v2; grind
theorem fr_in {P W : Pg} {x y : Sp} (hp : pkE P = 0) (hi : inP P x y) (h1 : 1 <= P.n) (hw : 1 <= W.n) (h : frB (cor x y) W = true) : frB P W = true := by
 obtain ⟨⟨c1, c2⟩, c3, c4⟩ := cor_mn x y
 have e3 : (cor x y).n - 1 = 3 := rfl
 have p1 : x.lo <= mnF P.u (P.n - 1) := le_mnF _ fun j hj => (hi j (by omega)).1.1
 have p2 : mxF P.u (P.n - 1) <= x.hi := mxF_le _ fun j hj => (hi j (by omega)).1.2
 have p3 : y.lo <= mnF P.v (P.n - 1) := le_mnF _ fun j hj => (hi j (by omega)).2.1
 have p4 : mxF P.v (P.n - 1) <= y.hi := mxF_le _ fun j hj => (hi j (by omega)).2.2
 have bx : bxB P W = true -> bxB (cor x y) W = true := fun hb => by
  obtain ⟨⟨g1, g2⟩, g3, g4⟩ := (bx_iff _ _).1 hb
  rw [bx_iff, e3, c1, c2, c3, c4]
  exact ⟨⟨Rat.le_trans p1 g1, Rat.le_trans g2 p2⟩, Rat.le_trans p3 g3, Rat.le_trans g4 p4⟩
 rw [fr_iff] at h ⊢
 cases hb : bxB P W with
 | false => exact .inl rfl
 | true =>
  have hb' := bx hb
  rcases h with h | ⟨k1, k2, k3⟩
  ·rw [hb'] at h; cases h
  refine .inr ⟨hp, k2, .inr ?_⟩
  obtain ⟨⟨g1, g2⟩, g3, g4⟩ := (bx_iff _ _).1 hb'
  rw [e3, c1] at g1
  rw [e3, c2] at g2
  rw [e3, c3] at g3
  rw [e3, c4] at g4
  rcases k3 with k3 | k3
  ·exfalso
   have xo := x.ok
   have yo := y.ok
   have pos : ∀ {a b : Rat}, 0 <= a -> 0 < a * b -> 0 < b := fun {a b} ha hab => by
    rcases Rat.le_total (a := b) (b := 0) with hb | hb
    ·have := Rat.mul_nonneg ha (show 0 <= -b by grind)
     grind
    ·rcases Rat.le_iff_lt_or_eq.1 hb with h | h
     ·exact h
     ·rw [<- h] at hab; grind
   obtain ⟨i, hi4, hj⟩ := by_iff.1 k3
   have hi4' : i < 4 := hi4
   match i, hi4' with
   | 0, _ =>
    have : mxF W.v (W.n - 1) < y.lo := mxF_lt _ fun j hj' => by
     have h := hj j (by omega)
     have h : 0 < (y.lo - y.lo) * (W.u j - x.lo) + -(x.hi - x.lo) * (W.v j - y.lo) := h
     have := pos (a := x.hi - x.lo) (b := y.lo - W.v j) (by grind) (by grind)
     grind
    grind
   | 1, _ =>
    have : x.hi < mnF W.u (W.n - 1) := lt_mnF _ fun j hj' => by
     have h := hj j (by omega)
     have h : 0 < (y.hi - y.lo) * (W.u j - x.hi) + -(x.hi - x.hi) * (W.v j - y.lo) := h
     have := pos (a := y.hi - y.lo) (b := W.u j - x.hi) (by grind) (by grind)
     grind
    grind
   | 2, _ =>
    have : y.hi < mnF W.v (W.n - 1) := lt_mnF _ fun j hj' => by
     have h := hj j (by omega)
     have h : 0 < (y.hi - y.hi) * (W.u j - x.hi) + -(x.lo - x.hi) * (W.v j - y.hi) := h
     have := pos (a := x.hi - x.lo) (b := W.v j - y.hi) (by grind) (by grind)
     grind
    grind
   | 3, _ =>
    have : mxF W.u (W.n - 1) < x.lo := mxF_lt _ fun j hj' => by
     have h := hj j (by omega)
     rw [show (3 + 1) % (cor x y).n = 0 by rw [show (cor x y).n = 4 from rfl]] at h
     have h : 0 < (y.lo - y.hi) * (W.u j - x.lo) + -(x.lo - x.lo) * (W.v j - y.hi) := h
     have := pos (a := y.hi - y.lo) (b := x.lo - W.u j) (by grind) (by grind)
     grind
    grind
   | i + 4, h => omega
  ·obtain ⟨i, hi', hj⟩ := by_iff.1 k3
   refine by_iff.2 ⟨i, hi', fun k hk => ?_⟩
   obtain ⟨u1, v1⟩ := hi k hk
   exact lin_box u1 v1 (hj 0 (show 0 < 4 by omega)) (hj 1 (show 1 < 4 by omega)) (hj 2 (show 2 < 4 by omega)) (hj 3 (show 3 < 4 by omega))
theorem free_iff {n : Nat} {L : Nat -> Pg} {m : Nat} {M : Nat -> Pg} : freeB n L m M = true ↔ ∀ i, i < n -> ∀ j, j < m -> frB (L i) (M j) = true := by
 unfold freeB frI
 rw [all_r]
 exact ⟨fun h i hi j hj => all_r.1 (h i (Nat.zero_le _) hi) j (Nat.zero_le _) hj, fun h i _ hi => all_r.2 fun j _ hj => h i hi j hj⟩
theorem free_in {n : Nat} {L : Nat -> Pg} {X Y : Nat -> Sp} {m : Nat} {M : Nat -> Pg} (hL : ∀ i, i < n -> pkE (L i) = 0 /\ inP (L i) (X i) (Y i) /\ 1 <= (L i).n) (hM : ∀ j, j < m -> 1 <= (M j).n)
  (h : freeB n (fun i => cor (X i) (Y i)) m M = true) : freeB n L m M = true :=
 free_iff.2 fun i hi j hj => by
  obtain ⟨a, b, c⟩ := hL i hi
  exact fr_in a b c (hM j hj) (free_iff.1 h i hi j hj)
theorem pk_cor {x y : Sp} (hx : x.lo < x.hi) (hy : y.lo < y.hi) : pkE (cor x y) = 0 := by
 have hp : 0 < (x.hi - x.lo) * (y.hi - y.lo) := Rat.mul_pos (by grind) (by grind)
 refine pkOf fun i k hi h2 hk => ?_
 have hi' : i < 4 := hi
 have hk' : k < 4 := hk
 match i, k, hi', h2, hk' with
 | 0, 2, _, _, _ => show 0 < (x.hi - x.lo) * (y.hi - y.lo) - (y.lo - y.lo) * (x.hi - x.lo); grind
 | 0, 3, _, _, _ => show 0 < (x.hi - x.lo) * (y.hi - y.lo) - (y.lo - y.lo) * (x.lo - x.lo); grind
 | 1, 2, _, _, _ => show 0 < (x.hi - x.hi) * (y.hi - y.lo) - (y.hi - y.lo) * (x.lo - x.hi); grind
 | 1, 3, _, _, _ => rw [show (1 + 3) % (cor x y).n = 0 by rw [show (cor x y).n = 4 from rfl]]; show 0 < (x.hi - x.hi) * (y.lo - y.lo) - (y.hi - y.lo) * (x.lo - x.hi); grind
 | 2, 2, _, _, _ => rw [show (2 + 2) % (cor x y).n = 0 by rw [show (cor x y).n = 4 from rfl]]; show 0 < (x.lo - x.hi) * (y.lo - y.hi) - (y.hi - y.hi) * (x.lo - x.hi); grind
 | 2, 3, _, _, _ => rw [show (2 + 3) % (cor x y).n = 1 by rw [show (cor x y).n = 4 from rfl]]; show 0 < (x.lo - x.hi) * (y.lo - y.hi) - (y.hi - y.hi) * (x.hi - x.hi); grind
 | 3, 2, _, _, _ => rw [show (3 + 1) % (cor x y).n = 0 by rw [show (cor x y).n = 4 from rfl], show (3 + 2) % (cor x y).n = 1 by rw [show (cor x y).n = 4 from rfl]]; show 0 < (x.lo - x.lo) * (y.lo - y.hi) - (y.lo - y.hi) * (x.hi - x.lo); grind
 | 3, 3, _, _, _ => rw [show (3 + 1) % (cor x y).n = 0 by rw [show (cor x y).n = 4 from rfl], show (3 + 3) % (cor x y).n = 2 by rw [show (cor x y).n = 4 from rfl]]; show 0 < (x.lo - x.lo) * (y.hi - y.hi) - (y.lo - y.hi) * (x.hi - x.lo); grind
 | i + 4, _, h, _, _ => omega
 | _, 0, _, h, _ => omega
 | _, 1, _, h, _ => omega
 | _, k + 4, _, _, h => omega
theorem in_area {P : Pg} {x y : Sp} (h3 : 3 <= P.n) (hp : pkE P = 0) (hi : inP P x y) : x.lo < x.hi /\ y.lo < y.hi := by
 have h := pk_to hp (i := 0) (k := 2) (by omega) (by omega) (by omega)
 rw [show (0 + 1) % P.n = 1 from Nat.mod_eq_of_lt (by omega), show (0 + 2) % P.n = 2 from Nat.mod_eq_of_lt (by omega)] at h
 unfold trP tri at h
 obtain ⟨⟨a1, a2⟩, a3, a4⟩ := hi 0 (by omega)
 obtain ⟨⟨b1, b2⟩, b3, b4⟩ := hi 1 (by omega)
 obtain ⟨⟨c1, c2⟩, c3, c4⟩ := hi 2 (by omega)
 have xo := x.ok
 have yo := y.ok
 constructor
 ·rcases Rat.le_iff_lt_or_eq.1 xo with g | g
  ·exact g
  ·have e1 : P.u 1 - P.u 0 = 0 := by grind
   have e2 : P.u 2 - P.u 0 = 0 := by grind
   rw [e1, e2] at h
   grind
 ·rcases Rat.le_iff_lt_or_eq.1 yo with g | g
  ·exact g
  ·have e1 : P.v 1 - P.v 0 = 0 := by grind
   have e2 : P.v 2 - P.v 0 = 0 := by grind
   rw [e1, e2] at h
   grind
theorem cor_in {x y x' y' : Sp} (hx : x'.win x) (hy : y'.win y) : inP (cor x' y') x y := fun k hk => by
 have hk' : k < 4 := hk
 have a := x'.ok
 have b := y'.ok
 obtain ⟨h1, h2⟩ := hx
 obtain ⟨h3, h4⟩ := hy
 match k, hk' with
 | 0, _ => exact ⟨⟨h1, Rat.le_trans a h2⟩, h3, Rat.le_trans b h4⟩
 | 1, _ => exact ⟨⟨Rat.le_trans h1 a, h2⟩, h3, Rat.le_trans b h4⟩
 | 2, _ => exact ⟨⟨Rat.le_trans h1 a, h2⟩, Rat.le_trans h3 b, h4⟩
 | 3, _ => exact ⟨⟨h1, Rat.le_trans a h2⟩, Rat.le_trans h3 b, h4⟩
 | k + 4, h => omega
theorem at_win {l l' : Lz} (h : l'.win l) (x y : Rat) : (atX l' x y).win (atX l x y) /\ (atY l' x y).win (atY l x y) := by
 obtain ⟨h1, h2, h3, h4⟩ := h
 exact ⟨add_win h1 (sub_win (mul_win (Sp.win_refl _) h3) (mul_win (Sp.win_refl _) h4)), add_win h2 (add_win (mul_win (Sp.win_refl _) h4) (mul_win (Sp.win_refl _) h3))⟩
theorem jn_win {g g' : Nat -> Sp} : ∀ (k : Nat), (∀ j, j <= k -> (g' j).win (g j)) -> (jnS g' k).win (jnS g k)
 | 0, h => h 0 (Nat.le_refl _)
 | k + 1, h => join_win (Sp.win_trans (jn_win k fun j hj => h j (by omega)) (join_l _ _)) (Sp.win_trans (h _ (Nat.le_refl _)) (join_r _ _))
theorem j_win {A : Am} {Q Q' : Nat -> Sp} (h : ∀ j, j < A.n -> (Q' j).win (Q j)) {i : Nat} (hi : i < A.n) : (jX (lzs A Q') A.lk i).win (jX (lzs A Q) A.lk i) /\ (jY (lzs A Q') A.lk i).win (jY (lzs A Q) A.lk i) := by
 have hw : (lzs A Q' i).win (lzs A Q i) := lzA_win (Nat.le_of_lt hi) h
 exact ⟨jn_win _ fun j _ => (at_win hw _ _).1, jn_win _ fun j _ => (at_win hw _ _).2⟩
def frR (k n : Nat) : Rat := ((k : Int) : Rat) / ((n : Int) : Rat)
def btwR (p q : List Rat) (k n j : Nat) : Rat := p.getD j 0 + frR k n * (q.getD j 0 - p.getD j 0)
def btwL (p q : List Rat) (k n : Nat) : List Rat := (List.range p.length).map (btwR p q k n)
def rowS (p q : List Rat) (n k : Nat) : Nat -> Sp := spn (btwL p q k n) (btwL p q (k + 1) n)
def bxQ (A : Am) (Q : Nat -> Sp) (i : Nat) : Pg := cor (jX (lzs A Q) A.lk i) (jY (lzs A Q) A.lk i)
def motB (A : Am) (p q : List Rat) (n m : Nat) (M : Nat -> Pg) : Bool := (List.range n).all fun k => freeB A.n (bxQ A (rowS p q n k)) m M
theorem btwL_get {p q : List Rat} {k n j : Nat} (h : j < p.length) : (btwL p q k n).getD j 0 = btwR p q k n j := getD_map_range _ h
theorem frR_mul {k n : Nat} (hn : 0 < n) : frR k n * ((n : Int) : Rat) = ((k : Int) : Rat) := by
 have h : ¬ ((n : Int) : Rat) = 0 := fun h => by have : (n : Int) = 0 := Rat.intCast_eq_zero_iff.1 h; omega
 unfold frR
 generalize ((n : Int) : Rat) = a at *
 grind
theorem frR_le {k n x m : Nat} (hn : 0 < n) (hm : 0 < m) (h : k * m <= x * n) : frR k n <= frR x m := by
 have h1 := frR_mul (k := k) hn
 have h2 := frR_mul (k := x) hm
 have pn : (0 : Rat) < ((n : Int) : Rat) := Rat.intCast_lt_intCast.2 (show (0 : Int) < n by omega)
 have pm : (0 : Rat) < ((m : Int) : Rat) := Rat.intCast_lt_intCast.2 (show (0 : Int) < m by omega)
 have h3 : ((k : Int) : Rat) * ((m : Int) : Rat) <= ((x : Int) : Rat) * ((n : Int) : Rat) := by
  rw [<- Rat.intCast_mul, <- Rat.intCast_mul]
  exact Rat.intCast_le_intCast.2 (by have : ((k * m : Nat) : Int) <= ((x * n : Nat) : Int) := Int.ofNat_le.2 h; simpa using this)
 unfold frR
 exact div_le pn pm h3
theorem spn_has {a b x y s : Rat} {p q : List Rat} {j : Nat} (hp : p.getD j 0 = x + a * (y - x)) (hq : q.getD j 0 = x + b * (y - x)) (h1 : a <= s) (h2 : s <= b) : (spn p q j).has (x + s * (y - x)) := by
 unfold spn Sp.has
 simp only
 rw [hp, hq]
 rcases Rat.le_total (a := x) (b := y) with h | h
 ·have a1 := Rat.mul_nonneg (show 0 <= s - a by grind) (show 0 <= y - x by grind)
  have a2 := Rat.mul_nonneg (show 0 <= b - s by grind) (show 0 <= y - x by grind)
  exact ⟨Rat.le_trans (mnR_l _ _) (by grind), Rat.le_trans (by grind) (mxR_r _ _)⟩
 ·have a1 := Rat.mul_nonneg (show 0 <= s - a by grind) (show 0 <= x - y by grind)
  have a2 := Rat.mul_nonneg (show 0 <= b - s by grind) (show 0 <= x - y by grind)
  exact ⟨Rat.le_trans (mnR_r _ _) (by grind), Rat.le_trans (by grind) (mxR_l _ _)⟩
theorem row_has {p q : List Rat} {n k x m j : Nat} (hj : j < p.length) (hn : 0 < n) (hm : 0 < m) (h1 : k * m <= x * n) (h2 : x * n <= (k + 1) * m) : (rowS p q n k j).has (btwR p q x m j) :=
 spn_has (btwL_get hj) (btwL_get hj) (frR_le hn hm h1) (frR_le hm hn h2)
theorem row_win {p q : List Rat} {n k j : Nat} (hj : j < p.length) (hn : 0 < n) : (rowS p q (2 * n) k j).win (rowS p q n (k / 2) j) := by
 have key : ∀ x, k <= x -> x <= k + 1 -> (rowS p q n (k / 2) j).has (btwR p q x (2 * n) j) := fun x h1 h2 => by
  refine row_has hj hn (by omega) ?_ ?_
  ·rw [<- Nat.mul_assoc]
   exact Nat.mul_le_mul_right _ (by omega)
  ·rw [<- Nat.mul_assoc]
   exact Nat.mul_le_mul_right _ (by omega)
 have a := key k (Nat.le_refl _) (by omega)
 have b := key (k + 1) (by omega) (Nat.le_refl _)
 rw [<- btwL_get hj] at a b
 exact ⟨le_mnR a.1 b.1, mxR_le a.2 b.2⟩
theorem btw_rev {p q : List Rat} {k n : Nat} (hl : q.length = p.length) (hn : 0 < n) (hk : k <= n) : btwL q p k n = btwL p q (n - k) n := by
 unfold btwL
 rw [hl]
 refine List.map_congr_left fun j _ => ?_
 unfold btwR
 have h1 := frR_mul (k := k) hn
 have h2 := frR_mul (k := n - k) hn
 have h3 : (((n - k : Nat) : Int) : Rat) = ((n : Int) : Rat) - ((k : Int) : Rat) := by rw [<- Rat.intCast_sub]; congr 1; omega
 have h : ¬ ((n : Int) : Rat) = 0 := fun h => by have : (n : Int) = 0 := Rat.intCast_eq_zero_iff.1 h; omega
 rw [h3] at h2
 generalize frR k n = a at *
 generalize frR (n - k) n = b at *
 generalize ((n : Int) : Rat) = c at *
 generalize ((k : Int) : Rat) = d at *
 have : b = 1 - a := by
  have : (b - (1 - a)) * c = 0 := by grind
  rcases Rat.mul_eq_zero.1 this with h' | h'
  ·grind
  ·exact absurd h' h
 grind
theorem mnR_comm (a b : Rat) : mnR a b = mnR b a := Rat.le_antisymm (le_mnR (mnR_r _ _) (mnR_l _ _)) (le_mnR (mnR_r _ _) (mnR_l _ _))
theorem mxR_comm (a b : Rat) : mxR a b = mxR b a := Rat.le_antisymm (mxR_le (mxR_r _ _) (mxR_l _ _)) (mxR_le (mxR_r _ _) (mxR_l _ _))
theorem spn_comm (p q : List Rat) : spn p q = spn q p := by
 funext j
 unfold spn
 simp only [Sp.mk.injEq]
 exact ⟨mnR_comm _ _, mxR_comm _ _⟩
theorem row_rev {p q : List Rat} {k n : Nat} (hl : q.length = p.length) (hk : k < n) : rowS q p n k = rowS p q n (n - 1 - k) := by
 unfold rowS
 rw [btw_rev hl (by omega) (by omega), btw_rev hl (by omega) (by omega), spn_comm, show n - (k + 1) = n - 1 - k by omega, show n - k = n - 1 - k + 1 by omega]
theorem mot_iff {A : Am} {p q : List Rat} {n m : Nat} {M : Nat -> Pg} : motB A p q n m M = true ↔ ∀ k, k < n -> freeB A.n (bxQ A (rowS p q n k)) m M = true := by
 unfold motB
 rw [all_r]
 exact ⟨fun h k hk => h k (Nat.zero_le _) hk, fun h k _ hk => h k hk⟩
theorem mot_rev {A : Am} {p q : List Rat} (hl : q.length = p.length) (n m : Nat) (M : Nat -> Pg) : motB A q p n m M = motB A p q n m M := by
 rw [Bool.eq_iff_iff, mot_iff, mot_iff]
 constructor
 ·intro h k hk
  have := h (n - 1 - k) (by omega)
  rw [row_rev hl (by omega), show n - 1 - (n - 1 - k) = k by omega] at this
  exact this
 ·intro h k hk
  rw [row_rev hl hk]
  exact h _ (by omega)
theorem pl_in {A : Am} {Q : Nat -> Sp} {r : List Rat} {i : Nat} (hi : i < A.n) (h : ∀ j, j < A.n -> (Q j).has (r.getD j 0)) : inP (plG A r i) (jX (lzs A Q) A.lk i) (jY (lzs A Q) A.lk i) := fun _ hk => pt_has hi h hk
theorem mot_twice {A : Am} (hA : armB A = true) (hS : shp A) {p q : List Rat} (hp : p.length = A.n) {n m : Nat} {M : Nat -> Pg} (hn : 0 < n) (hM : ∀ j, j < m -> 1 <= (M j).n) (h : motB A p q n m M = true) : motB A p q (2 * n) m M = true := by
 refine mot_iff.2 fun k hk => ?_
 refine free_in (L := bxQ A (rowS p q (2 * n) k)) (X := jX (lzs A (rowS p q n (k / 2))) A.lk) (Y := jY (lzs A (rowS p q n (k / 2))) A.lk) (fun i hi => ?_) hM (mot_iff.1 h (k / 2) (by omega))
 have hw := j_win (A := A) (Q := rowS p q n (k / 2)) (Q' := rowS p q (2 * n) k) (fun j hj => row_win (by omega) hn) hi
 have hin := pl_in (A := A) (Q := rowS p q (2 * n) k) (r := btwL p q k (2 * n)) hi fun j hj => by
  rw [btwL_get (by omega)]
  exact row_has (by omega) (by omega) (by omega) (Nat.le_refl _) (Nat.mul_le_mul_right _ (by omega))
 have h3 : 3 <= (plG A (btwL p q k (2 * n)) i).n := by
  have := hS i hi
  show 3 <= (A.lk i).np
  omega
 have ar := in_area h3 (pk_plG hA _ hi) hin
 exact ⟨pk_cor ar.1 ar.2, cor_in hw.1 hw.2, show 1 <= 4 by omega⟩
end
section
open Go Tryz
set_option maxRecDepth 100000
variable {G : World -> (Nat -> Prop) -> Prop} (hG : GOk G)
theorem PC.seen {P : Program} {G : World -> (Nat -> Prop) -> Prop} {g : Nat} {args : List PV} {hs hs' : List Blk} {e : Nat} {c : Cont} (h : PC P G g args hs (.fr e c) hs') : PC P G g args hs (.lst e c) hs' := by
 intro w S μ vs hg hr hh hmu
 refine (h w S μ vs hg hr hh hmu).mono fun v w' hv => ?_
 obtain ⟨S', μ', k⟩ := hv
 obtain ⟨a, z, m1, m2, m3, m4⟩ := k.nw 0 ⟨e, c⟩ rfl
 have hm : Mono w' w' S' (fun n => S' n \/ n = a) := ⟨fun _ h => .inl h, fun _ _ _ => rfl⟩
 refine ⟨fun n => S' n \/ n = a, μ', ⟨k.os, k.tape, k.output, k.size, k.old, fun n hn => .inl (k.subS n hn), fun n hn => ?_, k.mu, ?_, fun j kb hj => ?_, (fun j kb hj => by cases hj), (fun j j' a z z' hj => by cases hj)⟩⟩
 ·rcases hn with hn | rfl
  ·exact k.newS n hn
  ·exact .inr ⟨m4, m2.lt⟩
 ·have hrep : RepV w' S' μ' (.sl (hs.length + 0) e 0 c.len) v := k.rep
  obtain ⟨cc, T, cs, g1, g2, g3, g4, g5, g6⟩ := m2
  cases hrep with
  | agg _ _ _ hv => cases hv
  | cell _ _ _ hv hc =>
   cases hc with
   | sl _ _ _ _ _ a' z' o cap hb hcap hz ho =>
    rw [m1] at hb
    cases hb
    have o0 : o = 0 := by rcases ho with ho | ho <;> omega
    subst o0
    refine .cell _ _ _ rfl (.lst _ e c a 0 cap cs hcap (.inr rfl) (fun i hi => ?_) g5 fun i j hi hj => ?_)
    ·exact (g4 i hi).mono hm _ (by cases c <;> exact MuLe.none _)
    ·rw [<- g6 i j hi hj, Nat.zero_add]
     have hlt : i * e + j < cc.size := by
      have : (i + 1) * e <= c.len * e := Nat.mul_le_mul_right _ hi
      rw [Nat.add_mul, Nat.one_mul] at this
      have : c.len * e <= z := g3
      omega
     simp [World.cell?, g1]
 ·obtain ⟨a', z', e1, e2⟩ := k.wr j kb hj
  exact ⟨a', z', e1, e2.mono hm (MuLe.none _) rfl⟩
theorem vw_out {v : PV} (h : isAgg v = false) : VLe (.w v) v := by
 have key : ∀ (w : World) (S : Nat -> Prop) (μ : Mu) (cs : List Value), RepC w S μ (.w v) cs -> RepC w S μ v cs := by
  intro w S μ cs hc
  cases hc with
  | w _ _ x hx => exact hx.mono (Mono.refl' w S) _ (MuLe.none _)
 refine ⟨h, fun w S μ => ⟨key w S μ, fun x hx => ?_⟩⟩
 cases hx with
 | cell _ _ _ hv hc => exact .cell _ _ _ h (key w S μ _ hc)
 | agg _ _ _ hv => cases hv
theorem vw_lst (e : Nat) (c : Cont) : VLe (.lst e c) (.w (.lst e c)) := by
 have key : ∀ (w : World) (S : Nat -> Prop) (μ : Mu) (cs : List Value), RepC w S μ (.lst e c) cs -> RepC w S μ (.w (.lst e c)) cs := by
  intro w S μ cs hc
  cases hc with
  | lst _ _ _ a o cap cs h1 h3 h4 h5 h6 => exact .w _ _ _ (.lst _ _ _ a o cap cs h1 h3 h4 h5 h6)
 refine ⟨rfl, fun w S μ => ⟨key w S μ, fun x hx => ?_⟩⟩
 cases hx with
 | cell _ _ _ hv hc => exact .cell _ _ _ rfl (key w S μ _ hc)
 | agg _ _ _ hv => cases hv
theorem vw_nil : VLe .nil (.w .nil) := by
 have key : ∀ (w : World) (S : Nat -> Prop) (μ : Mu) (cs : List Value), RepC w S μ .nil cs -> RepC w S μ (.w .nil) cs := by
  intro w S μ cs hc
  cases hc with
  | nil => exact .w _ _ _ (.nil _)
 refine ⟨rfl, fun w S μ => ⟨key w S μ, fun x hx => ?_⟩⟩
 cases hx with
 | cell _ _ _ hv hc => exact .cell _ _ _ rfl (key w S μ _ hc)
 | agg _ _ _ hv => cases hv
theorem rle_vle {u v : PV} (hu : ∀ m, unfr m u = (u, [])) (hv : ∀ m, unfr m v = (v, [])) (h : VLe u v) : RLe u v :=
 ⟨fun m => by rw [hu, hv]; exact h, fun m => by rw [hu, hv]; exact .refl _⟩
theorem enMkG : Enters prog 74 f74 (qd f74) := ⟨func74, by kernel_rfl, rfl⟩
theorem eMkG (k n : Int) : (evF prog [(53, g71), (86, c72)] [] {} f74 [.i .i64 k, .i .i64 n] [] ql).run =
 (Tr.br (decide ((-72057594037927936 : Int) < k) && decide (k <= 9223372036854775807)) (.br (decide ((-72057594037927936 : Int) < n) && decide (n <= 9223372036854775807)) (.br (qg (nz72 (n : Rat))) (.br ((k.natAbs.log2 + 1 + (n.natAbs.log2 + 1)).ble 800000) (.ok (.ret (.tup [.q ((k : Rat) / (n : Rat)) (k.natAbs.log2 + 1 + (n.natAbs.log2 + 1)), .i .i64 0]) [])) (.no 1)) (.no 1)) (.no 1)) (.no 1)).run := by kernel_rfl
theorem enBtG : Enters prog 31 f31 (qd f31) := ⟨func31, by kernel_rfl, rfl⟩
def bBtG : Code := (qi (qd f31)).getD 0 .skip
def polBtG : Pol := { live := [(4, [0, 1, 9, 11, 23, 24])] }
def OBtG : Orc := [(25, g21), (54, g29), (75, g43)]
def lBtG : qy := unr prog OBtG [] polBtG f31.ntmps 0 [0, 1, 9, 11, 23, 24] bBtG 4
def frW (s : Rat) : PV := .tup [.q s 12, .i .i64 0]
def cfV (q : List Rat) : PV := .lst 3 (.rats 64 q)
def trBtG (s : Rat) (k n : Int) (ys : List Rat) : Tr := .br (qg (isA [.i .i64 k, .i .i64 n] True [.i .i64 k, .i .i64 n])) (.ok (.ret (.fr 3 (.rats 206 ys)) [])) (.no 1)
def bt1 (s x y : Rat) : Rat := x + s * (y - x)
def OBt1 (s : Rat) (k n : Int) : Orc := (74, cst [.i .i64 k, .i .i64 n] True (frW s)) :: OBtG
theorem eBtG1 (s a x : Rat) (k n : Int) : (evF prog (OBt1 s k n) [(4, lBtG)] polBtG f31 [cfV [a], cfV [x], .i .i64 k, .i .i64 n] [] ql).run = (trBtG s k n [bt1 s a x]).run := by kernel_rfl
theorem eBtG2 (s a b x y : Rat) (k n : Int) : (evF prog (OBt1 s k n) [(4, lBtG)] polBtG f31 [cfV [a, b], cfV [x, y], .i .i64 k, .i .i64 n] [] ql).run = (trBtG s k n [bt1 s a x, bt1 s b y]).run := by kernel_rfl
theorem eBtG3 (s a b c x y z : Rat) (k n : Int) : (evF prog (OBt1 s k n) [(4, lBtG)] polBtG f31 [cfV [a, b, c], cfV [x, y, z], .i .i64 k, .i .i64 n] [] ql).run = (trBtG s k n [bt1 s a x, bt1 s b y, bt1 s c z]).run := by kernel_rfl
theorem lg60 {k : Nat} (h : k <= 60) : Nat.log2 k + 1 <= 6 := by
 by_cases h0 : k = 0
 ·subst h0; decide
 ·have := (Nat.log2_lt (k := 6) h0).2 (by omega)
  omega
include hG in
theorem pcMkG (hT : qo G) (k n : Nat) (h1 : 1 <= n) (hn : n <= 60) (hk : k <= n) : PC prog G 74 [.i .i64 k, .i .i64 n] [] (frW (frR k n)) [] := by
 have a := lg60 (k := k) (by omega)
 have b := lg60 (k := n) (by omega)
 have a' : Nat.log2 (Int.natAbs (k : Int)) + 1 <= 6 := a
 have b' : Nat.log2 (Int.natAbs (n : Int)) + 1 <= 6 := b
 have h0 : ¬ ((n : Int) : Rat) = 0 := fun h => by have : (n : Int) = 0 := Rat.intCast_eq_zero_iff.1 h; omega
 refine (qj hG (.cons (gk71 hG) (.cons (ck72 hG hT) .nil)) mix enMkG (hs := []) (L := []) (pol := {}) (k9 (by kernel_rfl)) ((eMkG k n).trans ?_)).le (rle_vle (fun _ => rfl) (fun _ => rfl) (u := .tup [.q (frR k n) (Nat.log2 (Int.natAbs (k : Int)) + 1 + (Nat.log2 (Int.natAbs (n : Int)) + 1)), .i .i64 0]) (VLe.tup (qJ (qF (by omega)) (qJ (.refl _) vll0)))) (.refl _)
 rw [k5 (by simp only [kA, kD]; omega), k5 (by simp only [kA, kD]; omega), k5 (decP_iff.2 (show nz72 _ from h0)), k5 (by rw [kG]; omega), k7]
 rfl
include hG in
theorem orcBtG (hT : qo G) : OrcOK prog G OBtG := .cons (gk21 hG hT) (.cons (gk29 hG hT) (.cons (gk43 hG hT) .nil))
include hG in
theorem pcBtG (hT : qo G) (p q : List Rat) (h1 : 1 <= p.length) (h3 : p.length <= 3) (hq : q.length = p.length) (k n : Nat) (hn1 : 1 <= n) (hn : n <= 60) (hk : k <= n) :
  PC prog G 31 [cfV p, cfV q, .i .i64 k, .i .i64 n] [] (.fr 3 (.rats 206 (btwL p q k n))) [] := by
 have orc := orcBtG hG hT
 have hl := lps1 (P := prog) (G := G) (pol := polBtG) (n := f31.ntmps) (m := 0) (L := [(4, lBtG)]) (c := qd f31) (b := bBtG) (live := [0, 1, 9, 11, 23, 24]) (sp := lBtG) (by kernel_rfl) (by kernel_rfl) (by kernel_rfl) (unr_ok hG orc mix (k9 (by kernel_rfl)) 4)
 have tr : ∀ ys, (trBtG (frR k n) k n ys).run = some (.ret (.fr 3 (.rats 206 ys)) []) := fun ys => by unfold trBtG; rw [k5 (decP_iff.2 ⟨rfl, trivial⟩), k7]
 have oc : OrcOK prog G (OBt1 (frR k n) k n) := .cons (cst_t (pcMkG hG hT k n hn1 hn hk)) orc
 match p, q, h1, h3, hq with
 | [a], [x], _, _, _ => exact qj hG oc mix enBtG (hs := []) (pol := polBtG) (L := [(4, lBtG)]) hl ((eBtG1 _ a x k n).trans (tr _))
 | [a, b], [x, y], _, _, _ => exact qj hG oc mix enBtG (hs := []) (pol := polBtG) (L := [(4, lBtG)]) hl ((eBtG2 _ a b x y k n).trans (tr _))
 | [a, b, c], [x, y, z], _, _, _ => exact qj hG oc mix enBtG (hs := []) (pol := polBtG) (L := [(4, lBtG)]) hl ((eBtG3 _ a b c x y z k n).trans (tr _))
 | [], _, h, _, _ => exact absurd h (by decide)
 | _ :: _ :: _ :: _ :: _, _, _, h, _ => simp only [kH] at h; omega
theorem enCor : Enters prog 73 f73 (qd f73) := ⟨func73, by kernel_rfl, rfl⟩
end
end Go.Proofs.YteggojnjinealaaGreatDoor.PE
