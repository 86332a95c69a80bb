/-
  Part 6 of the proof: contracts of the program's functions. Conditions: those of the theorems below.
-/
import Derived.Test.YtgaokohhkdeomaaDoorMoved5
import Derived.Test.YtgaokohhkdeomaaDoorMoved2
import Derived.RowKit3
import GoSem.ClaimChange
import Derived.ChangeSlices
import Derived.WideShapes
import Derived.OpenShut
import Derived.Test.YtgaokohhkdeomaaDoorMoved3
import Derived.Lib.LaidTab
set_option linter.all false
namespace Go.Proofs.YtgaokohhkdeomaaDoor.PE
open Go
set_option maxRecDepth 100000
variable {G : World → (Nat → Prop) → Prop} (hG : GOk G)
theorem enter8 : Enters Tryd.prog 4 Tryd.f4 (bodyC Tryd.f4) := ⟨Tryd.func4, by kernel_rfl, rfl⟩
noncomputable def w52 (P : PV → Prop) : Spec := fun args hs K => match args, hs with
  | [a], [] => .br (decP (P a)) (K (.i .i64 0) []) (.no 1)
  | _, _ => .no 1
def P39A (A : Am) (qs : List Rat) (a : PV) (q : List Rat) : Prop := a = armPV A ∧ q = qs
def P39B (P : PV → Prop) (qs : List Rat) (a : PV) (q : List Rat) : Prop := P a ∧ q = qs
noncomputable def w39 (A : Am) (qs : List Rat) (P : PV → Prop) (ff gg : Nat → Fr) : Spec := fun args hs K => match args, hs with
  | [.agg [nm, .agg [at_, .agg [.bl h, t]], lk], .lst 3 (.rats 64 q)], [] => .br (decP (P39A A qs (.agg [nm, .agg [at_, .agg [.bl h, t]], lk]) q)) (K (.tup [.fr 10 (.fn (A.n + 1) (fun i => frP (ff i) 20000 1500)), .i .i64 0]) []) (.no 1)
  | [.agg [nm, .agg [at_, .agg [.b h, t]], lk], .lst 3 (.rats 64 q)], [] => .br (decP (P39B P qs (.agg [nm, .agg [at_, .agg [.b h, t]], lk]) q)) (K (.tup [.fr 10 (.fn (A.n + 1) (fun i => frP (gg i) 20000 1500)), .i .i64 0]) []) (.no 1)
  | _, _ => .no 1
noncomputable def Q8 (l m : PV) (A : Am) (qs : List Rat) (VX VY : PV → Rat) (P : PV → Prop) (ff gg : Nat → Fr) (g : Fr) : Orc :=
  [(18, cst [.w l] True (armFr A)), (29, s23), (30, s24), (26, cst [armPV A, .w m] True (.fr 3 (.rats 64 qs))), (25, cst [] True (.bl true)), (33, w39 A qs P ff gg), (27, w49 VX VY), (28, g50), (31, g51), (32, w52 P), (34, cst [.lst 10 (.fn (A.n + 1) (fun j => frP (ff j) 20000 1500)), .lst 10 (.fn (A.n + 1) (fun j => frP (gg j) 20000 1500)), .clo 35 [.ref (gP g)]] True (.bl true))]
theorem k8 (l m k : PV) (t : Int) (A : Am) (qs : List Rat) (VX VY : PV → Rat) (P : PV → Prop) (ff gg : Nat → Fr) (g : Fr) : evF Tryd.prog (Q8 l m A qs VX VY P ff gg g) [] pol8 Tryd.f4 [.w l, .w m, .w k, .i .i64 t] [] retK =
  Tr.br (decP (isA [] True [])) (.br (decP (isA [l.w] True [l.w])) (.br (((0 : Nat) + A.n).ble A.n) (.br (decP (isA [PV.agg [PV.s A.name, PV.agg [PV.agg [PV.q A.bx 64, PV.q A.by_ 64], PV.agg [PV.bl false, PV.q A.t 64]], PV.lst 16 (.fn A.n fun (j : Nat) => PV.agg [PV.q (A.lk j).len 64, PV.q (A.lk j).low 64, PV.q (A.lk j).high 64, PV.q (A.lk j).spd 64, PV.q (A.lk j).brk 64, PV.lst 6 (.fn (A.lk j).np fun (a : Nat) => PV.agg [PV.q ((A.lk j).px a) 64, PV.q ((A.lk j).py a) 64])])], m.w] True [PV.agg [PV.s A.name, PV.agg [PV.agg [PV.q A.bx 64, PV.q A.by_ 64], PV.agg [PV.bl false, PV.q A.t 64]], PV.lst 16 (.fn A.n fun (j : Nat) => PV.agg [PV.q (A.lk (j + (0 : Nat))).len 64, PV.q (A.lk (j + (0 : Nat))).low 64, PV.q (A.lk (j + (0 : Nat))).high 64, PV.q (A.lk (j + (0 : Nat))).spd 64, PV.q (A.lk (j + (0 : Nat))).brk 64, PV.lst 6 (.fn (A.lk (j + (0 : Nat))).np fun (a : Nat) => PV.agg [PV.q ((A.lk (j + (0 : Nat))).px a) 64, PV.q ((A.lk (j + (0 : Nat))).py a) 64])])], m.w])) (.br (((0 : Nat) + qs.length).ble qs.length) (.br (decP (V49 VX VY k)) (.br (decide ((0 : Int) < (9 : Int)) && decide ((9 : Int) ≤ (4294967296 : Int))) (.br (ib (t % (9 : Int) - (4 : Int))) (.br (decide ((0 : Int) < (2 : Int)) && decide ((2 : Int) < (4611686018427387904 : Int)) && decide ((-4611686018427387904 : Int) < t % (9 : Int) - (4 : Int)) && decide (t % (9 : Int) - (4 : Int) < (4611686018427387904 : Int))) (.br (Nat.ble 64 (400000 : Nat)) (.br (((64 : Nat) + (64 : Nat) + (64 : Nat) + (8 : Nat) * (64 : Nat) + (20 : Nat)).ble 800000 && ((64 : Nat) + (64 : Nat) + (64 : Nat) + (8 : Nat) * (64 : Nat) + (20 : Nat)).ble 800000 && Nat.ble 1 (64 : Nat)) (.br (Nat.ble 64 (50000 : Nat) && Nat.ble 1 (64 : Nat) && Nat.ble 64 (50000 : Nat) && Nat.ble 1 (64 : Nat)) (.br (decP (P (PV.agg [PV.s A.name, PV.agg [PV.agg [PV.q (VX k + (A.bx * cosR false (mkRat (t % (9 : Int) - (4 : Int)) (Int.toNat (2 : Int))) - A.by_ * sinR false (mkRat (t % (9 : Int) - (4 : Int)) (Int.toNat (2 : Int))))) ((64 : Nat) + (64 : Nat) + (64 : Nat) + (8 : Nat) * (64 : Nat) + (10 : Nat)), PV.q (VY k + (A.bx * sinR false (mkRat (t % (9 : Int) - (4 : Int)) (Int.toNat (2 : Int))) + A.by_ * cosR false (mkRat (t % (9 : Int) - (4 : Int)) (Int.toNat (2 : Int))))) ((64 : Nat) + (64 : Nat) + (64 : Nat) + (8 : Nat) * (64 : Nat) + (10 : Nat))], PV.agg [PV.b (thH false (mkRat (t % (9 : Int) - (4 : Int)) (Int.toNat (2 : Int))) false A.t), PV.q (thT false (mkRat (t % (9 : Int) - (4 : Int)) (Int.toNat (2 : Int))) false A.t) ((2 : Nat) * (64 : Nat) + (2 : Nat) * (64 : Nat) + (3 : Nat))]], PV.lst (16 : Nat) (Cont.cut (0 : Nat) A.n (Cont.fn A.n fun (j : Nat) => PV.agg [PV.q (A.lk j).len 64, PV.q (A.lk j).low 64, PV.q (A.lk j).high 64, PV.q (A.lk j).spd 64, PV.q (A.lk j).brk 64, PV.lst 6 (.fn (A.lk j).np fun (a : Nat) => PV.agg [PV.q ((A.lk j).px a) 64, PV.q ((A.lk j).py a) 64])]))]))) (.br (!decide ((0 : Int) = (0 : Int))) (.ok (.ret (PV.bl true) [])) (.br (decP (P39A A qs (PV.agg [PV.s A.name, PV.agg [PV.agg [PV.q A.bx 64, PV.q A.by_ 64], PV.agg [PV.bl false, PV.q A.t 64]], PV.lst 16 (.fn A.n fun (j : Nat) => PV.agg [PV.q (A.lk (j + (0 : Nat))).len 64, PV.q (A.lk (j + (0 : Nat))).low 64, PV.q (A.lk (j + (0 : Nat))).high 64, PV.q (A.lk (j + (0 : Nat))).spd 64, PV.q (A.lk (j + (0 : Nat))).brk 64, PV.lst 6 (.fn (A.lk (j + (0 : Nat))).np fun (a : Nat) => PV.agg [PV.q ((A.lk (j + (0 : Nat))).px a) 64, PV.q ((A.lk (j + (0 : Nat))).py a) 64])])]) (List.take qs.length (List.drop (0 : Nat) qs)))) (.br (((0 : Nat) + (A.n + (1 : Nat))).ble (A.n + (1 : Nat))) (.br (decP (P39B P qs (PV.agg [PV.s A.name, PV.agg [PV.agg [PV.q (VX k + (A.bx * cosR false (mkRat (t % (9 : Int) - (4 : Int)) (Int.toNat (2 : Int))) - A.by_ * sinR false (mkRat (t % (9 : Int) - (4 : Int)) (Int.toNat (2 : Int))))) 714, PV.q (VY k + (A.bx * sinR false (mkRat (t % (9 : Int) - (4 : Int)) (Int.toNat (2 : Int))) + A.by_ * cosR false (mkRat (t % (9 : Int) - (4 : Int)) (Int.toNat (2 : Int))))) 714], PV.agg [PV.b (thH false (mkRat (t % (9 : Int) - (4 : Int)) (Int.toNat (2 : Int))) false A.t), PV.q (thT false (mkRat (t % (9 : Int) - (4 : Int)) (Int.toNat (2 : Int))) false A.t) 259]], PV.lst 16 (.fn A.n fun (j : Nat) => PV.agg [PV.q (A.lk (j + (0 : Nat))).len 64, PV.q (A.lk (j + (0 : Nat))).low 64, PV.q (A.lk (j + (0 : Nat))).high 64, PV.q (A.lk (j + (0 : Nat))).spd 64, PV.q (A.lk (j + (0 : Nat))).brk 64, PV.lst 6 (.fn (A.lk (j + (0 : Nat))).np fun (a : Nat) => PV.agg [PV.q ((A.lk (j + (0 : Nat))).px a) 64, PV.q ((A.lk (j + (0 : Nat))).py a) 64])])]) (List.take qs.length (List.drop (0 : Nat) qs)))) (.br (((0 : Nat) + (A.n + (1 : Nat))).ble (A.n + (1 : Nat))) (.br (decide ((0 : Int) = (0 : Int))) (.br (decide ((0 : Int) = (0 : Int))) (.br (decP (isA [PV.lst 10 (.fn (A.n + (1 : Nat)) fun (j : Nat) => PV.agg [PV.agg [PV.q (ff j).x 20000, PV.q (ff j).y 20000], PV.agg [PV.b (ff j).h, PV.q (ff j).t 1500]]), PV.lst 10 (.fn (A.n + (1 : Nat)) fun (j : Nat) => PV.agg [PV.agg [PV.q (gg j).x 20000, PV.q (gg j).y 20000], PV.agg [PV.b (gg j).h, PV.q (gg j).t 1500]]), PV.clo 35 [(PV.agg [PV.agg [PV.q g.x 64, PV.q g.y 64], PV.agg [PV.bl false, PV.q g.t 64]]).ref]] True [PV.lst 10 (.fn (A.n + (1 : Nat)) fun (j : Nat) => PV.agg [PV.agg [PV.q (ff (j + (0 : Nat))).x 20000, PV.q (ff (j + (0 : Nat))).y 20000], PV.agg [PV.b (ff (j + (0 : Nat))).h, PV.q (ff (j + (0 : Nat))).t 1500]]), PV.lst 10 (.fn (A.n + (1 : Nat)) fun (j : Nat) => PV.agg [PV.agg [PV.q (gg (j + (0 : Nat))).x 20000, PV.q (gg (j + (0 : Nat))).y 20000], PV.agg [PV.b (gg (j + (0 : Nat))).h, PV.q (gg (j + (0 : Nat))).t 1500]]), PV.clo 35 [(PV.agg [PV.agg [PV.q (VX k) 64, PV.q (VY k) 64], PV.agg [PV.bl false, PV.q (mkRat (t % (9 : Int) - (4 : Int)) (Int.toNat (2 : Int))) 64]]).ref]])) (.ok (.ret (PV.bl true) [])) (.no 1)) (.ok (.ret (PV.bl false) []))) (.ok (.ret (PV.bl false) []))) (.no 12006)) (.no 1)) (.no 11006)) (.no 1))) (.no 1)) (.no 1)) (.no 1)) (.no 1)) (.no 1)) (.no 6006)) (.no 1)) (.no 1)) (.no 5002)) (.no 1)) (.no 4003)) (.no 1)) (.no 1) := by kernel_rfl
end Go.Proofs.YtgaokohhkdeomaaDoor.PE
namespace Go.Proofs.YtgaokohhkdeomaaDoor.PE
open Go
set_option maxRecDepth 100000
variable {G : World → (Nat → Prop) → Prop} (hG : GOk G)
theorem enter49 : Enters Tryd.prog 27 Tryd.f27 (bodyC Tryd.f27) := ⟨Tryd.func27, by kernel_rfl, rfl⟩
def pol49 : Pol := { wr := [(78, [0])] }
theorem k49 (v : PV) : evF Tryd.prog [(89, s36), (78, s45)] [] pol49 Tryd.f27 [.w v] [] retK =
  Tr.br (okW v && decide ((0 : Int) < (1048576 : Int)) && decide ((1048576 : Int) ≤ (4294967296 : Int))) (.br (inI (nx v (1048576 : Int))) (.br (okW (rs v) && decide ((0 : Int) < (1048576 : Int)) && decide ((1048576 : Int) ≤ (4294967296 : Int))) (.br (inI (nx (rs v) (1048576 : Int))) (.ok (.ret (.agg [.q (rtV (nx v (1048576 : Int))) 64, .q (rtV (nx (rs v) (1048576 : Int))) 64]) [])) (.no 1)) (.no 1)) (.no 1)) (.no 1) := by kernel_rfl
noncomputable def g49 (VX VY : PV → Rat) : Spec := fun args hs K => match args, hs with
  | [.w v], [] => .br (decP (okW v = true ∧ VX v = rtV (nx v 1048576) ∧ VY v = rtV (nx (rs v) 1048576))) (K (.agg [.q (VX v) 64, .q (VY v) 64]) []) (.no 1)
  | _, _ => .no 1
include hG in
theorem gk49 (VX VY : PV → Rat) : SpecOK Tryd.prog G 27 (g49 VX VY) := by
  refine spec_of hG (.cons (ok36 hG) (.cons (ok45 hG) .nil)) mix enter49 (L := []) (pol := pol49) fun args hs K x h => ?_
  unfold g49 at h
  split at h
  case h_2 => cases h
  rename_i v
  obtain ⟨hc, hr⟩ := Tr.of_br h
  obtain ⟨hw, e1, e2⟩ := decP_iff.1 hc
  rw [e1, e2] at hr
  have w1 := okW_rs hw
  have r1 := nx_range v (show (0 : Int) < 1048576 by omega)
  have r2 := nx_range (rs v) (show (0 : Int) < 1048576 by omega)
  refine ⟨LpsOK.none (by kernel_rfl), _, _, _, ?_, .refl _, hr⟩
  rw [k49, Tr.run_t (by rw [hw]; decide), Tr.run_t (inI_iff.2 (by omega)), Tr.run_t (by rw [w1]; decide), Tr.run_t (inI_iff.2 (by omega)), Tr.run_ok]
end Go.Proofs.YtgaokohhkdeomaaDoor.PE
namespace Go.Proofs.YtgaokohhkdeomaaDoor.PE
open Go
set_option maxRecDepth 100000
variable {G : World → (Nat → Prop) → Prop} (hG : GOk G)
theorem rtV_smQ (x : Int) : smQ (rtV x) = true := by
  have hd := rtD_range x
  have hm0 := Int.emod_nonneg (x.tdiv 6) (show 16 * rtD x + 1 ≠ 0 by omega)
  have hm1 := Int.emod_lt_of_pos (x.tdiv 6) (show 0 < 16 * rtD x + 1 by omega)
  exact smQ_mk (by omega) (by omega) (by omega)
def thS (t s : Rat) : Rat := if 1 - t * s = 0 then 0 else (t + s) / (1 - t * s)
theorem half_small0 : ∀ c, c < 9 → ∀ i, i < 4 → ∀ d, d < 3 → smQ (thS (mkRat ((c : Nat) - (4 : Int)) 2) (mkRat ([(0 : Int), 1, -1, 1].getD i 0) (1 + d))) = true := by decide +kernel
theorem half_small (t : Int) (v : PV) : smQ (thT false (mkRat (t % 9 - 4) (Int.toNat 2)) false (armD v).t) = true := by
  have a0 := Int.emod_nonneg t (show (9 : Int) ≠ 0 by omega)
  have a1 := Int.emod_lt_of_pos t (show (0 : Int) < 9 by omega)
  have g0 := nx_range v (show (0 : Int) < 4 by omega)
  have g1 := nx_range (rs v) (show (0 : Int) < 3 by omega)
  have h := half_small0 (t % 9).toNat (by omega) (nx v 4).toNat (by omega) (nx (rs v) 3).toNat (by omega)
  have e : (1 + nx (rs v) 3).toNat = 1 + (nx (rs v) 3).toNat := by omega
  rw [Int.toNat_of_nonneg a0, ← e] at h
  rw [thT, hide_eq]
  simp only [Bool.false_eq_true, if_false]
  exact h
theorem armD_at (v : PV) : (armD v).bx = 0 ∧ (armD v).by_ = 0 := ⟨by kernel_rfl, by kernel_rfl⟩
noncomputable def mvA (g : Fr) (A : Am) : Am := ⟨A.name, g.x + (A.bx * cosR g.h g.t - A.by_ * sinR g.h g.t), g.y + (A.bx * sinR g.h g.t + A.by_ * cosR g.h g.t), thT g.h g.t false A.t, A.n, A.lk⟩
theorem mvA_B {g : Fr} {A : Am} (hA : armB A = true) (h0 : A.bx = 0) (h1 : A.by_ = 0) (hx : smQ g.x = true) (hy : smQ g.y = true) (ht : smQ (thT g.h g.t false A.t) = true) : armB (mvA g A) = true := by
  have e0 : (mvA g A).bx = g.x := by unfold mvA; rw [h0, h1]; grind
  have e1 : (mvA g A).by_ = g.y := by unfold mvA; rw [h0, h1]; grind
  obtain ⟨a1, a2, a3, a4, a5, a6, a7⟩ := armB_c hA
  have a8 : (List.range A.n).all (fun j => lkB (A.lk j)) = true := List.all_eq_true.2 fun j hj => a7 j (List.mem_range.1 hj)
  simp only [armB, Bool.and_eq_true, decide_eq_true_eq, e0, e1]
  exact ⟨⟨⟨⟨⟨⟨a1, hx⟩, hy⟩, ht⟩, a5⟩, a6⟩, a8⟩
theorem smQ_sz {x : Rat} (h : smQ x = true) : sz x ≤ 64 := s64_sz (s32_s64 (smQ_s32 h))
theorem w52_ok (P : PV → Prop) (h : ∀ a, P a → PC Tryd.prog G 32 [a] [] (.i .i64 0) []) : SpecOK Tryd.prog G 32 (w52 P) := by
  intro args hs K x hh
  unfold w52 at hh
  split at hh
  case h_2 => cases hh
  obtain ⟨hc, hr⟩ := Tr.of_br hh
  exact ⟨_, _, h _ (decP_iff.1 hc), hr⟩
theorem w39_ok (A : Am) (qs : List Rat) (P : PV → Prop) (ff gg : Nat → Fr) (h1 : PC Tryd.prog G 33 [armPV A, .lst 3 (.rats 64 qs)] [] (.tup [.fr 10 (.fn (A.n + 1) (fun i => frP (ff i) 20000 1500)), .i .i64 0]) [])
    (h2 : ∀ a, P a → PC Tryd.prog G 33 [a, .lst 3 (.rats 64 qs)] [] (.tup [.fr 10 (.fn (A.n + 1) (fun i => frP (gg i) 20000 1500)), .i .i64 0]) []) : SpecOK Tryd.prog G 33 (w39 A qs P ff gg) := by
  intro args hs K x hh
  unfold w39 at hh
  split at hh
  case h_3 => cases hh
  · obtain ⟨hc, hr⟩ := Tr.of_br hh
    obtain ⟨ha, rfl⟩ := decP_iff.1 hc
    rw [ha]
    exact ⟨_, _, h1, hr⟩
  · obtain ⟨hc, hr⟩ := Tr.of_br hh
    obtain ⟨ha, rfl⟩ := decP_iff.1 hc
    exact ⟨_, _, h2 _ ha, hr⟩
def g8 (k : PV) (t : Int) : Fr := ⟨rtV (nx k 1048576), rtV (nx (rs k) 1048576), false, mkRat (t % 9 - 4) (Int.toNat 2)⟩
include hG in
theorem law8 (hT : TabG G) (l m k : PV) (t : Int) (hl : okW l = true) (hm : okW m = true) (hk : okW k = true) : PC Tryd.prog G 4 [.w l, .w m, .w k, .i .i64 t] [] (.bl true) [] := by
  have hA := armB_V l
  have hX := limX_V l
  have hz := armD_at l
  have ht := half_small t l
  have p15 : PC Tryd.prog G 18 [.w l] [] (armFr (armD l)) [] := by
    obtain ⟨r, hs', p, e⟩ := ok15 hG [.w l] [] (fun r hs' => .ok (.ret r hs')) (.ret (armFr (armD l)) []) (by show (Tr.br _ _ _).run = _; rw [Tr.run_t hl]; rfl)
    cases e
    exact p
  generalize armD l = A at *
  have p33 : PC Tryd.prog G 26 [armPV A, .w m] [] (.fr 3 (.rats 64 (cfL A.lk m A.n))) [] := by
    obtain ⟨r, hs', p, e⟩ := ok33 hG [armPV A, .w m] [] (fun r hs' => .ok (.ret r hs')) (.ret (.fr 3 (.rats 64 (cfL A.lk m A.n))) []) (by
      show (Tr.br _ _ _).run = _
      rw [Tr.run_t (decP_iff.2 ⟨okA_arm hA, hX, hm⟩)]; rfl)
    cases e
    exact p
  obtain ⟨h1, h2, h3, h4, h5, h6, h7⟩ := armB_c hA
  have hq : (cfL A.lk m A.n).length = A.n := cfL_len _ _ _
  generalize cfL A.lk m A.n = qs at *
  have p39 := pc39 hG hT A hA qs hq
  have hA2 : armB (mvA (g8 k t) A) = true := mvA_B (g := g8 k t) hA hz.1 hz.2 (rtV_smQ _) (rtV_smQ _) ht
  obtain ⟨-, a2, a3, a4, -, -, -⟩ := armB_c hA2
  have hbh : thH false (mkRat (t % 9 - 4) (Int.toNat 2)) false A.t = true → (mvA (g8 k t) A).t = 0 := th_norm _ _ _ _
  have p52 : ∀ a, VLe a (armPH (mvA (g8 k t) A) (thH false (mkRat (t % 9 - 4) (Int.toNat 2)) false A.t)) → PC Tryd.prog G 32 [a] [] (.i .i64 0) [] := fun a ha => PC.args (.cons ha (.refl _)) (pc52h hG _ hA2 _ hbh)
  have p39B : ∀ a, VLe a (armPH (mvA (g8 k t) A) (thH false (mkRat (t % 9 - 4) (Int.toNat 2)) false A.t)) → PC Tryd.prog G 33 [a, .lst 3 (.rats 64 qs)] [] (.tup [.fr 10 (.fn (A.n + 1) (fun i => frP (allF (mvF (g8 k t) (bsF A)) (qf qs) (fun j => (A.lk j).len) A.n i) 20000 1500)), .i .i64 0]) [] :=
    fun a ha => PC.args (.cons ha (.refl _)) (pc39h hG hT (mvA (g8 k t) A) hA2 _ hbh qs hq)
  have p53 := pc53 hG hT (g8 k t) rfl (A.n + 1) (by omega) (allF (bsF A) (qf qs) (fun j => (A.lk j).len) A.n) (allF (mvF (g8 k t) (bsF A)) (qf qs) (fun j => (A.lk j).len) A.n) (fun i _ => mv_all _ _ _ _ _ _)
  have p49 : SpecOK Tryd.prog G 27 (w49 (fun v => rtV (nx v 1048576)) (fun v => rtV (nx (rs v) 1048576))) := gk49 hG (fun v => rtV (nx v 1048576)) (fun v => rtV (nx (rs v) 1048576))
  have hP : ∀ n1 n2 n3 c, c = Cont.fn A.n (fun j => lkPV (A.lk j)) → VLe (.agg [.s A.name, .agg [.agg [.q (mvA (g8 k t) A).bx n1, .q (mvA (g8 k t) A).by_ n2], .agg [.b (thH false (mkRat (t % 9 - 4) (Int.toNat 2)) false A.t), .q (mvA (g8 k t) A).t n3]], .lst 16 c]) (armPH (mvA (g8 k t) A) (thH false (mkRat (t % 9 - 4) (Int.toNat 2)) false A.t)) := by
    rintro n1 n2 n3 c rfl
    exact VLe.agg (VLeL.cons (.refl _) (VLeL.cons (VLe.agg (VLeL.cons (VLe.agg (VLeL.cons (vle_qq (smQ_sz a2)) (VLeL.cons (vle_qq (smQ_sz a3)) .nil))) (VLeL.cons (VLe.agg (VLeL.cons (.refl _) (VLeL.cons (vle_qq (smQ_sz a4)) .nil))) .nil))) (VLeL.cons (.refl _) .nil)))
  have x0 := Int.emod_nonneg t (show (9 : Int) ≠ 0 by omega)
  have x1 := Int.emod_lt_of_pos t (show (0 : Int) < 9 by omega)
  refine evF_pc hG (.cons (cst_t p15) (.cons (ok23 hG) (.cons (ok24 hG) (.cons (cst_t p33) (.cons (cst_t (pc38 hG hT)) (.cons (w39_ok A qs (fun a => VLe a (armPH (mvA (g8 k t) A) (thH false (mkRat (t % 9 - 4) (Int.toNat 2)) false A.t))) (allF (bsF A) (qf qs) (fun j => (A.lk j).len) A.n) (allF (mvF (g8 k t) (bsF A)) (qf qs) (fun j => (A.lk j).len) A.n) p39 p39B) (.cons p49 (.cons (gk50 hG hT) (.cons (gk51 hG hT) (.cons (w52_ok _ p52) (.cons (cst_t p53) .nil))))))))))) mix enter8 (pol := pol8) (L := []) (LpsOK.none (by kernel_rfl)) ?_
  refine (congrArg Tr.run (k8 l m k t A qs (fun v => rtV (nx v 1048576)) (fun v => rtV (nx (rs v) 1048576)) (fun a => VLe a (armPH (mvA (g8 k t) A) (thH false (mkRat (t % 9 - 4) (Int.toNat 2)) false A.t))) (allF (bsF A) (qf qs) (fun j => (A.lk j).len) A.n) (allF (mvF (g8 k t) (bsF A)) (qf qs) (fun j => (A.lk j).len) A.n) (g8 k t))).trans ?_
  simp only [List.drop_zero, List.take_length]
  rw [Tr.run_t (decP_iff.2 ⟨rfl, trivial⟩), Tr.run_t (decP_iff.2 ⟨rfl, trivial⟩), Tr.run_t (bleZ _), Tr.run_t (decP_iff.2 ⟨rfl, trivial⟩), Tr.run_t (bleZ _), Tr.run_t (decP_iff.2 ⟨hk, rfl, rfl⟩), Tr.run_t (by decide), Tr.run_t (by simp only [Bool.and_eq_true, decide_eq_true_eq]; omega), Tr.run_t (by simp only [Bool.and_eq_true, decide_eq_true_eq]; omega), Tr.run_t (by decide), Tr.run_t (by decide), Tr.run_t (by decide)]
  rw [Tr.run_t (decP_iff.2 (by exact hP _ _ _ _ rfl)), Tr.run_f (by decide), Tr.run_t (decP_iff.2 ⟨rfl, rfl⟩), Tr.run_t (bleZ _), Tr.run_t (decP_iff.2 ⟨by exact hP _ _ _ _ rfl, rfl⟩), Tr.run_t (bleZ _), Tr.run_t (by decide), Tr.run_t (by decide), Tr.run_t (decP_iff.2 ⟨rfl, trivial⟩), Tr.run_ok]
end Go.Proofs.YtgaokohhkdeomaaDoor.PE
namespace Go.Proofs.YtgaokohhkdeomaaDoor.PE
open Go
theorem calls_of_does {P : Program} {g : Nat} {fn : Func} {c : Code} (hg : Enters P g fn c) {vs : Array Value} {w : World} {R : Value → World → Prop} (h : Does P g vs w R) : Calls P g vs w fun e w' => ∃ v, e = .returned v ∧ R v w' := by
  have h1 := h { dst := some 0, op := .move (.const undef), type := 0, pos := "", after := #[], guard := none } ⟨#[undef], []⟩ (fun a w' => ∃ v, a.tmps[0]? = some v ∧ R v w') (fun _ _ _ => False) (fun v w' hv => ⟨v, by simp [Act.put], hv⟩)
  have : (callFunc g vs).run P w = .ok (.enter g vs) w := by
    have hname : fn.name ≠ "runtime.NumGoroutine" := by simpa using hg.name
    simp [callFunc, hg.at_, hname, hg.body]
  rw [this, Oper.upon_enter] at h1
  refine h1.mono fun e w' he => ?_
  cases e with
  | returned v =>
    obtain ⟨v', hv, hr⟩ := he
    simp [Act.put] at hv
    subst hv
    exact ⟨v, rfl, hr⟩
  | panicked chain => exact absurd he (by simp)
  | outgrown => exact absurd he (by simp [LetsOut])
theorem HRel.none (w : World) : HRel w (fun _ => False) noMu (hget (([] : List Blk).map some)) :=
  ⟨fun b k h => by simp [hget] at h, fun b k a z h => by simp [hget] at h, fun b b' k k' a z z' h => by simp [hget] at h, fun a h => h.elim⟩
theorem keptBut_of_old {w w' : World} (h1 : w'.os = w.os) (h2 : w'.output = w.output) (h3 : ∀ n, n < w.heap.size → w'.heap[n]? = w.heap[n]?) (may : MemPlace → Prop) : w.keptBut w' may := by
  refine ⟨h1, h2, fun i hi => ?_⟩
  rw [h3 i hi]
  split
  · rename_i e1 e2
    rw [e1] at e2
    cases e2
    exact ⟨rfl, rfl, rfl, fun _ _ => rfl⟩
  · rename_i e1 e2
    rw [e1] at e2
    cases e2
    exact .inr ⟨rfl, rfl⟩
  · rfl
end Go.Proofs.YtgaokohhkdeomaaDoor.PE
namespace Go.Proofs.YtgaokohhkdeomaaDoor.PE
open Go Go.ChangeShapes Go.WideShapes
set_option maxRecDepth 100000
def blkOf : Value → Nat → Prop
  | .slice (some a) _ _, b => b = a.block
  | _, _ => False
section
variable {H : Type} {enc : TypeId × Value → H} {P : Program} {w : World} {t e : TypeId} {base : Nat} {v : Value} {d : DataW H} {p : List MemPlace}
theorem arg_ints (ht : P.underlying t = some (.slice e)) (he : P.underlying e = some (.int .i64)) (hc : P.cellsOf e = 1)
    (hval : Value.okWide P w .any base t v) (h : DataW.Trod enc P w 0 (fun _ => true) true t v d p) :
    ∃ u : PV, okW u = true ∧ (∀ n ∈ intsW u, -9223372036854775808 ≤ n ∧ n ≤ 9223372036854775807) ∧ (∀ b, blkOf v b → b < w.heap.size) ∧ (∀ S : Nat → Prop, (∀ b, blkOf v b → S b) → RepV w S noMu (.w u) v) ∧
      (∀ w' : World, (∀ n, n < w.heap.size → w'.heap[n]? = w.heap[n]?) → ∃ p', DataW.Trod enc P w' 0 (fun b => decide (b < w.heap.size)) true t v d p') ∧
      ((intsW u = [] ∧ d = .nil) ∨ ∃ sp, d = .slice (lits .i64 (intsW u)) sp) := by
  have hval' := hval
  obtain ⟨a0, len, cap, rfl⟩ := okWide_slice ht hval
  obtain ⟨fuel, hf⟩ := h
  rcases open_ints ht he hc hf with ⟨hcs, hx⟩ | ⟨a, len', cap', zs, hcs, _, hl, hm, hz, hx, hcell, hwz⟩
  · simp [Value.cells] at hcs
    obtain ⟨rfl, rfl, rfl⟩ := hcs
    simp only [Prod.mk.injEq] at hx
    obtain ⟨rfl, rfl⟩ := hx
    refine ⟨.nil, rfl, fun n hn => (nomatch hn), fun b hb => hb.elim, fun S _ => .cell _ _ _ rfl (.w _ _ _ (.nil _)), fun w' _ => ⟨[], RowKit.shut_slice_nil ht⟩, .inl ⟨rfl, rfl⟩⟩
  · simp [Value.cells] at hcs
    obtain ⟨rfl, rfl, rfl⟩ := hcs
    simp only [Prod.mk.injEq] at hx
    obtain ⟨rfl, rfl⟩ := hx
    simp only [if_true] at hz
    unfold Value.okWide at hval'
    rw [ht] at hval'
    simp only [Cell.okWide, Cell.ok, ht] at hval'
    obtain ⟨_, _, _, hsp, row, cells, hsh, _⟩ := hval'
    obtain ⟨b, off, spot⟩ := a
    simp only at hsp
    subst hsp
    have hb : b < w.heap.size := by
      unfold World.shape? at hsh
      split at hsh
      · rename_i hh; exact (Array.getElem?_eq_some_iff.1 hh).1
      · cases hsh
    have hcell' : ∀ j, j < zs.length → w.cell? ⟨b, off + j, none⟩ = some (.int .i64 (zs.getD j 0)) := fun j hj => by rw [← add_plain]; exact hcell j hj
    have hlen : (zs.take len).length = len := by rw [List.length_take]; omega
    refine ⟨.lst 1 (.ints .i64 (zs.take len)), rfl, fun n hn => bounds_i64 (hwz n (List.mem_of_mem_take hn)), fun c hc => (by rw [show c = b from hc]; exact hb), fun S hS => ?_, fun w' hw' => ?_, .inr ⟨_, rfl⟩⟩
    · refine .cell _ _ _ rfl (.w _ _ _ ?_)
      have := RepC.lst (w := w) (S := S) noMu 1 (.ints .i64 (zs.take len)) b off cap (fun j => [.int .i64 ((zs.take len).getD j 0)]) (by show (zs.take len).length ≤ cap; omega) (hS b rfl)
        (fun i hi => .i _ _ _) (fun _ _ => rfl) (fun i j hi hj => by
          have hi' : i < len := by rw [← hlen]; exact hi
          obtain rfl : j = 0 := by omega
          show w.cell? ⟨b, off + (i * 1 + 0), none⟩ = _
          rw [Nat.mul_one, Nat.add_zero, hcell' i (by omega)]
          simp [List.getD_eq_getElem?_getD, hi'])
      rw [show (Cont.ints .i64 (zs.take len)).len = len from hlen] at this
      exact this
    · have hd : decide (b < w.heap.size) = true := decide_eq_true hb
      exact ⟨_, 2, shut_ints' (enc := enc) (w := w') (base := 0) (spare := fun b => decide (b < w.heap.size)) (held := true) (len := len) (cap := cap) (zs := zs) 0 ht he hc
        (Nat.zero_le b) hl hm (by simp only [hd, if_true]; exact hz) (fun i hi => by rw [cell_block (hw' b hb)]; exact hcell' i hi) hwz⟩
end
end Go.Proofs.YtgaokohhkdeomaaDoor.PE
namespace Go.Proofs.YtgaokohhkdeomaaDoor.PE
open Go
set_option maxRecDepth 100000
theorem calls_trueG {P : Program} {G : World → (Nat → Prop) → Prop} {g : Nat} {fn : Func} {c : Code} (hg : Enters P g fn c) {args : List PV} (h : PC P G g args [] (.bl true) []) {w : World} {S : Nat → Prop} {vs : List Value} (hw : G w S) (hS : ∀ a, S a → a < w.heap.size)
    (hv : RepVL w S noMu args vs) (may : MemPlace → Prop) :
    Calls P g vs.toArray w fun e w' => e = .returned (.bool true) ∧ w.keptBut w' may ∧ ∀ n, n < w.heap.size → w'.heap[n]? = w.heap[n]? := by
  refine (calls_of_does hg (h w S noMu vs hw hv ⟨fun b k h => by simp [hget] at h, fun b k a z h => by simp [hget] at h, fun b b' k k' a z z' h => by simp [hget] at h, hS⟩ (fun _ _ => rfl))).mono fun e w' he => ?_
  obtain ⟨v, rfl, S', μ', c⟩ := he
  have hr := c.rep
  have : v = .bool true := by
    cases hr with
    | cell _ _ _ _ h => cases h; rfl
    | agg _ _ _ hv h => simp [isAgg, unfr, unfrA, unfr1] at hv
  subst this
  have old : ∀ n, n < w.heap.size → w'.heap[n]? = w.heap[n]? := fun n hn => c.old n hn (fun b z hb => by simp at hb)
  exact ⟨rfl, keptBut_of_old c.os c.output old may, old⟩
def TG (w : World) (S : Nat → Prop) : Prop := S 1 ∧ Go.Proofs.TabAt 1 Go.Lib.deBruijn64tab w
theorem tg_ok : GOk TG := fun _ _ _ _ m h => ⟨m.sub 1 h.1, fun j hj => (m.cell 1 h.1 j).trans (h.2 j hj)⟩
theorem tg_tab : TabG TG := fun _ _ h => h.2
theorem tab_block {w : World} (h : Go.Proofs.TabAt 1 Go.Lib.deBruijn64tab w) : 1 < w.heap.size := by
  have h0 := h 0 (by decide)
  rcases Nat.lt_or_ge 1 w.heap.size with h1 | h1
  · exact h1
  · unfold World.cell? at h0
    rw [show w.heap[(⟨1, 0, none⟩ : Addr).block]? = none from Array.getElem?_eq_none h1] at h0
    cases h0
theorem tab_of_laid {laid : List (String × DataW Unit)} {W : World} (hl : laid = [("math/bits.deBruijn64tab", Go.Lib.tabData .u8 (Go.Lib.deBruijn64tab.map fun n : Nat => (n : Int)))]) (h : laidMetH Tryd.prog laid W) : Go.Proofs.TabAt 1 Go.Lib.deBruijn64tab W := by
  subst hl
  have h1 : laidMet Tryd.prog [("math/bits.deBruijn64tab", Go.Lib.tabData .u8 (Go.Lib.deBruijn64tab.map fun n : Nat => (n : Int)))] W := h
  have h2 := Go.Lib.tabIs_of_head (g := 1) (t := 203) (e := 5) (n := 64) (by kernel_rfl) (by kernel_rfl) (by kernel_rfl) (by kernel_rfl) (by kernel_rfl) (by kernel_rfl) h1
  intro j hj
  have h3 := h2.cell (g := 1) (by kernel_rfl) j (by rw [List.length_map]; exact hj)
  rw [h3, List.getD_eq_getElem?_getD, List.getD_eq_getElem?_getD, List.getElem?_map, List.getElem?_eq_getElem hj]
  rfl
end Go.Proofs.YtgaokohhkdeomaaDoor.PE
