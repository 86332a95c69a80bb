/-
  Part 6 of the proof: contracts of the program's functions. Conditions: those of the theorems below.
-/
import Derived.Test.YtgaokohhkdeomaaDoorWork5
import Derived.Test.YtgaokohhkdeomaaDoorWork4
import Derived.Test.YtgaokohhkdeomaaDoorWork2
import Derived.RowKit3
import GoSem.ClaimChange
import Derived.ChangeSlices
import Derived.WideShapes
import Derived.OpenShut
import Derived.Test.YtgaokohhkdeomaaDoorWork3
import Derived.Lib.LaidTab
set_option linter.all false
namespace Go.Proofs.YtgaokohhkdeomaaDoor.PE
open Go
set_option maxRecDepth 100000
variable {G : World → (Nat → Prop) → Prop} (hG : GOk G)
theorem enter65 : Enters Tryd.prog 66 Tryd.f66 (bodyC Tryd.f66) := ⟨Tryd.func66, by kernel_rfl, rfl⟩
def V13 (A : Am) (qs : List Rat) (a : PV) (q vs : List Rat) (w : Nat) : Prop := a = armPV A ∧ q = qs ∧ vs.length = A.n ∧ w ≤ 193
noncomputable def v66 (A : Am) (qs : List Rat) (VX VY : List Rat → Rat) : Spec := fun args hs K => match args, hs with
  | [a, .lst 3 (.rats 64 q), .lst 3 (.rats w vs)], [] => .br (decP (V13 A qs a q vs w)) (K (.tup [.agg [.q (VX vs) 150000, .q (VY vs) 150000], .i .i64 0]) []) (.no 1)
  | _, _ => .no 1
def V33 (A : Am) (a m : PV) : Prop := a = armPV A ∧ okW m = true
noncomputable def v33 (A : Am) (CF : PV → List Rat) : Spec := fun args hs K => match args, hs with
  | [a, .w m], [] => .br (decP (V33 A a m)) (K (.fr 3 (.rats 64 (CF m))) []) (.no 1)
  | _, _ => .no 1
noncomputable def q10 : List Rat := [mkRat (1 : Int) (Int.toNat (1 : Int)), mkRat (0 : Int) (Int.toNat (1 : Int))]
theorem k65 (S : Am) (a b : Rat) : evF Tryd.prog [(29, s23), (47, cst [.lst 1 (.ints .i64 [3, 2])] True (armFr S)), (69, cst [armPV S, .lst 3 (.rats 64 q00), .lst 3 (.rats 64 q10)] True (.tup [.agg [.q a 150000, .q b 150000], .i .i64 0])), (57, s84)] [] {} Tryd.f66 [] [] retK =
  Tr.br (decP (isA [.lst 1 (.ints .i64 [(3 : Int), (2 : Int)])] True [.lst 1 (.ints .i64 [(3 : Int), (2 : Int)])])) (.br (((0 : Nat) + S.n).ble S.n) (.br (decide ((0 : Int) < (1 : Int)) && decide ((1 : Int) < (4611686018427387904 : Int)) && decide ((-4611686018427387904 : Int) < (0 : Int)) && decide ((0 : Int) < (4611686018427387904 : Int))) (.br (decide ((0 : Int) < (1 : Int)) && decide ((1 : Int) < (4611686018427387904 : Int)) && decide ((-4611686018427387904 : Int) < (0 : Int)) && decide ((0 : Int) < (4611686018427387904 : Int))) (.br (decide ((0 : Int) < (1 : Int)) && decide ((1 : Int) < (4611686018427387904 : Int)) && decide ((-4611686018427387904 : Int) < (1 : Int)) && decide ((1 : Int) < (4611686018427387904 : Int))) (.br (decide ((0 : Int) < (1 : Int)) && decide ((1 : Int) < (4611686018427387904 : Int)) && decide ((-4611686018427387904 : Int) < (0 : Int)) && decide ((0 : Int) < (4611686018427387904 : Int))) (.br (decP (isA [armPV S, .lst 3 (.rats 64 [mkRat (0 : Int) (Int.toNat (1 : Int)), mkRat (0 : Int) (Int.toNat (1 : Int))]), .lst 3 (.rats 64 [mkRat (1 : Int) (Int.toNat (1 : Int)), mkRat (0 : Int) (Int.toNat (1 : Int))])] True [armPV S, .lst 3 (.rats 64 [mkRat (0 : Int) (Int.toNat (1 : Int)), mkRat (0 : Int) (Int.toNat (1 : Int))]), .lst 3 (.rats 64 [mkRat (1 : Int) (Int.toNat (1 : Int)), mkRat (0 : Int) (Int.toNat (1 : Int))])])) (.br (decide ((0 : Int) = (0 : Int))) (.br (decide ((0 : Int) < (1 : Int)) && decide ((1 : Int) < (4611686018427387904 : Int)) && decide ((-4611686018427387904 : Int) < (0 : Int)) && decide ((0 : Int) < (4611686018427387904 : Int))) (.br (decide ((0 : Int) < (1 : Int)) && decide ((1 : Int) < (4611686018427387904 : Int)) && decide ((-4611686018427387904 : Int) < (10 : Int)) && decide ((10 : Int) < (4611686018427387904 : Int))) (.ok (.ret (.b (decide (a = mkRat (0 : Int) (Int.toNat (1 : Int))) && (decide (b = mkRat (10 : Int) (Int.toNat (1 : Int))) && true))) [])) (.no 1)) (.no 1)) (.ok (.ret (.bl false) []))) (.no 1)) (.no 1)) (.no 1)) (.no 1)) (.no 1)) (.no 2014)) (.no 1) := by kernel_rfl
include hG in
theorem vk66 (hT : TabG G) (A : Am) (hA : armB A = true) (qs : List Rat) (hq : qs.length = A.n) : SpecOK Tryd.prog G 69 (v66 A qs (fun vs => sumR (velX (colX (allF (bsF A) (qf qs) (fun j => (A.lk j).len) A.n) A.n) qs vs) A.n) (fun vs => sumR (velX (colY (allF (bsF A) (qf qs) (fun j => (A.lk j).len) A.n) A.n) qs vs) A.n)) := by
  intro args hs K x h
  unfold v66 at h
  split at h
  case h_2 => cases h
  rename_i a q w vs
  obtain ⟨hc, hr⟩ := Tr.of_br h
  obtain ⟨rfl, rfl, hv, hw⟩ := decP_iff.1 hc
  exact ⟨_, _, pc66 hG hT A hA q vs hq hv w hw, hr⟩
include hG in
theorem vk33 (A : Am) (hA : armB A = true) (hX : limX A = true) : SpecOK Tryd.prog G 26 (v33 A (fun m => cfL A.lk m A.n)) := by
  intro args hs K x h
  unfold v33 at h
  split at h
  case h_2 => cases h
  rename_i a m
  obtain ⟨hc, hr⟩ := Tr.of_br h
  obtain ⟨rfl, hm⟩ := decP_iff.1 hc
  obtain ⟨r, hs', p, e⟩ := ok33 hG [armPV A, .w m] [] (fun r hs' => .ok (.ret r hs')) (.ret (.fr 3 (.rats 64 (cfL A.lk m A.n))) []) (by
    show (Tr.br _ _ _).run = _
    rw [Tr.run_t (decP_iff.2 ⟨okA_arm hA, hX, hm⟩)]; rfl)
  cases e
  exact ⟨_, _, p, hr⟩
theorem move_x : sumR (velX (colX (allF (bsF A32) (qf q00) (fun j => (A32.lk j).len) 2) 2) q00 q10) 2 = mkRat (0 : Int) (Int.toNat (1 : Int)) := by
  have h0 := (all_at (b := bsF A32) (q := qf q00) (L := fun j => (A32.lk j).len) (n := 2) (i := 0) (by omega))
  have h1 := (all_at (b := bsF A32) (q := qf q00) (L := fun j => (A32.lk j).len) (n := 2) (i := 1) (by omega))
  have h2 := (all_at (b := bsF A32) (q := qf q00) (L := fun j => (A32.lk j).len) (n := 2) (i := 2) (by omega))
  show (0 : Rat) + velX _ _ _ 0 + velX _ _ _ 1 = _
  unfold velX colX
  rw [h0.2, h1.2, h2.2]
  simp only [endR, estep, fstep, thH, thT, cosR, sinR, ftT, rtQ, hide_eq]
  kernel_rfl
theorem move_y : sumR (velX (colY (allF (bsF A32) (qf q00) (fun j => (A32.lk j).len) 2) 2) q00 q10) 2 = mkRat (10 : Int) (Int.toNat (1 : Int)) := by
  have h0 := (all_at (b := bsF A32) (q := qf q00) (L := fun j => (A32.lk j).len) (n := 2) (i := 0) (by omega))
  have h1 := (all_at (b := bsF A32) (q := qf q00) (L := fun j => (A32.lk j).len) (n := 2) (i := 1) (by omega))
  have h2 := (all_at (b := bsF A32) (q := qf q00) (L := fun j => (A32.lk j).len) (n := 2) (i := 2) (by omega))
  show (0 : Rat) + velX _ _ _ 0 + velX _ _ _ 1 = _
  unfold velX colY
  rw [h0.1, h1.1, h2.1]
  simp only [endR, estep, fstep, thH, thT, cosR, sinR, ftT, rtQ, hide_eq]
  kernel_rfl
include hG in
theorem pc65 (hT : TabG G) : PC Tryd.prog G 66 [] [] (.bl true) [] := by
  have p32 : PC Tryd.prog G 47 [.lst 1 (.ints .i64 [3, 2])] [] (armFr A32) [] := by
    obtain ⟨r, hs', p, e⟩ := ok32s hG [.lst 1 (.ints .i64 [3, 2])] [] (fun r hs' => .ok (.ret r hs')) (.ret (armFr A32) []) (by rfl)
    cases e
    exact p
  have p66 := pc66 hG hT A32 armB_32 q00 q10 rfl rfl 64 (by omega)
  rw [show A32.n = 2 from rfl, move_x, move_y] at p66
  refine (evF_pc hG (.cons (ok23 hG) (.cons (cst_t p32) (.cons (cst_t p66) (.cons (ok84 hG) .nil)))) mix enter65 (L := []) (pol := {}) (LpsOK.none (by kernel_rfl)) (r := .b true) (hs' := []) ?_).le (rle_b rfl) (.refl _)
  refine (congrArg Tr.run (k65 A32 _ _)).trans ?_
  rw [Tr.run_t (decP_iff.2 ⟨rfl, trivial⟩), Tr.run_t (by rw [Nat.ble_eq]; omega)]
  repeat rw [Tr.run_t (by first | decide | exact decP_iff.2 ⟨rfl, trivial⟩)]
  rw [Tr.run_ok]
  show some (Res.ret (.b (decide (mkRat (0 : Int) (Int.toNat (1 : Int)) = mkRat (0 : Int) (Int.toNat (1 : Int))) && (decide (mkRat (10 : Int) (Int.toNat (1 : Int)) = mkRat (10 : Int) (Int.toNat (1 : Int))) && true))) []) = _
  rw [decide_eq_true rfl, decide_eq_true rfl]
  rfl
end Go.Proofs.YtgaokohhkdeomaaDoor.PE
namespace Go.Proofs.YtgaokohhkdeomaaDoor.PE
open Go
set_option maxRecDepth 100000
variable {G : World → (Nat → Prop) → Prop} (hG : GOk G)
noncomputable def R9 : Orc := [(24, g21), (38, g27)]
include hG in
theorem pc55 (hT : TabG G) : PC Tryd.prog G 65 [] [] (.bl true) [] := by
  have p32 : PC Tryd.prog G 47 [.lst 1 (.ints .i64 [3, 2])] [] (armFr A32) [] := by
    obtain ⟨r, hs', p, e⟩ := ok32s hG [.lst 1 (.ints .i64 [3, 2])] [] (fun r hs' => .ok (.ret r hs')) (.ret (armFr A32) []) (by rfl)
    cases e
    exact p
  have p56 := pc56 hG hT A32 armB_32 q00 rfl (mkRat (0 : Int) (Int.toNat (1 : Int))) (mkRat (1 : Int) (Int.toNat (1 : Int))) 64 64 (by omega) (by omega)
  have e : tqL (allF (bsF A32) (qf q00) (fun j => (A32.lk j).len) A32.n) A32.n (mkRat (0 : Int) (Int.toNat (1 : Int))) (mkRat (1 : Int) (Int.toNat (1 : Int))) = [mkRat (5 : Int) (Int.toNat (1 : Int)), mkRat (2 : Int) (Int.toNat (1 : Int))] := by
    have h0 := (all_at (b := bsF A32) (q := qf q00) (L := fun j => (A32.lk j).len) (n := 2) (i := 0) (by omega))
    have h1 := (all_at (b := bsF A32) (q := qf q00) (L := fun j => (A32.lk j).len) (n := 2) (i := 1) (by omega))
    have h2 := (all_at (b := bsF A32) (q := qf q00) (L := fun j => (A32.lk j).len) (n := 2) (i := 2) (by omega))
    have e0 : tqF (allF (bsF A32) (qf q00) (fun j => (A32.lk j).len) 2) 2 (mkRat (0 : Int) (Int.toNat (1 : Int))) (mkRat (1 : Int) (Int.toNat (1 : Int))) 0 = mkRat (5 : Int) (Int.toNat (1 : Int)) := by
      unfold tqF
      rw [h0.1, h0.2, h2.1, h2.2]
      simp only [endR, estep, fstep, thH, thT, cosR, sinR, ftT, hide_eq]
      kernel_rfl
    have e1 : tqF (allF (bsF A32) (qf q00) (fun j => (A32.lk j).len) 2) 2 (mkRat (0 : Int) (Int.toNat (1 : Int))) (mkRat (1 : Int) (Int.toNat (1 : Int))) 1 = mkRat (2 : Int) (Int.toNat (1 : Int)) := by
      unfold tqF
      rw [h1.1, h1.2, h2.1, h2.2]
      simp only [endR, estep, fstep, thH, thT, cosR, sinR, ftT, hide_eq]
      kernel_rfl
    show [tqF (allF (bsF A32) (qf q00) (fun j => (A32.lk j).len) 2) 2 _ _ 0, tqF (allF (bsF A32) (qf q00) (fun j => (A32.lk j).len) 2) 2 _ _ 1] = _
    rw [e0, e1]
  rw [e] at p56
  refine (evF_pc hG (.cons (ok23 hG) (.cons (cst_t p32) (.cons (cst_t p56) (.cons (ok84 hG) .nil)))) mix enter55 (L := []) (pol := {}) (LpsOK.none (by kernel_rfl)) (r := .b true) (hs' := []) ?_).le (rle_b rfl) (.refl _)
  refine (congrArg Tr.run (k55 A32 _ _)).trans ?_
  rw [Tr.run_t (decP_iff.2 ⟨rfl, trivial⟩), Tr.run_t (by rw [Nat.ble_eq]; omega), Tr.run_t (by decide), Tr.run_t (by decide), Tr.run_t (by decide), Tr.run_t (by decide), Tr.run_t (decP_iff.2 ⟨rfl, trivial⟩), Tr.run_t (by decide), Tr.run_t (by decide), Tr.run_t (by decide), Tr.run_t (by decide), Tr.run_t (by decide), Tr.run_t (by exact decide_eq_true rfl), Tr.run_t (by decide), Tr.run_t (by decide), Tr.run_ok]
  show some (Res.ret (.b (decide (mkRat (2 : Int) (Int.toNat (1 : Int)) = mkRat (2 : Int) (Int.toNat (1 : Int))))) []) = _
  rw [decide_eq_true rfl]
theorem tqL_len (ff : Nat → Fr) (n : Nat) (fx fy : Rat) : (tqL ff n fx fy).length = n := by unfold tqL; rw [List.length_map, List.length_range]
theorem tqL_get (ff : Nat → Fr) (n : Nat) (fx fy : Rat) {i : Nat} (h : i < n) : (tqL ff n fx fy).getD i 0 = tqF ff n fx fy i := getD_map_range _ h
end Go.Proofs.YtgaokohhkdeomaaDoor.PE
namespace Go.Proofs.YtgaokohhkdeomaaDoor.PE
open Go
set_option maxRecDepth 100000
variable {G : World → (Nat → Prop) → Prop} (hG : GOk G)
theorem ArgsLe.ofL : ∀ {us vs : List PV}, VLeL us vs → ArgsLe us vs
  | [], [], _ => .nil
  | [], v :: vs, h => by have := h.1; simp at this
  | u :: us, [], h => by have := h.1; simp at this
  | u :: us, v :: vs, h => .cons (h.2 0 u v rfl rfl) (ArgsLe.ofL ⟨by have := h.1; simpa using this, fun j a b e1 e2 => h.2 (j + 1) a b e1 e2⟩)
theorem VLe.tup {us vs : List PV} (h : VLeL us vs) : VLe (.tup us) (.tup vs) := by
  refine ⟨rfl, fun w S μ => ⟨fun cs hc => (by cases hc), fun x hx => ?_⟩⟩
  cases hx with
  | cell _ _ _ _ hc => cases hc
  | agg _ _ _ hv _ => cases hv
  | tup _ _ xs hl => exact .tup _ _ _ (ArgsLe.ofL h w S μ xs hl)
theorem rle_ofV {r r' : PV} (h1 : ∀ m, unfr m r = (r, [])) (h2 : ∀ m, unfr m r' = (r', [])) (h : VLe r r') : RLe r r' :=
  ⟨fun m => by rw [h1, h2]; exact h, fun m => by rw [h1, h2]; exact .refl _⟩
theorem q_le {x : Rat} {n m : Nat} (h : n ≤ m) : VLe (.q x n) (.q x m) := (q_rle rfl h).v 0
end Go.Proofs.YtgaokohhkdeomaaDoor.PE
namespace Go.Proofs.YtgaokohhkdeomaaDoor.PE
open Go
set_option maxRecDepth 100000
variable {G : World → (Nat → Prop) → Prop} (hG : GOk G)
end Go.Proofs.YtgaokohhkdeomaaDoor.PE
namespace Go.Proofs.YtgaokohhkdeomaaDoor.PE
open Go
end Go.Proofs.YtgaokohhkdeomaaDoor.PE
namespace Go.Proofs.YtgaokohhkdeomaaDoor.PE
open Go
set_option maxRecDepth 100000
variable {G : World → (Nat → Prop) → Prop} (hG : GOk G)
end Go.Proofs.YtgaokohhkdeomaaDoor.PE
namespace Go.Proofs.YtgaokohhkdeomaaDoor.PE
open Go
set_option maxRecDepth 100000
variable {G : World → (Nat → Prop) → Prop} (hG : GOk G)
include hG in
theorem p18_ok (l : PV) (hl : okW l = true) : PC Tryd.prog G 18 [.w l] [] (armFr (armD l)) [] := by
  obtain ⟨r, hs', p, e⟩ := ok15 hG [.w l] [] (fun r hs' => .ok (.ret r hs')) (.ret (armFr (armD l)) []) (by show (Tr.br _ _ _).run = _; rw [Tr.run_t hl]; rfl)
  cases e
  exact p
end Go.Proofs.YtgaokohhkdeomaaDoor.PE
namespace Go.Proofs.YtgaokohhkdeomaaDoor.PE
open Go
set_option maxRecDepth 100000
variable {G : World → (Nat → Prop) → Prop} (hG : GOk G)
theorem enterPow : Enters Tryd.prog 68 Tryd.f68 (bodyC Tryd.f68) := ⟨Tryd.func68, by kernel_rfl, rfl⟩
noncomputable def bPow : Code := (loopsOf (bodyC Tryd.f68)).getD 0 .skip
def polPow : Pol := { live := [(8, [2, 8, 10, 12, 36, 37])] }
noncomputable def OPow (A : Am) (qs ts : List Rat) (fx fy : Rat) : Orc := [(24, g21), (51, g43), (81, g71), (112, cst [armPV A, .lst 3 (.rats 64 qs), .agg [.q fx 64, .q fy 64]] True (.tup [.fr 3 (.rats 160005 ts), .i .i64 0]))]
noncomputable def RPow : Orc := [(24, g21), (51, g43)]
noncomputable def lPow : LSpec := unr Tryd.prog RPow [] polPow Tryd.f68.ntmps 0 [2, 8, 10, 12, 36, 37] bPow 4
theorem ePow (A : Am) (qs ts rs : List Rat) (fx fy : Rat) : (evF Tryd.prog (OPow A qs ts fx fy) [(8, lPow)] polPow Tryd.f68 [armPV A, .lst 3 (.rats 64 qs), .lst 3 (.rats 196 rs), .agg [.q fx 64, .q fy 64]] [] retK).run =
  (Tr.br (decP (isA [armPV A, .lst 3 (.rats 64 qs), .agg [.q fx 64, .q fy 64]] True [armPV A, .lst 3 (.rats 64 qs), .agg [.q fx 64, .q fy 64]])) (.br (((0 : Nat) + ts.length).ble ts.length) (.br (!decide ((↑rs.length : Int) = (↑(List.take ts.length (List.drop (0 : Nat) ts)).length : Int))) (.ok (.ret (.tup [.agg [.bl false, .s (ByteArray.mk #[]), .s (ByteArray.mk #[])], .i .i64 (1 : Int)]) [])) (.br (decide ((0 : Int) < (↑(List.take ts.length (List.drop (0 : Nat) ts)).length : Int))) (.br (ix ((0 : Int)) ((↑(List.take ts.length (List.drop (0 : Nat) ts)).length : Int))) (.br (ix ((0 : Int)) ((↑rs.length : Int))) (.br (decide ((0 : Int) + (1 : Int) < (↑(List.take ts.length (List.drop (0 : Nat) ts)).length : Int))) (.br (ix ((0 : Int) + (1 : Int)) ((↑(List.take ts.length (List.drop (0 : Nat) ts)).length : Int))) (.br (ix ((0 : Int) + (1 : Int)) ((↑rs.length : Int))) (.br (decide ((0 : Int) + (1 : Int) + (1 : Int) < (↑(List.take ts.length (List.drop (0 : Nat) ts)).length : Int))) (.br (ix ((0 : Int) + (1 : Int) + (1 : Int)) ((↑(List.take ts.length (List.drop (0 : Nat) ts)).length : Int))) (.br (ix ((0 : Int) + (1 : Int) + (1 : Int)) ((↑rs.length : Int))) (.br (decide ((0 : Int) + (1 : Int) + (1 : Int) + (1 : Int) < (↑(List.take ts.length (List.drop (0 : Nat) ts)).length : Int))) (.br (ix ((0 : Int) + (1 : Int) + (1 : Int) + (1 : Int)) ((↑(List.take ts.length (List.drop (0 : Nat) ts)).length : Int))) (.br (ix ((0 : Int) + (1 : Int) + (1 : Int) + (1 : Int)) ((↑rs.length : Int))) (.no 16) (.no 11005)) (.no 11009)) (.ok (.ret (.tup [.q ((↑(0 : Int) : Rat) + (List.take ts.length (List.drop (0 : Nat) ts)).getD (Int.toNat 0) (0 : Rat) * rs.getD (Int.toNat 0) (0 : Rat) + (List.take ts.length (List.drop (0 : Nat) ts)).getD ((0 : Int) + (1 : Int)).toNat (0 : Rat) * rs.getD ((0 : Int) + (1 : Int)).toNat (0 : Rat) + (List.take ts.length (List.drop (0 : Nat) ts)).getD ((0 : Int) + (1 : Int) + (1 : Int)).toNat (0 : Rat) * rs.getD ((0 : Int) + (1 : Int) + (1 : Int)).toNat (0 : Rat)) 480607, .i .i64 (0 : Int)]) []))) (.no 11005)) (.no 11009)) (.ok (.ret (.tup [.q ((↑(0 : Int) : Rat) + (List.take ts.length (List.drop (0 : Nat) ts)).getD (Int.toNat 0) (0 : Rat) * rs.getD (Int.toNat 0) (0 : Rat) + (List.take ts.length (List.drop (0 : Nat) ts)).getD ((0 : Int) + (1 : Int)).toNat (0 : Rat) * rs.getD ((0 : Int) + (1 : Int)).toNat (0 : Rat)) 320405, .i .i64 (0 : Int)]) []))) (.no 11005)) (.no 11009)) (.ok (.ret (.tup [.q ((↑(0 : Int) : Rat) + (List.take ts.length (List.drop (0 : Nat) ts)).getD (Int.toNat 0) (0 : Rat) * rs.getD (Int.toNat 0) (0 : Rat)) 160203, .i .i64 (0 : Int)]) []))) (.no 11005)) (.no 11009)) (.ok (.ret (.tup [.q (↑(0 : Int) : Rat) 1, .i .i64 (0 : Int)]) [])))) (.no 2006)) (.no 1)).run := by kernel_rfl
def powR (ts rs : List Rat) : Nat → Rat
  | 0 => ((0 : Int) : Rat)
  | k + 1 => powR ts rs k + ts.getD k 0 * rs.getD k 0
include hG in
theorem pcPow (hT : TabG G) (A : Am) (hA : armB A = true) (qs ts rs : List Rat) (fx fy : Rat) (ht : ts.length = A.n) (hr : rs.length = A.n) (h : PC Tryd.prog G 112 [armPV A, .lst 3 (.rats 64 qs), .agg [.q fx 64, .q fy 64]] [] (.tup [.fr 3 (.rats 160005 ts), .i .i64 0]) []) :
    PC Tryd.prog G 68 [armPV A, .lst 3 (.rats 64 qs), .lst 3 (.rats 196 rs), .agg [.q fx 64, .q fy 64]] [] (.tup [.q (powR ts rs A.n) 481000, .i .i64 0]) [] := by
  have h5 := (armB_c hA).2.2.2.2.1
  have h6 := (armB_c hA).2.2.2.2.2.1
  have key : ∃ n, n ≤ 481000 ∧ (evF Tryd.prog (OPow A qs ts fx fy) [(8, lPow)] polPow Tryd.f68 [armPV A, .lst 3 (.rats 64 qs), .lst 3 (.rats 196 rs), .agg [.q fx 64, .q fy 64]] [] retK).run = some (.ret (.tup [.q (powR ts rs A.n) n, .i .i64 0]) []) := by
    have hcs : A.n = 1 ∨ A.n = 2 ∨ A.n = 3 := by omega
    rw [ePow]
    simp only [List.drop_zero, List.take_length]
    rcases hcs with hn | hn | hn <;> simp only [ht, hr, hn]
    · repeat first | rw [Tr.run_t (by first | (simp only [Bool.and_eq_true, Bool.or_eq_true, decide_eq_true_eq, Nat.ble_eq, Nat.blt_eq, List.length_cons, List.length_nil, Bool.not_eq_true', decide_eq_false_iff_not]; omega) | exact decP_iff.2 ⟨rfl, trivial⟩ | exact decP_iff.2 rfl | decide)] | rw [Tr.run_f (by first | (simp only [Bool.and_eq_false_iff, Bool.not_eq_false', decide_eq_true_eq, decide_eq_false_iff_not]; omega) | decide)]
      exact ⟨_, by decide, rfl⟩
    · repeat first | rw [Tr.run_t (by first | (simp only [Bool.and_eq_true, Bool.or_eq_true, decide_eq_true_eq, Nat.ble_eq, Nat.blt_eq, List.length_cons, List.length_nil, Bool.not_eq_true', decide_eq_false_iff_not]; omega) | exact decP_iff.2 ⟨rfl, trivial⟩ | exact decP_iff.2 rfl | decide)] | rw [Tr.run_f (by first | (simp only [Bool.and_eq_false_iff, Bool.not_eq_false', decide_eq_true_eq, decide_eq_false_iff_not]; omega) | decide)]
      exact ⟨_, by decide, rfl⟩
    · repeat first | rw [Tr.run_t (by first | (simp only [Bool.and_eq_true, Bool.or_eq_true, decide_eq_true_eq, Nat.ble_eq, Nat.blt_eq, List.length_cons, List.length_nil, Bool.not_eq_true', decide_eq_false_iff_not]; omega) | exact decP_iff.2 ⟨rfl, trivial⟩ | exact decP_iff.2 rfl | decide)] | rw [Tr.run_f (by first | (simp only [Bool.and_eq_false_iff, Bool.not_eq_false', decide_eq_true_eq, decide_eq_false_iff_not]; omega) | decide)]
      exact ⟨_, by decide, rfl⟩
  obtain ⟨n, hn, e⟩ := key
  refine (evF_pc hG (.cons (gk21 hG hT) (.cons (gk43 hG hT) (.cons (gk71 hG) (.cons (cst_t h) .nil)))) mix enterPow (L := [(8, lPow)]) (pol := polPow) (lps1 (b := bPow) (live := [2, 8, 10, 12, 36, 37]) (sp := lPow) (m := 0) (by kernel_rfl) (by kernel_rfl) (by kernel_rfl) (unr_ok hG (.cons (gk21 hG hT) (.cons (gk43 hG hT) .nil)) mix (LpsOK.none (by kernel_rfl)) 4)) e).le ?_ (.refl _)
  exact rle_ofV (fun _ => rfl) (fun _ => rfl) (VLe.tup (VLeL.cons (q_le hn) (VLeL.cons (.refl _) .nil)))
noncomputable def bFW : Code := (loopsOf (bodyC Tryd.f14)).getD 0 .skip
def polFW : Pol := { live := [(7, [9, 10, 11, 12, 13, 36, 37])] }
theorem enterFW : Enters Tryd.prog 14 Tryd.f14 (bodyC Tryd.f14) := ⟨Tryd.func14, by kernel_rfl, rfl⟩
noncomputable def RFW : Orc := [(67, g103)]
def nFW (A : Am) (qs vs : List Rat) (fx fy : Rat) (i : Int) : LS := ⟨[.ptr 0 12 0 0 [], .lst 3 (.rats 64 qs), .lst 3 (.rats 64 vs), .ptr 1 6 0 0 [], .nil, .i .i64 qs.length, .i .i64 i], [some ⟨12, .vals [armPV A]⟩, some ⟨6, .vals [.agg [.q fx 64, .q fy 64]]⟩]⟩
def xFW (A : Am) (qs vs ys : List Rat) (fx fy : Rat) (i : Int) : LS := ⟨[.ptr 0 12 0 0 [], .lst 3 (.rats 64 qs), .lst 3 (.rats 64 vs), .ptr 1 6 0 0 [], .sl 2 3 0 ys.length, .i .i64 qs.length, .i .i64 i], [some ⟨12, .vals [armPV A]⟩, some ⟨6, .vals [.agg [.q fx 64, .q fy 64]]⟩, some ⟨3, .rats 196 ys⟩]⟩
theorem tFWn (A : Am) (qs vs : List Rat) (fx fy : Rat) (i : Int) : (evRound Tryd.prog RFW [] polFW Tryd.f14.ntmps 0 [9, 10, 11, 12, 13, 36, 37] bFW (nFW A qs vs fx fy i)).run =
  (Tr.br (decide (i < (↑qs.length : Int))) (.br (ix (i) ((↑qs.length : Int))) (.br (ix (i) ((↑vs.length : Int))) (.br (ib (i + (1 : Int))) (.ok (.out .normal (LS.mk [.ptr 0 12 0 0 [], .lst 3 (.rats 64 qs), .lst 3 (.rats 64 vs), .ptr 1 6 0 0 [], .sl 2 3 0 1, .i .i64 (↑qs.length : Int), .i .i64 (i + (1 : Int))] [some (.mk 12 (.vals [armPV A])), some (.mk 6 (.vals [.agg [.q fx 64, .q fy 64]])), some (.mk 3 (.rats 196 [rtQ (qs.getD i.toNat 0) (vs.getD i.toNat 0)]))]))) (.no 11002)) (.no 10006)) (.no 10010)) (.ok (.out (.exit 0) (LS.mk [.ptr 0 12 0 0 [], .lst 3 (.rats 64 qs), .lst 3 (.rats 64 vs), .ptr 1 6 0 0 [], .nil, .i .i64 (↑qs.length : Int), .i .i64 i] [some (.mk 12 (.vals [armPV A])), some (.mk 6 (.vals [.agg [.q fx 64, .q fy 64]]))])))).run := by kernel_rfl
theorem tFWx (A : Am) (qs vs ys : List Rat) (fx fy : Rat) (i : Int) : (evRound Tryd.prog RFW [] polFW Tryd.f14.ntmps 0 [9, 10, 11, 12, 13, 36, 37] bFW (xFW A qs vs ys fx fy i)).run =
  (Tr.br (decide (i < (↑qs.length : Int))) (.br (ix (i) ((↑qs.length : Int))) (.br (ix (i) ((↑vs.length : Int))) (.br (ys.length.ble ys.length && (ys.length + [rtQ (qs.getD i.toNat 0) (vs.getD i.toNat 0)].length).ble 4294967296) (.br (ib (i + (1 : Int))) (.ok (.out .normal (LS.mk [.ptr 0 12 0 0 [], .lst 3 (.rats 64 qs), .lst 3 (.rats 64 vs), .ptr 1 6 0 0 [], .sl 2 3 0 (ys.length + [rtQ (qs.getD i.toNat 0) (vs.getD i.toNat 0)].length), .i .i64 (↑qs.length : Int), .i .i64 (i + (1 : Int))] [some (.mk 12 (.vals [armPV A])), some (.mk 6 (.vals [.agg [.q fx 64, .q fy 64]])), some (.mk 3 (.rats 196 (List.take ys.length (List.drop (0 : Nat) ys) ++ [rtQ (qs.getD i.toNat 0) (vs.getD i.toNat 0)])))]))) (.no 11002)) (.no 10002)) (.no 10006)) (.no 10010)) (.ok (.out (.exit 0) (LS.mk [.ptr 0 12 0 0 [], .lst 3 (.rats 64 qs), .lst 3 (.rats 64 vs), .ptr 1 6 0 0 [], .sl 2 3 0 ys.length, .i .i64 (↑qs.length : Int), .i .i64 i] [some (.mk 12 (.vals [armPV A])), some (.mk 6 (.vals [.agg [.q fx 64, .q fy 64]])), some (.mk 3 (.rats 196 ys))])))).run := by kernel_rfl
noncomputable def OFW (l : PV) (A : Am) (CF : PV → List Rat) (VX VY : PV → Rat) (qs rs : List Rat) (fx fy p : Rat) (WX WY : List Rat → Rat) : Orc :=
  [(18, cst [.w l] True (armFr A)), (26, v33 A CF), (27, g49 VX VY), (38, g27), (50, g42), (65, cst [] True (.bl true)), (66, cst [] True (.bl true)), (67, g103), (68, cst [armPV A, .lst 3 (.rats 64 qs), .lst 3 (.rats 196 rs), .agg [.q fx 64, .q fy 64]] True (.tup [.q p 481000, .i .i64 0])), (69, v66 A qs WX WY)]
theorem eFW (l m k n : PV) (A : Am) (CF : PV → List Rat) (VX VY : PV → Rat) (qs vs rs : List Rat) (fx fy p : Rat) (WX WY : List Rat → Rat) (i : Int) : (evF Tryd.prog (OFW l A CF VX VY qs rs fx fy p WX WY) [(7, lcst (nFW A qs vs fx fy 0) (.exit 0) (xFW A qs vs rs fx fy i))] polFW Tryd.f14 [.w l, .w m, .w k, .w n] [] retK).run =
  (Tr.br (decP (isA [] True [])) (.br (decP (isA [] True [])) (.br (decP (isA [l.w] True [l.w])) (.br (((0 : Nat) + A.n).ble A.n) (.br (decP (V33 A (armPV A) m)) (.br (((0 : Nat) + (CF m).length).ble (CF m).length) (.br (decP (V33 A (armPV A) k)) (.br (((0 : Nat) + (CF k).length).ble (CF k).length) (.br (decP (okW n = true ∧ VX n = rtV (nx n (1048576 : Int)) ∧ VY n = rtV (nx (PE.rs n) (1048576 : Int)))) (.br (decP (isLS (LS.mk [.ptr 0 12 0 0 [], .lst 3 (.rats 64 qs), .lst 3 (.rats 64 vs), .ptr 1 6 0 0 [], .nil, .i .i64 (↑qs.length : Int), .i .i64 (0 : Int)] [some (.mk 12 (.vals [armPV A])), some (.mk 6 (.vals [.agg [.q fx 64, .q fy 64]]))]) (LS.mk [.ptr 0 12 0 0 [], .lst 3 (.rats 64 (List.take (CF m).length (List.drop (0 : Nat) (CF m)))), .lst 3 (.rats 64 (List.take (CF k).length (List.drop (0 : Nat) (CF k)))), .ptr 1 6 0 0 [], .nil, .i .i64 (↑(List.take (CF m).length (List.drop (0 : Nat) (CF m))).length : Int), .i .i64 (0 : Int)] [some (.mk 12 (.vals [armPV A])), some (.mk 6 (.vals [.agg [.q (VX n) 64, .q (VY n) 64]]))]))) (.br (((0 : Nat) + rs.length).ble rs.length) (.br (decP (isA [armPV A, .lst 3 (.rats 64 qs), .lst 3 (.rats 196 rs), .agg [.q fx 64, .q fy 64]] True [armPV A, .lst 3 (.rats 64 qs), .lst 3 (.rats 196 (List.take rs.length (List.drop (0 : Nat) rs))), .agg [.q fx 64, .q fy 64]])) (.br (decP (V13 A qs (armPV A) qs vs (64 : Nat))) (.ok (.ret (.b (decide (rcmp p (fx * WX vs + fy * WY vs) = (0 : Int)))) [])) (.no 1)) (.no 1)) (.no 12007)) (.no 1)) (.no 1)) (.no 5007)) (.no 1)) (.no 5010)) (.no 1)) (.no 4003)) (.no 1)) (.no 1)) (.no 1)).run := by kernel_rfl
include hG in
theorem goesFW (hT : TabG G) (A : Am) (qs vs : List Rat) (fx fy : Rat) (h1 : 1 ≤ qs.length) (h3 : qs.length ≤ 3) (hw : vs.length = qs.length) :
    Goes (Rnd Tryd.prog G Tryd.f14.ntmps 0 [9, 10, 11, 12, 13, 36, 37] bFW) (nFW A qs vs fx fy 0) (.exit 0) (xFW A qs vs ((List.range qs.length).map fun i => rtQ (qs.getD i 0) (vs.getD i 0)) fx fy qs.length) := by
  refine Goes.build (xst := fun ys (j : Nat) => xFW A qs vs ys fx fy ((j : Nat) : Int)) (fun i => rtQ (qs.getD i 0) (vs.getD i 0)) (by simp) qs.length h1 ?_ ?_ ?_
  · refine round_ok hG (.cons (gk103 hG hT) .nil) mix (L := []) (pol := polFW) (O := RFW) (LpsOK.none (by kernel_rfl)) (Nat.zero_le _) ?_
    rw [tFWn]
    repeat first | rw [Tr.run_t (by first | (simp only [Bool.and_eq_true, Bool.or_eq_true, decide_eq_true_eq, Nat.ble_eq, Nat.blt_eq, List.length_cons, List.length_nil, Bool.not_eq_true', decide_eq_false_iff_not]; omega) | exact decP_iff.2 ⟨rfl, trivial⟩ | exact decP_iff.2 rfl | decide)] | rw [Tr.run_f (by first | (simp only [Bool.and_eq_false_iff, Bool.not_eq_false', decide_eq_true_eq, decide_eq_false_iff_not]; omega) | decide)]
    rw [Tr.run_ok]
    rfl
  · intro ys j hj hj1 hjm
    refine round_ok hG (.cons (gk103 hG hT) .nil) mix (L := []) (pol := polFW) (O := RFW) (LpsOK.none (by kernel_rfl)) (Nat.zero_le _) ?_
    rw [tFWx, Int.toNat_natCast]
    repeat first | rw [Tr.run_t (by first | (simp only [Bool.and_eq_true, Bool.or_eq_true, decide_eq_true_eq, Nat.ble_eq, Nat.blt_eq, List.length_cons, List.length_nil, Bool.not_eq_true', decide_eq_false_iff_not]; omega) | (simp only [Bool.and_eq_true, Nat.ble_eq, List.length_cons, List.length_nil]; omega) | exact decP_iff.2 ⟨rfl, trivial⟩ | exact decP_iff.2 rfl | decide)] | rw [Tr.run_f (by first | (simp only [Bool.and_eq_false_iff, Bool.not_eq_false', decide_eq_true_eq, decide_eq_false_iff_not]; omega) | (simp only [Bool.and_eq_true, Nat.ble_eq, List.length_cons, List.length_nil]; omega) | decide)]
    rw [Tr.run_ok, List.drop_zero, List.take_length]
    unfold xFW
    rw [List.length_append]
    rfl
  · refine round_ok hG (.cons (gk103 hG hT) .nil) mix (L := []) (pol := polFW) (O := RFW) (LpsOK.none (by kernel_rfl)) (Nat.zero_le _) ?_
    rw [tFWx, Tr.run_f (decide_eq_false (by omega)), Tr.run_ok]
    rfl
theorem work_law (ff : Nat → Fr) (n : Nat) (fx fy : Rat) (qs vs ts rs : List Rat) (ht : ∀ i, i < n → ts.getD i 0 = tqF ff n fx fy i) (hr : ∀ i, i < n → rs.getD i 0 = rtQ (qs.getD i 0) (vs.getD i 0)) :
    ∀ k, k ≤ n → powR ts rs k = fx * sumR (velX (colX ff n) qs vs) k + fy * sumR (velX (colY ff n) qs vs) k
  | 0, _ => by
    show (0 : Rat) = fx * 0 + fy * 0
    grind
  | k + 1, hk => by
    have ih := work_law ff n fx fy qs vs ts rs ht hr k (by omega)
    show powR ts rs k + ts.getD k 0 * rs.getD k 0 = fx * (sumR (velX (colX ff n) qs vs) k + velX (colX ff n) qs vs k) + fy * (sumR (velX (colY ff n) qs vs) k + velX (colY ff n) qs vs k)
    rw [ih, ht k (by omega), hr k (by omega)]
    unfold velX tqF colX colY
    grind
include hG in
theorem lawFW (hT : TabG G) (l m k n : PV) (hl : okW l = true) (hm : okW m = true) (hk : okW k = true) (hn : okW n = true) : PC Tryd.prog G 14 [.w l, .w m, .w k, .w n] [] (.bl true) [] := by
  have hA := armB_V l
  have hX := limX_V l
  have p18 := p18_ok hG l hl
  generalize armD l = A at *
  have p26 := vk33 hG A hA hX
  obtain ⟨h1, h2, h3, h4, h5, h6, h7⟩ := armB_c hA
  have cl : ∀ m, (cfL A.lk m A.n).length = A.n := fun m => cfL_len _ _ _
  generalize hCF : (fun m => cfL A.lk m A.n) = CF at *
  have cl' : ∀ m, (CF m).length = A.n := fun m => by rw [← hCF]; exact cl m
  have p66 := vk66 hG hT A hA (CF m) (cl' m)
  have p56 := pc56 hG hT A hA (CF m) (cl' m) (rtV (nx n 1048576)) (rtV (nx (rs n) 1048576)) 64 64 (by omega) (by omega)
  generalize allF (bsF A) (qf (CF m)) (fun j => (A.lk j).len) A.n = ff at *
  have hks := cl' k
  have hms := cl' m
  have g := goesFW hG hT A (CF m) (CF k) (rtV (nx n 1048576)) (rtV (nx (rs n) 1048576)) (by omega) (by omega) (by omega)
  have hr : ∀ i, i < A.n → ((List.range (CF m).length).map fun i => rtQ ((CF m).getD i 0) ((CF k).getD i 0)).getD i 0 = rtQ ((CF m).getD i 0) ((CF k).getD i 0) := fun i hi => getD_map_range _ (by omega)
  have hrl : ((List.range (CF m).length).map fun i => rtQ ((CF m).getD i 0) ((CF k).getD i 0)).length = A.n := by rw [List.length_map, List.length_range]; exact hms
  generalize ((List.range (CF m).length).map fun i => rtQ ((CF m).getD i 0) ((CF k).getD i 0)) = rr at *
  have ht : ∀ i, i < A.n → (tqL ff A.n (rtV (nx n 1048576)) (rtV (nx (rs n) 1048576))).getD i 0 = tqF ff A.n (rtV (nx n 1048576)) (rtV (nx (rs n) 1048576)) i := fun i h => tqL_get ff A.n _ _ h
  have htl := tqL_len ff A.n (rtV (nx n 1048576)) (rtV (nx (rs n) 1048576))
  generalize tqL ff A.n (rtV (nx n 1048576)) (rtV (nx (rs n) 1048576)) = ts at *
  have pw := pcPow hG hT A hA (CF m) ts rr _ _ htl hrl p56
  have hlaw := work_law ff A.n _ _ (CF m) (CF k) ts rr ht hr A.n (Nat.le_refl _)
  have c2 : decide (rcmp (powR ts rr A.n) (rtV (nx n 1048576) * sumR (velX (colX ff A.n) (CF m) (CF k)) A.n + rtV (nx (rs n) 1048576) * sumR (velX (colY ff A.n) (CF m) (CF k)) A.n) = 0) = true := by
    rw [hlaw, rcmp_refl0]
    rfl
  refine (evF_pc hG (.cons (cst_t p18) (.cons p26 (.cons (gk49 hG (fun v => rtV (nx v 1048576)) (fun v => rtV (nx (rs v) 1048576))) (.cons (gk27 hG hT) (.cons (gk42 hG hT) (.cons (cst_t (pc55 hG hT)) (.cons (cst_t (pc65 hG hT)) (.cons (gk103 hG hT) (.cons (cst_t pw) (.cons p66 .nil)))))))))) mix enterFW (pol := polFW)
    (lps1 (b := bFW) (live := [9, 10, 11, 12, 13, 36, 37]) (m := 0) (L := [(7, lcst (nFW A (CF m) (CF k) (rtV (nx n 1048576)) (rtV (nx (rs n) 1048576)) 0) (.exit 0) (xFW A (CF m) (CF k) rr (rtV (nx n 1048576)) (rtV (nx (rs n) 1048576)) (CF m).length))]) (by kernel_rfl) (by kernel_rfl) (by kernel_rfl) (lcst_ok g)) (r := .b true) (hs' := []) ?_).le (rle_b rfl) (.refl _)
  refine (eFW l m k n A CF _ _ (CF m) (CF k) rr _ _ _ _ _ _).trans ?_
  simp only [List.drop_zero, List.take_length, Nat.add_zero]
  repeat first | rw [Tr.run_t (by first | (simp only [Bool.and_eq_true, Bool.or_eq_true, decide_eq_true_eq, Nat.ble_eq, Nat.blt_eq, List.length_cons, List.length_nil, Bool.not_eq_true', decide_eq_false_iff_not]; omega) | exact decP_iff.2 ⟨rfl, hm⟩ | exact decP_iff.2 ⟨rfl, hk⟩ | exact decP_iff.2 ⟨hn, trivial, trivial⟩ | exact decP_iff.2 ⟨rfl, rfl, hks, by decide⟩ | exact decP_iff.2 ⟨rfl, trivial⟩ | exact decP_iff.2 rfl | decide)] | rw [Tr.run_f (by first | (simp only [Bool.and_eq_false_iff, Bool.not_eq_false', decide_eq_true_eq, decide_eq_false_iff_not]; omega) | exact decP_iff.2 ⟨rfl, hm⟩ | exact decP_iff.2 ⟨rfl, hk⟩ | exact decP_iff.2 ⟨hn, trivial, trivial⟩ | exact decP_iff.2 ⟨rfl, rfl, hks, by decide⟩ | decide)]
  rw [Tr.run_ok]
  exact congrArg (fun b => some (Res.ret (.b b) [])) c2
end Go.Proofs.YtgaokohhkdeomaaDoor.PE
namespace Go.Proofs.YtgaokohhkdeomaaDoor.PE
open Go
theorem calls_of_does {P : Program} {g : Nat} {fn : Func} {c : Code} (hg : Enters P g fn c) {vs : Array Value} {w : World} {R : Value → World → Prop} (h : Does P g vs w R) : Calls P g vs w fun e w' => ∃ v, e = .returned v ∧ R v w' := by
  have h1 := h { dst := some 0, op := .move (.const undef), type := 0, pos := "", after := #[], guard := none } ⟨#[undef], []⟩ (fun a w' => ∃ v, a.tmps[0]? = some v ∧ R v w') (fun _ _ _ => False) (fun v w' hv => ⟨v, by simp [Act.put], hv⟩)
  have : (callFunc g vs).run P w = .ok (.enter g vs) w := by
    have hname : fn.name ≠ "runtime.NumGoroutine" := by simpa using hg.name
    simp [callFunc, hg.at_, hname, hg.body]
  rw [this, Oper.upon_enter] at h1
  refine h1.mono fun e w' he => ?_
  cases e with
  | returned v =>
    obtain ⟨v', hv, hr⟩ := he
    simp [Act.put] at hv
    subst hv
    exact ⟨v, rfl, hr⟩
  | panicked chain => exact absurd he (by simp)
  | outgrown => exact absurd he (by simp [LetsOut])
theorem HRel.none (w : World) : HRel w (fun _ => False) noMu (hget (([] : List Blk).map some)) :=
  ⟨fun b k h => by simp [hget] at h, fun b k a z h => by simp [hget] at h, fun b b' k k' a z z' h => by simp [hget] at h, fun a h => h.elim⟩
theorem keptBut_of_old {w w' : World} (h1 : w'.os = w.os) (h2 : w'.output = w.output) (h3 : ∀ n, n < w.heap.size → w'.heap[n]? = w.heap[n]?) (may : MemPlace → Prop) : w.keptBut w' may := by
  refine ⟨h1, h2, fun i hi => ?_⟩
  rw [h3 i hi]
  split
  · rename_i e1 e2
    rw [e1] at e2
    cases e2
    exact ⟨rfl, rfl, rfl, fun _ _ => rfl⟩
  · rename_i e1 e2
    rw [e1] at e2
    cases e2
    exact .inr ⟨rfl, rfl⟩
  · rfl
end Go.Proofs.YtgaokohhkdeomaaDoor.PE
namespace Go.Proofs.YtgaokohhkdeomaaDoor.PE
open Go Go.ChangeShapes Go.WideShapes
set_option maxRecDepth 100000
def blkOf : Value → Nat → Prop
  | .slice (some a) _ _, b => b = a.block
  | _, _ => False
section
variable {H : Type} {enc : TypeId × Value → H} {P : Program} {w : World} {t e : TypeId} {base : Nat} {v : Value} {d : DataW H} {p : List MemPlace}
theorem arg_ints (ht : P.underlying t = some (.slice e)) (he : P.underlying e = some (.int .i64)) (hc : P.cellsOf e = 1)
    (hval : Value.okWide P w .any base t v) (h : DataW.Trod enc P w 0 (fun _ => true) true t v d p) :
    ∃ u : PV, okW u = true ∧ (∀ n ∈ intsW u, -9223372036854775808 ≤ n ∧ n ≤ 9223372036854775807) ∧ (∀ b, blkOf v b → b < w.heap.size) ∧ (∀ S : Nat → Prop, (∀ b, blkOf v b → S b) → RepV w S noMu (.w u) v) ∧
      (∀ w' : World, (∀ n, n < w.heap.size → w'.heap[n]? = w.heap[n]?) → ∃ p', DataW.Trod enc P w' 0 (fun b => decide (b < w.heap.size)) true t v d p') ∧
      ((intsW u = [] ∧ d = .nil) ∨ ∃ sp, d = .slice (lits .i64 (intsW u)) sp) := by
  have hval' := hval
  obtain ⟨a0, len, cap, rfl⟩ := okWide_slice ht hval
  obtain ⟨fuel, hf⟩ := h
  rcases open_ints ht he hc hf with ⟨hcs, hx⟩ | ⟨a, len', cap', zs, hcs, _, hl, hm, hz, hx, hcell, hwz⟩
  · simp [Value.cells] at hcs
    obtain ⟨rfl, rfl, rfl⟩ := hcs
    simp only [Prod.mk.injEq] at hx
    obtain ⟨rfl, rfl⟩ := hx
    refine ⟨.nil, rfl, fun n hn => (nomatch hn), fun b hb => hb.elim, fun S _ => .cell _ _ _ rfl (.w _ _ _ (.nil _)), fun w' _ => ⟨[], RowKit.shut_slice_nil ht⟩, .inl ⟨rfl, rfl⟩⟩
  · simp [Value.cells] at hcs
    obtain ⟨rfl, rfl, rfl⟩ := hcs
    simp only [Prod.mk.injEq] at hx
    obtain ⟨rfl, rfl⟩ := hx
    simp only [if_true] at hz
    unfold Value.okWide at hval'
    rw [ht] at hval'
    simp only [Cell.okWide, Cell.ok, ht] at hval'
    obtain ⟨_, _, _, hsp, row, cells, hsh, _⟩ := hval'
    obtain ⟨b, off, spot⟩ := a
    simp only at hsp
    subst hsp
    have hb : b < w.heap.size := by
      unfold World.shape? at hsh
      split at hsh
      · rename_i hh; exact (Array.getElem?_eq_some_iff.1 hh).1
      · cases hsh
    have hcell' : ∀ j, j < zs.length → w.cell? ⟨b, off + j, none⟩ = some (.int .i64 (zs.getD j 0)) := fun j hj => by rw [← add_plain]; exact hcell j hj
    have hlen : (zs.take len).length = len := by rw [List.length_take]; omega
    refine ⟨.lst 1 (.ints .i64 (zs.take len)), rfl, fun n hn => bounds_i64 (hwz n (List.mem_of_mem_take hn)), fun c hc => (by rw [show c = b from hc]; exact hb), fun S hS => ?_, fun w' hw' => ?_, .inr ⟨_, rfl⟩⟩
    · refine .cell _ _ _ rfl (.w _ _ _ ?_)
      have := RepC.lst (w := w) (S := S) noMu 1 (.ints .i64 (zs.take len)) b off cap (fun j => [.int .i64 ((zs.take len).getD j 0)]) (by show (zs.take len).length ≤ cap; omega) (hS b rfl)
        (fun i hi => .i _ _ _) (fun _ _ => rfl) (fun i j hi hj => by
          have hi' : i < len := by rw [← hlen]; exact hi
          obtain rfl : j = 0 := by omega
          show w.cell? ⟨b, off + (i * 1 + 0), none⟩ = _
          rw [Nat.mul_one, Nat.add_zero, hcell' i (by omega)]
          simp [List.getD_eq_getElem?_getD, hi'])
      rw [show (Cont.ints .i64 (zs.take len)).len = len from hlen] at this
      exact this
    · have hd : decide (b < w.heap.size) = true := decide_eq_true hb
      exact ⟨_, 2, shut_ints' (enc := enc) (w := w') (base := 0) (spare := fun b => decide (b < w.heap.size)) (held := true) (len := len) (cap := cap) (zs := zs) 0 ht he hc
        (Nat.zero_le b) hl hm (by simp only [hd, if_true]; exact hz) (fun i hi => by rw [cell_block (hw' b hb)]; exact hcell' i hi) hwz⟩
end
end Go.Proofs.YtgaokohhkdeomaaDoor.PE
namespace Go.Proofs.YtgaokohhkdeomaaDoor.PE
open Go
set_option maxRecDepth 100000
theorem calls_trueG {P : Program} {G : World → (Nat → Prop) → Prop} {g : Nat} {fn : Func} {c : Code} (hg : Enters P g fn c) {args : List PV} (h : PC P G g args [] (.bl true) []) {w : World} {S : Nat → Prop} {vs : List Value} (hw : G w S) (hS : ∀ a, S a → a < w.heap.size)
    (hv : RepVL w S noMu args vs) (may : MemPlace → Prop) :
    Calls P g vs.toArray w fun e w' => e = .returned (.bool true) ∧ w.keptBut w' may ∧ ∀ n, n < w.heap.size → w'.heap[n]? = w.heap[n]? := by
  refine (calls_of_does hg (h w S noMu vs hw hv ⟨fun b k h => by simp [hget] at h, fun b k a z h => by simp [hget] at h, fun b b' k k' a z z' h => by simp [hget] at h, hS⟩ (fun _ _ => rfl))).mono fun e w' he => ?_
  obtain ⟨v, rfl, S', μ', c⟩ := he
  have hr := c.rep
  have : v = .bool true := by
    cases hr with
    | cell _ _ _ _ h => cases h; rfl
    | agg _ _ _ hv h => simp [isAgg, unfr, unfrA, unfr1] at hv
  subst this
  have old : ∀ n, n < w.heap.size → w'.heap[n]? = w.heap[n]? := fun n hn => c.old n hn (fun b z hb => by simp at hb)
  exact ⟨rfl, keptBut_of_old c.os c.output old may, old⟩
def TG (w : World) (S : Nat → Prop) : Prop := S 1 ∧ Go.Proofs.TabAt 1 Go.Lib.deBruijn64tab w
theorem tg_ok : GOk TG := fun _ _ _ _ m h => ⟨m.sub 1 h.1, fun j hj => (m.cell 1 h.1 j).trans (h.2 j hj)⟩
theorem tg_tab : TabG TG := fun _ _ h => h.2
theorem tab_block {w : World} (h : Go.Proofs.TabAt 1 Go.Lib.deBruijn64tab w) : 1 < w.heap.size := by
  have h0 := h 0 (by decide)
  rcases Nat.lt_or_ge 1 w.heap.size with h1 | h1
  · exact h1
  · unfold World.cell? at h0
    rw [show w.heap[(⟨1, 0, none⟩ : Addr).block]? = none from Array.getElem?_eq_none h1] at h0
    cases h0
theorem tab_of_laid {laid : List (String × DataW Unit)} {W : World} (hl : laid = [("math/bits.deBruijn64tab", Go.Lib.tabData .u8 (Go.Lib.deBruijn64tab.map fun n : Nat => (n : Int)))]) (h : laidMetH Tryd.prog laid W) : Go.Proofs.TabAt 1 Go.Lib.deBruijn64tab W := by
  subst hl
  have h1 : laidMet Tryd.prog [("math/bits.deBruijn64tab", Go.Lib.tabData .u8 (Go.Lib.deBruijn64tab.map fun n : Nat => (n : Int)))] W := h
  have h2 := Go.Lib.tabIs_of_head (g := 1) (t := 203) (e := 5) (n := 64) (by kernel_rfl) (by kernel_rfl) (by kernel_rfl) (by kernel_rfl) (by kernel_rfl) (by kernel_rfl) h1
  intro j hj
  have h3 := h2.cell (g := 1) (by kernel_rfl) j (by rw [List.length_map]; exact hj)
  rw [h3, List.getD_eq_getElem?_getD, List.getD_eq_getElem?_getD, List.getElem?_map, List.getElem?_eq_getElem hj]
  rfl
end Go.Proofs.YtgaokohhkdeomaaDoor.PE
