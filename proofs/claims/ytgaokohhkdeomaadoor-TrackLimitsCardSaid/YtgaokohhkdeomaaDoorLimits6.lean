/-
  Part 6 of the proof: contracts of the program's functions. Conditions: those of the theorems below.
-/
import Derived.Test.YtgaokohhkdeomaaDoorLimits5
import Derived.Test.YtgaokohhkdeomaaDoorLimits2
import Derived.RowKit3
import GoSem.ClaimChange
import Derived.ChangeSlices
import Derived.WideShapes
import Derived.OpenShut
import Derived.Test.YtgaokohhkdeomaaDoorLimits3
import Derived.Lib.LaidTab
set_option linter.all false
namespace Go.Proofs.YtgaokohhkdeomaaDoor.PE
open Go
set_option maxRecDepth 100000
variable {G : World → (Nat → Prop) → Prop} (hG : GOk G)
def apP (P : PV → Prop) (a : PV) : Prop := P a
theorem enterTks : Enters Tryd.prog 17 Tryd.f17 (bodyC Tryd.f17) := ⟨Tryd.func17, by kernel_rfl, rfl⟩
noncomputable def vTks (P : PV → Prop) (ys : List Rat) : Spec := fun args hs K => match args, hs with
  | [a, .i .i64 15], [] => .br (decP (apP P a)) (K (.fr 3 (.rats 452 ys)) []) (.no 1)
  | _, _ => .no 1
theorem eTks (P : PV → Prop) (ys : List Rat) : (evF Tryd.prog [(20, vTks P ys), (29, s23)] [] {} Tryd.f17 [] [] retK).run =
  (Tr.br (decP (apP P (.lst 2 (.vals [.agg [.i .i64 (10 : Int), .lst 3 (.rats 64 [mkRat (0 : Int) (Int.toNat (1 : Int))])], .agg [.i .i64 (20 : Int), .lst 3 (.rats 64 [mkRat (1 : Int) (Int.toNat (1 : Int))])]])))) (.br (((0 : Nat) + ys.length).ble ys.length) (.br (decide ((↑(List.take ys.length (List.drop (0 : Nat) ys)).length : Int) = (1 : Int))) (.br (ix ((0 : Int)) ((↑(List.take ys.length (List.drop (0 : Nat) ys)).length : Int))) (.ok (.ret (.b (decide ((List.take ys.length (List.drop (0 : Nat) ys)).getD (Int.toNat 0) (0 : Rat) = mkRat (1 : Int) (Int.toNat (2 : Int))))) [])) (.no 4006)) (.ok (.ret (.bl false) []))) (.no 3002)) (.no 1)).run := by kernel_rfl
def S1 (w n : Nat) (tk : Nat → Int) (qs : Nat → List Rat) (a : PV) (tick : Int) : Prop := a = trC w n tk qs ∧ -50000 ≤ tick ∧ tick ≤ 50000
noncomputable def sp1 (w n : Nat) (tk : Nat → Int) (qs : Nat → List Rat) (F : Int → List Rat) (W : Nat) : Spec := fun args hs K => match args, hs with
  | [a, .i .i64 tick], [] => .br (decP (S1 w n tk qs a tick)) (K (.fr 3 (.rats W (F tick))) []) (.no 1)
  | _, _ => .no 1
noncomputable def bTL : Code := (loopsOf (bodyC Tryd.f5)).getD 0 .skip
def polTL : Pol := { live := [(12, [6, 11, 69, 70, 71])] }
theorem enterTL : Enters Tryd.prog 5 Tryd.f5 (bodyC Tryd.f5) := ⟨Tryd.func5, by kernel_rfl, rfl⟩
noncomputable def RTL : Orc := [(38, g27), (39, g28)]
noncomputable def lTL : LSpec := unr Tryd.prog RTL [] polTL Tryd.f5.ntmps 0 [6, 11, 69, 70, 71] bTL 4
noncomputable def OTL (l m : PV) (A : Am) (n : Nat) (tk : Nat → Int) (qs : Nat → List Rat) (F S : Int → List Rat) : Orc :=
  [(17, cst [] True (.bl true)), (18, cst [.w l] True (armFr A)), (19, cst [armPV A, .w m] True (.fr 2 (.fn n (fun k => kyPV 64 (tk k) (qs k))))), (20, at1 64 n tk qs F 452), (23, sp1 64 n tk qs S 905), (30, s24), (36, cst [armPV A, trC 64 n tk qs] True (.i .i64 0)), (37, c35 A), (38, g27), (39, g28)]
theorem eTL (l m : PV) (x : Int) (A : Am) (n : Nat) (tk : Nat → Int) (qs : Nat → List Rat) (F S : Int → List Rat) : (evF Tryd.prog (OTL l m A n tk qs F S) [(12, lTL)] polTL Tryd.f5 [.w l, .w m, .i .i64 x] [] retK).run =
  (Tr.br (decP (isA [] True [])) (.br (decP (isA [l.w] True [l.w])) (.br (((0 : Nat) + A.n).ble A.n) (.br (decP (isA [armPV A, m.w] True [armPV A, m.w])) (.br (((0 : Nat) + n).ble n) (.br (decP (isA [armPV A, .lst 2 (.fn n fun (j : Nat) => .agg [.i .i64 (tk j), .lst 3 (.rats 64 (qs j))])] True [armPV A, .lst 2 (.fn n fun (j : Nat) => .agg [.i .i64 (tk (j + (0 : Nat))), .lst 3 (.rats 64 (qs (j + (0 : Nat))))])])) (.br (decide ((↑n : Int) = (0 : Int))) (.ok (.ret (.bl false) [])) (.br (ix ((0 : Int)) ((↑n : Int))) (.br (ib (tk (Int.toNat 0 + (0 : Nat)) - (5 : Int))) (.br (ib ((↑n : Int) - (1 : Int))) (.br (ix ((↑n : Int) - (1 : Int)) ((↑n : Int))) (.br (ix ((0 : Int)) ((↑n : Int))) (.br (ib (tk (((↑n : Int) - (1 : Int)).toNat + (0 : Nat)) - tk (Int.toNat 0 + (0 : Nat)))) (.br (ib (tk (((↑n : Int) - (1 : Int)).toNat + (0 : Nat)) - tk (Int.toNat 0 + (0 : Nat)) + (10 : Int))) (.br (decide ((0 : Int) < tk (((↑n : Int) - (1 : Int)).toNat + (0 : Nat)) - tk (Int.toNat 0 + (0 : Nat)) + (10 : Int)) && decide (tk (((↑n : Int) - (1 : Int)).toNat + (0 : Nat)) - tk (Int.toNat 0 + (0 : Nat)) + (10 : Int) ≤ (4294967296 : Int))) (.br (ib (tk (Int.toNat 0 + (0 : Nat)) - (5 : Int) + x % (tk (((↑n : Int) - (1 : Int)).toNat + (0 : Nat)) - tk (Int.toNat 0 + (0 : Nat)) + (10 : Int)))) (.br (decP (A1 (64 : Nat) n tk qs (.lst 2 (.fn n fun (j : Nat) => .agg [.i .i64 (tk (j + (0 : Nat))), .lst 3 (.rats 64 (qs (j + (0 : Nat))))])) (tk (Int.toNat 0 + (0 : Nat)) - (5 : Int) + x % (tk (((↑n : Int) - (1 : Int)).toNat + (0 : Nat)) - tk (Int.toNat 0 + (0 : Nat)) + (10 : Int))))) (.br (((0 : Nat) + (F (tk (Int.toNat 0 + (0 : Nat)) - (5 : Int) + x % (tk (((↑n : Int) - (1 : Int)).toNat + (0 : Nat)) - tk (Int.toNat 0 + (0 : Nat)) + (10 : Int)))).length).ble (F (tk (Int.toNat 0 + (0 : Nat)) - (5 : Int) + x % (tk (((↑n : Int) - (1 : Int)).toNat + (0 : Nat)) - tk (Int.toNat 0 + (0 : Nat)) + (10 : Int)))).length) (.br (decP (S1 (64 : Nat) n tk qs (.lst 2 (.fn n fun (j : Nat) => .agg [.i .i64 (tk (j + (0 : Nat))), .lst 3 (.rats 64 (qs (j + (0 : Nat))))])) (tk (Int.toNat 0 + (0 : Nat)) - (5 : Int) + x % (tk (((↑n : Int) - (1 : Int)).toNat + (0 : Nat)) - tk (Int.toNat 0 + (0 : Nat)) + (10 : Int))))) (.br (((0 : Nat) + (S (tk (Int.toNat 0 + (0 : Nat)) - (5 : Int) + x % (tk (((↑n : Int) - (1 : Int)).toNat + (0 : Nat)) - tk (Int.toNat 0 + (0 : Nat)) + (10 : Int)))).length).ble (S (tk (Int.toNat 0 + (0 : Nat)) - (5 : Int) + x % (tk (((↑n : Int) - (1 : Int)).toNat + (0 : Nat)) - tk (Int.toNat 0 + (0 : Nat)) + (10 : Int)))).length) (.br (decP (P35A A (armPV A) (452 : Nat) (List.take (F (tk (Int.toNat 0 + (0 : Nat)) - (5 : Int) + x % (tk (((↑n : Int) - (1 : Int)).toNat + (0 : Nat)) - tk (Int.toNat 0 + (0 : Nat)) + (10 : Int)))).length (List.drop (0 : Nat) (F (tk (Int.toNat 0 + (0 : Nat)) - (5 : Int) + x % (tk (((↑n : Int) - (1 : Int)).toNat + (0 : Nat)) - tk (Int.toNat 0 + (0 : Nat)) + (10 : Int)))))))) (.br (fitB A (List.take (F (tk (Int.toNat 0 + (0 : Nat)) - (5 : Int) + x % (tk (((↑n : Int) - (1 : Int)).toNat + (0 : Nat)) - tk (Int.toNat 0 + (0 : Nat)) + (10 : Int)))).length (List.drop (0 : Nat) (F (tk (Int.toNat 0 + (0 : Nat)) - (5 : Int) + x % (tk (((↑n : Int) - (1 : Int)).toNat + (0 : Nat)) - tk (Int.toNat 0 + (0 : Nat)) + (10 : Int))))))) (.br (!decide ((↑(List.take (S (tk (Int.toNat 0 + (0 : Nat)) - (5 : Int) + x % (tk (((↑n : Int) - (1 : Int)).toNat + (0 : Nat)) - tk (Int.toNat 0 + (0 : Nat)) + (10 : Int)))).length (List.drop (0 : Nat) (S (tk (Int.toNat 0 + (0 : Nat)) - (5 : Int) + x % (tk (((↑n : Int) - (1 : Int)).toNat + (0 : Nat)) - tk (Int.toNat 0 + (0 : Nat)) + (10 : Int)))))).length : Int) = (↑(List.take (F (tk (Int.toNat 0 + (0 : Nat)) - (5 : Int) + x % (tk (((↑n : Int) - (1 : Int)).toNat + (0 : Nat)) - tk (Int.toNat 0 + (0 : Nat)) + (10 : Int)))).length (List.drop (0 : Nat) (F (tk (Int.toNat 0 + (0 : Nat)) - (5 : Int) + x % (tk (((↑n : Int) - (1 : Int)).toNat + (0 : Nat)) - tk (Int.toNat 0 + (0 : Nat)) + (10 : Int)))))).length : Int))) (.ok (.ret (.bl false) [])) (.br (decide ((0 : Int) < (↑A.n : Int))) (.br (ix ((0 : Int)) ((↑A.n : Int))) (.br (ix ((0 : Int)) ((↑(List.take (S (tk (Int.toNat 0 + (0 : Nat)) - (5 : Int) + x % (tk (((↑n : Int) - (1 : Int)).toNat + (0 : Nat)) - tk (Int.toNat 0 + (0 : Nat)) + (10 : Int)))).length (List.drop (0 : Nat) (S (tk (Int.toNat 0 + (0 : Nat)) - (5 : Int) + x % (tk (((↑n : Int) - (1 : Int)).toNat + (0 : Nat)) - tk (Int.toNat 0 + (0 : Nat)) + (10 : Int)))))).length : Int))) (.br (decide ((0 : Int) < rcmp (rabs ((List.take (S (tk (Int.toNat 0 + (0 : Nat)) - (5 : Int) + x % (tk (((↑n : Int) - (1 : Int)).toNat + (0 : Nat)) - tk (Int.toNat 0 + (0 : Nat)) + (10 : Int)))).length (List.drop (0 : Nat) (S (tk (Int.toNat 0 + (0 : Nat)) - (5 : Int) + x % (tk (((↑n : Int) - (1 : Int)).toNat + (0 : Nat)) - tk (Int.toNat 0 + (0 : Nat)) + (10 : Int)))))).getD (Int.toNat 0) (0 : Rat))) (A.lk (Int.toNat 0 + (0 : Nat))).spd)) (.ok (.ret (.bl false) [])) (.br (decide ((0 : Int) + (1 : Int) < (↑A.n : Int))) (.br (ix ((0 : Int) + (1 : Int)) ((↑A.n : Int))) (.br (ix ((0 : Int) + (1 : Int)) ((↑(List.take (S (tk (Int.toNat 0 + (0 : Nat)) - (5 : Int) + x % (tk (((↑n : Int) - (1 : Int)).toNat + (0 : Nat)) - tk (Int.toNat 0 + (0 : Nat)) + (10 : Int)))).length (List.drop (0 : Nat) (S (tk (Int.toNat 0 + (0 : Nat)) - (5 : Int) + x % (tk (((↑n : Int) - (1 : Int)).toNat + (0 : Nat)) - tk (Int.toNat 0 + (0 : Nat)) + (10 : Int)))))).length : Int))) (.br (decide ((0 : Int) < rcmp (rabs ((List.take (S (tk (Int.toNat 0 + (0 : Nat)) - (5 : Int) + x % (tk (((↑n : Int) - (1 : Int)).toNat + (0 : Nat)) - tk (Int.toNat 0 + (0 : Nat)) + (10 : Int)))).length (List.drop (0 : Nat) (S (tk (Int.toNat 0 + (0 : Nat)) - (5 : Int) + x % (tk (((↑n : Int) - (1 : Int)).toNat + (0 : Nat)) - tk (Int.toNat 0 + (0 : Nat)) + (10 : Int)))))).getD ((0 : Int) + (1 : Int)).toNat (0 : Rat))) (A.lk (((0 : Int) + (1 : Int)).toNat + (0 : Nat))).spd)) (.ok (.ret (.bl false) [])) (.br (decide ((0 : Int) + (1 : Int) + (1 : Int) < (↑A.n : Int))) (.br (ix ((0 : Int) + (1 : Int) + (1 : Int)) ((↑A.n : Int))) (.br (ix ((0 : Int) + (1 : Int) + (1 : Int)) ((↑(List.take (S (tk (Int.toNat 0 + (0 : Nat)) - (5 : Int) + x % (tk (((↑n : Int) - (1 : Int)).toNat + (0 : Nat)) - tk (Int.toNat 0 + (0 : Nat)) + (10 : Int)))).length (List.drop (0 : Nat) (S (tk (Int.toNat 0 + (0 : Nat)) - (5 : Int) + x % (tk (((↑n : Int) - (1 : Int)).toNat + (0 : Nat)) - tk (Int.toNat 0 + (0 : Nat)) + (10 : Int)))))).length : Int))) (.br (decide ((0 : Int) < rcmp (rabs ((List.take (S (tk (Int.toNat 0 + (0 : Nat)) - (5 : Int) + x % (tk (((↑n : Int) - (1 : Int)).toNat + (0 : Nat)) - tk (Int.toNat 0 + (0 : Nat)) + (10 : Int)))).length (List.drop (0 : Nat) (S (tk (Int.toNat 0 + (0 : Nat)) - (5 : Int) + x % (tk (((↑n : Int) - (1 : Int)).toNat + (0 : Nat)) - tk (Int.toNat 0 + (0 : Nat)) + (10 : Int)))))).getD ((0 : Int) + (1 : Int) + (1 : Int)).toNat (0 : Rat))) (A.lk (((0 : Int) + (1 : Int) + (1 : Int)).toNat + (0 : Nat))).spd)) (.ok (.ret (.bl false) [])) (.br (decide ((0 : Int) + (1 : Int) + (1 : Int) + (1 : Int) < (↑A.n : Int))) (.br (ix ((0 : Int) + (1 : Int) + (1 : Int) + (1 : Int)) ((↑A.n : Int))) (.br (ix ((0 : Int) + (1 : Int) + (1 : Int) + (1 : Int)) ((↑(List.take (S (tk (Int.toNat 0 + (0 : Nat)) - (5 : Int) + x % (tk (((↑n : Int) - (1 : Int)).toNat + (0 : Nat)) - tk (Int.toNat 0 + (0 : Nat)) + (10 : Int)))).length (List.drop (0 : Nat) (S (tk (Int.toNat 0 + (0 : Nat)) - (5 : Int) + x % (tk (((↑n : Int) - (1 : Int)).toNat + (0 : Nat)) - tk (Int.toNat 0 + (0 : Nat)) + (10 : Int)))))).length : Int))) (.br (decide ((0 : Int) < rcmp (rabs ((List.take (S (tk (Int.toNat 0 + (0 : Nat)) - (5 : Int) + x % (tk (((↑n : Int) - (1 : Int)).toNat + (0 : Nat)) - tk (Int.toNat 0 + (0 : Nat)) + (10 : Int)))).length (List.drop (0 : Nat) (S (tk (Int.toNat 0 + (0 : Nat)) - (5 : Int) + x % (tk (((↑n : Int) - (1 : Int)).toNat + (0 : Nat)) - tk (Int.toNat 0 + (0 : Nat)) + (10 : Int)))))).getD ((0 : Int) + (1 : Int) + (1 : Int) + (1 : Int)).toNat (0 : Rat))) (A.lk (((0 : Int) + (1 : Int) + (1 : Int) + (1 : Int)).toNat + (0 : Nat))).spd)) (.ok (.ret (.bl false) [])) (.no 16)) (.no 15007)) (.no 14005)) (.ok (.ret (.bl true) [])))) (.no 15007)) (.no 14005)) (.ok (.ret (.bl true) [])))) (.no 15007)) (.no 14005)) (.ok (.ret (.bl true) [])))) (.no 15007)) (.no 14005)) (.ok (.ret (.bl true) [])))) (.ok (.ret (.bl false) []))) (.no 1)) (.no 9003)) (.no 1)) (.no 9006)) (.no 1)) (.no 8002)) (.no 1)) (.no 8004)) (.no 8005)) (.no 8008)) (.no 8012)) (.no 8013)) (.no 8018)) (.no 8021))) (.no 1)) (.no 5002)) (.no 1)) (.no 4003)) (.no 1)) (.no 1)).run := by kernel_rfl
def tksK (j : Nat) : Int := if j = 0 then 10 else 20
def tksQ (j : Nat) : List Rat := if j = 0 then [mkRat (0 : Int) (Int.toNat (1 : Int))] else [mkRat (1 : Int) (Int.toNat (1 : Int))]
theorem tksC : TrC 1 2 tksK tksQ where
  n1 := by decide
  n60 := by decide
  m1 := by decide
  m3 := by decide
  len := fun j hj => by unfold tksQ; split <;> rfl
  rng := fun j hj => by unfold tksK; split <;> omega
  inc := fun j hj => by obtain rfl : j = 0 := by omega
                        decide
theorem tksA : at17 1 2 tksK tksQ 15 = [mkRat (1 : Int) (Int.toNat (2 : Int))] := by kernel_rfl
theorem tks_le : VLe (PV.lst 2 (.vals [.agg [.i .i64 10, .lst 3 (.rats 64 [mkRat (0 : Int) (Int.toNat (1 : Int))])], .agg [.i .i64 20, .lst 3 (.rats 64 [mkRat (1 : Int) (Int.toNat (1 : Int))])]])) (trC 64 2 tksK tksQ) := by
  refine VLe.lst rfl fun i hi => ?_
  have hi' : i < 2 := hi
  match i, hi' with
  | 0, _ => exact .refl _
  | 1, _ => exact .refl _
  | i + 2, h => omega
include hG in
theorem pcTks (hT : TabG G) : PC Tryd.prog G 17 [] [] (.bl true) [] := by
  have p := pc17 hG hT 64 (by omega) tksC 15 (by omega) (by omega)
  rw [tksA] at p
  have hO : SpecOK Tryd.prog G 20 (vTks (fun a => VLe a (trC 64 2 tksK tksQ)) [mkRat (1 : Int) (Int.toNat (2 : Int))]) := by
    intro args hs K x hh
    unfold vTks at hh
    split at hh
    case h_2 => cases hh
    obtain ⟨hc, hr⟩ := Tr.of_br hh
    exact ⟨_, _, PC.args (.cons (decP_iff.1 hc) (.refl _)) p, hr⟩
  refine (evF_pc hG (.cons hO (.cons (ok23 hG) .nil)) mix enterTks (L := []) (pol := {}) (LpsOK.none (by kernel_rfl)) (r := .b true) (hs' := []) ?_).le (rle_b rfl) (.refl _)
  refine (eTks _ _).trans ?_
  repeat first | rw [Tr.run_t (by first | (simp only [Bool.and_eq_true, Bool.or_eq_true, decide_eq_true_eq, Nat.ble_eq, Nat.blt_eq, List.length_cons, List.length_nil, Bool.not_eq_true', decide_eq_false_iff_not]; omega) | exact decP_iff.2 tks_le | exact decP_iff.2 ⟨rfl, trivial⟩ | exact decP_iff.2 rfl | decide)] | rw [Tr.run_f (by first | (simp only [Bool.and_eq_false_iff, Bool.not_eq_false', decide_eq_true_eq, decide_eq_false_iff_not]; omega) | exact decP_iff.2 tks_le | decide)]
  rw [Tr.run_ok]
  rfl
include hG in
theorem pcTkm (A : Am) (hA : armB A = true) (hX : limX A = true) (m : PV) (hm : okW m = true) : PC Tryd.prog G 19 [armPV A, .w m] [] (.fr 2 (.fn (tkN m) (fun k => kyPV 64 (tkK A m k) (tkQ A m k)))) [] := pc16 hG A hA hX m hm
include hG in
theorem at1_tk (hT : TabG G) (w : Nat) (hw : w ≤ 9000) {m n : Nat} {tk : Nat → Int} {qs : Nat → List Rat} (h : TrC m n tk qs) : SpecOK Tryd.prog G 20 (at1 w n tk qs (at17 m n tk qs) (segW w)) :=
  at1_ok hG w n tk qs _ _ fun tick h0 h9 => pc17 hG hT w hw h tick h0 h9
include hG in
theorem sp1_tk (hT : TabG G) (w : Nat) (hw : w ≤ 9000) {m n : Nat} {tk : Nat → Int} {qs : Nat → List Rat} (h : TrC m n tk qs) : SpecOK Tryd.prog G 23 (sp1 w n tk qs (fun t => spdL (at17 m n tk qs t) (at17 m n tk qs (t + 1)) m) (segW w + segW w + 1)) := by
  intro args hs K x hh
  unfold sp1 at hh
  split at hh
  case h_2 => cases hh
  obtain ⟨hc, hr⟩ := Tr.of_br hh
  obtain ⟨rfl, h0, h1⟩ := decP_iff.1 hc
  exact ⟨_, _, pc20 hG hT w n m tk qs _ _ (by unfold segW; omega) h.m1 h.m3 (at_len h) (at1_tk hG hT w hw h) _ (by omega) (by omega), hr⟩
theorem mod_rng (x k : Int) (hk : 0 < k) : 0 ≤ x % k ∧ x % k < k := ⟨Int.emod_nonneg _ (by omega), Int.emod_lt_of_pos _ hk⟩
include hG in
theorem lawTL (hT : TabG G) (l m : PV) (x : Int) (hl : okW l = true) (hm : okW m = true) : PC Tryd.prog G 5 [.w l, .w m, .i .i64 x] [] (.bl true) [] := by
  have hA := armB_V l
  have hX := limX_V l
  have hL := armL_V l
  have p18 := p18_ok hG l hl
  generalize armD l = A at *
  have p19 := pcTkm hG A hA hX m hm
  have h := tkTrC hA m
  have hc := tk_ck hA hL m
  have p36 := pc58 hG hT A hA 64 (by omega) (tkN m) h.n1 h.n60 (tkK A m) (tkQ A m) h.len h.rng
  rw [hc] at p36
  have hfit := at_fit h (fun j _ => tkQ_fit hA m j)
  have hsp := at_speed h (fun j _ => slow_ok hL (tkQ_fit hA m j) (tkQ_fit hA m (j + 1)) (by have := tkK_s A m j; omega)) (fun j _ => by have := (hL j).2.2; grind)
  have pF := at1_tk hG hT 64 (by omega) h
  have pS := sp1_tk hG hT 64 (by omega) h
  have lF := at_len h
  have hn1 := h.n1
  have hn4 := (tkN_range m).2
  have r0 := tkK_le A m 0
  have r1 := tkK_le A m (tkN m - 1)
  have rm := h.mono (tkN m - 1) 0 (by omega)
  have lS : ∀ t, (spdL (at17 A.n (tkN m) (tkK A m) (tkQ A m) t) (at17 A.n (tkN m) (tkK A m) (tkQ A m) (t + 1)) A.n).length = A.n := fun t => spdL_len _ _ _
  have hsp' : ∀ t j, j < A.n → rabs ((spdL (at17 A.n (tkN m) (tkK A m) (tkQ A m) t) (at17 A.n (tkN m) (tkK A m) (tkQ A m) (t + 1)) A.n).getD j 0) ≤ (A.lk j).spd := fun t j hj => by
    unfold spdL
    rw [getD_map_range _ hj]
    exact hsp t j hj
  generalize hS : (fun t => spdL (at17 A.n (tkN m) (tkK A m) (tkQ A m) t) (at17 A.n (tkN m) (tkK A m) (tkQ A m) (t + 1)) A.n) = S at *
  have lS' : ∀ t, (S t).length = A.n := fun t => by rw [← hS]; exact lS t
  have hS' : ∀ t j, j < A.n → decide ((0 : Int) < rcmp (rabs ((S t).getD j 0)) (A.lk j).spd) = false := fun t j hj => by rw [← hS]; exact decide_eq_false (by rw [rcmp_gt]; exact Rat.not_lt.2 (hsp' t j hj))
  generalize at17 A.n (tkN m) (tkK A m) (tkQ A m) = F at *
  generalize tkN m = n at *
  generalize tkK A m = tk at *
  generalize tkQ A m = qs at *
  clear hsp hsp' lS hS h hc
  obtain ⟨h1, h2, h3, h4, h5, h6, h7⟩ := armB_c hA
  have oR : OrcOK Tryd.prog G RTL := .cons (gk27 hG hT) (.cons (gk28 hG hT) .nil)
  refine evF_pc hG (.cons (cst_t (pcTks hG hT)) (.cons (cst_t p18) (.cons (cst_t p19) (.cons pF (.cons pS (.cons (ok24 hG) (.cons (cst_t p36) (.cons (ck35 hG hT A hA) (.cons (gk27 hG hT) (.cons (gk28 hG hT) .nil)))))))))) mix enterTL (pol := polTL) (L := [(12, lTL)]) (lps1 (b := bTL) (live := [6, 11, 69, 70, 71]) (sp := lTL) (m := 0) (by kernel_rfl) (by kernel_rfl) (by kernel_rfl) (unr_ok hG oR mix (LpsOK.none (by kernel_rfl)) 4)) ?_
  refine (eTL l m x A n tk qs F S).trans ?_
  have e1 : ((n : Int) - 1).toNat = n - 1 := by omega
  simp only [List.drop_zero, List.take_length, Nat.add_zero, show Int.toNat (0 : Int) = 0 from rfl, e1]
  rw [Nat.zero_add] at rm
  have r1' : tk (n - 1) ≤ 210 := by omega
  have hx := mod_rng x (tk (n - 1) - tk 0 + 10) (by omega)
  generalize x % (tk (n - 1) - tk 0 + 10) = y at *
  generalize hTT : tk 0 - 5 + y = T at *
  have hF1 := lF T
  have hS1 := lS' T
  simp only [hF1, hS1]
  have hcs : A.n = 1 ∨ A.n = 2 ∨ A.n = 3 := by omega
  rcases hcs with hn | hn | hn
  · have s0 := hS' T 0 (by omega)
    repeat first | rw [Tr.run_t (by first | (simp only [Bool.and_eq_true, Bool.or_eq_true, decide_eq_true_eq, Nat.ble_eq, Nat.blt_eq, List.length_cons, List.length_nil, Bool.not_eq_true', decide_eq_false_iff_not]; omega) | exact decP_iff.2 ⟨rfl, by omega, by omega⟩ | exact decP_iff.2 ⟨rfl, hF1, by omega⟩ | exact hfit T | exact s0 | exact decP_iff.2 ⟨rfl, trivial⟩ | exact decP_iff.2 rfl | decide)] | rw [Tr.run_f (by first | (simp only [Bool.and_eq_false_iff, Bool.not_eq_false', decide_eq_true_eq, decide_eq_false_iff_not]; omega) | exact decP_iff.2 ⟨rfl, by omega, by omega⟩ | exact decP_iff.2 ⟨rfl, hF1, by omega⟩ | exact hfit T | exact s0 | decide)]
    rw [Tr.run_ok]
  · have s0 := hS' T 0 (by omega)
    have s1 := hS' T 1 (by omega)
    repeat first | rw [Tr.run_t (by first | (simp only [Bool.and_eq_true, Bool.or_eq_true, decide_eq_true_eq, Nat.ble_eq, Nat.blt_eq, List.length_cons, List.length_nil, Bool.not_eq_true', decide_eq_false_iff_not]; omega) | exact decP_iff.2 ⟨rfl, by omega, by omega⟩ | exact decP_iff.2 ⟨rfl, hF1, by omega⟩ | exact hfit T | exact s0 | exact s1 | exact decP_iff.2 ⟨rfl, trivial⟩ | exact decP_iff.2 rfl | decide)] | rw [Tr.run_f (by first | (simp only [Bool.and_eq_false_iff, Bool.not_eq_false', decide_eq_true_eq, decide_eq_false_iff_not]; omega) | exact decP_iff.2 ⟨rfl, by omega, by omega⟩ | exact decP_iff.2 ⟨rfl, hF1, by omega⟩ | exact hfit T | exact s0 | exact s1 | decide)]
    rw [Tr.run_ok]
  · have s0 := hS' T 0 (by omega)
    have s1 := hS' T 1 (by omega)
    have s2 := hS' T 2 (by omega)
    repeat first | rw [Tr.run_t (by first | (simp only [Bool.and_eq_true, Bool.or_eq_true, decide_eq_true_eq, Nat.ble_eq, Nat.blt_eq, List.length_cons, List.length_nil, Bool.not_eq_true', decide_eq_false_iff_not]; omega) | exact decP_iff.2 ⟨rfl, by omega, by omega⟩ | exact decP_iff.2 ⟨rfl, hF1, by omega⟩ | exact hfit T | exact s0 | exact s1 | exact s2 | exact decP_iff.2 ⟨rfl, trivial⟩ | exact decP_iff.2 rfl | decide)] | rw [Tr.run_f (by first | (simp only [Bool.and_eq_false_iff, Bool.not_eq_false', decide_eq_true_eq, decide_eq_false_iff_not]; omega) | exact decP_iff.2 ⟨rfl, by omega, by omega⟩ | exact decP_iff.2 ⟨rfl, hF1, by omega⟩ | exact hfit T | exact s0 | exact s1 | exact s2 | decide)]
    rw [Tr.run_ok]
end Go.Proofs.YtgaokohhkdeomaaDoor.PE
namespace Go.Proofs.YtgaokohhkdeomaaDoor.PE
open Go
theorem calls_of_does {P : Program} {g : Nat} {fn : Func} {c : Code} (hg : Enters P g fn c) {vs : Array Value} {w : World} {R : Value → World → Prop} (h : Does P g vs w R) : Calls P g vs w fun e w' => ∃ v, e = .returned v ∧ R v w' := by
  have h1 := h { dst := some 0, op := .move (.const undef), type := 0, pos := "", after := #[], guard := none } ⟨#[undef], []⟩ (fun a w' => ∃ v, a.tmps[0]? = some v ∧ R v w') (fun _ _ _ => False) (fun v w' hv => ⟨v, by simp [Act.put], hv⟩)
  have : (callFunc g vs).run P w = .ok (.enter g vs) w := by
    have hname : fn.name ≠ "runtime.NumGoroutine" := by simpa using hg.name
    simp [callFunc, hg.at_, hname, hg.body]
  rw [this, Oper.upon_enter] at h1
  refine h1.mono fun e w' he => ?_
  cases e with
  | returned v =>
    obtain ⟨v', hv, hr⟩ := he
    simp [Act.put] at hv
    subst hv
    exact ⟨v, rfl, hr⟩
  | panicked chain => exact absurd he (by simp)
  | outgrown => exact absurd he (by simp [LetsOut])
theorem HRel.none (w : World) : HRel w (fun _ => False) noMu (hget (([] : List Blk).map some)) :=
  ⟨fun b k h => by simp [hget] at h, fun b k a z h => by simp [hget] at h, fun b b' k k' a z z' h => by simp [hget] at h, fun a h => h.elim⟩
theorem keptBut_of_old {w w' : World} (h1 : w'.os = w.os) (h2 : w'.output = w.output) (h3 : ∀ n, n < w.heap.size → w'.heap[n]? = w.heap[n]?) (may : MemPlace → Prop) : w.keptBut w' may := by
  refine ⟨h1, h2, fun i hi => ?_⟩
  rw [h3 i hi]
  split
  · rename_i e1 e2
    rw [e1] at e2
    cases e2
    exact ⟨rfl, rfl, rfl, fun _ _ => rfl⟩
  · rename_i e1 e2
    rw [e1] at e2
    cases e2
    exact .inr ⟨rfl, rfl⟩
  · rfl
end Go.Proofs.YtgaokohhkdeomaaDoor.PE
namespace Go.Proofs.YtgaokohhkdeomaaDoor.PE
open Go Go.ChangeShapes Go.WideShapes
set_option maxRecDepth 100000
def blkOf : Value → Nat → Prop
  | .slice (some a) _ _, b => b = a.block
  | _, _ => False
section
variable {H : Type} {enc : TypeId × Value → H} {P : Program} {w : World} {t e : TypeId} {base : Nat} {v : Value} {d : DataW H} {p : List MemPlace}
theorem arg_ints (ht : P.underlying t = some (.slice e)) (he : P.underlying e = some (.int .i64)) (hc : P.cellsOf e = 1)
    (hval : Value.okWide P w .any base t v) (h : DataW.Trod enc P w 0 (fun _ => true) true t v d p) :
    ∃ u : PV, okW u = true ∧ (∀ n ∈ intsW u, -9223372036854775808 ≤ n ∧ n ≤ 9223372036854775807) ∧ (∀ b, blkOf v b → b < w.heap.size) ∧ (∀ S : Nat → Prop, (∀ b, blkOf v b → S b) → RepV w S noMu (.w u) v) ∧
      (∀ w' : World, (∀ n, n < w.heap.size → w'.heap[n]? = w.heap[n]?) → ∃ p', DataW.Trod enc P w' 0 (fun b => decide (b < w.heap.size)) true t v d p') ∧
      ((intsW u = [] ∧ d = .nil) ∨ ∃ sp, d = .slice (lits .i64 (intsW u)) sp) := by
  have hval' := hval
  obtain ⟨a0, len, cap, rfl⟩ := okWide_slice ht hval
  obtain ⟨fuel, hf⟩ := h
  rcases open_ints ht he hc hf with ⟨hcs, hx⟩ | ⟨a, len', cap', zs, hcs, _, hl, hm, hz, hx, hcell, hwz⟩
  · simp [Value.cells] at hcs
    obtain ⟨rfl, rfl, rfl⟩ := hcs
    simp only [Prod.mk.injEq] at hx
    obtain ⟨rfl, rfl⟩ := hx
    refine ⟨.nil, rfl, fun n hn => (nomatch hn), fun b hb => hb.elim, fun S _ => .cell _ _ _ rfl (.w _ _ _ (.nil _)), fun w' _ => ⟨[], RowKit.shut_slice_nil ht⟩, .inl ⟨rfl, rfl⟩⟩
  · simp [Value.cells] at hcs
    obtain ⟨rfl, rfl, rfl⟩ := hcs
    simp only [Prod.mk.injEq] at hx
    obtain ⟨rfl, rfl⟩ := hx
    simp only [if_true] at hz
    unfold Value.okWide at hval'
    rw [ht] at hval'
    simp only [Cell.okWide, Cell.ok, ht] at hval'
    obtain ⟨_, _, _, hsp, row, cells, hsh, _⟩ := hval'
    obtain ⟨b, off, spot⟩ := a
    simp only at hsp
    subst hsp
    have hb : b < w.heap.size := by
      unfold World.shape? at hsh
      split at hsh
      · rename_i hh; exact (Array.getElem?_eq_some_iff.1 hh).1
      · cases hsh
    have hcell' : ∀ j, j < zs.length → w.cell? ⟨b, off + j, none⟩ = some (.int .i64 (zs.getD j 0)) := fun j hj => by rw [← add_plain]; exact hcell j hj
    have hlen : (zs.take len).length = len := by rw [List.length_take]; omega
    refine ⟨.lst 1 (.ints .i64 (zs.take len)), rfl, fun n hn => bounds_i64 (hwz n (List.mem_of_mem_take hn)), fun c hc => (by rw [show c = b from hc]; exact hb), fun S hS => ?_, fun w' hw' => ?_, .inr ⟨_, rfl⟩⟩
    · refine .cell _ _ _ rfl (.w _ _ _ ?_)
      have := RepC.lst (w := w) (S := S) noMu 1 (.ints .i64 (zs.take len)) b off cap (fun j => [.int .i64 ((zs.take len).getD j 0)]) (by show (zs.take len).length ≤ cap; omega) (hS b rfl)
        (fun i hi => .i _ _ _) (fun _ _ => rfl) (fun i j hi hj => by
          have hi' : i < len := by rw [← hlen]; exact hi
          obtain rfl : j = 0 := by omega
          show w.cell? ⟨b, off + (i * 1 + 0), none⟩ = _
          rw [Nat.mul_one, Nat.add_zero, hcell' i (by omega)]
          simp [List.getD_eq_getElem?_getD, hi'])
      rw [show (Cont.ints .i64 (zs.take len)).len = len from hlen] at this
      exact this
    · have hd : decide (b < w.heap.size) = true := decide_eq_true hb
      exact ⟨_, 2, shut_ints' (enc := enc) (w := w') (base := 0) (spare := fun b => decide (b < w.heap.size)) (held := true) (len := len) (cap := cap) (zs := zs) 0 ht he hc
        (Nat.zero_le b) hl hm (by simp only [hd, if_true]; exact hz) (fun i hi => by rw [cell_block (hw' b hb)]; exact hcell' i hi) hwz⟩
end
end Go.Proofs.YtgaokohhkdeomaaDoor.PE
namespace Go.Proofs.YtgaokohhkdeomaaDoor.PE
open Go
set_option maxRecDepth 100000
theorem calls_trueG {P : Program} {G : World → (Nat → Prop) → Prop} {g : Nat} {fn : Func} {c : Code} (hg : Enters P g fn c) {args : List PV} (h : PC P G g args [] (.bl true) []) {w : World} {S : Nat → Prop} {vs : List Value} (hw : G w S) (hS : ∀ a, S a → a < w.heap.size)
    (hv : RepVL w S noMu args vs) (may : MemPlace → Prop) :
    Calls P g vs.toArray w fun e w' => e = .returned (.bool true) ∧ w.keptBut w' may ∧ ∀ n, n < w.heap.size → w'.heap[n]? = w.heap[n]? := by
  refine (calls_of_does hg (h w S noMu vs hw hv ⟨fun b k h => by simp [hget] at h, fun b k a z h => by simp [hget] at h, fun b b' k k' a z z' h => by simp [hget] at h, hS⟩ (fun _ _ => rfl))).mono fun e w' he => ?_
  obtain ⟨v, rfl, S', μ', c⟩ := he
  have hr := c.rep
  have : v = .bool true := by
    cases hr with
    | cell _ _ _ _ h => cases h; rfl
    | agg _ _ _ hv h => simp [isAgg, unfr, unfrA, unfr1] at hv
  subst this
  have old : ∀ n, n < w.heap.size → w'.heap[n]? = w.heap[n]? := fun n hn => c.old n hn (fun b z hb => by simp at hb)
  exact ⟨rfl, keptBut_of_old c.os c.output old may, old⟩
def TG (w : World) (S : Nat → Prop) : Prop := S 1 ∧ Go.Proofs.TabAt 1 Go.Lib.deBruijn64tab w
theorem tg_ok : GOk TG := fun _ _ _ _ m h => ⟨m.sub 1 h.1, fun j hj => (m.cell 1 h.1 j).trans (h.2 j hj)⟩
theorem tg_tab : TabG TG := fun _ _ h => h.2
theorem tab_block {w : World} (h : Go.Proofs.TabAt 1 Go.Lib.deBruijn64tab w) : 1 < w.heap.size := by
  have h0 := h 0 (by decide)
  rcases Nat.lt_or_ge 1 w.heap.size with h1 | h1
  · exact h1
  · unfold World.cell? at h0
    rw [show w.heap[(⟨1, 0, none⟩ : Addr).block]? = none from Array.getElem?_eq_none h1] at h0
    cases h0
theorem tab_of_laid {laid : List (String × DataW Unit)} {W : World} (hl : laid = [("math/bits.deBruijn64tab", Go.Lib.tabData .u8 (Go.Lib.deBruijn64tab.map fun n : Nat => (n : Int)))]) (h : laidMetH Tryd.prog laid W) : Go.Proofs.TabAt 1 Go.Lib.deBruijn64tab W := by
  subst hl
  have h1 : laidMet Tryd.prog [("math/bits.deBruijn64tab", Go.Lib.tabData .u8 (Go.Lib.deBruijn64tab.map fun n : Nat => (n : Int)))] W := h
  have h2 := Go.Lib.tabIs_of_head (g := 1) (t := 203) (e := 5) (n := 64) (by kernel_rfl) (by kernel_rfl) (by kernel_rfl) (by kernel_rfl) (by kernel_rfl) (by kernel_rfl) h1
  intro j hj
  have h3 := h2.cell (g := 1) (by kernel_rfl) j (by rw [List.length_map]; exact hj)
  rw [h3, List.getD_eq_getElem?_getD, List.getD_eq_getElem?_getD, List.getElem?_map, List.getElem?_eq_getElem hj]
  rfl
end Go.Proofs.YtgaokohhkdeomaaDoor.PE
