/-
  Part 6 of the proof: contracts of the program's functions. Conditions: those of the theorems below.
-/
import Derived.Test.YtgaokohhkdeomaaDoorDelays5
import Derived.Test.YtgaokohhkdeomaaDoorDelays2
import Derived.RowKit3
import GoSem.ClaimChange
import Derived.ChangeSlices
import Derived.WideShapes
import Derived.OpenShut
import Derived.Test.YtgaokohhkdeomaaDoorDelays3
import Derived.Lib.LaidTab
set_option linter.all false
namespace Go.Proofs.YtgaokohhkdeomaaDoor.PE
open Go
set_option maxRecDepth 100000
variable {G : World → (Nat → Prop) → Prop} (hG : GOk G)
theorem enterCl : Enters Tryd.prog 111 Tryd.f111 (bodyC Tryd.f111) := ⟨Tryd.func111, by kernel_rfl, rfl⟩
noncomputable def bCl : Code := (loopsOf (bodyC Tryd.f111)).getD 0 .skip
def polCl : Pol := { live := [(3, [3, 6, 7, 8])] }
noncomputable def RCl : Orc := [(80, c70)]
noncomputable def lCl : LSpec := unr Tryd.prog RCl [] polCl Tryd.f111.ntmps 0 [3, 6, 7, 8] bCl 5
theorem eCl (w n : Nat) (tk : Nat → Int) (qs : Nat → List Rat) : (evF Tryd.prog RCl [(3, lCl)] polCl Tryd.f111 [trC w n tk qs] [] retK).run =
  (Tr.br (decide ((0 : Int) < (↑n : Int))) (.br (ix ((0 : Int)) ((↑n : Int))) (.br (Nat.ble 1 (qs (0 : Nat)).length && (qs (0 : Nat)).length.ble 1000 && w.ble 10000) (.br (((0 : Nat) + (qs (0 : Nat)).length).ble (qs (0 : Nat)).length) (.br (Nat.blt (0 : Nat) [PV.agg [PV.i .i64 (tk (0 : Nat)), PV.lst 3 (.rats (w + (65 : Nat)) (List.take (qs (0 : Nat)).length (List.drop (0 : Nat) (qs (0 : Nat)))))]].length && [PV.agg [PV.i .i64 (tk (0 : Nat)), PV.lst 3 (.rats (w + (65 : Nat)) (List.take (qs (0 : Nat)).length (List.drop (0 : Nat) (qs (0 : Nat)))))]].length.ble 4294967296) (.br (decide ((1 : Int) < (↑n : Int))) (.br (ix ((1 : Int)) ((↑n : Int))) (.br (Nat.ble 1 (qs (1 : Nat)).length && (qs (1 : Nat)).length.ble 1000 && w.ble 10000) (.br (((0 : Nat) + (qs (1 : Nat)).length).ble (qs (1 : Nat)).length) (.br (([PV.agg [PV.i .i64 (tk (0 : Nat)), PV.lst 3 (.rats (w + (65 : Nat)) (List.take (qs (0 : Nat)).length (List.drop (0 : Nat) (qs (0 : Nat)))))]].length + [PV.agg [PV.i .i64 (tk (1 : Nat)), PV.lst 3 (.rats (w + (65 : Nat)) (List.take (qs (1 : Nat)).length (List.drop (0 : Nat) (qs (1 : Nat)))))]].length).ble 4294967296) (.br (decide ((2 : Int) < (↑n : Int))) (.br (ix ((2 : Int)) ((↑n : Int))) (.br (Nat.ble 1 (qs (2 : Nat)).length && (qs (2 : Nat)).length.ble 1000 && w.ble 10000) (.br (((0 : Nat) + (qs (2 : Nat)).length).ble (qs (2 : Nat)).length) (.br (([PV.agg [PV.i .i64 (tk (0 : Nat)), PV.lst 3 (.rats (w + (65 : Nat)) (List.take (qs (0 : Nat)).length (List.drop (0 : Nat) (qs (0 : Nat)))))]].length + [PV.agg [PV.i .i64 (tk (1 : Nat)), PV.lst 3 (.rats (w + (65 : Nat)) (List.take (qs (1 : Nat)).length (List.drop (0 : Nat) (qs (1 : Nat)))))]].length + [PV.agg [PV.i .i64 (tk (2 : Nat)), PV.lst 3 (.rats (w + (65 : Nat)) (List.take (qs (2 : Nat)).length (List.drop (0 : Nat) (qs (2 : Nat)))))]].length).ble 4294967296) (.br (decide ((3 : Int) < (↑n : Int))) (.br (ix ((3 : Int)) ((↑n : Int))) (.br (Nat.ble 1 (qs (3 : Nat)).length && (qs (3 : Nat)).length.ble 1000 && w.ble 10000) (.br (((0 : Nat) + (qs (3 : Nat)).length).ble (qs (3 : Nat)).length) (.br (([PV.agg [PV.i .i64 (tk (0 : Nat)), PV.lst 3 (.rats (w + (65 : Nat)) (List.take (qs (0 : Nat)).length (List.drop (0 : Nat) (qs (0 : Nat)))))]].length + [PV.agg [PV.i .i64 (tk (1 : Nat)), PV.lst 3 (.rats (w + (65 : Nat)) (List.take (qs (1 : Nat)).length (List.drop (0 : Nat) (qs (1 : Nat)))))]].length + [PV.agg [PV.i .i64 (tk (2 : Nat)), PV.lst 3 (.rats (w + (65 : Nat)) (List.take (qs (2 : Nat)).length (List.drop (0 : Nat) (qs (2 : Nat)))))]].length + [PV.agg [PV.i .i64 (tk (3 : Nat)), PV.lst 3 (.rats (w + (65 : Nat)) (List.take (qs (3 : Nat)).length (List.drop (0 : Nat) (qs (3 : Nat)))))]].length).ble 4294967296) (.br (decide ((4 : Int) < (↑n : Int))) (.br (ix ((4 : Int)) ((↑n : Int))) (.br (Nat.ble 1 (qs (4 : Nat)).length && (qs (4 : Nat)).length.ble 1000 && w.ble 10000) (.br (((0 : Nat) + (qs (4 : Nat)).length).ble (qs (4 : Nat)).length) (.br (([PV.agg [PV.i .i64 (tk (0 : Nat)), PV.lst 3 (.rats (w + (65 : Nat)) (List.take (qs (0 : Nat)).length (List.drop (0 : Nat) (qs (0 : Nat)))))]].length + [PV.agg [PV.i .i64 (tk (1 : Nat)), PV.lst 3 (.rats (w + (65 : Nat)) (List.take (qs (1 : Nat)).length (List.drop (0 : Nat) (qs (1 : Nat)))))]].length + [PV.agg [PV.i .i64 (tk (2 : Nat)), PV.lst 3 (.rats (w + (65 : Nat)) (List.take (qs (2 : Nat)).length (List.drop (0 : Nat) (qs (2 : Nat)))))]].length + [PV.agg [PV.i .i64 (tk (3 : Nat)), PV.lst 3 (.rats (w + (65 : Nat)) (List.take (qs (3 : Nat)).length (List.drop (0 : Nat) (qs (3 : Nat)))))]].length + [PV.agg [PV.i .i64 (tk (4 : Nat)), PV.lst 3 (.rats (w + (65 : Nat)) (List.take (qs (4 : Nat)).length (List.drop (0 : Nat) (qs (4 : Nat)))))]].length).ble 4294967296) (.no 16) (.no 6002)) (.no 6005)) (.no 1)) (.no 5004)) (.ok (.ret (PV.fr 2 (.vals [PV.agg [PV.i .i64 (tk (0 : Nat)), PV.lst 3 (.rats (w + (65 : Nat)) (List.take (qs (0 : Nat)).length (List.drop (0 : Nat) (qs (0 : Nat)))))], PV.agg [PV.i .i64 (tk (1 : Nat)), PV.lst 3 (.rats (w + (65 : Nat)) (List.take (qs (1 : Nat)).length (List.drop (0 : Nat) (qs (1 : Nat)))))], PV.agg [PV.i .i64 (tk (2 : Nat)), PV.lst 3 (.rats (w + (65 : Nat)) (List.take (qs (2 : Nat)).length (List.drop (0 : Nat) (qs (2 : Nat)))))], PV.agg [PV.i .i64 (tk (3 : Nat)), PV.lst 3 (.rats (w + (65 : Nat)) (List.take (qs (3 : Nat)).length (List.drop (0 : Nat) (qs (3 : Nat)))))]])) []))) (.no 6002)) (.no 6005)) (.no 1)) (.no 5004)) (.ok (.ret (PV.fr 2 (.vals [PV.agg [PV.i .i64 (tk (0 : Nat)), PV.lst 3 (.rats (w + (65 : Nat)) (List.take (qs (0 : Nat)).length (List.drop (0 : Nat) (qs (0 : Nat)))))], PV.agg [PV.i .i64 (tk (1 : Nat)), PV.lst 3 (.rats (w + (65 : Nat)) (List.take (qs (1 : Nat)).length (List.drop (0 : Nat) (qs (1 : Nat)))))], PV.agg [PV.i .i64 (tk (2 : Nat)), PV.lst 3 (.rats (w + (65 : Nat)) (List.take (qs (2 : Nat)).length (List.drop (0 : Nat) (qs (2 : Nat)))))]])) []))) (.no 6002)) (.no 6005)) (.no 1)) (.no 5004)) (.ok (.ret (PV.fr 2 (.vals [PV.agg [PV.i .i64 (tk (0 : Nat)), PV.lst 3 (.rats (w + (65 : Nat)) (List.take (qs (0 : Nat)).length (List.drop (0 : Nat) (qs (0 : Nat)))))], PV.agg [PV.i .i64 (tk (1 : Nat)), PV.lst 3 (.rats (w + (65 : Nat)) (List.take (qs (1 : Nat)).length (List.drop (0 : Nat) (qs (1 : Nat)))))]])) []))) (.no 6002)) (.no 6005)) (.no 1)) (.no 5004)) (.ok (.ret (PV.fr 2 (.vals [PV.agg [PV.i .i64 (tk (0 : Nat)), PV.lst 3 (.rats (w + (65 : Nat)) (List.take (qs (0 : Nat)).length (List.drop (0 : Nat) (qs (0 : Nat)))))]])) []))) (.no 6002)) (.no 6005)) (.no 1)) (.no 5004)) (.ok (.ret PV.nil []))).run := by kernel_rfl
include hG in
theorem pcClV (hT : TabG G) (w : Nat) (hw : w ≤ 9000) (n m : Nat) (h1 : 1 ≤ n) (h4 : n ≤ 4) (m1 : 1 ≤ m) (m3 : m ≤ 3) (tk : Nat → Int) (qs : Nat → List Rat) (hl : ∀ j, j < n → (qs j).length = m) :
    PC Tryd.prog G 111 [trC w n tk qs] [] (.fr 2 (.vals ((List.range n).map fun j => kyPV (w + 65) (tk j) (qs j)))) [] := by
  have oc : OrcOK Tryd.prog G RCl := .cons (ck70 hG hT) .nil
  refine evF_pc hG oc mix enterCl (O := RCl) (L := [(3, lCl)]) (pol := polCl) (lps1 (b := bCl) (live := [3, 6, 7, 8]) (sp := lCl) (m := 0) (by kernel_rfl) (by kernel_rfl) (by kernel_rfl) (unr_ok hG oc mix (LpsOK.none (by kernel_rfl)) 5)) ?_
  rw [eCl]
  simp only [List.drop_zero, List.take_length]
  have hcs : n = 1 ∨ n = 2 ∨ n = 3 ∨ n = 4 := by omega
  rcases hcs with rfl | rfl | rfl | rfl
  · have l0 := hl 0 (by omega)
    repeat first | rw [Tr.run_t (by first | (simp only [Bool.and_eq_true, Bool.or_eq_true, decide_eq_true_eq, Nat.ble_eq, Nat.blt_eq, List.length_cons, List.length_nil, Bool.not_eq_true', decide_eq_false_iff_not]; omega) | exact decP_iff.2 ⟨rfl, trivial⟩ | exact decP_iff.2 rfl | exact decide_eq_true rfl | decide)] | rw [Tr.run_f (by first | (simp only [Bool.and_eq_false_iff, Bool.not_eq_false', decide_eq_true_eq, decide_eq_false_iff_not]; omega) | exact congrArg (!·) (decide_eq_true rfl) | decide)]
    rfl
  · have l0 := hl 0 (by omega)
    have l1 := hl 1 (by omega)
    repeat first | rw [Tr.run_t (by first | (simp only [Bool.and_eq_true, Bool.or_eq_true, decide_eq_true_eq, Nat.ble_eq, Nat.blt_eq, List.length_cons, List.length_nil, Bool.not_eq_true', decide_eq_false_iff_not]; omega) | exact decP_iff.2 ⟨rfl, trivial⟩ | exact decP_iff.2 rfl | exact decide_eq_true rfl | decide)] | rw [Tr.run_f (by first | (simp only [Bool.and_eq_false_iff, Bool.not_eq_false', decide_eq_true_eq, decide_eq_false_iff_not]; omega) | exact congrArg (!·) (decide_eq_true rfl) | decide)]
    rfl
  · have l0 := hl 0 (by omega)
    have l1 := hl 1 (by omega)
    have l2 := hl 2 (by omega)
    repeat first | rw [Tr.run_t (by first | (simp only [Bool.and_eq_true, Bool.or_eq_true, decide_eq_true_eq, Nat.ble_eq, Nat.blt_eq, List.length_cons, List.length_nil, Bool.not_eq_true', decide_eq_false_iff_not]; omega) | exact decP_iff.2 ⟨rfl, trivial⟩ | exact decP_iff.2 rfl | exact decide_eq_true rfl | decide)] | rw [Tr.run_f (by first | (simp only [Bool.and_eq_false_iff, Bool.not_eq_false', decide_eq_true_eq, decide_eq_false_iff_not]; omega) | exact congrArg (!·) (decide_eq_true rfl) | decide)]
    rfl
  · have l0 := hl 0 (by omega)
    have l1 := hl 1 (by omega)
    have l2 := hl 2 (by omega)
    have l3 := hl 3 (by omega)
    repeat first | rw [Tr.run_t (by first | (simp only [Bool.and_eq_true, Bool.or_eq_true, decide_eq_true_eq, Nat.ble_eq, Nat.blt_eq, List.length_cons, List.length_nil, Bool.not_eq_true', decide_eq_false_iff_not]; omega) | exact decP_iff.2 ⟨rfl, trivial⟩ | exact decP_iff.2 rfl | exact decide_eq_true rfl | decide)] | rw [Tr.run_f (by first | (simp only [Bool.and_eq_false_iff, Bool.not_eq_false', decide_eq_true_eq, decide_eq_false_iff_not]; omega) | exact congrArg (!·) (decide_eq_true rfl) | decide)]
    rfl
theorem mapr_h (n : Nat) (f : Nat → PV) (hf : ∀ i, noRef 8 (f i) = true) : ∀ (i : Nat) (v : PV), ((List.range n).map f)[i]? = some v → noRef 8 v = true ∧ VLe v (f i) := fun i v hi => by
  rw [List.getElem?_map] at hi
  rcases Nat.lt_or_ge i n with g | g
  · rw [List.getElem?_range g] at hi
    obtain rfl := Option.some.inj hi
    exact ⟨hf i, .refl _⟩
  · rw [List.getElem?_eq_none (by simpa using g)] at hi
    cases hi
theorem enterDl : Enters Tryd.prog 61 Tryd.f61 (bodyC Tryd.f61) := ⟨Tryd.func61, by kernel_rfl, rfl⟩
noncomputable def bDl : Code := (loopsOf (bodyC Tryd.f61)).getD 0 .skip
def polDl : Pol := { live := [(10, [2, 9, 45, 46])], own := [43] }
noncomputable def ODl (A : Am) (w n : Nat) (tk : Nat → Int) (qs : Nat → List Rat) : Orc := [(36, cst [armPV A, trC w n tk qs] True (.i .i64 0)), (111, cst [trC w n tk qs] True (.fr 2 (.vals ((List.range n).map fun j => kyPV (w + 65) (tk j) (qs j)))))]
noncomputable def lDl : LSpec := unr Tryd.prog [] [] polDl Tryd.f61.ntmps 0 [2, 9, 45, 46] bDl 5
theorem eDl1 (A : Am) (w : Nat) (tk : Nat → Int) (qs : Nat → List Rat) (d : Int) : (evF Tryd.prog (ODl A w 1 tk qs) [(10, lDl)] polDl Tryd.f61 [armPV A, trC w 1 tk qs, .i .i64 d] [] retK).run =
  (Tr.br (decP (isA [armPV A, trC w 1 tk qs] True [armPV A, trC w 1 tk qs])) (.br (decide (d < (-2000 : Int))) (.ok (.ret (PV.tup [PV.nil, PV.i .i64 (1 : Int)]) [])) (.br (decide ((2000 : Int) < d)) (.ok (.ret (PV.tup [PV.nil, PV.i .i64 (1 : Int)]) [])) (.br (ib (tk (0 : Nat) + d)) (.br (decide (tk (0 : Nat) + d < (0 : Int))) (.ok (.ret (PV.tup [PV.nil, PV.i .i64 (1 : Int)]) [])) (.br (ib (tk (0 : Nat) + d)) (.br (decide ((2000 : Int) < tk (0 : Nat) + d)) (.ok (.ret (PV.tup [PV.nil, PV.i .i64 (19 : Int)]) [])) (.br (decP (isA [trC w 1 tk qs] True [trC w 1 tk qs])) (.br (ib (tk 0 + d)) (.ok (.ret (PV.tup [PV.fr 2 (.vals [PV.agg [PV.i .i64 (tk 0 + d), PV.lst 3 (.rats (w + (65 : Nat)) (qs 0))]]), PV.i .i64 (0 : Int)]) [])) (.no 13004)) (.no 1))) (.no 7002))) (.no 5003)))) (.no 1)).run := by kernel_rfl
theorem eDl2 (A : Am) (w : Nat) (tk : Nat → Int) (qs : Nat → List Rat) (d : Int) : (evF Tryd.prog (ODl A w 2 tk qs) [(10, lDl)] polDl Tryd.f61 [armPV A, trC w 2 tk qs, .i .i64 d] [] retK).run =
  (Tr.br (decP (isA [armPV A, trC w 2 tk qs] True [armPV A, trC w 2 tk qs])) (.br (decide (d < (-2000 : Int))) (.ok (.ret (PV.tup [PV.nil, PV.i .i64 (1 : Int)]) [])) (.br (decide ((2000 : Int) < d)) (.ok (.ret (PV.tup [PV.nil, PV.i .i64 (1 : Int)]) [])) (.br (ib (tk (0 : Nat) + d)) (.br (decide (tk (0 : Nat) + d < (0 : Int))) (.ok (.ret (PV.tup [PV.nil, PV.i .i64 (1 : Int)]) [])) (.br (ib (tk (1 : Nat) + d)) (.br (decide ((2000 : Int) < tk (1 : Nat) + d)) (.ok (.ret (PV.tup [PV.nil, PV.i .i64 (19 : Int)]) [])) (.br (decP (isA [trC w 2 tk qs] True [trC w 2 tk qs])) (.br (ib (tk 0 + d)) (.br (ib (tk 1 + d)) (.ok (.ret (PV.tup [PV.fr 2 (.vals [PV.agg [PV.i .i64 (tk 0 + d), PV.lst 3 (.rats (w + (65 : Nat)) (qs 0))], PV.agg [PV.i .i64 (tk 1 + d), PV.lst 3 (.rats (w + (65 : Nat)) (qs 1))]]), PV.i .i64 (0 : Int)]) [])) (.no 13004)) (.no 13004)) (.no 1))) (.no 7002))) (.no 5003)))) (.no 1)).run := by kernel_rfl
theorem eDl3 (A : Am) (w : Nat) (tk : Nat → Int) (qs : Nat → List Rat) (d : Int) : (evF Tryd.prog (ODl A w 3 tk qs) [(10, lDl)] polDl Tryd.f61 [armPV A, trC w 3 tk qs, .i .i64 d] [] retK).run =
  (Tr.br (decP (isA [armPV A, trC w 3 tk qs] True [armPV A, trC w 3 tk qs])) (.br (decide (d < (-2000 : Int))) (.ok (.ret (PV.tup [PV.nil, PV.i .i64 (1 : Int)]) [])) (.br (decide ((2000 : Int) < d)) (.ok (.ret (PV.tup [PV.nil, PV.i .i64 (1 : Int)]) [])) (.br (ib (tk (0 : Nat) + d)) (.br (decide (tk (0 : Nat) + d < (0 : Int))) (.ok (.ret (PV.tup [PV.nil, PV.i .i64 (1 : Int)]) [])) (.br (ib (tk (2 : Nat) + d)) (.br (decide ((2000 : Int) < tk (2 : Nat) + d)) (.ok (.ret (PV.tup [PV.nil, PV.i .i64 (19 : Int)]) [])) (.br (decP (isA [trC w 3 tk qs] True [trC w 3 tk qs])) (.br (ib (tk 0 + d)) (.br (ib (tk 1 + d)) (.br (ib (tk 2 + d)) (.ok (.ret (PV.tup [PV.fr 2 (.vals [PV.agg [PV.i .i64 (tk 0 + d), PV.lst 3 (.rats (w + (65 : Nat)) (qs 0))], PV.agg [PV.i .i64 (tk 1 + d), PV.lst 3 (.rats (w + (65 : Nat)) (qs 1))], PV.agg [PV.i .i64 (tk 2 + d), PV.lst 3 (.rats (w + (65 : Nat)) (qs 2))]]), PV.i .i64 (0 : Int)]) [])) (.no 13004)) (.no 13004)) (.no 13004)) (.no 1))) (.no 7002))) (.no 5003)))) (.no 1)).run := by kernel_rfl
theorem eDl4 (A : Am) (w : Nat) (tk : Nat → Int) (qs : Nat → List Rat) (d : Int) : (evF Tryd.prog (ODl A w 4 tk qs) [(10, lDl)] polDl Tryd.f61 [armPV A, trC w 4 tk qs, .i .i64 d] [] retK).run =
  (Tr.br (decP (isA [armPV A, trC w 4 tk qs] True [armPV A, trC w 4 tk qs])) (.br (decide (d < (-2000 : Int))) (.ok (.ret (PV.tup [PV.nil, PV.i .i64 (1 : Int)]) [])) (.br (decide ((2000 : Int) < d)) (.ok (.ret (PV.tup [PV.nil, PV.i .i64 (1 : Int)]) [])) (.br (ib (tk (0 : Nat) + d)) (.br (decide (tk (0 : Nat) + d < (0 : Int))) (.ok (.ret (PV.tup [PV.nil, PV.i .i64 (1 : Int)]) [])) (.br (ib (tk (3 : Nat) + d)) (.br (decide ((2000 : Int) < tk (3 : Nat) + d)) (.ok (.ret (PV.tup [PV.nil, PV.i .i64 (19 : Int)]) [])) (.br (decP (isA [trC w 4 tk qs] True [trC w 4 tk qs])) (.br (ib (tk 0 + d)) (.br (ib (tk 1 + d)) (.br (ib (tk 2 + d)) (.br (ib (tk 3 + d)) (.ok (.ret (PV.tup [PV.fr 2 (.vals [PV.agg [PV.i .i64 (tk 0 + d), PV.lst 3 (.rats (w + (65 : Nat)) (qs 0))], PV.agg [PV.i .i64 (tk 1 + d), PV.lst 3 (.rats (w + (65 : Nat)) (qs 1))], PV.agg [PV.i .i64 (tk 2 + d), PV.lst 3 (.rats (w + (65 : Nat)) (qs 2))], PV.agg [PV.i .i64 (tk 3 + d), PV.lst 3 (.rats (w + (65 : Nat)) (qs 3))]]), PV.i .i64 (0 : Int)]) [])) (.no 13004)) (.no 13004)) (.no 13004)) (.no 13004)) (.no 1))) (.no 7002))) (.no 5003)))) (.no 1)).run := by kernel_rfl
include hG in
theorem pcDl (hT : TabG G) (A : Am) (w : Nat) (hw : w ≤ 9000) (n m : Nat) (h1 : 1 ≤ n) (h4 : n ≤ 4) (m1 : 1 ≤ m) (m3 : m ≤ 3) (tk : Nat → Int) (qs : Nat → List Rat) (hl : ∀ j, j < n → (qs j).length = m) (d : Int) (d0 : -2000 ≤ d) (d1 : d ≤ 2000)
    (hc : PC Tryd.prog G 36 [armPV A, trC w n tk qs] [] (.i .i64 0) []) (hr : ∀ j, j < n → -50000 ≤ tk j ∧ tk j ≤ 50000) (h0 : 0 ≤ tk 0 + d) (h9 : tk (n - 1) + d ≤ 2000) :
    PC Tryd.prog G 61 [armPV A, trC w n tk qs, .i .i64 d] [] (.tup [.fr 2 (.fn n (fun j => kyPV (w + 65) (tk j + d) (qs j))), .i .i64 0]) [] := by
  have p := pcClV hG hT w hw n m h1 h4 m1 m3 tk qs hl
  refine (evF_pc (r := .tup [.fr 2 (.vals ((List.range n).map fun j => kyPV (w + 65) (tk j + d) (qs j))), .i .i64 0]) hG (.cons (cst_t hc) (.cons (cst_t p) .nil)) mix enterDl (O := ODl A w n tk qs) (L := [(10, lDl)]) (pol := polDl) (lps1 (b := bDl) (live := [2, 9, 45, 46]) (sp := lDl) (m := 0) (by kernel_rfl) (by kernel_rfl) (by kernel_rfl) (unr_ok hG .nil mix (LpsOK.none (by kernel_rfl)) 5)) ?_).le ?_ (.refl _)
  · have hcs : n = 1 ∨ n = 2 ∨ n = 3 ∨ n = 4 := by omega
    have r0 := hr 0 (by omega)
    rcases hcs with rfl | rfl | rfl | rfl
    · have h9' : tk 0 + d ≤ 2000 := h9
      rw [eDl1]
      repeat first | rw [Tr.run_t (by first | (simp only [Bool.and_eq_true, Bool.or_eq_true, decide_eq_true_eq, Nat.ble_eq, Nat.blt_eq, List.length_cons, List.length_nil, Bool.not_eq_true', decide_eq_false_iff_not]; omega) | exact decP_iff.2 ⟨rfl, trivial⟩ | exact decP_iff.2 rfl | exact decide_eq_true rfl | decide)] | rw [Tr.run_f (by first | (simp only [Bool.and_eq_false_iff, Bool.not_eq_false', decide_eq_true_eq, decide_eq_false_iff_not]; omega) | exact congrArg (!·) (decide_eq_true rfl) | decide)]
      rfl
    · have r1 := hr 1 (by omega)
      have h9' : tk 1 + d ≤ 2000 := h9
      rw [eDl2]
      repeat first | rw [Tr.run_t (by first | (simp only [Bool.and_eq_true, Bool.or_eq_true, decide_eq_true_eq, Nat.ble_eq, Nat.blt_eq, List.length_cons, List.length_nil, Bool.not_eq_true', decide_eq_false_iff_not]; omega) | exact decP_iff.2 ⟨rfl, trivial⟩ | exact decP_iff.2 rfl | exact decide_eq_true rfl | decide)] | rw [Tr.run_f (by first | (simp only [Bool.and_eq_false_iff, Bool.not_eq_false', decide_eq_true_eq, decide_eq_false_iff_not]; omega) | exact congrArg (!·) (decide_eq_true rfl) | decide)]
      rfl
    · have r1 := hr 1 (by omega)
      have r2 := hr 2 (by omega)
      have h9' : tk 2 + d ≤ 2000 := h9
      rw [eDl3]
      repeat first | rw [Tr.run_t (by first | (simp only [Bool.and_eq_true, Bool.or_eq_true, decide_eq_true_eq, Nat.ble_eq, Nat.blt_eq, List.length_cons, List.length_nil, Bool.not_eq_true', decide_eq_false_iff_not]; omega) | exact decP_iff.2 ⟨rfl, trivial⟩ | exact decP_iff.2 rfl | exact decide_eq_true rfl | decide)] | rw [Tr.run_f (by first | (simp only [Bool.and_eq_false_iff, Bool.not_eq_false', decide_eq_true_eq, decide_eq_false_iff_not]; omega) | exact congrArg (!·) (decide_eq_true rfl) | decide)]
      rfl
    · have r1 := hr 1 (by omega)
      have r2 := hr 2 (by omega)
      have r3 := hr 3 (by omega)
      have h9' : tk 3 + d ≤ 2000 := h9
      rw [eDl4]
      repeat first | rw [Tr.run_t (by first | (simp only [Bool.and_eq_true, Bool.or_eq_true, decide_eq_true_eq, Nat.ble_eq, Nat.blt_eq, List.length_cons, List.length_nil, Bool.not_eq_true', decide_eq_false_iff_not]; omega) | exact decP_iff.2 ⟨rfl, trivial⟩ | exact decP_iff.2 rfl | exact decide_eq_true rfl | decide)] | rw [Tr.run_f (by first | (simp only [Bool.and_eq_false_iff, Bool.not_eq_false', decide_eq_true_eq, decide_eq_false_iff_not]; omega) | exact congrArg (!·) (decide_eq_true rfl) | decide)]
      rfl
  · exact frs_le0 2 n _ _ (by simp) (mapr_h n _ fun _ => rfl)
theorem enterKeq : Enters Tryd.prog 63 Tryd.f63 (bodyC Tryd.f63) := ⟨Tryd.func63, by kernel_rfl, rfl⟩
def Pkeq (t u : Int) (p q : List Rat) : Prop := t = u ∧ p = q ∧ p.length ≤ 1000
noncomputable def vKeq : Spec := fun args hs K => match args, hs with
  | [.agg [.i .i64 t, .lst 3 (.rats w p)], .agg [.i .i64 u, .lst 3 (.rats v q)]], [] => .br (decP (Pkeq t u p q)) (K (.bl true) []) (.no 1)
  | _, _ => .no 1
theorem eKeq (w v : Nat) (t u : Int) (p q : List Rat) : (evF Tryd.prog [(22, c19)] [] {} Tryd.f63 [kyPV w t p, kyPV v u q] [] retK).run =
  (Tr.br (decide (t = u)) (.br (p.length.ble q.length && q.length.ble p.length && p.length.ble 1000) (.br (decide (p = q)) (.ok (.ret (PV.bl true) [])) (.ok (.ret (PV.bl false) []))) (.no 1)) (.ok (.ret (PV.bl false) []))).run := by kernel_rfl
include hG in
theorem vKeq_ok : SpecOK Tryd.prog G 63 vKeq := by
  intro args hs K x hh
  unfold vKeq at hh
  split at hh
  case h_2 => cases hh
  rename_i t w p u v q
  obtain ⟨hc, hr⟩ := Tr.of_br hh
  obtain ⟨rfl, rfl, hp⟩ := decP_iff.1 hc
  refine ⟨_, _, evF_pc hG (.cons (ck19 hG) .nil) mix enterKeq (L := []) (pol := {}) (LpsOK.none (by kernel_rfl)) ?_, hr⟩
  refine (eKeq w v t t p p).trans ?_
  repeat first | rw [Tr.run_t (by first | (simp only [Bool.and_eq_true, Bool.or_eq_true, decide_eq_true_eq, Nat.ble_eq, Nat.blt_eq, List.length_cons, List.length_nil, Bool.not_eq_true', decide_eq_false_iff_not]; omega) | exact decP_iff.2 ⟨rfl, trivial⟩ | exact decP_iff.2 rfl | exact decide_eq_true rfl | decide)] | rw [Tr.run_f (by first | (simp only [Bool.and_eq_false_iff, Bool.not_eq_false', decide_eq_true_eq, decide_eq_false_iff_not]; omega) | exact congrArg (!·) (decide_eq_true rfl) | decide)]
  rw [Tr.run_ok]
theorem enterTeq : Enters Tryd.prog 62 Tryd.f62 (bodyC Tryd.f62) := ⟨Tryd.func62, by kernel_rfl, rfl⟩
noncomputable def bTeq : Code := (loopsOf (bodyC Tryd.f62)).getD 0 .skip
def polTeq : Pol := { live := [(4, [1, 2, 6, 15, 16, 17])] }
noncomputable def RTeq : Orc := [(63, vKeq)]
def sTeq (w v n : Nat) (tk uk : Nat → Int) (qs ps : Nat → List Rat) (i : Int) : LS := ⟨[trC v n uk ps, .clo 63 [], .bl false, trC w n tk qs, .i .i64 n, .i .i64 i], []⟩
theorem tTeq (w v n : Nat) (tk uk : Nat → Int) (qs ps : Nat → List Rat) (i : Int) : (evRound Tryd.prog RTeq [] polTeq Tryd.f62.ntmps 0 [1, 2, 6, 15, 16, 17] bTeq (sTeq w v n tk uk qs ps i)).run =
  (Tr.br (decide (i < (↑n : Int))) (.br (ix (i) ((↑n : Int))) (.br (ix (i) ((↑n : Int))) (.br (decP (Pkeq (tk i.toNat) (uk i.toNat) (qs i.toNat) (ps i.toNat))) (.br (ib (i + (1 : Int))) (.ok (.out .normal (LS.mk [trC v n uk ps, PV.clo 63 [], PV.bl false, trC w n tk qs, PV.i .i64 (↑n : Int), PV.i .i64 (i + (1 : Int))] []))) (.no 10002)) (.no 1)) (.no 7004)) (.no 6005)) (.ok (.out (.exit 0) (LS.mk [trC v n uk ps, PV.clo 63 [], PV.bl false, trC w n tk qs, PV.i .i64 (↑n : Int), PV.i .i64 i] [])))).run := by kernel_rfl
theorem eTeq (w v n : Nat) (tk uk : Nat → Int) (qs ps : Nat → List Rat) : (evF Tryd.prog RTeq [(4, lcst (sTeq w v n tk uk qs ps 0) (.exit 0) (sTeq w v n tk uk qs ps n))] polTeq Tryd.f62 [trC w n tk qs, trC v n uk ps, .clo 63 []] [] retK).run =
  (Tr.br (!decide ((↑n : Int) = (↑n : Int))) (.ok (.ret (PV.bl false) [])) (.br (decP (isLS (LS.mk [trC v n uk ps, PV.clo 63 [], PV.bl false, trC w n tk qs, PV.i .i64 (↑n : Int), PV.i .i64 (0 : Int)] []) (LS.mk [trC v n uk ps, PV.clo 63 [], PV.bl false, trC w n tk qs, PV.i .i64 (↑n : Int), PV.i .i64 (0 : Int)] []))) (.ok (.ret (PV.bl true) [])) (.no 1))).run := by kernel_rfl
include hG in
theorem pcTeq (w v n : Nat) (hn : n ≤ 60) (tk uk : Nat → Int) (qs ps : Nat → List Rat) (h : ∀ j, j < n → tk j = uk j ∧ qs j = ps j ∧ (qs j).length ≤ 1000) : PC Tryd.prog G 62 [trC w n tk qs, trC v n uk ps, .clo 63 []] [] (.bl true) [] := by
  have oc : OrcOK Tryd.prog G RTeq := .cons (vKeq_ok hG) .nil
  have g := Goes.count (R := Rnd Tryd.prog G Tryd.f62.ntmps 0 [1, 2, 6, 15, 16, 17] bTeq) (fun i => sTeq w v n tk uk qs ps ((i : Nat) : Int)) (e := .exit 0) (ls' := sTeq w v n tk uk qs ps n) (by simp) n 0
    (fun i _ hi => by
      refine round_ok hG oc mix (L := []) (pol := polTeq) (O := RTeq) (LpsOK.none (by kernel_rfl)) (Nat.zero_le _) ?_
      have hp : decP (Pkeq (tk i) (uk i) (qs i) (ps i)) = true := decP_iff.2 (h i (by omega))
      rw [tTeq, Int.toNat_natCast]
      repeat first | rw [Tr.run_t (by first | (simp only [Bool.and_eq_true, Bool.or_eq_true, decide_eq_true_eq, Nat.ble_eq, Nat.blt_eq, List.length_cons, List.length_nil, Bool.not_eq_true', decide_eq_false_iff_not]; omega) | exact hp | exact decP_iff.2 ⟨rfl, trivial⟩ | exact decP_iff.2 rfl | exact decide_eq_true rfl | decide)] | rw [Tr.run_f (by first | (simp only [Bool.and_eq_false_iff, Bool.not_eq_false', decide_eq_true_eq, decide_eq_false_iff_not]; omega) | exact hp | exact congrArg (!·) (decide_eq_true rfl) | decide)]
      rw [Tr.run_ok]
      rfl)
    (by
      refine round_ok hG oc mix (L := []) (pol := polTeq) (O := RTeq) (LpsOK.none (by kernel_rfl)) (Nat.zero_le _) ?_
      rw [tTeq, Nat.zero_add, Tr.run_f (decide_eq_false (by omega)), Tr.run_ok]
      rfl)
  refine evF_pc hG oc mix enterTeq (pol := polTeq) (L := [(4, lcst (sTeq w v n tk uk qs ps 0) (.exit 0) (sTeq w v n tk uk qs ps n))]) (lps1 (b := bTeq) (live := [1, 2, 6, 15, 16, 17]) (m := 0) (by kernel_rfl) (by kernel_rfl) (by kernel_rfl) (lcst_ok g)) ?_
  refine (eTeq w v n tk uk qs ps).trans ?_
  repeat first | rw [Tr.run_t (by first | (simp only [Bool.and_eq_true, Bool.or_eq_true, decide_eq_true_eq, Nat.ble_eq, Nat.blt_eq, List.length_cons, List.length_nil, Bool.not_eq_true', decide_eq_false_iff_not]; omega) | exact decP_iff.2 ⟨rfl, trivial⟩ | exact decP_iff.2 rfl | exact decide_eq_true rfl | decide)] | rw [Tr.run_f (by first | (simp only [Bool.and_eq_false_iff, Bool.not_eq_false', decide_eq_true_eq, decide_eq_false_iff_not]; omega) | exact congrArg (!·) (decide_eq_true rfl) | decide)]
  rw [Tr.run_ok]
theorem prt_shift (tk : Nat → Int) (d t : Int) (i : Nat) : prt (fun j => tk j + d) (t + d) i = prt tk t i := by
  unfold prt
  rw [Rat.intCast_add, Rat.intCast_add, Rat.intCast_add]
  rw [show (t : Rat) + (d : Rat) - ((tk (i - 1) : Rat) + (d : Rat)) = (t : Rat) - (tk (i - 1) : Rat) by grind, show (tk i : Rat) + (d : Rat) - ((tk (i - 1) : Rat) + (d : Rat)) = (tk i : Rat) - (tk (i - 1) : Rat) by grind]
theorem at_shift (m n : Nat) (tk : Nat → Int) (qs : Nat → List Rat) (d t : Int) : at17 m n (fun j => tk j + d) qs (t + d) = at17 m n tk qs t := by
  have e : okAt (fun j => tk j + d) (t + d) = okAt tk t := by
    funext j
    show decide (tk j + d ≤ t + d) = decide (tk j ≤ t)
    rw [decide_eq_decide]
    omega
  unfold at17
  rw [e, prt_shift]
  by_cases h : t ≤ tk 0
  · rw [if_pos h, if_pos (show tk 0 + d ≥ t + d by omega)]
  · rw [if_neg h, if_neg (show ¬ t + d ≤ tk 0 + d by omega)]
def kT : PV → Int
  | .agg [.i _ n, _] => n
  | _ => 0
def kQ : PV → List Rat
  | .agg [_, .lst _ (.rats _ xs)] => xs
  | _ => []
def elT' : PV → Nat → PV
  | .lst _ c, j => c.get j
  | _, _ => .any
def lnT : PV → Nat
  | .lst _ c => c.len
  | _ => 0
def trF (m : Nat) (a : PV) (t : Int) : List Rat := at17 m (lnT a) (fun j => kT (elT' a j)) (fun j => kQ (elT' a j)) t
def PtrF (m : Nat) (a : PV) (t : Int) : Prop := -100000 ≤ t ∧ t ≤ 100000 ∧ ∃ w n f, a = PV.lst 2 (.fn n f) ∧ w ≤ 900 ∧ (∀ j, j < n → VLe (f j) (kyPV w (kT (f j)) (kQ (f j)))) ∧ TrC m n (fun j => kT (f j)) (fun j => kQ (f j))
noncomputable def vAt (m : Nat) : Spec := fun args hs K => match args, hs with
  | [a, .i .i64 t], [] => .br (decP (PtrF m a t)) (K (.fr 3 (.rats 3000 (trF m a t))) []) (.no 1)
  | _, _ => .no 1
include hG in
theorem vAt_ok (hT : TabG G) (m : Nat) : SpecOK Tryd.prog G 20 (vAt m) := by
  intro args hs K x hh
  unfold vAt at hh
  split at hh
  case h_2 => cases hh
  obtain ⟨hc, hr⟩ := Tr.of_br hh
  obtain ⟨h0, h9, w, n, f, rfl, hw, hv, h⟩ := decP_iff.1 hc
  exact ⟨_, _, (PC.args (.cons (VLe.lst (e := 2) (c := .fn n f) (d := .fn n fun j => kyPV w (kT (f j)) (kQ (f j))) rfl hv) (.refl _)) (pc17 hG hT w (by omega) h _ h0 h9)).le (frrats_le 3 _ (by unfold segW; omega)) (.refl _), hr⟩
def dly (d : Int) : PV → PV
  | .agg [.i .i64 t, .lst 3 (.rats w q)] => .agg [.i .i64 (t + d), .lst 3 (.rats (w + 65) q)]
  | v => v
def PDl (A : Am) (a : PV) (n : Nat) (f : Nat → PV) (d : Int) : Prop := a = armPV A ∧ -2000 ≤ d ∧ d ≤ 2000 ∧ ∃ w tk qs, f = (fun j => kyPV w (tk j) (qs j)) ∧ w ≤ 900 ∧ n ≤ 4 ∧ TrC A.n n tk qs ∧ ckR A n tk qs = 0 ∧ 0 ≤ tk 0 + d ∧ tk (n - 1) + d ≤ 2000
noncomputable def vDl (A : Am) : Spec := fun args hs K => match args, hs with
  | [a, .lst 2 (.fn n f), .i .i64 d], [] => .br (decP (PDl A a n f d)) (K (.tup [.fr 2 (.fn n (fun j => dly d (f j))), .i .i64 0]) []) (.no 1)
  | _, _ => .no 1
include hG in
theorem vDl_ok (hT : TabG G) (A : Am) (hA : armB A = true) : SpecOK Tryd.prog G 61 (vDl A) := by
  intro args hs K x hh
  unfold vDl at hh
  split at hh
  case h_2 => cases hh
  rename_i a n f d
  obtain ⟨hc, hr⟩ := Tr.of_br hh
  obtain ⟨rfl, d0, d1, w, tk, qs, rfl, hw, h4, h, ck, h0, h9⟩ := decP_iff.1 hc
  have p := pc58 hG hT A hA w (by omega) n h.n1 h.n60 tk qs h.len h.rng
  rw [ck] at p
  exact ⟨_, _, pcDl hG hT A w (by omega) n A.n h.n1 h4 h.m1 h.m3 tk qs h.len d d0 d1 p h.rng h0 h9, hr⟩
def PTeq (n : Nat) (f : Nat → PV) (k : Nat) (g : Nat → PV) : Prop := n = k ∧ n ≤ 60 ∧ ∃ (w v : Nat) (tk uk : Nat → Int) (qs ps : Nat → List Rat), f = (fun j => kyPV w (tk j) (qs j)) ∧ g = (fun j => kyPV v (uk j) (ps j)) ∧ ∀ j, j < n → tk j = uk j ∧ qs j = ps j ∧ (qs j).length ≤ 1000
noncomputable def vTeq : Spec := fun args hs K => match args, hs with
  | [.lst 2 (.fn n f), .lst 2 (.fn k g), .clo 63 []], [] => .br (decP (PTeq n f k g)) (K (.bl true) []) (.no 1)
  | _, _ => .no 1
include hG in
theorem vTeq_ok : SpecOK Tryd.prog G 62 vTeq := by
  intro args hs K x hh
  unfold vTeq at hh
  split at hh
  case h_2 => cases hh
  obtain ⟨hc, hr⟩ := Tr.of_br hh
  obtain ⟨rfl, hn, w, v, tk, uk, qs, ps, rfl, rfl, h⟩ := decP_iff.1 hc
  exact ⟨_, _, pcTeq hG w v _ hn tk uk qs ps h, hr⟩
theorem enterTD : Enters Tryd.prog 12 Tryd.f12 (bodyC Tryd.f12) := ⟨Tryd.func12, by kernel_rfl, rfl⟩
noncomputable def OTD (l m : PV) (A : Am) (n : Nat) (tk : Nat → Int) (qs : Nat → List Rat) : Orc :=
  [(17, cst [] True (.bl true)), (18, cst [.w l] True (armFr A)), (19, cst [armPV A, .w m] True (.fr 2 (.fn n (fun k => kyPV 64 (tk k) (qs k))))), (20, vAt A.n), (22, c19), (30, s24), (61, vDl A), (62, vTeq)]
theorem eTD (l m : PV) (x y : Int) (A : Am) (n : Nat) (tk : Nat → Int) (qs : Nat → List Rat) : (evF Tryd.prog (OTD l m A n tk qs) [] {} Tryd.f12 [.w l, .w m, .i .i64 x, .i .i64 y] [] retK).run =
  (Tr.br (decP (isA [] True [])) (.br (decP (isA [l.w] True [l.w])) (.br (((0 : Nat) + A.n).ble A.n) (.br (decP (isA [armPV A, m.w] True [armPV A, m.w])) (.br (((0 : Nat) + n).ble n) (.br (decP (PDl A (armPV A) n (fun (j : Nat) => kyPV (64 : Nat) (tk (j + (0 : Nat))) (qs (j + (0 : Nat)))) (x % (300 : Int)))) (.br (((0 : Nat) + n).ble n) (.br (ib ((0 : Int) - x % (300 : Int))) (.br (decP (PDl A (armPV A) n (fun (j : Nat) => dly (x % (300 : Int)) (PV.agg [PV.i .i64 (tk (j + (0 : Nat) + (0 : Nat))), PV.lst 3 (.rats 64 (qs (j + (0 : Nat) + (0 : Nat))))])) ((0 : Int) - x % (300 : Int)))) (.br (((0 : Nat) + n).ble n) (.br (ib (y % (400 : Int) + x % (300 : Int))) (.br (decP (PtrF A.n (PV.lst 2 (.fn n fun (j : Nat) => PV.agg [PV.i .i64 (tk (j + (0 : Nat) + (0 : Nat)) + x % (300 : Int)), PV.lst 3 (.rats 129 (qs (j + (0 : Nat) + (0 : Nat))))])) (y % (400 : Int) + x % (300 : Int)))) (.br (((0 : Nat) + (trF A.n (PV.lst 2 (.fn n fun (j : Nat) => PV.agg [PV.i .i64 (tk (j + (0 : Nat) + (0 : Nat)) + x % (300 : Int)), PV.lst 3 (.rats 129 (qs (j + (0 : Nat) + (0 : Nat))))])) (y % (400 : Int) + x % (300 : Int))).length).ble (trF A.n (PV.lst 2 (.fn n fun (j : Nat) => PV.agg [PV.i .i64 (tk (j + (0 : Nat) + (0 : Nat)) + x % (300 : Int)), PV.lst 3 (.rats 129 (qs (j + (0 : Nat) + (0 : Nat))))])) (y % (400 : Int) + x % (300 : Int))).length) (.br (decP (PtrF A.n (trC 64 n tk qs) (y % (400 : Int)))) (.br (((0 : Nat) + (trF A.n (trC 64 n tk qs) (y % (400 : Int))).length).ble (trF A.n (trC 64 n tk qs) (y % (400 : Int))).length) (.br ((List.take (trF A.n (PV.lst 2 (.fn n fun (j : Nat) => PV.agg [PV.i .i64 (tk (j + (0 : Nat) + (0 : Nat)) + x % (300 : Int)), PV.lst 3 (.rats 129 (qs (j + (0 : Nat) + (0 : Nat))))])) (y % (400 : Int) + x % (300 : Int))).length (List.drop (0 : Nat) (trF A.n (PV.lst 2 (.fn n fun (j : Nat) => PV.agg [PV.i .i64 (tk (j + (0 : Nat) + (0 : Nat)) + x % (300 : Int)), PV.lst 3 (.rats 129 (qs (j + (0 : Nat) + (0 : Nat))))])) (y % (400 : Int) + x % (300 : Int))))).length.ble (List.take (trF A.n (trC 64 n tk qs) (y % (400 : Int))).length (List.drop (0 : Nat) (trF A.n (trC 64 n tk qs) (y % (400 : Int))))).length && (List.take (trF A.n (trC 64 n tk qs) (y % (400 : Int))).length (List.drop (0 : Nat) (trF A.n (trC 64 n tk qs) (y % (400 : Int))))).length.ble (List.take (trF A.n (PV.lst 2 (.fn n fun (j : Nat) => PV.agg [PV.i .i64 (tk (j + (0 : Nat) + (0 : Nat)) + x % (300 : Int)), PV.lst 3 (.rats 129 (qs (j + (0 : Nat) + (0 : Nat))))])) (y % (400 : Int) + x % (300 : Int))).length (List.drop (0 : Nat) (trF A.n (PV.lst 2 (.fn n fun (j : Nat) => PV.agg [PV.i .i64 (tk (j + (0 : Nat) + (0 : Nat)) + x % (300 : Int)), PV.lst 3 (.rats 129 (qs (j + (0 : Nat) + (0 : Nat))))])) (y % (400 : Int) + x % (300 : Int))))).length && (List.take (trF A.n (PV.lst 2 (.fn n fun (j : Nat) => PV.agg [PV.i .i64 (tk (j + (0 : Nat) + (0 : Nat)) + x % (300 : Int)), PV.lst 3 (.rats 129 (qs (j + (0 : Nat) + (0 : Nat))))])) (y % (400 : Int) + x % (300 : Int))).length (List.drop (0 : Nat) (trF A.n (PV.lst 2 (.fn n fun (j : Nat) => PV.agg [PV.i .i64 (tk (j + (0 : Nat) + (0 : Nat)) + x % (300 : Int)), PV.lst 3 (.rats 129 (qs (j + (0 : Nat) + (0 : Nat))))])) (y % (400 : Int) + x % (300 : Int))))).length.ble 1000) (.br (decide (List.take (trF A.n (PV.lst 2 (.fn n fun (j : Nat) => PV.agg [PV.i .i64 (tk (j + (0 : Nat) + (0 : Nat)) + x % (300 : Int)), PV.lst 3 (.rats 129 (qs (j + (0 : Nat) + (0 : Nat))))])) (y % (400 : Int) + x % (300 : Int))).length (List.drop (0 : Nat) (trF A.n (PV.lst 2 (.fn n fun (j : Nat) => PV.agg [PV.i .i64 (tk (j + (0 : Nat) + (0 : Nat)) + x % (300 : Int)), PV.lst 3 (.rats 129 (qs (j + (0 : Nat) + (0 : Nat))))])) (y % (400 : Int) + x % (300 : Int)))) = List.take (trF A.n (trC 64 n tk qs) (y % (400 : Int))).length (List.drop (0 : Nat) (trF A.n (trC 64 n tk qs) (y % (400 : Int)))))) (.br (decP (PTeq n (fun (j : Nat) => kyPV (64 : Nat) (tk (j + (0 : Nat))) (qs (j + (0 : Nat)))) n fun (j : Nat) => dly ((0 : Int) - x % (300 : Int)) (PV.agg [PV.i .i64 (tk (j + (0 : Nat) + (0 : Nat) + (0 : Nat)) + x % (300 : Int)), PV.lst 3 (.rats 129 (qs (j + (0 : Nat) + (0 : Nat) + (0 : Nat))))]))) (.ok (.ret (PV.bl true) [])) (.no 1)) (.ok (.ret (PV.bl false) []))) (.no 1)) (.no 9009)) (.no 1)) (.no 9012)) (.no 1)) (.no 9013)) (.no 8006)) (.no 1)) (.no 8007)) (.no 7006)) (.no 1)) (.no 5002)) (.no 1)) (.no 4003)) (.no 1)) (.no 1)).run := by kernel_rfl
include hG in
theorem lawTD (hT : TabG G) (l m : PV) (x y : Int) (hl : okW l = true) (hm : okW m = true) : PC Tryd.prog G 12 [.w l, .w m, .i .i64 x, .i .i64 y] [] (.bl true) [] := by
  have hA := armB_V l
  have hX := limX_V l
  have hL := armL_V l
  have p18 := p18_ok hG l hl
  generalize armD l = A at *
  have p19 := pcTkm hG A hA hX m hm
  have h := tkTrC hA m
  have hc := tk_ck hA hL m
  have hfit : ∀ j, fitB A (tkQ A m j) = true := fun j => tkQ_fit hA m j
  have hstep : ∀ j, tkK A m j + 48 ≤ tkK A m (j + 1) := fun j => (tkK_s A m j).1
  have hn4 := (tkN_range m).2
  have hn1 := h.n1
  have hle : ∀ j, j < tkN m → 0 ≤ tkK A m j ∧ tkK A m j ≤ 210 := fun j hj => by have := tkK_le A m j; omega
  generalize tkN m = n at *
  generalize tkK A m = tk at *
  generalize tkQ A m = qs at *
  have hx := mod_rng x 300 (by omega)
  have hy := mod_rng y 400 (by omega)
  have h2 : TrC A.n n (fun j => tk j + x % 300) qs := ⟨h.n1, h.n60, h.m1, h.m3, h.len, fun j hj => by have := hle j hj; omega, fun j hj => by have := h.inc j hj; omega⟩
  have hc2 : ckR A n (fun j => tk j + x % 300) qs = 0 := ck_zero (fun j hj => by have := hle j hj; exact ⟨by omega, by omega, hfit j⟩) (fun j hj => by
    have := hstep j
    refine ⟨by omega, ?_⟩
    rw [show tk (j + 1) + x % 300 - (tk j + x % 300) = tk (j + 1) - tk j by omega]
    exact slow_ok hL (hfit j) (hfit (j + 1)) (by omega))
  have r0 := hle 0 (by omega)
  have r1 := hle (n - 1) (by omega)
  have d1 : decP (PDl A (armPV A) n (fun j => kyPV 64 (tk j) (qs j)) (x % 300)) = true := decP_iff.2 ⟨rfl, by omega, by omega, 64, tk, qs, rfl, by omega, by omega, h, hc, by omega, by omega⟩
  have d2 : decP (PDl A (armPV A) n (fun j => kyPV 129 (tk j + x % 300) (qs j)) (-(x % 300))) = true := decP_iff.2 ⟨rfl, by omega, by omega, 129, fun j => tk j + x % 300, qs, rfl, by omega, by omega, h2, hc2, show 0 ≤ tk 0 + x % 300 + -(x % 300) by omega, show tk (n - 1) + x % 300 + -(x % 300) ≤ 2000 by omega⟩
  have a1 : decP (PtrF A.n (trC 129 n (fun j => tk j + x % 300) qs) (y % 400 + x % 300)) = true := decP_iff.2 ⟨by omega, by omega, 129, n, _, rfl, by omega, fun _ _ => .refl _, h2⟩
  have a2 : decP (PtrF A.n (trC 64 n tk qs) (y % 400)) = true := decP_iff.2 ⟨by omega, by omega, 64, n, _, rfl, by omega, fun _ _ => .refl _, h⟩
  have eF : trF A.n (trC 129 n (fun j => tk j + x % 300) qs) (y % 400 + x % 300) = at17 A.n n tk qs (y % 400) := at_shift A.n n tk qs (x % 300) (y % 400)
  have eG : trF A.n (trC 64 n tk qs) (y % 400) = at17 A.n n tk qs (y % 400) := rfl
  have d2' : decP (PDl A (armPV A) n (fun j => kyPV 129 (tk j + x % 300) (qs j)) (0 - x % 300)) = true := by rw [show 0 - x % 300 = -(x % 300) by omega]; exact d2
  have lF := at_len h (y % 400)
  have m3 := h.m3
  have hq : decP (PTeq n (fun j => kyPV 64 (tk j) (qs j)) n (fun j => kyPV 194 (tk j + x % 300 + -(x % 300)) (qs j))) = true := decP_iff.2 ⟨rfl, h.n60, 64, 194, tk, fun j => tk j + x % 300 + -(x % 300), qs, qs, rfl, rfl, fun j hj => ⟨show tk j = tk j + x % 300 + -(x % 300) by omega, rfl, by rw [h.len j hj]; omega⟩⟩
  have hq' : decP (PTeq n (fun j => kyPV 64 (tk j) (qs j)) n (fun j => kyPV 194 (tk j + x % 300 + (0 - x % 300)) (qs j))) = true := decP_iff.2 ⟨rfl, h.n60, 64, 194, tk, fun j => tk j + x % 300 + (0 - x % 300), qs, qs, rfl, rfl, fun j hj => ⟨show tk j = tk j + x % 300 + (0 - x % 300) by omega, rfl, by rw [h.len j hj]; omega⟩⟩
  refine evF_pc hG (.cons (cst_t (pcTks hG hT)) (.cons (cst_t p18) (.cons (cst_t p19) (.cons (vAt_ok hG hT A.n) (.cons (ck19 hG) (.cons (ok24 hG) (.cons (vDl_ok hG hT A hA) (.cons (vTeq_ok hG) .nil)))))))) mix enterTD (pol := {}) (L := []) (LpsOK.none (by kernel_rfl)) ?_
  refine (eTD l m x y A n tk qs).trans ?_
  simp only [List.drop_zero, List.take_length]
  have eF' : trF A.n (PV.lst 2 (Cont.fn n fun j => PV.agg [PV.i .i64 (tk (j + 0 + 0) + x % 300), PV.lst 3 (Cont.rats 129 (qs (j + 0 + 0)))])) (y % 400 + x % 300) = at17 A.n n tk qs (y % 400) := eF
  have eG' : trF A.n (PV.lst 2 (Cont.fn n fun j => PV.agg [PV.i .i64 (tk (j + 0)), PV.lst 3 (Cont.rats 64 (qs (j + 0)))])) (y % 400) = at17 A.n n tk qs (y % 400) := eG
  simp only [eF', eG', eG]
  repeat first | rw [Tr.run_t (by first | (simp only [Bool.and_eq_true, Bool.or_eq_true, decide_eq_true_eq, Nat.ble_eq, Nat.blt_eq, List.length_cons, List.length_nil, Bool.not_eq_true', decide_eq_false_iff_not]; omega) | exact d1 | exact d2' | exact a1 | exact a2 | exact hq' | exact decP_iff.2 ⟨rfl, trivial⟩ | exact decP_iff.2 rfl | exact decide_eq_true rfl | decide)] | rw [Tr.run_f (by first | (simp only [Bool.and_eq_false_iff, Bool.not_eq_false', decide_eq_true_eq, decide_eq_false_iff_not]; omega) | exact d1 | exact d2' | exact a1 | exact a2 | exact hq' | exact congrArg (!·) (decide_eq_true rfl) | decide)]
  rw [Tr.run_ok]
end Go.Proofs.YtgaokohhkdeomaaDoor.PE
namespace Go.Proofs.YtgaokohhkdeomaaDoor.PE
open Go
theorem calls_of_does {P : Program} {g : Nat} {fn : Func} {c : Code} (hg : Enters P g fn c) {vs : Array Value} {w : World} {R : Value → World → Prop} (h : Does P g vs w R) : Calls P g vs w fun e w' => ∃ v, e = .returned v ∧ R v w' := by
  have h1 := h { dst := some 0, op := .move (.const undef), type := 0, pos := "", after := #[], guard := none } ⟨#[undef], []⟩ (fun a w' => ∃ v, a.tmps[0]? = some v ∧ R v w') (fun _ _ _ => False) (fun v w' hv => ⟨v, by simp [Act.put], hv⟩)
  have : (callFunc g vs).run P w = .ok (.enter g vs) w := by
    have hname : fn.name ≠ "runtime.NumGoroutine" := by simpa using hg.name
    simp [callFunc, hg.at_, hname, hg.body]
  rw [this, Oper.upon_enter] at h1
  refine h1.mono fun e w' he => ?_
  cases e with
  | returned v =>
    obtain ⟨v', hv, hr⟩ := he
    simp [Act.put] at hv
    subst hv
    exact ⟨v, rfl, hr⟩
  | panicked chain => exact absurd he (by simp)
  | outgrown => exact absurd he (by simp [LetsOut])
theorem HRel.none (w : World) : HRel w (fun _ => False) noMu (hget (([] : List Blk).map some)) :=
  ⟨fun b k h => by simp [hget] at h, fun b k a z h => by simp [hget] at h, fun b b' k k' a z z' h => by simp [hget] at h, fun a h => h.elim⟩
theorem keptBut_of_old {w w' : World} (h1 : w'.os = w.os) (h2 : w'.output = w.output) (h3 : ∀ n, n < w.heap.size → w'.heap[n]? = w.heap[n]?) (may : MemPlace → Prop) : w.keptBut w' may := by
  refine ⟨h1, h2, fun i hi => ?_⟩
  rw [h3 i hi]
  split
  · rename_i e1 e2
    rw [e1] at e2
    cases e2
    exact ⟨rfl, rfl, rfl, fun _ _ => rfl⟩
  · rename_i e1 e2
    rw [e1] at e2
    cases e2
    exact .inr ⟨rfl, rfl⟩
  · rfl
end Go.Proofs.YtgaokohhkdeomaaDoor.PE
namespace Go.Proofs.YtgaokohhkdeomaaDoor.PE
open Go Go.ChangeShapes Go.WideShapes
set_option maxRecDepth 100000
def blkOf : Value → Nat → Prop
  | .slice (some a) _ _, b => b = a.block
  | _, _ => False
section
variable {H : Type} {enc : TypeId × Value → H} {P : Program} {w : World} {t e : TypeId} {base : Nat} {v : Value} {d : DataW H} {p : List MemPlace}
theorem arg_ints (ht : P.underlying t = some (.slice e)) (he : P.underlying e = some (.int .i64)) (hc : P.cellsOf e = 1)
    (hval : Value.okWide P w .any base t v) (h : DataW.Trod enc P w 0 (fun _ => true) true t v d p) :
    ∃ u : PV, okW u = true ∧ (∀ n ∈ intsW u, -9223372036854775808 ≤ n ∧ n ≤ 9223372036854775807) ∧ (∀ b, blkOf v b → b < w.heap.size) ∧ (∀ S : Nat → Prop, (∀ b, blkOf v b → S b) → RepV w S noMu (.w u) v) ∧
      (∀ w' : World, (∀ n, n < w.heap.size → w'.heap[n]? = w.heap[n]?) → ∃ p', DataW.Trod enc P w' 0 (fun b => decide (b < w.heap.size)) true t v d p') ∧
      ((intsW u = [] ∧ d = .nil) ∨ ∃ sp, d = .slice (lits .i64 (intsW u)) sp) := by
  have hval' := hval
  obtain ⟨a0, len, cap, rfl⟩ := okWide_slice ht hval
  obtain ⟨fuel, hf⟩ := h
  rcases open_ints ht he hc hf with ⟨hcs, hx⟩ | ⟨a, len', cap', zs, hcs, _, hl, hm, hz, hx, hcell, hwz⟩
  · simp [Value.cells] at hcs
    obtain ⟨rfl, rfl, rfl⟩ := hcs
    simp only [Prod.mk.injEq] at hx
    obtain ⟨rfl, rfl⟩ := hx
    refine ⟨.nil, rfl, fun n hn => (nomatch hn), fun b hb => hb.elim, fun S _ => .cell _ _ _ rfl (.w _ _ _ (.nil _)), fun w' _ => ⟨[], RowKit.shut_slice_nil ht⟩, .inl ⟨rfl, rfl⟩⟩
  · simp [Value.cells] at hcs
    obtain ⟨rfl, rfl, rfl⟩ := hcs
    simp only [Prod.mk.injEq] at hx
    obtain ⟨rfl, rfl⟩ := hx
    simp only [if_true] at hz
    unfold Value.okWide at hval'
    rw [ht] at hval'
    simp only [Cell.okWide, Cell.ok, ht] at hval'
    obtain ⟨_, _, _, hsp, row, cells, hsh, _⟩ := hval'
    obtain ⟨b, off, spot⟩ := a
    simp only at hsp
    subst hsp
    have hb : b < w.heap.size := by
      unfold World.shape? at hsh
      split at hsh
      · rename_i hh; exact (Array.getElem?_eq_some_iff.1 hh).1
      · cases hsh
    have hcell' : ∀ j, j < zs.length → w.cell? ⟨b, off + j, none⟩ = some (.int .i64 (zs.getD j 0)) := fun j hj => by rw [← add_plain]; exact hcell j hj
    have hlen : (zs.take len).length = len := by rw [List.length_take]; omega
    refine ⟨.lst 1 (.ints .i64 (zs.take len)), rfl, fun n hn => bounds_i64 (hwz n (List.mem_of_mem_take hn)), fun c hc => (by rw [show c = b from hc]; exact hb), fun S hS => ?_, fun w' hw' => ?_, .inr ⟨_, rfl⟩⟩
    · refine .cell _ _ _ rfl (.w _ _ _ ?_)
      have := RepC.lst (w := w) (S := S) noMu 1 (.ints .i64 (zs.take len)) b off cap (fun j => [.int .i64 ((zs.take len).getD j 0)]) (by show (zs.take len).length ≤ cap; omega) (hS b rfl)
        (fun i hi => .i _ _ _) (fun _ _ => rfl) (fun i j hi hj => by
          have hi' : i < len := by rw [← hlen]; exact hi
          obtain rfl : j = 0 := by omega
          show w.cell? ⟨b, off + (i * 1 + 0), none⟩ = _
          rw [Nat.mul_one, Nat.add_zero, hcell' i (by omega)]
          simp [List.getD_eq_getElem?_getD, hi'])
      rw [show (Cont.ints .i64 (zs.take len)).len = len from hlen] at this
      exact this
    · have hd : decide (b < w.heap.size) = true := decide_eq_true hb
      exact ⟨_, 2, shut_ints' (enc := enc) (w := w') (base := 0) (spare := fun b => decide (b < w.heap.size)) (held := true) (len := len) (cap := cap) (zs := zs) 0 ht he hc
        (Nat.zero_le b) hl hm (by simp only [hd, if_true]; exact hz) (fun i hi => by rw [cell_block (hw' b hb)]; exact hcell' i hi) hwz⟩
end
end Go.Proofs.YtgaokohhkdeomaaDoor.PE
namespace Go.Proofs.YtgaokohhkdeomaaDoor.PE
open Go
set_option maxRecDepth 100000
theorem calls_trueG {P : Program} {G : World → (Nat → Prop) → Prop} {g : Nat} {fn : Func} {c : Code} (hg : Enters P g fn c) {args : List PV} (h : PC P G g args [] (.bl true) []) {w : World} {S : Nat → Prop} {vs : List Value} (hw : G w S) (hS : ∀ a, S a → a < w.heap.size)
    (hv : RepVL w S noMu args vs) (may : MemPlace → Prop) :
    Calls P g vs.toArray w fun e w' => e = .returned (.bool true) ∧ w.keptBut w' may ∧ ∀ n, n < w.heap.size → w'.heap[n]? = w.heap[n]? := by
  refine (calls_of_does hg (h w S noMu vs hw hv ⟨fun b k h => by simp [hget] at h, fun b k a z h => by simp [hget] at h, fun b b' k k' a z z' h => by simp [hget] at h, hS⟩ (fun _ _ => rfl))).mono fun e w' he => ?_
  obtain ⟨v, rfl, S', μ', c⟩ := he
  have hr := c.rep
  have : v = .bool true := by
    cases hr with
    | cell _ _ _ _ h => cases h; rfl
    | agg _ _ _ hv h => simp [isAgg, unfr, unfrA, unfr1] at hv
  subst this
  have old : ∀ n, n < w.heap.size → w'.heap[n]? = w.heap[n]? := fun n hn => c.old n hn (fun b z hb => by simp at hb)
  exact ⟨rfl, keptBut_of_old c.os c.output old may, old⟩
def TG (w : World) (S : Nat → Prop) : Prop := S 1 ∧ Go.Proofs.TabAt 1 Go.Lib.deBruijn64tab w
theorem tg_ok : GOk TG := fun _ _ _ _ m h => ⟨m.sub 1 h.1, fun j hj => (m.cell 1 h.1 j).trans (h.2 j hj)⟩
theorem tg_tab : TabG TG := fun _ _ h => h.2
theorem tab_block {w : World} (h : Go.Proofs.TabAt 1 Go.Lib.deBruijn64tab w) : 1 < w.heap.size := by
  have h0 := h 0 (by decide)
  rcases Nat.lt_or_ge 1 w.heap.size with h1 | h1
  · exact h1
  · unfold World.cell? at h0
    rw [show w.heap[(⟨1, 0, none⟩ : Addr).block]? = none from Array.getElem?_eq_none h1] at h0
    cases h0
theorem tab_of_laid {laid : List (String × DataW Unit)} {W : World} (hl : laid = [("math/bits.deBruijn64tab", Go.Lib.tabData .u8 (Go.Lib.deBruijn64tab.map fun n : Nat => (n : Int)))]) (h : laidMetH Tryd.prog laid W) : Go.Proofs.TabAt 1 Go.Lib.deBruijn64tab W := by
  subst hl
  have h1 : laidMet Tryd.prog [("math/bits.deBruijn64tab", Go.Lib.tabData .u8 (Go.Lib.deBruijn64tab.map fun n : Nat => (n : Int)))] W := h
  have h2 := Go.Lib.tabIs_of_head (g := 1) (t := 203) (e := 5) (n := 64) (by kernel_rfl) (by kernel_rfl) (by kernel_rfl) (by kernel_rfl) (by kernel_rfl) (by kernel_rfl) h1
  intro j hj
  have h3 := h2.cell (g := 1) (by kernel_rfl) j (by rw [List.length_map]; exact hj)
  rw [h3, List.getD_eq_getElem?_getD, List.getD_eq_getElem?_getD, List.getElem?_map, List.getElem?_eq_getElem hj]
  rfl
end Go.Proofs.YtgaokohhkdeomaaDoor.PE
