/-
  Part 6 of the proof: contracts of the program's functions. Conditions: those of the theorems below.
-/
import Derived.Test.YtgaokohhkdeomaaDoorTJ5
import Derived.Test.YtgaokohhkdeomaaDoorTJ2
import Derived.RowKit3
import GoSem.ClaimChange
import Derived.ChangeSlices
import Derived.WideShapes
import Derived.OpenShut
import Derived.Test.YtgaokohhkdeomaaDoorTJ3
import Derived.Lib.LaidTab
set_option linter.all false
namespace Go.Proofs.YtgaokohhkdeomaaDoor.PE
open Go
set_option maxRecDepth 100000
variable {G : World → (Nat → Prop) → Prop} (hG : GOk G)
theorem enterCl : Enters Tryd.prog 111 Tryd.f111 (bodyC Tryd.f111) := ⟨Tryd.func111, by kernel_rfl, rfl⟩
noncomputable def bCl : Code := (loopsOf (bodyC Tryd.f111)).getD 0 .skip
def polCl : Pol := { live := [(3, [3, 6, 7, 8])] }
noncomputable def RCl : Orc := [(80, c70)]
noncomputable def lCl : LSpec := unr Tryd.prog RCl [] polCl Tryd.f111.ntmps 0 [3, 6, 7, 8] bCl 5
theorem eCl (w n : Nat) (tk : Nat → Int) (qs : Nat → List Rat) : (evF Tryd.prog RCl [(3, lCl)] polCl Tryd.f111 [trC w n tk qs] [] retK).run =
  (Tr.br (decide ((0 : Int) < (↑n : Int))) (.br (ix ((0 : Int)) ((↑n : Int))) (.br (Nat.ble 1 (qs (0 : Nat)).length && (qs (0 : Nat)).length.ble 1000 && w.ble 10000) (.br (((0 : Nat) + (qs (0 : Nat)).length).ble (qs (0 : Nat)).length) (.br (Nat.blt (0 : Nat) [PV.agg [PV.i .i64 (tk (0 : Nat)), PV.lst 3 (.rats (w + (65 : Nat)) (List.take (qs (0 : Nat)).length (List.drop (0 : Nat) (qs (0 : Nat)))))]].length && [PV.agg [PV.i .i64 (tk (0 : Nat)), PV.lst 3 (.rats (w + (65 : Nat)) (List.take (qs (0 : Nat)).length (List.drop (0 : Nat) (qs (0 : Nat)))))]].length.ble 4294967296) (.br (decide ((1 : Int) < (↑n : Int))) (.br (ix ((1 : Int)) ((↑n : Int))) (.br (Nat.ble 1 (qs (1 : Nat)).length && (qs (1 : Nat)).length.ble 1000 && w.ble 10000) (.br (((0 : Nat) + (qs (1 : Nat)).length).ble (qs (1 : Nat)).length) (.br (([PV.agg [PV.i .i64 (tk (0 : Nat)), PV.lst 3 (.rats (w + (65 : Nat)) (List.take (qs (0 : Nat)).length (List.drop (0 : Nat) (qs (0 : Nat)))))]].length + [PV.agg [PV.i .i64 (tk (1 : Nat)), PV.lst 3 (.rats (w + (65 : Nat)) (List.take (qs (1 : Nat)).length (List.drop (0 : Nat) (qs (1 : Nat)))))]].length).ble 4294967296) (.br (decide ((2 : Int) < (↑n : Int))) (.br (ix ((2 : Int)) ((↑n : Int))) (.br (Nat.ble 1 (qs (2 : Nat)).length && (qs (2 : Nat)).length.ble 1000 && w.ble 10000) (.br (((0 : Nat) + (qs (2 : Nat)).length).ble (qs (2 : Nat)).length) (.br (([PV.agg [PV.i .i64 (tk (0 : Nat)), PV.lst 3 (.rats (w + (65 : Nat)) (List.take (qs (0 : Nat)).length (List.drop (0 : Nat) (qs (0 : Nat)))))]].length + [PV.agg [PV.i .i64 (tk (1 : Nat)), PV.lst 3 (.rats (w + (65 : Nat)) (List.take (qs (1 : Nat)).length (List.drop (0 : Nat) (qs (1 : Nat)))))]].length + [PV.agg [PV.i .i64 (tk (2 : Nat)), PV.lst 3 (.rats (w + (65 : Nat)) (List.take (qs (2 : Nat)).length (List.drop (0 : Nat) (qs (2 : Nat)))))]].length).ble 4294967296) (.br (decide ((3 : Int) < (↑n : Int))) (.br (ix ((3 : Int)) ((↑n : Int))) (.br (Nat.ble 1 (qs (3 : Nat)).length && (qs (3 : Nat)).length.ble 1000 && w.ble 10000) (.br (((0 : Nat) + (qs (3 : Nat)).length).ble (qs (3 : Nat)).length) (.br (([PV.agg [PV.i .i64 (tk (0 : Nat)), PV.lst 3 (.rats (w + (65 : Nat)) (List.take (qs (0 : Nat)).length (List.drop (0 : Nat) (qs (0 : Nat)))))]].length + [PV.agg [PV.i .i64 (tk (1 : Nat)), PV.lst 3 (.rats (w + (65 : Nat)) (List.take (qs (1 : Nat)).length (List.drop (0 : Nat) (qs (1 : Nat)))))]].length + [PV.agg [PV.i .i64 (tk (2 : Nat)), PV.lst 3 (.rats (w + (65 : Nat)) (List.take (qs (2 : Nat)).length (List.drop (0 : Nat) (qs (2 : Nat)))))]].length + [PV.agg [PV.i .i64 (tk (3 : Nat)), PV.lst 3 (.rats (w + (65 : Nat)) (List.take (qs (3 : Nat)).length (List.drop (0 : Nat) (qs (3 : Nat)))))]].length).ble 4294967296) (.br (decide ((4 : Int) < (↑n : Int))) (.br (ix ((4 : Int)) ((↑n : Int))) (.br (Nat.ble 1 (qs (4 : Nat)).length && (qs (4 : Nat)).length.ble 1000 && w.ble 10000) (.br (((0 : Nat) + (qs (4 : Nat)).length).ble (qs (4 : Nat)).length) (.br (([PV.agg [PV.i .i64 (tk (0 : Nat)), PV.lst 3 (.rats (w + (65 : Nat)) (List.take (qs (0 : Nat)).length (List.drop (0 : Nat) (qs (0 : Nat)))))]].length + [PV.agg [PV.i .i64 (tk (1 : Nat)), PV.lst 3 (.rats (w + (65 : Nat)) (List.take (qs (1 : Nat)).length (List.drop (0 : Nat) (qs (1 : Nat)))))]].length + [PV.agg [PV.i .i64 (tk (2 : Nat)), PV.lst 3 (.rats (w + (65 : Nat)) (List.take (qs (2 : Nat)).length (List.drop (0 : Nat) (qs (2 : Nat)))))]].length + [PV.agg [PV.i .i64 (tk (3 : Nat)), PV.lst 3 (.rats (w + (65 : Nat)) (List.take (qs (3 : Nat)).length (List.drop (0 : Nat) (qs (3 : Nat)))))]].length + [PV.agg [PV.i .i64 (tk (4 : Nat)), PV.lst 3 (.rats (w + (65 : Nat)) (List.take (qs (4 : Nat)).length (List.drop (0 : Nat) (qs (4 : Nat)))))]].length).ble 4294967296) (.no 16) (.no 6002)) (.no 6005)) (.no 1)) (.no 5004)) (.ok (.ret (PV.fr 2 (.vals [PV.agg [PV.i .i64 (tk (0 : Nat)), PV.lst 3 (.rats (w + (65 : Nat)) (List.take (qs (0 : Nat)).length (List.drop (0 : Nat) (qs (0 : Nat)))))], PV.agg [PV.i .i64 (tk (1 : Nat)), PV.lst 3 (.rats (w + (65 : Nat)) (List.take (qs (1 : Nat)).length (List.drop (0 : Nat) (qs (1 : Nat)))))], PV.agg [PV.i .i64 (tk (2 : Nat)), PV.lst 3 (.rats (w + (65 : Nat)) (List.take (qs (2 : Nat)).length (List.drop (0 : Nat) (qs (2 : Nat)))))], PV.agg [PV.i .i64 (tk (3 : Nat)), PV.lst 3 (.rats (w + (65 : Nat)) (List.take (qs (3 : Nat)).length (List.drop (0 : Nat) (qs (3 : Nat)))))]])) []))) (.no 6002)) (.no 6005)) (.no 1)) (.no 5004)) (.ok (.ret (PV.fr 2 (.vals [PV.agg [PV.i .i64 (tk (0 : Nat)), PV.lst 3 (.rats (w + (65 : Nat)) (List.take (qs (0 : Nat)).length (List.drop (0 : Nat) (qs (0 : Nat)))))], PV.agg [PV.i .i64 (tk (1 : Nat)), PV.lst 3 (.rats (w + (65 : Nat)) (List.take (qs (1 : Nat)).length (List.drop (0 : Nat) (qs (1 : Nat)))))], PV.agg [PV.i .i64 (tk (2 : Nat)), PV.lst 3 (.rats (w + (65 : Nat)) (List.take (qs (2 : Nat)).length (List.drop (0 : Nat) (qs (2 : Nat)))))]])) []))) (.no 6002)) (.no 6005)) (.no 1)) (.no 5004)) (.ok (.ret (PV.fr 2 (.vals [PV.agg [PV.i .i64 (tk (0 : Nat)), PV.lst 3 (.rats (w + (65 : Nat)) (List.take (qs (0 : Nat)).length (List.drop (0 : Nat) (qs (0 : Nat)))))], PV.agg [PV.i .i64 (tk (1 : Nat)), PV.lst 3 (.rats (w + (65 : Nat)) (List.take (qs (1 : Nat)).length (List.drop (0 : Nat) (qs (1 : Nat)))))]])) []))) (.no 6002)) (.no 6005)) (.no 1)) (.no 5004)) (.ok (.ret (PV.fr 2 (.vals [PV.agg [PV.i .i64 (tk (0 : Nat)), PV.lst 3 (.rats (w + (65 : Nat)) (List.take (qs (0 : Nat)).length (List.drop (0 : Nat) (qs (0 : Nat)))))]])) []))) (.no 6002)) (.no 6005)) (.no 1)) (.no 5004)) (.ok (.ret PV.nil []))).run := by kernel_rfl
include hG in
theorem pcClV (hT : TabG G) (w : Nat) (hw : w ≤ 9000) (n m : Nat) (h1 : 1 ≤ n) (h4 : n ≤ 4) (m1 : 1 ≤ m) (m3 : m ≤ 3) (tk : Nat → Int) (qs : Nat → List Rat) (hl : ∀ j, j < n → (qs j).length = m) :
    PC Tryd.prog G 111 [trC w n tk qs] [] (.fr 2 (.vals ((List.range n).map fun j => kyPV (w + 65) (tk j) (qs j)))) [] := by
  have oc : OrcOK Tryd.prog G RCl := .cons (ck70 hG hT) .nil
  refine evF_pc hG oc mix enterCl (O := RCl) (L := [(3, lCl)]) (pol := polCl) (lps1 (b := bCl) (live := [3, 6, 7, 8]) (sp := lCl) (m := 0) (by kernel_rfl) (by kernel_rfl) (by kernel_rfl) (unr_ok hG oc mix (LpsOK.none (by kernel_rfl)) 5)) ?_
  rw [eCl]
  simp only [List.drop_zero, List.take_length]
  have hcs : n = 1 ∨ n = 2 ∨ n = 3 ∨ n = 4 := by omega
  rcases hcs with rfl | rfl | rfl | rfl
  · have l0 := hl 0 (by omega)
    repeat first | rw [Tr.run_t (by first | (simp only [Bool.and_eq_true, Bool.or_eq_true, decide_eq_true_eq, Nat.ble_eq, Nat.blt_eq, List.length_cons, List.length_nil, Bool.not_eq_true', decide_eq_false_iff_not]; omega) | exact decP_iff.2 ⟨rfl, trivial⟩ | exact decP_iff.2 rfl | exact decide_eq_true rfl | decide)] | rw [Tr.run_f (by first | (simp only [Bool.and_eq_false_iff, Bool.not_eq_false', decide_eq_true_eq, decide_eq_false_iff_not]; omega) | exact congrArg (!·) (decide_eq_true rfl) | decide)]
    rfl
  · have l0 := hl 0 (by omega)
    have l1 := hl 1 (by omega)
    repeat first | rw [Tr.run_t (by first | (simp only [Bool.and_eq_true, Bool.or_eq_true, decide_eq_true_eq, Nat.ble_eq, Nat.blt_eq, List.length_cons, List.length_nil, Bool.not_eq_true', decide_eq_false_iff_not]; omega) | exact decP_iff.2 ⟨rfl, trivial⟩ | exact decP_iff.2 rfl | exact decide_eq_true rfl | decide)] | rw [Tr.run_f (by first | (simp only [Bool.and_eq_false_iff, Bool.not_eq_false', decide_eq_true_eq, decide_eq_false_iff_not]; omega) | exact congrArg (!·) (decide_eq_true rfl) | decide)]
    rfl
  · have l0 := hl 0 (by omega)
    have l1 := hl 1 (by omega)
    have l2 := hl 2 (by omega)
    repeat first | rw [Tr.run_t (by first | (simp only [Bool.and_eq_true, Bool.or_eq_true, decide_eq_true_eq, Nat.ble_eq, Nat.blt_eq, List.length_cons, List.length_nil, Bool.not_eq_true', decide_eq_false_iff_not]; omega) | exact decP_iff.2 ⟨rfl, trivial⟩ | exact decP_iff.2 rfl | exact decide_eq_true rfl | decide)] | rw [Tr.run_f (by first | (simp only [Bool.and_eq_false_iff, Bool.not_eq_false', decide_eq_true_eq, decide_eq_false_iff_not]; omega) | exact congrArg (!·) (decide_eq_true rfl) | decide)]
    rfl
  · have l0 := hl 0 (by omega)
    have l1 := hl 1 (by omega)
    have l2 := hl 2 (by omega)
    have l3 := hl 3 (by omega)
    repeat first | rw [Tr.run_t (by first | (simp only [Bool.and_eq_true, Bool.or_eq_true, decide_eq_true_eq, Nat.ble_eq, Nat.blt_eq, List.length_cons, List.length_nil, Bool.not_eq_true', decide_eq_false_iff_not]; omega) | exact decP_iff.2 ⟨rfl, trivial⟩ | exact decP_iff.2 rfl | exact decide_eq_true rfl | decide)] | rw [Tr.run_f (by first | (simp only [Bool.and_eq_false_iff, Bool.not_eq_false', decide_eq_true_eq, decide_eq_false_iff_not]; omega) | exact congrArg (!·) (decide_eq_true rfl) | decide)]
    rfl
theorem mapr_h (n : Nat) (f : Nat → PV) (hf : ∀ i, noRef 8 (f i) = true) : ∀ (i : Nat) (v : PV), ((List.range n).map f)[i]? = some v → noRef 8 v = true ∧ VLe v (f i) := fun i v hi => by
  rw [List.getElem?_map] at hi
  rcases Nat.lt_or_ge i n with g | g
  · rw [List.getElem?_range g] at hi
    obtain rfl := Option.some.inj hi
    exact ⟨hf i, .refl _⟩
  · rw [List.getElem?_eq_none (by simpa using g)] at hi
    cases hi
theorem mapr_fn (n : Nat) (f : Nat → PV) (hf : ∀ i, noRef 8 (f i) = true) : RLe (.fr 2 (.vals ((List.range n).map f))) (.fr 2 (.fn n f)) :=
  fr_fn 2 n f _ (by simp) (mapr_h n f hf)
include hG in
theorem pcCl (hT : TabG G) (w : Nat) (hw : w ≤ 9000) (n m : Nat) (h1 : 1 ≤ n) (h4 : n ≤ 4) (m1 : 1 ≤ m) (m3 : m ≤ 3) (tk : Nat → Int) (qs : Nat → List Rat) (hl : ∀ j, j < n → (qs j).length = m) :
    PC Tryd.prog G 111 [trC w n tk qs] [] (.fr 2 (.fn n (fun j => kyPV (w + 65) (tk j) (qs j)))) [] :=
  (pcClV hG hT w hw n m h1 h4 m1 m3 tk qs hl).le (mapr_fn n _ fun _ => rfl) (.refl _)
theorem enterDl : Enters Tryd.prog 61 Tryd.f61 (bodyC Tryd.f61) := ⟨Tryd.func61, by kernel_rfl, rfl⟩
noncomputable def bDl : Code := (loopsOf (bodyC Tryd.f61)).getD 0 .skip
def polDl : Pol := { live := [(10, [2, 9, 45, 46])], own := [43] }
noncomputable def ODl (A : Am) (w n : Nat) (tk : Nat → Int) (qs : Nat → List Rat) : Orc := [(36, cst [armPV A, trC w n tk qs] True (.i .i64 0)), (111, cst [trC w n tk qs] True (.fr 2 (.vals ((List.range n).map fun j => kyPV (w + 65) (tk j) (qs j)))))]
noncomputable def lDl : LSpec := unr Tryd.prog [] [] polDl Tryd.f61.ntmps 0 [2, 9, 45, 46] bDl 5
theorem eDl1 (A : Am) (w : Nat) (tk : Nat → Int) (qs : Nat → List Rat) (d : Int) : (evF Tryd.prog (ODl A w 1 tk qs) [(10, lDl)] polDl Tryd.f61 [armPV A, trC w 1 tk qs, .i .i64 d] [] retK).run =
  (Tr.br (decP (isA [armPV A, trC w 1 tk qs] True [armPV A, trC w 1 tk qs])) (.br (decide (d < (-2000 : Int))) (.ok (.ret (PV.tup [PV.nil, PV.i .i64 (1 : Int)]) [])) (.br (decide ((2000 : Int) < d)) (.ok (.ret (PV.tup [PV.nil, PV.i .i64 (1 : Int)]) [])) (.br (ib (tk (0 : Nat) + d)) (.br (decide (tk (0 : Nat) + d < (0 : Int))) (.ok (.ret (PV.tup [PV.nil, PV.i .i64 (1 : Int)]) [])) (.br (ib (tk (0 : Nat) + d)) (.br (decide ((2000 : Int) < tk (0 : Nat) + d)) (.ok (.ret (PV.tup [PV.nil, PV.i .i64 (19 : Int)]) [])) (.br (decP (isA [trC w 1 tk qs] True [trC w 1 tk qs])) (.br (ib (tk 0 + d)) (.ok (.ret (PV.tup [PV.fr 2 (.vals [PV.agg [PV.i .i64 (tk 0 + d), PV.lst 3 (.rats (w + (65 : Nat)) (qs 0))]]), PV.i .i64 (0 : Int)]) [])) (.no 13004)) (.no 1))) (.no 7002))) (.no 5003)))) (.no 1)).run := by kernel_rfl
theorem eDl2 (A : Am) (w : Nat) (tk : Nat → Int) (qs : Nat → List Rat) (d : Int) : (evF Tryd.prog (ODl A w 2 tk qs) [(10, lDl)] polDl Tryd.f61 [armPV A, trC w 2 tk qs, .i .i64 d] [] retK).run =
  (Tr.br (decP (isA [armPV A, trC w 2 tk qs] True [armPV A, trC w 2 tk qs])) (.br (decide (d < (-2000 : Int))) (.ok (.ret (PV.tup [PV.nil, PV.i .i64 (1 : Int)]) [])) (.br (decide ((2000 : Int) < d)) (.ok (.ret (PV.tup [PV.nil, PV.i .i64 (1 : Int)]) [])) (.br (ib (tk (0 : Nat) + d)) (.br (decide (tk (0 : Nat) + d < (0 : Int))) (.ok (.ret (PV.tup [PV.nil, PV.i .i64 (1 : Int)]) [])) (.br (ib (tk (1 : Nat) + d)) (.br (decide ((2000 : Int) < tk (1 : Nat) + d)) (.ok (.ret (PV.tup [PV.nil, PV.i .i64 (19 : Int)]) [])) (.br (decP (isA [trC w 2 tk qs] True [trC w 2 tk qs])) (.br (ib (tk 0 + d)) (.br (ib (tk 1 + d)) (.ok (.ret (PV.tup [PV.fr 2 (.vals [PV.agg [PV.i .i64 (tk 0 + d), PV.lst 3 (.rats (w + (65 : Nat)) (qs 0))], PV.agg [PV.i .i64 (tk 1 + d), PV.lst 3 (.rats (w + (65 : Nat)) (qs 1))]]), PV.i .i64 (0 : Int)]) [])) (.no 13004)) (.no 13004)) (.no 1))) (.no 7002))) (.no 5003)))) (.no 1)).run := by kernel_rfl
theorem eDl3 (A : Am) (w : Nat) (tk : Nat → Int) (qs : Nat → List Rat) (d : Int) : (evF Tryd.prog (ODl A w 3 tk qs) [(10, lDl)] polDl Tryd.f61 [armPV A, trC w 3 tk qs, .i .i64 d] [] retK).run =
  (Tr.br (decP (isA [armPV A, trC w 3 tk qs] True [armPV A, trC w 3 tk qs])) (.br (decide (d < (-2000 : Int))) (.ok (.ret (PV.tup [PV.nil, PV.i .i64 (1 : Int)]) [])) (.br (decide ((2000 : Int) < d)) (.ok (.ret (PV.tup [PV.nil, PV.i .i64 (1 : Int)]) [])) (.br (ib (tk (0 : Nat) + d)) (.br (decide (tk (0 : Nat) + d < (0 : Int))) (.ok (.ret (PV.tup [PV.nil, PV.i .i64 (1 : Int)]) [])) (.br (ib (tk (2 : Nat) + d)) (.br (decide ((2000 : Int) < tk (2 : Nat) + d)) (.ok (.ret (PV.tup [PV.nil, PV.i .i64 (19 : Int)]) [])) (.br (decP (isA [trC w 3 tk qs] True [trC w 3 tk qs])) (.br (ib (tk 0 + d)) (.br (ib (tk 1 + d)) (.br (ib (tk 2 + d)) (.ok (.ret (PV.tup [PV.fr 2 (.vals [PV.agg [PV.i .i64 (tk 0 + d), PV.lst 3 (.rats (w + (65 : Nat)) (qs 0))], PV.agg [PV.i .i64 (tk 1 + d), PV.lst 3 (.rats (w + (65 : Nat)) (qs 1))], PV.agg [PV.i .i64 (tk 2 + d), PV.lst 3 (.rats (w + (65 : Nat)) (qs 2))]]), PV.i .i64 (0 : Int)]) [])) (.no 13004)) (.no 13004)) (.no 13004)) (.no 1))) (.no 7002))) (.no 5003)))) (.no 1)).run := by kernel_rfl
theorem eDl4 (A : Am) (w : Nat) (tk : Nat → Int) (qs : Nat → List Rat) (d : Int) : (evF Tryd.prog (ODl A w 4 tk qs) [(10, lDl)] polDl Tryd.f61 [armPV A, trC w 4 tk qs, .i .i64 d] [] retK).run =
  (Tr.br (decP (isA [armPV A, trC w 4 tk qs] True [armPV A, trC w 4 tk qs])) (.br (decide (d < (-2000 : Int))) (.ok (.ret (PV.tup [PV.nil, PV.i .i64 (1 : Int)]) [])) (.br (decide ((2000 : Int) < d)) (.ok (.ret (PV.tup [PV.nil, PV.i .i64 (1 : Int)]) [])) (.br (ib (tk (0 : Nat) + d)) (.br (decide (tk (0 : Nat) + d < (0 : Int))) (.ok (.ret (PV.tup [PV.nil, PV.i .i64 (1 : Int)]) [])) (.br (ib (tk (3 : Nat) + d)) (.br (decide ((2000 : Int) < tk (3 : Nat) + d)) (.ok (.ret (PV.tup [PV.nil, PV.i .i64 (19 : Int)]) [])) (.br (decP (isA [trC w 4 tk qs] True [trC w 4 tk qs])) (.br (ib (tk 0 + d)) (.br (ib (tk 1 + d)) (.br (ib (tk 2 + d)) (.br (ib (tk 3 + d)) (.ok (.ret (PV.tup [PV.fr 2 (.vals [PV.agg [PV.i .i64 (tk 0 + d), PV.lst 3 (.rats (w + (65 : Nat)) (qs 0))], PV.agg [PV.i .i64 (tk 1 + d), PV.lst 3 (.rats (w + (65 : Nat)) (qs 1))], PV.agg [PV.i .i64 (tk 2 + d), PV.lst 3 (.rats (w + (65 : Nat)) (qs 2))], PV.agg [PV.i .i64 (tk 3 + d), PV.lst 3 (.rats (w + (65 : Nat)) (qs 3))]]), PV.i .i64 (0 : Int)]) [])) (.no 13004)) (.no 13004)) (.no 13004)) (.no 13004)) (.no 1))) (.no 7002))) (.no 5003)))) (.no 1)).run := by kernel_rfl
include hG in
theorem pcDl (hT : TabG G) (A : Am) (w : Nat) (hw : w ≤ 9000) (n m : Nat) (h1 : 1 ≤ n) (h4 : n ≤ 4) (m1 : 1 ≤ m) (m3 : m ≤ 3) (tk : Nat → Int) (qs : Nat → List Rat) (hl : ∀ j, j < n → (qs j).length = m) (d : Int) (d0 : -2000 ≤ d) (d1 : d ≤ 2000)
    (hc : PC Tryd.prog G 36 [armPV A, trC w n tk qs] [] (.i .i64 0) []) (hr : ∀ j, j < n → -50000 ≤ tk j ∧ tk j ≤ 50000) (h0 : 0 ≤ tk 0 + d) (h9 : tk (n - 1) + d ≤ 2000) :
    PC Tryd.prog G 61 [armPV A, trC w n tk qs, .i .i64 d] [] (.tup [.fr 2 (.fn n (fun j => kyPV (w + 65) (tk j + d) (qs j))), .i .i64 0]) [] := by
  have p := pcClV hG hT w hw n m h1 h4 m1 m3 tk qs hl
  refine (evF_pc (r := .tup [.fr 2 (.vals ((List.range n).map fun j => kyPV (w + 65) (tk j + d) (qs j))), .i .i64 0]) hG (.cons (cst_t hc) (.cons (cst_t p) .nil)) mix enterDl (O := ODl A w n tk qs) (L := [(10, lDl)]) (pol := polDl) (lps1 (b := bDl) (live := [2, 9, 45, 46]) (sp := lDl) (m := 0) (by kernel_rfl) (by kernel_rfl) (by kernel_rfl) (unr_ok hG .nil mix (LpsOK.none (by kernel_rfl)) 5)) ?_).le ?_ (.refl _)
  · have hcs : n = 1 ∨ n = 2 ∨ n = 3 ∨ n = 4 := by omega
    have r0 := hr 0 (by omega)
    rcases hcs with rfl | rfl | rfl | rfl
    · have h9' : tk 0 + d ≤ 2000 := h9
      rw [eDl1]
      repeat first | rw [Tr.run_t (by first | (simp only [Bool.and_eq_true, Bool.or_eq_true, decide_eq_true_eq, Nat.ble_eq, Nat.blt_eq, List.length_cons, List.length_nil, Bool.not_eq_true', decide_eq_false_iff_not]; omega) | exact decP_iff.2 ⟨rfl, trivial⟩ | exact decP_iff.2 rfl | exact decide_eq_true rfl | decide)] | rw [Tr.run_f (by first | (simp only [Bool.and_eq_false_iff, Bool.not_eq_false', decide_eq_true_eq, decide_eq_false_iff_not]; omega) | exact congrArg (!·) (decide_eq_true rfl) | decide)]
      rfl
    · have r1 := hr 1 (by omega)
      have h9' : tk 1 + d ≤ 2000 := h9
      rw [eDl2]
      repeat first | rw [Tr.run_t (by first | (simp only [Bool.and_eq_true, Bool.or_eq_true, decide_eq_true_eq, Nat.ble_eq, Nat.blt_eq, List.length_cons, List.length_nil, Bool.not_eq_true', decide_eq_false_iff_not]; omega) | exact decP_iff.2 ⟨rfl, trivial⟩ | exact decP_iff.2 rfl | exact decide_eq_true rfl | decide)] | rw [Tr.run_f (by first | (simp only [Bool.and_eq_false_iff, Bool.not_eq_false', decide_eq_true_eq, decide_eq_false_iff_not]; omega) | exact congrArg (!·) (decide_eq_true rfl) | decide)]
      rfl
    · have r1 := hr 1 (by omega)
      have r2 := hr 2 (by omega)
      have h9' : tk 2 + d ≤ 2000 := h9
      rw [eDl3]
      repeat first | rw [Tr.run_t (by first | (simp only [Bool.and_eq_true, Bool.or_eq_true, decide_eq_true_eq, Nat.ble_eq, Nat.blt_eq, List.length_cons, List.length_nil, Bool.not_eq_true', decide_eq_false_iff_not]; omega) | exact decP_iff.2 ⟨rfl, trivial⟩ | exact decP_iff.2 rfl | exact decide_eq_true rfl | decide)] | rw [Tr.run_f (by first | (simp only [Bool.and_eq_false_iff, Bool.not_eq_false', decide_eq_true_eq, decide_eq_false_iff_not]; omega) | exact congrArg (!·) (decide_eq_true rfl) | decide)]
      rfl
    · have r1 := hr 1 (by omega)
      have r2 := hr 2 (by omega)
      have r3 := hr 3 (by omega)
      have h9' : tk 3 + d ≤ 2000 := h9
      rw [eDl4]
      repeat first | rw [Tr.run_t (by first | (simp only [Bool.and_eq_true, Bool.or_eq_true, decide_eq_true_eq, Nat.ble_eq, Nat.blt_eq, List.length_cons, List.length_nil, Bool.not_eq_true', decide_eq_false_iff_not]; omega) | exact decP_iff.2 ⟨rfl, trivial⟩ | exact decP_iff.2 rfl | exact decide_eq_true rfl | decide)] | rw [Tr.run_f (by first | (simp only [Bool.and_eq_false_iff, Bool.not_eq_false', decide_eq_true_eq, decide_eq_false_iff_not]; omega) | exact congrArg (!·) (decide_eq_true rfl) | decide)]
      rfl
  · exact frs_le0 2 n _ _ (by simp) (mapr_h n _ fun _ => rfl)
def kT : PV → Int
  | .agg [.i _ n, _] => n
  | _ => 0
def kQ : PV → List Rat
  | .agg [_, .lst _ (.rats _ xs)] => xs
  | _ => []
def elT' : PV → Nat → PV
  | .lst _ c, j => c.get j
  | _, _ => .any
def lnT : PV → Nat
  | .lst _ c => c.len
  | _ => 0
def trF (m : Nat) (a : PV) (t : Int) : List Rat := at17 m (lnT a) (fun j => kT (elT' a j)) (fun j => kQ (elT' a j)) t
def PtrF (m : Nat) (a : PV) (t : Int) : Prop := -100000 ≤ t ∧ t ≤ 100000 ∧ ∃ w n f, a = PV.lst 2 (.fn n f) ∧ w ≤ 900 ∧ (∀ j, j < n → VLe (f j) (kyPV w (kT (f j)) (kQ (f j)))) ∧ TrC m n (fun j => kT (f j)) (fun j => kQ (f j))
noncomputable def vAt (m : Nat) : Spec := fun args hs K => match args, hs with
  | [a, .i .i64 t], [] => .br (decP (PtrF m a t)) (K (.fr 3 (.rats 3000 (trF m a t))) []) (.no 1)
  | _, _ => .no 1
include hG in
theorem vAt_ok (hT : TabG G) (m : Nat) : SpecOK Tryd.prog G 20 (vAt m) := by
  intro args hs K x hh
  unfold vAt at hh
  split at hh
  case h_2 => cases hh
  obtain ⟨hc, hr⟩ := Tr.of_br hh
  obtain ⟨h0, h9, w, n, f, rfl, hw, hv, h⟩ := decP_iff.1 hc
  exact ⟨_, _, (PC.args (.cons (VLe.lst (e := 2) (c := .fn n f) (d := .fn n fun j => kyPV w (kT (f j)) (kQ (f j))) rfl hv) (.refl _)) (pc17 hG hT w (by omega) h _ h0 h9)).le (frrats_le 3 _ (by unfold segW; omega)) (.refl _), hr⟩
def dly (d : Int) : PV → PV
  | .agg [.i .i64 t, .lst 3 (.rats w q)] => .agg [.i .i64 (t + d), .lst 3 (.rats (w + 65) q)]
  | v => v
def PDl (A : Am) (a : PV) (n : Nat) (f : Nat → PV) (d : Int) : Prop := a = armPV A ∧ -2000 ≤ d ∧ d ≤ 2000 ∧ ∃ w tk qs, f = (fun j => kyPV w (tk j) (qs j)) ∧ w ≤ 900 ∧ n ≤ 4 ∧ TrC A.n n tk qs ∧ ckR A n tk qs = 0 ∧ 0 ≤ tk 0 + d ∧ tk (n - 1) + d ≤ 2000
noncomputable def vDl (A : Am) : Spec := fun args hs K => match args, hs with
  | [a, .lst 2 (.fn n f), .i .i64 d], [] => .br (decP (PDl A a n f d)) (K (.tup [.fr 2 (.fn n (fun j => dly d (f j))), .i .i64 0]) []) (.no 1)
  | _, _ => .no 1
include hG in
theorem vDl_ok (hT : TabG G) (A : Am) (hA : armB A = true) : SpecOK Tryd.prog G 61 (vDl A) := by
  intro args hs K x hh
  unfold vDl at hh
  split at hh
  case h_2 => cases hh
  rename_i a n f d
  obtain ⟨hc, hr⟩ := Tr.of_br hh
  obtain ⟨rfl, d0, d1, w, tk, qs, rfl, hw, h4, h, ck, h0, h9⟩ := decP_iff.1 hc
  have p := pc58 hG hT A hA w (by omega) n h.n1 h.n60 tk qs h.len h.rng
  rw [ck] at p
  exact ⟨_, _, pcDl hG hT A w (by omega) n A.n h.n1 h4 h.m1 h.m3 tk qs h.len d d0 d1 p h.rng h0 h9, hr⟩
end Go.Proofs.YtgaokohhkdeomaaDoor.PE
namespace Go.Proofs.YtgaokohhkdeomaaDoor.PE
open Go
set_option maxRecDepth 100000
section
variable {m n : Nat} {tk : Nat → Int} {qs : Nat → List Rat} (h : TrC m n tk qs)
include h
theorem at_key {i : Nat} (hi : i < n) : at17 m n tk qs (tk i) = qs i := by
  rcases Nat.lt_or_ge (i + 1) n with g | g
  · rw [at_seg h g (Int.le_refl _) (by have := h.inc i g; omega), show ((tk i : Rat) - (tk i : Rat)) = 0 by grind, Rat.div_def, Rat.zero_mul, parL_0 (h.len i hi)]
  · rw [show i = n - 1 by omega]
    exact at_hi h (Int.le_refl _)
end
end Go.Proofs.YtgaokohhkdeomaaDoor.PE
namespace Go.Proofs.YtgaokohhkdeomaaDoor.PE
open Go
set_option maxRecDepth 100000
def jK (n : Nat) (tk uk : Nat → Int) (j : Nat) : Int := if j < n then tk j else uk (j - n)
def jQ (n : Nat) (qs ps : Nat → List Rat) (j : Nat) : List Rat := if j < n then qs j else ps (j - n)
theorem jK_lo {n : Nat} {tk uk : Nat → Int} {j : Nat} (h : j < n) : jK n tk uk j = tk j := by unfold jK; rw [if_pos h]
theorem jK_hi {n : Nat} {tk uk : Nat → Int} (j : Nat) : jK n tk uk (n + j) = uk j := by unfold jK; rw [if_neg (by omega), Nat.add_sub_cancel_left]
theorem jQ_lo {n : Nat} {qs ps : Nat → List Rat} {j : Nat} (h : j < n) : jQ n qs ps j = qs j := by unfold jQ; rw [if_pos h]
theorem jQ_hi {n : Nat} {qs ps : Nat → List Rat} (j : Nat) : jQ n qs ps (n + j) = ps j := by unfold jQ; rw [if_neg (by omega), Nat.add_sub_cancel_left]
section
variable {m n k : Nat} {tk uk : Nat → Int} {qs ps : Nat → List Rat} (h : TrC m n tk qs) (h' : TrC m k uk ps) (hlt : tk (n - 1) < uk 0) (hnk : n + k ≤ 60)
include h h' hlt hnk
theorem jTrC : TrC m (n + k) (jK n tk uk) (jQ n qs ps) where
  n1 := by have := h.n1; omega
  n60 := hnk
  m1 := h.m1
  m3 := h.m3
  len := fun j hj => by
    rcases Nat.lt_or_ge j n with g | g
    · rw [jQ_lo g]; exact h.len j g
    · obtain ⟨i, rfl⟩ : ∃ i, j = n + i := ⟨j - n, by omega⟩
      rw [jQ_hi]; exact h'.len i (by omega)
  rng := fun j hj => by
    rcases Nat.lt_or_ge j n with g | g
    · rw [jK_lo g]; exact h.rng j g
    · obtain ⟨i, rfl⟩ : ∃ i, j = n + i := ⟨j - n, by omega⟩
      rw [jK_hi]; exact h'.rng i (by omega)
  inc := fun j hj => by
    rcases Nat.lt_or_ge (j + 1) n with g | g
    · rw [jK_lo g, jK_lo (by omega)]; exact h.inc j g
    · rcases Nat.lt_or_ge j n with g2 | g2
      · obtain rfl : j = n - 1 := by omega
        rw [jK_lo g2, show n - 1 + 1 = n + 0 by omega, jK_hi]
        exact hlt
      · obtain ⟨i, rfl⟩ : ∃ i, j = n + i := ⟨j - n, by omega⟩
        rw [jK_hi, show n + i + 1 = n + (i + 1) by omega, jK_hi]
        exact h'.inc i (by omega)
theorem join_lo {t : Int} (ht : t ≤ tk (n - 1)) : at17 m (n + k) (jK n tk uk) (jQ n qs ps) t = at17 m n tk qs t := by
  have hj := jTrC h h' hlt hnk
  have hn := h.n1
  have hk1 := h'.n1
  rcases at_cases h t with g | g | ⟨i, hi, g1, g2⟩
  · rw [at_lo hj (by rw [jK_lo hn]; omega), at_lo h (by omega), jQ_lo hn]
  · obtain rfl : t = tk (n - 1) := by omega
    have e := at_key hj (i := n - 1) (by omega)
    rw [jK_lo (by omega), jQ_lo (by omega)] at e
    rw [e, at_key h (by omega)]
  · have e := at_seg hj (tick := t) (i := i) (by omega) (by rw [jK_lo (by omega)]; omega) (by rw [jK_lo hi]; omega)
    rw [jK_lo (by omega), jK_lo hi, jQ_lo (by omega), jQ_lo hi] at e
    rw [e, at_seg h hi g1 (by omega)]
theorem join_hi {t : Int} (ht : uk 0 ≤ t) : at17 m (n + k) (jK n tk uk) (jQ n qs ps) t = at17 m k uk ps t := by
  have hj := jTrC h h' hlt hnk
  have hn := h.n1
  have hk1 := h'.n1
  rcases at_cases h' t with g | g | ⟨i, hi, g1, g2⟩
  · omega
  · rw [at_hi hj (by rw [show n + k - 1 = n + (k - 1) by omega, jK_hi]; exact g), at_hi h' g, show n + k - 1 = n + (k - 1) by omega, jQ_hi]
  · have e := at_seg hj (tick := t) (i := n + i) (by omega) (by rw [jK_hi]; omega) (by rw [show n + i + 1 = n + (i + 1) by omega, jK_hi]; omega)
    rw [jK_hi, show n + i + 1 = n + (i + 1) by omega, jK_hi, jQ_hi, jQ_hi] at e
    rw [e, at_seg h' hi g1 (by omega)]
end
theorem ckR_at {A : Am} {n i : Nat} {tk : Nat → Int} {qs : Nat → List Rat} (hi : i < n) (h0 : ∀ j, j < i → ck1 A tk qs j = 0) (h1 : ck1 A tk qs i ≠ 0) : ckR A n tk qs = ck1 A tk qs i := by
  have hn : ¬ ∀ j, 0 ≤ j → j < 0 + n → ckB A tk qs j = true := fun hh => h1 (of_decide_eq_true (hh i (Nat.zero_le _) (by omega)))
  have hf : ¬ (List.range n).all (ckB A tk qs) = true := fun hh => h1 (of_decide_eq_true (List.all_eq_true.1 hh i (List.mem_range.2 hi)))
  unfold ckR
  rw [if_neg hf]
  obtain ⟨f1, f2, f3, f4⟩ := fbad_some (ckB A tk qs) n 0 hn
  have e : fbad (ckB A tk qs) n 0 = i := by
    rcases Nat.lt_trichotomy (fbad (ckB A tk qs) n 0) i with g | g | g
    · exact absurd (h0 _ g) (of_decide_eq_false f3)
    · exact g
    · exact absurd (of_decide_eq_true (f4 i (Nat.zero_le _) g)) h1
  rw [e]
theorem ck_all {A : Am} {n : Nat} {tk : Nat → Int} {qs : Nat → List Rat} (h1 : ∀ j, j < n → 0 ≤ tk j ∧ tk j ≤ 2000 ∧ fitB A (qs j) = true) (h2 : ∀ j, j + 1 < n → tk j < tk (j + 1) ∧ slowB A (tk (j + 1) - tk j) (qs j) (qs (j + 1)) = true) : ∀ j, j < n → ck1 A tk qs j = 0 := by
  intro j hj'
  obtain ⟨a, b, c⟩ := h1 j hj'
  unfold ck1
  rw [if_neg (by omega), if_neg (by rw [c]; decide)]
  by_cases h0 : j = 0
  · rw [if_pos h0]
  · obtain ⟨d, e⟩ := h2 (j - 1) (by omega)
    rw [show j - 1 + 1 = j by omega] at d e
    rw [if_neg h0, if_neg (by omega), if_neg (by rw [e]; decide)]
end Go.Proofs.YtgaokohhkdeomaaDoor.PE
namespace Go.Proofs.YtgaokohhkdeomaaDoor.PE
open Go
set_option maxRecDepth 100000
variable {G : World → (Nat → Prop) → Prop} (hG : GOk G)
def cpy : PV → PV
  | .agg [.i .i64 t, .lst 3 (.rats w q)] => .agg [.i .i64 t, .lst 3 (.rats (w + 65) q)]
  | v => v
def PCl (n : Nat) (f : Nat → PV) : Prop := 1 ≤ n ∧ n ≤ 4 ∧ ∃ (w : Nat) (tk : Nat → Int) (qs : Nat → List Rat) (m : Nat), f = (fun j => kyPV w (tk j) (qs j)) ∧ w ≤ 900 ∧ 1 ≤ m ∧ m ≤ 3 ∧ ∀ j, j < n → (qs j).length = m
noncomputable def vCl : Spec := fun args hs K => match args, hs with
  | [.lst 2 (.fn n f)], [] => .br (decP (PCl n f)) (K (.fr 2 (.fn n (fun j => cpy (f j)))) []) (.no 1)
  | _, _ => .no 1
include hG in
theorem vCl_ok (hT : TabG G) : SpecOK Tryd.prog G 111 vCl := by
  intro args hs K x hh
  unfold vCl at hh
  split at hh
  case h_2 => cases hh
  obtain ⟨hc, hr⟩ := Tr.of_br hh
  obtain ⟨h1, h4, w, tk, qs, m, rfl, hw, m1, m3, hl⟩ := decP_iff.1 hc
  exact ⟨_, _, pcCl hG hT w (by omega) _ m h1 h4 m1 m3 tk qs hl, hr⟩
def ckF (A : Am) (n : Nat) (f : Nat → PV) : Int := ckR A n (fun j => kT (f j)) (fun j => kQ (f j))
def PCk (A : Am) (a : PV) (n : Nat) (f : Nat → PV) : Prop := a = armPV A ∧ 1 ≤ n ∧ n ≤ 60 ∧ ∃ w, w ≤ 9000 ∧ ∀ j, j < n → VLe (f j) (kyPV w (kT (f j)) (kQ (f j))) ∧ (kQ (f j)).length = A.n ∧ -50000 ≤ kT (f j) ∧ kT (f j) ≤ 50000
noncomputable def vCk (A : Am) : Spec := fun args hs K => match args, hs with
  | [a, .lst 2 (.fn n f)], [] => .br (decP (PCk A a n f)) (K (.i .i64 (ckF A n f)) []) (.no 1)
  | _, _ => .no 1
include hG in
theorem vCk_ok (hT : TabG G) (A : Am) (hA : armB A = true) : SpecOK Tryd.prog G 36 (vCk A) := by
  intro args hs K x hh
  unfold vCk at hh
  split at hh
  case h_2 => cases hh
  obtain ⟨hc, hr⟩ := Tr.of_br hh
  obtain ⟨rfl, h1, h60, w, hw, h⟩ := decP_iff.1 hc
  exact ⟨_, _, PC.args (.cons (.refl _) (.cons (VLe.lst (e := 2) (c := .fn _ _) (d := .fn _ fun j => kyPV w (kT _) (kQ _)) rfl fun i hi => (h i hi).1) (.refl _))) (pc58 hG hT A hA w hw _ h1 h60 (fun j => kT _) (fun j => kQ _) (fun j hj => (h j hj).2.1) (fun j hj => (h j hj).2.2)), hr⟩
theorem enterJn : Enters Tryd.prog 64 Tryd.f64 (bodyC Tryd.f64) := ⟨Tryd.func64, by kernel_rfl, rfl⟩
noncomputable def bJn : Code := (loopsOf (bodyC Tryd.f64)).getD 0 .skip
def polJn : Pol := { live := [(2, [1, 2, 3, 6, 7, 15, 16, 17])], own := [29] }
noncomputable def OJn (A : Am) : Orc := [(36, vCk A), (111, vCl)]
noncomputable def RJn (A : Am) : Orc := [(36, vCk A)]
noncomputable def lJn (A : Am) : LSpec := unr Tryd.prog (RJn A) [] polJn Tryd.f64.ntmps 0 [1, 2, 3, 6, 7, 15, 16, 17] bJn 3
theorem eJn (A : Am) (n k : Nat) (f g : Nat → PV) : (evF Tryd.prog (OJn A) [(2, lJn A)] polJn Tryd.f64 [armPV A, .lst 2 (.fn n f), .lst 2 (.fn k g)] [] retK).run =
  (Tr.br (decP (PCk A (armPV A) n f)) (.br (!decide (ckF A n f = (0 : Int))) (.ok (.ret (.tup [.nil, .i .i64 (ckF A n f)]) [])) (.br (decP (PCk A (armPV A) k g)) (.br (!decide (ckF A k g = (0 : Int))) (.ok (.ret (.tup [.nil, .i .i64 (ckF A k g)]) [])) (.br (decP (PCl n f)) (.br (decP (PCl k g)) (.br (((0 : Nat) + k).ble k) (.br (n.ble n && (n + k).ble 4294967296) (.br (((0 : Nat) + (n + k)).ble (n + k)) (.br (decP (PCk A (armPV A) (n + k) fun (j : Nat) => match (j + (0 : Nat)).blt n with | true => (Cont.fn n fun (j : Nat) => cpy (f (j + (0 : Nat)))).get (j + (0 : Nat)) | false => (Cont.fn k fun (j : Nat) => cpy (g (j + (0 : Nat)))).get (j + (0 : Nat) - n))) (.br (!decide ((ckF A (n + k) fun (j : Nat) => match (j + (0 : Nat)).blt n with | true => (Cont.fn n fun (j : Nat) => cpy (f (j + (0 : Nat)))).get (j + (0 : Nat)) | false => (Cont.fn k fun (j : Nat) => cpy (g (j + (0 : Nat)))).get (j + (0 : Nat) - n)) = (0 : Int))) (.ok (.ret (.tup [.nil, .i .i64 (ckF A (n + k) fun (j : Nat) => match (j + (0 : Nat)).blt n with | true => (Cont.fn n fun (j : Nat) => cpy (f (j + (0 : Nat)))).get (j + (0 : Nat)) | false => (Cont.fn k fun (j : Nat) => cpy (g (j + (0 : Nat)))).get (j + (0 : Nat) - n))]) [])) (.br ((n + k).ble (n + k)) (.ok (.ret (.tup [.fr 2 (.fn (n + k) fun (j : Nat) => match (j + (0 : Nat)).blt (Cont.cut (0 : Nat) (Cont.fn n fun (j : Nat) => cpy (f j)).len (Blk.mk (2 : Nat) (Cont.fn n fun (j : Nat) => cpy (f j))).c).len with | true => (Cont.cut (0 : Nat) (Cont.fn n fun (j : Nat) => cpy (f j)).len (Blk.mk (2 : Nat) (Cont.fn n fun (j : Nat) => cpy (f j))).c).get (j + (0 : Nat)) | false => (Cont.cut (0 : Nat) (Cont.fn k fun (j : Nat) => cpy (g j)).len (Blk.mk (2 : Nat) (Cont.fn k fun (j : Nat) => cpy (g j))).c).get (j + (0 : Nat) - (Cont.cut (0 : Nat) (Cont.fn n fun (j : Nat) => cpy (f j)).len (Blk.mk (2 : Nat) (Cont.fn n fun (j : Nat) => cpy (f j))).c).len)), .i .i64 (0 : Int)]) [])) (.no 15))) (.no 1)) (.no 10002)) (.no 9002)) (.no 9003)) (.no 1)) (.no 1))) (.no 1))) (.no 1)).run := by kernel_rfl
def jF (w v n : Nat) (tk : Nat → Int) (qs : Nat → List Rat) (uk : Nat → Int) (ps : Nat → List Rat) (j : Nat) : PV := match Nat.blt j n with
  | true => kyPV w (tk j) (qs j)
  | false => kyPV v (uk (j - n)) (ps (j - n))
theorem jF_T (w v n : Nat) (tk : Nat → Int) (qs : Nat → List Rat) (uk : Nat → Int) (ps : Nat → List Rat) : (fun j => kT (jF w v n tk qs uk ps j)) = jK n tk uk := by
  funext j
  unfold jF jK
  cases h : Nat.blt j n with
  | true => rw [if_pos (show j < n from Nat.le_of_ble_eq_true h)]; rfl
  | false => rw [if_neg (show ¬ j < n from fun hh => by have e : Nat.blt j n = true := Nat.ble_eq_true_of_le hh; rw [e] at h; cases h)]; rfl
theorem jF_Q (w v n : Nat) (tk : Nat → Int) (qs : Nat → List Rat) (uk : Nat → Int) (ps : Nat → List Rat) : (fun j => kQ (jF w v n tk qs uk ps j)) = jQ n qs ps := by
  funext j
  unfold jF jQ
  cases h : Nat.blt j n with
  | true => rw [if_pos (show j < n from Nat.le_of_ble_eq_true h)]; rfl
  | false => rw [if_neg (show ¬ j < n from fun hh => by have e : Nat.blt j n = true := Nat.ble_eq_true_of_le hh; rw [e] at h; cases h)]; rfl
theorem ky_le {w v : Nat} (h : w ≤ v) (t : Int) (q : List Rat) : VLe (kyPV w t q) (kyPV v t q) := VLe.agg (VLeL.cons (.refl _) (VLeL.cons (rats_le 3 q h) .nil))
theorem jF_le (w v n : Nat) (h : w ≤ v) (tk : Nat → Int) (qs : Nat → List Rat) (uk : Nat → Int) (ps : Nat → List Rat) (j : Nat) : VLe (jF w v n tk qs uk ps j) (kyPV v (kT (jF w v n tk qs uk ps j)) (kQ (jF w v n tk qs uk ps j))) := by
  unfold jF
  cases Nat.blt j n with
  | true => exact ky_le h _ _
  | false => exact .refl _
theorem ky_len {A : Am} {n k : Nat} {qs ps : Nat → List Rat} (h : ∀ j, j < n → (qs j).length = A.n) (h' : ∀ j, j < k → (ps j).length = A.n) (j : Nat) (hj : j < n + k) : (jQ n qs ps j).length = A.n := by
  rcases Nat.lt_or_ge j n with g | g
  · rw [jQ_lo g]; exact h j g
  · obtain ⟨i, rfl⟩ : ∃ i, j = n + i := ⟨j - n, by omega⟩
    rw [jQ_hi]; exact h' i (by omega)
theorem jK_rng {n k : Nat} {tk uk : Nat → Int} (h : ∀ j, j < n → -50000 ≤ tk j ∧ tk j ≤ 50000) (h' : ∀ j, j < k → -50000 ≤ uk j ∧ uk j ≤ 50000) (j : Nat) (hj : j < n + k) : -50000 ≤ jK n tk uk j ∧ jK n tk uk j ≤ 50000 := by
  rcases Nat.lt_or_ge j n with g | g
  · rw [jK_lo g]; exact h j g
  · obtain ⟨i, rfl⟩ : ∃ i, j = n + i := ⟨j - n, by omega⟩
    rw [jK_hi]; exact h' i (by omega)
include hG in
theorem pcJn (hT : TabG G) (A : Am) (hA : armB A = true) (n k : Nat) (hn : n ≤ 4) (hk : k ≤ 4) (w v : Nat) (hw : w ≤ 800) (hv : v ≤ 800) (hwv : w ≤ v) (tk uk : Nat → Int) (qs ps : Nat → List Rat) (h : TrC A.n n tk qs) (h' : TrC A.n k uk ps) (c1 : ckR A n tk qs = 0) (c2 : ckR A k uk ps = 0) :
    PC Tryd.prog G 64 [armPV A, trC w n tk qs, trC v k uk ps] [] (if ckR A (n + k) (jK n tk uk) (jQ n qs ps) = 0 then .tup [.fr 2 (.fn (n + k) (jF (w + 65) (v + 65) n tk qs uk ps)), .i .i64 0] else .tup [.nil, .i .i64 (ckR A (n + k) (jK n tk uk) (jQ n qs ps))]) [] := by
  have k1 : decP (PCk A (armPV A) n (fun j => kyPV w (tk j) (qs j))) = true := decP_iff.2 ⟨rfl, h.n1, h.n60, w, by omega, fun j hj => ⟨.refl _, h.len j hj, h.rng j hj⟩⟩
  have k2 : decP (PCk A (armPV A) k (fun j => kyPV v (uk j) (ps j))) = true := decP_iff.2 ⟨rfl, h'.n1, h'.n60, v, by omega, fun j hj => ⟨.refl _, h'.len j hj, h'.rng j hj⟩⟩
  have l1 : decP (PCl n (fun j => kyPV w (tk j) (qs j))) = true := decP_iff.2 ⟨h.n1, hn, w, tk, qs, A.n, rfl, by omega, h.m1, h.m3, h.len⟩
  have l2 : decP (PCl k (fun j => kyPV v (uk j) (ps j))) = true := decP_iff.2 ⟨h'.n1, hk, v, uk, ps, A.n, rfl, by omega, h'.m1, h'.m3, h'.len⟩
  have n1 := h.n1
  have k3 : decP (PCk A (armPV A) (n + k) (jF (w + 65) (v + 65) n tk qs uk ps)) = true := decP_iff.2 ⟨rfl, by omega, by omega, v + 65, by omega, fun j hj => ⟨jF_le _ _ _ (by omega) _ _ _ _ _, by
    have := ky_len h.len h'.len j hj
    rw [← jF_Q (w + 65) (v + 65) n tk qs uk ps] at this; exact this, by
    have := jK_rng h.rng h'.rng j hj
    rw [← jF_T (w + 65) (v + 65) n tk qs uk ps] at this; exact this⟩⟩
  have e1 : (!decide (ckF A n (fun j => kyPV w (tk j) (qs j)) = 0)) = false := by
    rw [show ckF A n (fun j => kyPV w (tk j) (qs j)) = ckR A n tk qs from rfl, c1]; rfl
  have e2 : (!decide (ckF A k (fun j => kyPV v (uk j) (ps j)) = 0)) = false := by
    rw [show ckF A k (fun j => kyPV v (uk j) (ps j)) = ckR A k uk ps from rfl, c2]; rfl
  have e3 : ckF A (n + k) (jF (w + 65) (v + 65) n tk qs uk ps) = ckR A (n + k) (jK n tk uk) (jQ n qs ps) := by
    unfold ckF
    rw [jF_T, jF_Q]
  have oc : OrcOK Tryd.prog G (OJn A) := .cons (vCk_ok hG hT A hA) (.cons (vCl_ok hG hT) .nil)
  have oR : OrcOK Tryd.prog G (RJn A) := .cons (vCk_ok hG hT A hA) .nil
  refine evF_pc hG oc mix enterJn (L := [(2, lJn A)]) (pol := polJn) (lps1 (b := bJn) (live := [1, 2, 3, 6, 7, 15, 16, 17]) (sp := lJn A) (m := 0) (by kernel_rfl) (by kernel_rfl) (by kernel_rfl) (unr_ok hG oR mix (LpsOK.none (by kernel_rfl)) 3)) ?_
  refine (eJn A n k (fun j => kyPV w (tk j) (qs j)) (fun j => kyPV v (uk j) (ps j))).trans ?_
  by_cases hz : ckR A (n + k) (jK n tk uk) (jQ n qs ps) = 0
  · rw [if_pos hz]
    have e4 : (!decide (ckF A (n + k) (jF (w + 65) (v + 65) n tk qs uk ps) = 0)) = false := by rw [e3, hz]; rfl
    repeat first | rw [Tr.run_t (by first | (simp only [Bool.and_eq_true, Bool.or_eq_true, decide_eq_true_eq, Nat.ble_eq, Nat.blt_eq, List.length_cons, List.length_nil, Bool.not_eq_true', decide_eq_false_iff_not]; omega) | exact k1 | exact k2 | exact l1 | exact l2 | exact k3 | exact e1 | exact e2 | exact e4 | exact decP_iff.2 ⟨rfl, trivial⟩ | exact decP_iff.2 rfl | exact decide_eq_true rfl | decide)] | rw [Tr.run_f (by first | (simp only [Bool.and_eq_false_iff, Bool.not_eq_false', decide_eq_true_eq, decide_eq_false_iff_not]; omega) | exact k1 | exact k2 | exact l1 | exact l2 | exact k3 | exact e1 | exact e2 | exact e4 | exact congrArg (!·) (decide_eq_true rfl) | decide)]
    rfl
  · rw [if_neg hz]
    have e4 : (!decide (ckF A (n + k) (jF (w + 65) (v + 65) n tk qs uk ps) = 0)) = true := by rw [e3, decide_eq_false hz]; rfl
    repeat first | rw [Tr.run_t (by first | (simp only [Bool.and_eq_true, Bool.or_eq_true, decide_eq_true_eq, Nat.ble_eq, Nat.blt_eq, List.length_cons, List.length_nil, Bool.not_eq_true', decide_eq_false_iff_not]; omega) | exact k1 | exact k2 | exact l1 | exact l2 | exact k3 | exact e1 | exact e2 | exact e4 | exact decP_iff.2 ⟨rfl, trivial⟩ | exact decP_iff.2 rfl | exact decide_eq_true rfl | decide)] | rw [Tr.run_f (by first | (simp only [Bool.and_eq_false_iff, Bool.not_eq_false', decide_eq_true_eq, decide_eq_false_iff_not]; omega) | exact k1 | exact k2 | exact l1 | exact l2 | exact k3 | exact e1 | exact e2 | exact e4 | exact congrArg (!·) (decide_eq_true rfl) | decide)]
    rw [Tr.run_ok, ← e3]
    rfl
theorem jck_lo {A : Am} {n : Nat} {tk uk : Nat → Int} {qs ps : Nat → List Rat} {j : Nat} (hj : j < n) : ck1 A (jK n tk uk) (jQ n qs ps) j = ck1 A tk qs j := by
  unfold ck1
  rw [jK_lo hj, jQ_lo hj]
  by_cases h0 : j = 0
  · rw [if_pos h0, if_pos h0]
  · rw [if_neg h0, if_neg h0, jK_lo (by omega), jQ_lo (by omega)]
theorem jck_hi {A : Am} {n : Nat} {tk uk : Nat → Int} {qs ps : Nat → List Rat} {i : Nat} (hi : 1 ≤ i) : ck1 A (jK n tk uk) (jQ n qs ps) (n + i) = ck1 A uk ps i := by
  unfold ck1
  rw [jK_hi, jQ_hi, show n + i - 1 = n + (i - 1) by omega, jK_hi, jQ_hi]
  rw [if_neg (show ¬ n + i = 0 by omega), if_neg (show ¬ i = 0 by omega)]
theorem jck_n {A : Am} {n : Nat} (hn : 1 ≤ n) {tk uk : Nat → Int} {qs ps : Nat → List Rat} (h0 : 0 ≤ uk 0) (h1 : uk 0 ≤ 2000) (hf : fitB A (ps 0) = true) : ck1 A (jK n tk uk) (jQ n qs ps) n = if uk 0 ≤ tk (n - 1) then 9 else if slowB A (uk 0 - tk (n - 1)) (qs (n - 1)) (ps 0) = false then 19 else 0 := by
  have a := jK_hi (n := n) (tk := tk) (uk := uk) 0
  have b := jQ_hi (n := n) (qs := qs) (ps := ps) 0
  rw [Nat.add_zero] at a b
  unfold ck1
  rw [a, b, jK_lo (show n - 1 < n by omega), jQ_lo (show n - 1 < n by omega), if_neg (by omega), if_neg (by rw [hf]; decide), if_neg (by omega)]
theorem ckR_0 {A : Am} {n : Nat} {tk : Nat → Int} {qs : Nat → List Rat} (h : ∀ j, j < n → ck1 A tk qs j = 0) : ckR A n tk qs = 0 := by
  unfold ckR
  rw [if_pos (show (List.range n).all (ckB A tk qs) = true from List.all_eq_true.2 fun j hj => decide_eq_true (h j (List.mem_range.1 hj)))]
theorem jck {A : Am} {n k : Nat} (hn : 1 ≤ n) (hk : 1 ≤ k) {tk uk : Nat → Int} {qs ps : Nat → List Rat} (h0 : 0 ≤ uk 0) (h1 : uk 0 ≤ 2000) (hf : fitB A (ps 0) = true) (a : ∀ j, j < n → ck1 A tk qs j = 0) (b : ∀ j, j < k → ck1 A uk ps j = 0) :
    ckR A (n + k) (jK n tk uk) (jQ n qs ps) = if uk 0 ≤ tk (n - 1) then 9 else if slowB A (uk 0 - tk (n - 1)) (qs (n - 1)) (ps 0) = false then 19 else 0 := by
  have e := jck_n (A := A) hn (tk := tk) (qs := qs) h0 h1 hf
  by_cases hz : ck1 A (jK n tk uk) (jQ n qs ps) n = 0
  · rw [← e, hz]
    refine ckR_0 fun j hj => ?_
    rcases Nat.lt_trichotomy j n with g | g | g
    · rw [jck_lo g]; exact a j g
    · rw [g]; exact hz
    · obtain ⟨i, rfl⟩ : ∃ i, j = n + i := ⟨j - n, by omega⟩
      rw [jck_hi (by omega)]; exact b i (by omega)
  · rw [← e]
    exact ckR_at (by omega) (fun j hj => by rw [jck_lo hj]; exact a j hj) hz
noncomputable def trG (m : Nat) (a : PV) (t : Int) : List Rat := hide (trF m a t)
noncomputable def vAtG (m : Nat) : Spec := fun args hs K => match args, hs with
  | [a, .i .i64 t], [] => .br (decP (PtrF m a t)) (K (.fr 3 (.rats 3000 (trG m a t))) []) (.no 1)
  | _, _ => .no 1
include hG in
theorem vAtG_ok (hT : TabG G) (m : Nat) : SpecOK Tryd.prog G 20 (vAtG m) := by
  have e : vAtG m = vAt m := by
    unfold vAtG vAt trG
    funext args hs K
    simp only [hide_eq] <;> rfl
  rw [e]
  exact vAt_ok hG hT m
def eqQ (xs ys : List Rat) : Prop := xs = ys ∧ xs.length ≤ 1000
noncomputable def vEq : Spec := fun args hs K => match args, hs with
  | [.lst 3 (.rats w xs), .lst 3 (.rats v ys)], [] => .br (decP (eqQ xs ys)) (K (.bl true) []) (.no 1)
  | _, _ => .no 1
include hG in
theorem vEq_ok : SpecOK Tryd.prog G 22 vEq := by
  intro args hs K x hh
  unfold vEq at hh
  split at hh
  case h_2 => cases hh
  rename_i w xs v ys
  obtain ⟨hc, hr⟩ := Tr.of_br hh
  obtain ⟨rfl, hl⟩ := decP_iff.1 hc
  have := ck19 hG [.lst 3 (.rats w xs), .lst 3 (.rats v xs)] [] K x (by
    show (Tr.br _ (Tr.br _ _ _) _).run = _
    rw [Tr.run_t (by simp only [Bool.and_eq_true, Nat.ble_eq]; omega), Tr.run_t (decide_eq_true rfl)]
    exact hr)
  exact this
theorem enterTJ : Enters Tryd.prog 13 Tryd.f13 (bodyC Tryd.f13) := ⟨Tryd.func13, by kernel_rfl, rfl⟩
def PJn (A : Am) (n k : Nat) (tk uk : Nat → Int) (qs ps : Nat → List Rat) (a b c : PV) : Prop := a = armPV A ∧ b = trC 64 n tk qs ∧ c = trC 129 k uk ps
noncomputable def vJn (A : Am) (n k : Nat) (tk uk : Nat → Int) (qs ps : Nat → List Rat) (J : Int) (f : Nat → PV) : Spec := fun args hs K => match args, hs with
  | [a, b, c], [] => .br (decP (PJn A n k tk uk qs ps a b c)) (.br (decide (J = 0)) (K (.tup [.fr 2 (.fn (n + k) f), .i .i64 0]) []) (K (.tup [.nil, .i .i64 J]) [])) (.no 1)
  | _, _ => .no 1
def PTm (A : Am) (a v : PV) : Prop := a = armPV A ∧ okW v = true
noncomputable def vTm (A : Am) (N : PV → Nat) (TK : PV → Nat → Int) (QS : PV → Nat → List Rat) : Spec := fun args hs K => match args, hs with
  | [a, .w v], [] => .br (decP (PTm A a v)) (K (.fr 2 (.fn (N v) (fun j => kyPV 64 (TK v j) (QS v j)))) []) (.no 1)
  | _, _ => .no 1
noncomputable def OTJ (l : PV) (A : Am) (N : PV → Nat) (TK : PV → Nat → Int) (QS : PV → Nat → List Rat) (n k : Nat) (tk uk : Nat → Int) (qs ps : Nat → List Rat) (J : Int) (f : Nat → PV) : Orc :=
  [(17, cst [] True (.bl true)), (18, cst [.w l] True (armFr A)), (19, vTm A N TK QS), (20, vAtG A.n), (22, vEq), (30, s24), (61, vDl A), (64, vJn A n k tk uk qs ps J f)]
theorem eTJ (l m q : PV) (x : Int) (A : Am) (N : PV → Nat) (TK : PV → Nat → Int) (QS : PV → Nat → List Rat) (n k : Nat) (tk uk : Nat → Int) (qs ps : Nat → List Rat) (J : Int) (f : Nat → PV) : (evF Tryd.prog (OTJ l A N TK QS n k tk uk qs ps J f) [] {} Tryd.f13 [.w l, .w m, .w q, .i .i64 x] [] retK).run =
  (Tr.br (decP (isA [] True [])) (.br (decP (isA [l.w] True [l.w])) (.br (((0 : Nat) + A.n).ble A.n) (.br (decP (PTm A (armPV A) m)) (.br (((0 : Nat) + N m).ble (N m)) (.br (decP (PTm A (armPV A) q)) (.br (((0 : Nat) + N q).ble (N q)) (.br (ib ((150 : Int) + x % (300 : Int))) (.br (decP (PDl A (armPV A) (N q) (fun (j : Nat) => kyPV (64 : Nat) (TK q (j + (0 : Nat))) (QS q (j + (0 : Nat)))) ((150 : Int) + x % (300 : Int)))) (.br (((0 : Nat) + N q).ble (N q)) (.br (decide ((↑(N m) : Int) = (0 : Int))) (.ok (.ret (.bl false) [])) (.br (decide ((↑(N q) : Int) = (0 : Int))) (.ok (.ret (.bl false) [])) (.br (decP (PJn A n k tk uk qs ps (armPV A) (trC 64 (N m) (TK m) (QS m)) (.lst 2 (.fn (N q) fun (j : Nat) => .agg [.i .i64 (TK q (j + (0 : Nat) + (0 : Nat)) + ((150 : Int) + x % (300 : Int))), .lst 3 (.rats 129 (QS q (j + (0 : Nat) + (0 : Nat))))])))) (.br (decide (J = (0 : Int))) (.br (((0 : Nat) + (n + k)).ble (n + k)) (.br (ib ((↑(N m) : Int) - (1 : Int))) (.br (ix ((↑(N m) : Int) - (1 : Int)) ((↑(N m) : Int))) (.br (ix ((0 : Int)) ((↑(N q) : Int))) (.br (ib ((↑(N m) : Int) + (↑(N q) : Int))) (.br (decide ((↑(n + k) : Int) = (↑(N m) : Int) + (↑(N q) : Int))) (.br (decide (TK m (((↑(N m) : Int) - (1 : Int)).toNat + (0 : Nat)) < TK q (0 : Nat) + ((150 : Int) + x % (300 : Int)))) (.br (decP (PtrF A.n (.lst 2 (.fn (n + k) fun (j : Nat) => f (j + (0 : Nat)))) (TK m (((↑(N m) : Int) - (1 : Int)).toNat + (0 : Nat))))) (.br (((0 : Nat) + (trG A.n (.lst 2 (.fn (n + k) fun (j : Nat) => f (j + (0 : Nat)))) (TK m (((↑(N m) : Int) - (1 : Int)).toNat + (0 : Nat)))).length).ble (trG A.n (.lst 2 (.fn (n + k) fun (j : Nat) => f (j + (0 : Nat)))) (TK m (((↑(N m) : Int) - (1 : Int)).toNat + (0 : Nat)))).length) (.br (decP (PtrF A.n (trC 64 (N m) (TK m) (QS m)) (TK m (((↑(N m) : Int) - (1 : Int)).toNat + (0 : Nat))))) (.br (((0 : Nat) + (trG A.n (trC 64 (N m) (TK m) (QS m)) (TK m (((↑(N m) : Int) - (1 : Int)).toNat + (0 : Nat)))).length).ble (trG A.n (trC 64 (N m) (TK m) (QS m)) (TK m (((↑(N m) : Int) - (1 : Int)).toNat + (0 : Nat)))).length) (.br (decP (eqQ (List.take (trG A.n (.lst 2 (.fn (n + k) fun (j : Nat) => f (j + (0 : Nat)))) (TK m (((↑(N m) : Int) - (1 : Int)).toNat + (0 : Nat)))).length (List.drop (0 : Nat) (trG A.n (.lst 2 (.fn (n + k) fun (j : Nat) => f (j + (0 : Nat)))) (TK m (((↑(N m) : Int) - (1 : Int)).toNat + (0 : Nat)))))) (List.take (trG A.n (trC 64 (N m) (TK m) (QS m)) (TK m (((↑(N m) : Int) - (1 : Int)).toNat + (0 : Nat)))).length (List.drop (0 : Nat) (trG A.n (trC 64 (N m) (TK m) (QS m)) (TK m (((↑(N m) : Int) - (1 : Int)).toNat + (0 : Nat)))))))) (.br (ib (TK m (((↑(N m) : Int) - (1 : Int)).toNat + (0 : Nat)) - (3 : Int))) (.br (decP (PtrF A.n (.lst 2 (.fn (n + k) fun (j : Nat) => f (j + (0 : Nat)))) (TK m (((↑(N m) : Int) - (1 : Int)).toNat + (0 : Nat)) - (3 : Int)))) (.br (((0 : Nat) + (trG A.n (.lst 2 (.fn (n + k) fun (j : Nat) => f (j + (0 : Nat)))) (TK m (((↑(N m) : Int) - (1 : Int)).toNat + (0 : Nat)) - (3 : Int))).length).ble (trG A.n (.lst 2 (.fn (n + k) fun (j : Nat) => f (j + (0 : Nat)))) (TK m (((↑(N m) : Int) - (1 : Int)).toNat + (0 : Nat)) - (3 : Int))).length) (.br (ib (TK m (((↑(N m) : Int) - (1 : Int)).toNat + (0 : Nat)) - (3 : Int))) (.br (decP (PtrF A.n (trC 64 (N m) (TK m) (QS m)) (TK m (((↑(N m) : Int) - (1 : Int)).toNat + (0 : Nat)) - (3 : Int)))) (.br (((0 : Nat) + (trG A.n (trC 64 (N m) (TK m) (QS m)) (TK m (((↑(N m) : Int) - (1 : Int)).toNat + (0 : Nat)) - (3 : Int))).length).ble (trG A.n (trC 64 (N m) (TK m) (QS m)) (TK m (((↑(N m) : Int) - (1 : Int)).toNat + (0 : Nat)) - (3 : Int))).length) (.br (decP (eqQ (List.take (trG A.n (.lst 2 (.fn (n + k) fun (j : Nat) => f (j + (0 : Nat)))) (TK m (((↑(N m) : Int) - (1 : Int)).toNat + (0 : Nat)) - (3 : Int))).length (List.drop (0 : Nat) (trG A.n (.lst 2 (.fn (n + k) fun (j : Nat) => f (j + (0 : Nat)))) (TK m (((↑(N m) : Int) - (1 : Int)).toNat + (0 : Nat)) - (3 : Int))))) (List.take (trG A.n (trC 64 (N m) (TK m) (QS m)) (TK m (((↑(N m) : Int) - (1 : Int)).toNat + (0 : Nat)) - (3 : Int))).length (List.drop (0 : Nat) (trG A.n (trC 64 (N m) (TK m) (QS m)) (TK m (((↑(N m) : Int) - (1 : Int)).toNat + (0 : Nat)) - (3 : Int))))))) (.br (ib (TK q (0 : Nat) + ((150 : Int) + x % (300 : Int)) + (7 : Int))) (.br (decP (PtrF A.n (.lst 2 (.fn (n + k) fun (j : Nat) => f (j + (0 : Nat)))) (TK q (0 : Nat) + ((150 : Int) + x % (300 : Int)) + (7 : Int)))) (.br (((0 : Nat) + (trG A.n (.lst 2 (.fn (n + k) fun (j : Nat) => f (j + (0 : Nat)))) (TK q (0 : Nat) + ((150 : Int) + x % (300 : Int)) + (7 : Int))).length).ble (trG A.n (.lst 2 (.fn (n + k) fun (j : Nat) => f (j + (0 : Nat)))) (TK q (0 : Nat) + ((150 : Int) + x % (300 : Int)) + (7 : Int))).length) (.br (ib (TK q (0 : Nat) + ((150 : Int) + x % (300 : Int)) + (7 : Int))) (.br (decP (PtrF A.n (.lst 2 (.fn (N q) fun (j : Nat) => .agg [.i .i64 (TK q (j + (0 : Nat) + (0 : Nat)) + ((150 : Int) + x % (300 : Int))), .lst 3 (.rats 129 (QS q (j + (0 : Nat) + (0 : Nat))))])) (TK q (0 : Nat) + ((150 : Int) + x % (300 : Int)) + (7 : Int)))) (.br (((0 : Nat) + (trG A.n (.lst 2 (.fn (N q) fun (j : Nat) => .agg [.i .i64 (TK q (j + (0 : Nat) + (0 : Nat)) + ((150 : Int) + x % (300 : Int))), .lst 3 (.rats 129 (QS q (j + (0 : Nat) + (0 : Nat))))])) (TK q (0 : Nat) + ((150 : Int) + x % (300 : Int)) + (7 : Int))).length).ble (trG A.n (.lst 2 (.fn (N q) fun (j : Nat) => .agg [.i .i64 (TK q (j + (0 : Nat) + (0 : Nat)) + ((150 : Int) + x % (300 : Int))), .lst 3 (.rats 129 (QS q (j + (0 : Nat) + (0 : Nat))))])) (TK q (0 : Nat) + ((150 : Int) + x % (300 : Int)) + (7 : Int))).length) (.br (decP (eqQ (List.take (trG A.n (.lst 2 (.fn (n + k) fun (j : Nat) => f (j + (0 : Nat)))) (TK q (0 : Nat) + ((150 : Int) + x % (300 : Int)) + (7 : Int))).length (List.drop (0 : Nat) (trG A.n (.lst 2 (.fn (n + k) fun (j : Nat) => f (j + (0 : Nat)))) (TK q (0 : Nat) + ((150 : Int) + x % (300 : Int)) + (7 : Int))))) (List.take (trG A.n (.lst 2 (.fn (N q) fun (j : Nat) => .agg [.i .i64 (TK q (j + (0 : Nat) + (0 : Nat)) + ((150 : Int) + x % (300 : Int))), .lst 3 (.rats 129 (QS q (j + (0 : Nat) + (0 : Nat))))])) (TK q (0 : Nat) + ((150 : Int) + x % (300 : Int)) + (7 : Int))).length (List.drop (0 : Nat) (trG A.n (.lst 2 (.fn (N q) fun (j : Nat) => .agg [.i .i64 (TK q (j + (0 : Nat) + (0 : Nat)) + ((150 : Int) + x % (300 : Int))), .lst 3 (.rats 129 (QS q (j + (0 : Nat) + (0 : Nat))))])) (TK q (0 : Nat) + ((150 : Int) + x % (300 : Int)) + (7 : Int))))))) (.ok (.ret (.bl true) [])) (.no 1)) (.no 13004)) (.no 1)) (.no 13005)) (.no 13008)) (.no 1)) (.no 13009)) (.no 1)) (.no 13015)) (.no 1)) (.no 13016)) (.no 13019)) (.no 1)) (.no 13020)) (.no 1)) (.no 13026)) (.no 1)) (.no 13029)) (.no 1)) (.ok (.ret (.bl false) []))) (.ok (.ret (.bl false) []))) (.no 13039)) (.no 12005)) (.no 12009)) (.no 12010)) (.no 9006)) (.br (!decide (J = (0 : Int))) (.br (decide (J = (9 : Int))) (.br (ix ((0 : Int)) ((↑(N q) : Int))) (.br (ib ((↑(N m) : Int) - (1 : Int))) (.br (ix ((↑(N m) : Int) - (1 : Int)) ((↑(N m) : Int))) (.br (decide (TK q (0 : Nat) + ((150 : Int) + x % (300 : Int)) ≤ TK m (((↑(N m) : Int) - (1 : Int)).toNat + (0 : Nat)))) (.ok (.ret (.bl true) [])) (.br (decide (J = (19 : Int))) (.br (ix ((0 : Int)) ((↑(N q) : Int))) (.br (ib ((↑(N m) : Int) - (1 : Int))) (.br (ix ((↑(N m) : Int) - (1 : Int)) ((↑(N m) : Int))) (.ok (.ret (.b (decide (TK m (((↑(N m) : Int) - (1 : Int)).toNat + (0 : Nat)) < TK q (0 : Nat) + ((150 : Int) + x % (300 : Int))))) [])) (.no 11007)) (.no 11008)) (.no 11014)) (.ok (.ret (.bl false) [])))) (.no 11024)) (.no 11025)) (.no 11031)) (.br (decide (J = (19 : Int))) (.br (ix ((0 : Int)) ((↑(N q) : Int))) (.br (ib ((↑(N m) : Int) - (1 : Int))) (.br (ix ((↑(N m) : Int) - (1 : Int)) ((↑(N m) : Int))) (.ok (.ret (.b (decide (TK m (((↑(N m) : Int) - (1 : Int)).toNat + (0 : Nat)) < TK q (0 : Nat) + ((150 : Int) + x % (300 : Int))))) [])) (.no 11007)) (.no 11008)) (.no 11014)) (.ok (.ret (.bl false) [])))) (.br (ib ((↑(N m) : Int) - (1 : Int))) (.br (ix ((↑(N m) : Int) - (1 : Int)) ((↑(N m) : Int))) (.br (ix ((0 : Int)) ((↑(N q) : Int))) (.br (ib ((↑(N m) : Int) + (↑(N q) : Int))) (.br (decide ((0 : Int) = (↑(N m) : Int) + (↑(N q) : Int))) (.br (decide (TK m (((↑(N m) : Int) - (1 : Int)).toNat + (0 : Nat)) < TK q (0 : Nat) + ((150 : Int) + x % (300 : Int)))) (.br (decP (PtrF A.n .nil (TK m (((↑(N m) : Int) - (1 : Int)).toNat + (0 : Nat))))) (.br (((0 : Nat) + (trG A.n .nil (TK m (((↑(N m) : Int) - (1 : Int)).toNat + (0 : Nat)))).length).ble (trG A.n .nil (TK m (((↑(N m) : Int) - (1 : Int)).toNat + (0 : Nat)))).length) (.br (decP (PtrF A.n (trC 64 (N m) (TK m) (QS m)) (TK m (((↑(N m) : Int) - (1 : Int)).toNat + (0 : Nat))))) (.br (((0 : Nat) + (trG A.n (trC 64 (N m) (TK m) (QS m)) (TK m (((↑(N m) : Int) - (1 : Int)).toNat + (0 : Nat)))).length).ble (trG A.n (trC 64 (N m) (TK m) (QS m)) (TK m (((↑(N m) : Int) - (1 : Int)).toNat + (0 : Nat)))).length) (.br (decP (eqQ (List.take (trG A.n .nil (TK m (((↑(N m) : Int) - (1 : Int)).toNat + (0 : Nat)))).length (List.drop (0 : Nat) (trG A.n .nil (TK m (((↑(N m) : Int) - (1 : Int)).toNat + (0 : Nat)))))) (List.take (trG A.n (trC 64 (N m) (TK m) (QS m)) (TK m (((↑(N m) : Int) - (1 : Int)).toNat + (0 : Nat)))).length (List.drop (0 : Nat) (trG A.n (trC 64 (N m) (TK m) (QS m)) (TK m (((↑(N m) : Int) - (1 : Int)).toNat + (0 : Nat)))))))) (.br (ib (TK m (((↑(N m) : Int) - (1 : Int)).toNat + (0 : Nat)) - (3 : Int))) (.br (decP (PtrF A.n .nil (TK m (((↑(N m) : Int) - (1 : Int)).toNat + (0 : Nat)) - (3 : Int)))) (.br (((0 : Nat) + (trG A.n .nil (TK m (((↑(N m) : Int) - (1 : Int)).toNat + (0 : Nat)) - (3 : Int))).length).ble (trG A.n .nil (TK m (((↑(N m) : Int) - (1 : Int)).toNat + (0 : Nat)) - (3 : Int))).length) (.br (ib (TK m (((↑(N m) : Int) - (1 : Int)).toNat + (0 : Nat)) - (3 : Int))) (.br (decP (PtrF A.n (trC 64 (N m) (TK m) (QS m)) (TK m (((↑(N m) : Int) - (1 : Int)).toNat + (0 : Nat)) - (3 : Int)))) (.br (((0 : Nat) + (trG A.n (trC 64 (N m) (TK m) (QS m)) (TK m (((↑(N m) : Int) - (1 : Int)).toNat + (0 : Nat)) - (3 : Int))).length).ble (trG A.n (trC 64 (N m) (TK m) (QS m)) (TK m (((↑(N m) : Int) - (1 : Int)).toNat + (0 : Nat)) - (3 : Int))).length) (.br (decP (eqQ (List.take (trG A.n .nil (TK m (((↑(N m) : Int) - (1 : Int)).toNat + (0 : Nat)) - (3 : Int))).length (List.drop (0 : Nat) (trG A.n .nil (TK m (((↑(N m) : Int) - (1 : Int)).toNat + (0 : Nat)) - (3 : Int))))) (List.take (trG A.n (trC 64 (N m) (TK m) (QS m)) (TK m (((↑(N m) : Int) - (1 : Int)).toNat + (0 : Nat)) - (3 : Int))).length (List.drop (0 : Nat) (trG A.n (trC 64 (N m) (TK m) (QS m)) (TK m (((↑(N m) : Int) - (1 : Int)).toNat + (0 : Nat)) - (3 : Int))))))) (.br (ib (TK q (0 : Nat) + ((150 : Int) + x % (300 : Int)) + (7 : Int))) (.br (decP (PtrF A.n .nil (TK q (0 : Nat) + ((150 : Int) + x % (300 : Int)) + (7 : Int)))) (.br (((0 : Nat) + (trG A.n .nil (TK q (0 : Nat) + ((150 : Int) + x % (300 : Int)) + (7 : Int))).length).ble (trG A.n .nil (TK q (0 : Nat) + ((150 : Int) + x % (300 : Int)) + (7 : Int))).length) (.br (ib (TK q (0 : Nat) + ((150 : Int) + x % (300 : Int)) + (7 : Int))) (.br (decP (PtrF A.n (.lst 2 (.fn (N q) fun (j : Nat) => .agg [.i .i64 (TK q (j + (0 : Nat) + (0 : Nat)) + ((150 : Int) + x % (300 : Int))), .lst 3 (.rats 129 (QS q (j + (0 : Nat) + (0 : Nat))))])) (TK q (0 : Nat) + ((150 : Int) + x % (300 : Int)) + (7 : Int)))) (.br (((0 : Nat) + (trG A.n (.lst 2 (.fn (N q) fun (j : Nat) => .agg [.i .i64 (TK q (j + (0 : Nat) + (0 : Nat)) + ((150 : Int) + x % (300 : Int))), .lst 3 (.rats 129 (QS q (j + (0 : Nat) + (0 : Nat))))])) (TK q (0 : Nat) + ((150 : Int) + x % (300 : Int)) + (7 : Int))).length).ble (trG A.n (.lst 2 (.fn (N q) fun (j : Nat) => .agg [.i .i64 (TK q (j + (0 : Nat) + (0 : Nat)) + ((150 : Int) + x % (300 : Int))), .lst 3 (.rats 129 (QS q (j + (0 : Nat) + (0 : Nat))))])) (TK q (0 : Nat) + ((150 : Int) + x % (300 : Int)) + (7 : Int))).length) (.br (decP (eqQ (List.take (trG A.n .nil (TK q (0 : Nat) + ((150 : Int) + x % (300 : Int)) + (7 : Int))).length (List.drop (0 : Nat) (trG A.n .nil (TK q (0 : Nat) + ((150 : Int) + x % (300 : Int)) + (7 : Int))))) (List.take (trG A.n (.lst 2 (.fn (N q) fun (j : Nat) => .agg [.i .i64 (TK q (j + (0 : Nat) + (0 : Nat)) + ((150 : Int) + x % (300 : Int))), .lst 3 (.rats 129 (QS q (j + (0 : Nat) + (0 : Nat))))])) (TK q (0 : Nat) + ((150 : Int) + x % (300 : Int)) + (7 : Int))).length (List.drop (0 : Nat) (trG A.n (.lst 2 (.fn (N q) fun (j : Nat) => .agg [.i .i64 (TK q (j + (0 : Nat) + (0 : Nat)) + ((150 : Int) + x % (300 : Int))), .lst 3 (.rats 129 (QS q (j + (0 : Nat) + (0 : Nat))))])) (TK q (0 : Nat) + ((150 : Int) + x % (300 : Int)) + (7 : Int))))))) (.ok (.ret (.bl true) [])) (.no 1)) (.no 13004)) (.no 1)) (.no 13005)) (.no 13008)) (.no 1)) (.no 13009)) (.no 1)) (.no 13015)) (.no 1)) (.no 13016)) (.no 13019)) (.no 1)) (.no 13020)) (.no 1)) (.no 13026)) (.no 1)) (.no 13029)) (.no 1)) (.ok (.ret (.bl false) []))) (.ok (.ret (.bl false) []))) (.no 13039)) (.no 12005)) (.no 12009)) (.no 12010)))) (.no 1)))) (.no 6006)) (.no 1)) (.no 6007)) (.no 6010)) (.no 1)) (.no 5002)) (.no 1)) (.no 4003)) (.no 1)) (.no 1)).run := by kernel_rfl
end Go.Proofs.YtgaokohhkdeomaaDoor.PE
namespace Go.Proofs.YtgaokohhkdeomaaDoor.PE
open Go
set_option maxRecDepth 100000
variable {G : World → (Nat → Prop) → Prop} (hG : GOk G)
include hG in
theorem vTm_ok (A : Am) (hA : armB A = true) (hX : limX A = true) : SpecOK Tryd.prog G 19 (vTm A tkN (tkK A) (tkQ A)) := by
  intro args hs K x hh
  unfold vTm at hh
  split at hh
  case h_2 => cases hh
  obtain ⟨hc, hr⟩ := Tr.of_br hh
  obtain ⟨rfl, hv⟩ := decP_iff.1 hc
  exact ⟨_, _, pcTkm hG A hA hX _ hv, hr⟩
theorem vJn_ok (A : Am) (n k : Nat) (tk uk : Nat → Int) (qs ps : Nat → List Rat) (J : Int) (f : Nat → PV) (h : PC Tryd.prog G 64 [armPV A, trC 64 n tk qs, trC 129 k uk ps] [] (if J = 0 then .tup [.fr 2 (.fn (n + k) f), .i .i64 0] else .tup [.nil, .i .i64 J]) []) : SpecOK Tryd.prog G 64 (vJn A n k tk uk qs ps J f) := by
  intro args hs K x hh
  unfold vJn at hh
  split at hh
  case h_2 => cases hh
  obtain ⟨hc, hr⟩ := Tr.of_br hh
  obtain ⟨rfl, rfl, rfl⟩ := decP_iff.1 hc
  by_cases hz : J = 0
  · rw [Tr.run_t (decide_eq_true hz)] at hr
    rw [if_pos hz] at h
    exact ⟨_, _, h, hr⟩
  · rw [Tr.run_f (decide_eq_false hz)] at hr
    rw [if_neg hz] at h
    exact ⟨_, _, h, hr⟩
theorem eqQ_td {X Y : List Rat} (h : X = Y) (hl : X.length ≤ 1000) : decP (eqQ (List.take X.length (List.drop 0 X)) (List.take Y.length (List.drop 0 Y))) = true := by
  rw [List.drop_zero, List.drop_zero, List.take_length, List.take_length]
  exact decP_iff.2 ⟨h, hl⟩
theorem trG_C (m w n : Nat) (tk : Nat → Int) (qs : Nat → List Rat) (t : Int) : trG m (trC w n tk qs) t = at17 m n tk qs t := hide_eq _
theorem trG_J (m w v n k : Nat) (tk uk : Nat → Int) (qs ps : Nat → List Rat) (t : Int) : trG m (.lst 2 (.fn (n + k) (fun j => jF w v n tk qs uk ps (j + 0)))) t = at17 m (n + k) (jK n tk uk) (jQ n qs ps) t := by
  rw [← jF_T w v n tk qs uk ps, ← jF_Q w v n tk qs uk ps]
  exact hide_eq _
include hG in
theorem lawTJ (hT : TabG G) (l m q : PV) (x : Int) (hl : okW l = true) (hm' : okW m = true) (hq : okW q = true) : PC Tryd.prog G 13 [.w l, .w m, .w q, .i .i64 x] [] (.bl true) [] := by
  have hA := armB_V l
  have hX := limX_V l
  have hL := armL_V l
  have p18 := p18_ok hG l hl
  generalize armD l = A at *
  have p19 := vTm_ok hG A hA hX
  have hx := mod_rng x 300 (by omega)
  have h := tkTrC hA m
  have g := tkTrC hA q
  have hn4 := (tkN_range m).2
  have hk4 := (tkN_range q).2
  have hn1 := h.n1
  have hk1 := g.n1
  have r1 := tkK_le A m (tkN m - 1)
  have r0 := tkK_le A m 0
  have u0 := tkK_le A q 0
  have u1 := tkK_le A q (tkN q - 1)
  have h' : TrC A.n (tkN q) (fun j => tkK A q j + (150 + x % 300)) (tkQ A q) := ⟨g.n1, g.n60, g.m1, g.m3, g.len, fun j hj => by have := tkK_le A q j; omega, fun j hj => by have := g.inc j hj; omega⟩
  have c1 := tk_ck hA hL m
  have c1' := tk_ck hA hL q
  have z1 : ∀ j, j < tkN m → ck1 A (tkK A m) (tkQ A m) j = 0 := ck_all (fun j hj => by have := tkK_le A m j; exact ⟨by omega, by omega, tkQ_fit hA m j⟩) (fun j _ => by have := tkK_s A m j; exact ⟨by omega, slow_ok hL (tkQ_fit hA m j) (tkQ_fit hA m (j + 1)) (by omega)⟩)
  have z2 : ∀ j, j < tkN q → ck1 A (fun j => tkK A q j + (150 + x % 300)) (tkQ A q) j = 0 := ck_all (fun j hj => by have := tkK_le A q j; exact ⟨by omega, by omega, tkQ_fit hA q j⟩) (fun j _ => by
    have := tkK_s A q j
    refine ⟨by omega, ?_⟩
    rw [show tkK A q (j + 1) + (150 + x % 300) - (tkK A q j + (150 + x % 300)) = tkK A q (j + 1) - tkK A q j by omega]
    exact slow_ok hL (tkQ_fit hA q j) (tkQ_fit hA q (j + 1)) (by omega))
  have c2 := ckR_0 z2
  have hJ := jck (A := A) hn1 hk1 (tk := tkK A m) (uk := fun j => tkK A q j + (150 + x % 300)) (qs := tkQ A m) (ps := tkQ A q) (by show 0 ≤ tkK A q 0 + (150 + x % 300); omega) (by show tkK A q 0 + (150 + x % 300) ≤ 2000; omega) (tkQ_fit hA q 0) z1 z2
  have pJ := pcJn hG hT A hA (tkN m) (tkN q) hn4 hk4 64 129 (by omega) (by omega) (by omega) (tkK A m) (fun j => tkK A q j + (150 + x % 300)) (tkQ A m) (tkQ A q) h h' c1 c2
  have d1 : decP (PDl A (armPV A) (tkN q) (fun j => kyPV 64 (tkK A q j) (tkQ A q j)) (150 + x % 300)) = true := decP_iff.2 ⟨rfl, by omega, by omega, 64, tkK A q, tkQ A q, rfl, by omega, by omega, g, c1', by omega, by omega⟩
  have e0 : ((tkN m : Int) - 1).toNat + 0 = tkN m - 1 := by omega
  have hm := h.m3
  have q1 : ∀ t, -100000 ≤ t → t ≤ 100000 → decP (PtrF A.n (trC 64 (tkN m) (tkK A m) (tkQ A m)) t) = true := fun t a b => decP_iff.2 ⟨a, b, 64, tkN m, _, rfl, by omega, fun _ _ => .refl _, h⟩
  have q2 : ∀ t, -100000 ≤ t → t ≤ 100000 → decP (PtrF A.n (trC 129 (tkN q) (fun j => tkK A q j + (150 + x % 300)) (tkQ A q)) t) = true := fun t a b => decP_iff.2 ⟨a, b, 129, tkN q, _, rfl, by omega, fun _ _ => .refl _, h'⟩
  have qa := q1 (tkK A m (tkN m - 1)) (by omega) (by omega)
  have qb := q1 (tkK A m (tkN m - 1) - 3) (by omega) (by omega)
  have qc := q2 (tkK A q 0 + (150 + x % 300) + 7) (by omega) (by omega)
  have oc : ∀ J, PC Tryd.prog G 64 [armPV A, trC 64 (tkN m) (tkK A m) (tkQ A m), trC 129 (tkN q) (fun j => tkK A q j + (150 + x % 300)) (tkQ A q)] [] (if J = 0 then .tup [.fr 2 (.fn (tkN m + tkN q) (jF 129 194 (tkN m) (tkK A m) (tkQ A m) (fun j => tkK A q j + (150 + x % 300)) (tkQ A q))), .i .i64 0] else .tup [.nil, .i .i64 J]) [] → OrcOK Tryd.prog G (OTJ l A tkN (tkK A) (tkQ A) (tkN m) (tkN q) (tkK A m) (fun j => tkK A q j + (150 + x % 300)) (tkQ A m) (tkQ A q) J (jF 129 194 (tkN m) (tkK A m) (tkQ A m) (fun j => tkK A q j + (150 + x % 300)) (tkQ A q))) := fun J hh => .cons (cst_t (pcTks hG hT)) (.cons (cst_t p18) (.cons p19 (.cons (vAtG_ok hG hT A.n) (.cons (vEq_ok hG) (.cons (ok24 hG) (.cons (vDl_ok hG hT A hA) (.cons (vJn_ok A _ _ _ _ _ _ J _ hh) .nil)))))))
  have g1 : decP (PTm A (armPV A) m) = true := decP_iff.2 ⟨rfl, hm'⟩
  have g2 : decP (PTm A (armPV A) q) = true := decP_iff.2 ⟨rfl, hq⟩
  have g3 : decP (PJn A (tkN m) (tkN q) (tkK A m) (fun j => tkK A q j + (150 + x % 300)) (tkQ A m) (tkQ A q) (armPV A) (trC 64 (tkN m) (tkK A m) (tkQ A m)) (trC 129 (tkN q) (fun j => tkK A q j + (150 + x % 300)) (tkQ A q))) = true := decP_iff.2 ⟨rfl, rfl, rfl⟩
  by_cases ca : tkK A q 0 + (150 + x % 300) ≤ tkK A m (tkN m - 1)
  · rw [if_pos ca] at hJ
    rw [hJ] at pJ
    refine evF_pc hG (oc 9 pJ) mix enterTJ (pol := {}) (L := []) (LpsOK.none (by kernel_rfl)) ?_
    refine (eTJ l m q x A tkN (tkK A) (tkQ A) (tkN m) (tkN q) (tkK A m) (fun j => tkK A q j + (150 + x % 300)) (tkQ A m) (tkQ A q) 9 _).trans ?_
    rw [e0]
    repeat first | rw [Tr.run_t (by first | (simp only [Bool.and_eq_true, Bool.or_eq_true, decide_eq_true_eq, Nat.ble_eq, Nat.blt_eq, List.length_cons, List.length_nil, Bool.not_eq_true', decide_eq_false_iff_not]; omega) | exact g1 | exact g2 | exact d1 | exact g3 | exact decP_iff.2 ⟨rfl, trivial⟩ | exact decP_iff.2 rfl | exact decide_eq_true rfl | decide)] | rw [Tr.run_f (by first | (simp only [Bool.and_eq_false_iff, Bool.not_eq_false', decide_eq_true_eq, decide_eq_false_iff_not]; omega) | exact g1 | exact g2 | exact d1 | exact g3 | exact congrArg (!·) (decide_eq_true rfl) | decide)]
    rw [Tr.run_ok]
  · rw [if_neg ca] at hJ
    by_cases cb : slowB A (tkK A q 0 + (150 + x % 300) - tkK A m (tkN m - 1)) (tkQ A m (tkN m - 1)) (tkQ A q 0) = false
    · rw [if_pos cb] at hJ
      rw [hJ] at pJ
      refine (evF_pc hG (oc 19 pJ) mix enterTJ (pol := {}) (L := []) (LpsOK.none (by kernel_rfl)) (r := .b true) (hs' := []) ?_).le (rle_b rfl) (.refl _)
      refine (eTJ l m q x A tkN (tkK A) (tkQ A) (tkN m) (tkN q) (tkK A m) (fun j => tkK A q j + (150 + x % 300)) (tkQ A m) (tkQ A q) 19 _).trans ?_
      rw [e0]
      repeat first | rw [Tr.run_t (by first | (simp only [Bool.and_eq_true, Bool.or_eq_true, decide_eq_true_eq, Nat.ble_eq, Nat.blt_eq, List.length_cons, List.length_nil, Bool.not_eq_true', decide_eq_false_iff_not]; omega) | exact g1 | exact g2 | exact d1 | exact g3 | exact decP_iff.2 ⟨rfl, trivial⟩ | exact decP_iff.2 rfl | exact decide_eq_true rfl | decide)] | rw [Tr.run_f (by first | (simp only [Bool.and_eq_false_iff, Bool.not_eq_false', decide_eq_true_eq, decide_eq_false_iff_not]; omega) | exact g1 | exact g2 | exact d1 | exact g3 | exact congrArg (!·) (decide_eq_true rfl) | decide)]
      rw [Tr.run_ok, decide_eq_true (show tkK A m (tkN m - 1) < tkK A q 0 + (150 + x % 300) by omega)]
    · rw [if_neg cb] at hJ
      rw [hJ] at pJ
      have hlt : tkK A m (tkN m - 1) < tkK A q 0 + (150 + x % 300) := by omega
      have j := jTrC h h' hlt (by omega)
      have q3 : ∀ t, -100000 ≤ t → t ≤ 100000 → decP (PtrF A.n (.lst 2 (.fn (tkN m + tkN q) (fun j => jF 129 194 (tkN m) (tkK A m) (tkQ A m) (fun j => tkK A q j + (150 + x % 300)) (tkQ A q) (j + 0)))) t) = true := fun t a b => decP_iff.2 ⟨a, b, 194, tkN m + tkN q, _, rfl, by omega, fun i _ => jF_le 129 194 (tkN m) (by omega) (tkK A m) (tkQ A m) (fun j => tkK A q j + (150 + x % 300)) (tkQ A q) i, by
        have jj := j
        rw [← jF_T 129 194 (tkN m) (tkK A m) (tkQ A m) (fun j => tkK A q j + (150 + x % 300)) (tkQ A q), ← jF_Q 129 194 (tkN m) (tkK A m) (tkQ A m) (fun j => tkK A q j + (150 + x % 300)) (tkQ A q)] at jj
        exact jj⟩
      have ja := q3 (tkK A m (tkN m - 1)) (by omega) (by omega)
      have jb := q3 (tkK A m (tkN m - 1) - 3) (by omega) (by omega)
      have jc := q3 (tkK A q 0 + (150 + x % 300) + 7) (by omega) (by omega)
      have f1 : ∀ t, t ≤ tkK A m (tkN m - 1) → decP (eqQ (List.take (trG A.n (.lst 2 (.fn (tkN m + tkN q) (fun j => jF 129 194 (tkN m) (tkK A m) (tkQ A m) (fun j => tkK A q j + (150 + x % 300)) (tkQ A q) (j + 0)))) t).length (List.drop 0 (trG A.n (.lst 2 (.fn (tkN m + tkN q) (fun j => jF 129 194 (tkN m) (tkK A m) (tkQ A m) (fun j => tkK A q j + (150 + x % 300)) (tkQ A q) (j + 0)))) t))) (List.take (trG A.n (trC 64 (tkN m) (tkK A m) (tkQ A m)) t).length (List.drop 0 (trG A.n (trC 64 (tkN m) (tkK A m) (tkQ A m)) t)))) = true := fun t ht => eqQ_td (by rw [trG_J, trG_C]; exact join_lo h h' hlt (by omega) ht) (by rw [trG_J, at_len j]; omega)
      have f2 : decP (eqQ (List.take (trG A.n (.lst 2 (.fn (tkN m + tkN q) (fun j => jF 129 194 (tkN m) (tkK A m) (tkQ A m) (fun j => tkK A q j + (150 + x % 300)) (tkQ A q) (j + 0)))) (tkK A q 0 + (150 + x % 300) + 7)).length (List.drop 0 (trG A.n (.lst 2 (.fn (tkN m + tkN q) (fun j => jF 129 194 (tkN m) (tkK A m) (tkQ A m) (fun j => tkK A q j + (150 + x % 300)) (tkQ A q) (j + 0)))) (tkK A q 0 + (150 + x % 300) + 7)))) (List.take (trG A.n (trC 129 (tkN q) (fun j => tkK A q j + (150 + x % 300)) (tkQ A q)) (tkK A q 0 + (150 + x % 300) + 7)).length (List.drop 0 (trG A.n (trC 129 (tkN q) (fun j => tkK A q j + (150 + x % 300)) (tkQ A q)) (tkK A q 0 + (150 + x % 300) + 7))))) = true := eqQ_td (by rw [trG_J, trG_C]; exact join_hi h h' hlt (by omega) (by show tkK A q 0 + (150 + x % 300) ≤ _; omega)) (by rw [trG_J, at_len j]; omega)
      have fa := f1 _ (Int.le_refl _)
      have fb := f1 (tkK A m (tkN m - 1) - 3) (by omega)
      refine evF_pc hG (oc 0 pJ) mix enterTJ (pol := {}) (L := []) (LpsOK.none (by kernel_rfl)) ?_
      refine (eTJ l m q x A tkN (tkK A) (tkQ A) (tkN m) (tkN q) (tkK A m) (fun j => tkK A q j + (150 + x % 300)) (tkQ A m) (tkQ A q) 0 _).trans ?_
      rw [e0]
      repeat first | rw [Tr.run_t (by first | (simp only [Bool.and_eq_true, Bool.or_eq_true, decide_eq_true_eq, Nat.ble_eq, Nat.blt_eq, List.length_cons, List.length_nil, Bool.not_eq_true', decide_eq_false_iff_not]; omega) | exact g1 | exact g2 | exact d1 | exact g3 | exact ja | exact jb | exact jc | exact qa | exact qb | exact qc | exact fa | exact fb | exact f2 | exact decP_iff.2 ⟨rfl, trivial⟩ | exact decP_iff.2 rfl | exact decide_eq_true rfl | decide)] | rw [Tr.run_f (by first | (simp only [Bool.and_eq_false_iff, Bool.not_eq_false', decide_eq_true_eq, decide_eq_false_iff_not]; omega) | exact g1 | exact g2 | exact d1 | exact g3 | exact ja | exact jb | exact jc | exact qa | exact qb | exact qc | exact fa | exact fb | exact f2 | exact congrArg (!·) (decide_eq_true rfl) | decide)]
      rw [Tr.run_ok]
end Go.Proofs.YtgaokohhkdeomaaDoor.PE
namespace Go.Proofs.YtgaokohhkdeomaaDoor.PE
open Go
theorem calls_of_does {P : Program} {g : Nat} {fn : Func} {c : Code} (hg : Enters P g fn c) {vs : Array Value} {w : World} {R : Value → World → Prop} (h : Does P g vs w R) : Calls P g vs w fun e w' => ∃ v, e = .returned v ∧ R v w' := by
  have h1 := h { dst := some 0, op := .move (.const undef), type := 0, pos := "", after := #[], guard := none } ⟨#[undef], []⟩ (fun a w' => ∃ v, a.tmps[0]? = some v ∧ R v w') (fun _ _ _ => False) (fun v w' hv => ⟨v, by simp [Act.put], hv⟩)
  have : (callFunc g vs).run P w = .ok (.enter g vs) w := by
    have hname : fn.name ≠ "runtime.NumGoroutine" := by simpa using hg.name
    simp [callFunc, hg.at_, hname, hg.body]
  rw [this, Oper.upon_enter] at h1
  refine h1.mono fun e w' he => ?_
  cases e with
  | returned v =>
    obtain ⟨v', hv, hr⟩ := he
    simp [Act.put] at hv
    subst hv
    exact ⟨v, rfl, hr⟩
  | panicked chain => exact absurd he (by simp)
  | outgrown => exact absurd he (by simp [LetsOut])
theorem HRel.none (w : World) : HRel w (fun _ => False) noMu (hget (([] : List Blk).map some)) :=
  ⟨fun b k h => by simp [hget] at h, fun b k a z h => by simp [hget] at h, fun b b' k k' a z z' h => by simp [hget] at h, fun a h => h.elim⟩
theorem keptBut_of_old {w w' : World} (h1 : w'.os = w.os) (h2 : w'.output = w.output) (h3 : ∀ n, n < w.heap.size → w'.heap[n]? = w.heap[n]?) (may : MemPlace → Prop) : w.keptBut w' may := by
  refine ⟨h1, h2, fun i hi => ?_⟩
  rw [h3 i hi]
  split
  · rename_i e1 e2
    rw [e1] at e2
    cases e2
    exact ⟨rfl, rfl, rfl, fun _ _ => rfl⟩
  · rename_i e1 e2
    rw [e1] at e2
    cases e2
    exact .inr ⟨rfl, rfl⟩
  · rfl
end Go.Proofs.YtgaokohhkdeomaaDoor.PE
namespace Go.Proofs.YtgaokohhkdeomaaDoor.PE
open Go Go.ChangeShapes Go.WideShapes
set_option maxRecDepth 100000
def blkOf : Value → Nat → Prop
  | .slice (some a) _ _, b => b = a.block
  | _, _ => False
section
variable {H : Type} {enc : TypeId × Value → H} {P : Program} {w : World} {t e : TypeId} {base : Nat} {v : Value} {d : DataW H} {p : List MemPlace}
theorem arg_ints (ht : P.underlying t = some (.slice e)) (he : P.underlying e = some (.int .i64)) (hc : P.cellsOf e = 1)
    (hval : Value.okWide P w .any base t v) (h : DataW.Trod enc P w 0 (fun _ => true) true t v d p) :
    ∃ u : PV, okW u = true ∧ (∀ n ∈ intsW u, -9223372036854775808 ≤ n ∧ n ≤ 9223372036854775807) ∧ (∀ b, blkOf v b → b < w.heap.size) ∧ (∀ S : Nat → Prop, (∀ b, blkOf v b → S b) → RepV w S noMu (.w u) v) ∧
      (∀ w' : World, (∀ n, n < w.heap.size → w'.heap[n]? = w.heap[n]?) → ∃ p', DataW.Trod enc P w' 0 (fun b => decide (b < w.heap.size)) true t v d p') ∧
      ((intsW u = [] ∧ d = .nil) ∨ ∃ sp, d = .slice (lits .i64 (intsW u)) sp) := by
  have hval' := hval
  obtain ⟨a0, len, cap, rfl⟩ := okWide_slice ht hval
  obtain ⟨fuel, hf⟩ := h
  rcases open_ints ht he hc hf with ⟨hcs, hx⟩ | ⟨a, len', cap', zs, hcs, _, hl, hm, hz, hx, hcell, hwz⟩
  · simp [Value.cells] at hcs
    obtain ⟨rfl, rfl, rfl⟩ := hcs
    simp only [Prod.mk.injEq] at hx
    obtain ⟨rfl, rfl⟩ := hx
    refine ⟨.nil, rfl, fun n hn => (nomatch hn), fun b hb => hb.elim, fun S _ => .cell _ _ _ rfl (.w _ _ _ (.nil _)), fun w' _ => ⟨[], RowKit.shut_slice_nil ht⟩, .inl ⟨rfl, rfl⟩⟩
  · simp [Value.cells] at hcs
    obtain ⟨rfl, rfl, rfl⟩ := hcs
    simp only [Prod.mk.injEq] at hx
    obtain ⟨rfl, rfl⟩ := hx
    simp only [if_true] at hz
    unfold Value.okWide at hval'
    rw [ht] at hval'
    simp only [Cell.okWide, Cell.ok, ht] at hval'
    obtain ⟨_, _, _, hsp, row, cells, hsh, _⟩ := hval'
    obtain ⟨b, off, spot⟩ := a
    simp only at hsp
    subst hsp
    have hb : b < w.heap.size := by
      unfold World.shape? at hsh
      split at hsh
      · rename_i hh; exact (Array.getElem?_eq_some_iff.1 hh).1
      · cases hsh
    have hcell' : ∀ j, j < zs.length → w.cell? ⟨b, off + j, none⟩ = some (.int .i64 (zs.getD j 0)) := fun j hj => by rw [← add_plain]; exact hcell j hj
    have hlen : (zs.take len).length = len := by rw [List.length_take]; omega
    refine ⟨.lst 1 (.ints .i64 (zs.take len)), rfl, fun n hn => bounds_i64 (hwz n (List.mem_of_mem_take hn)), fun c hc => (by rw [show c = b from hc]; exact hb), fun S hS => ?_, fun w' hw' => ?_, .inr ⟨_, rfl⟩⟩
    · refine .cell _ _ _ rfl (.w _ _ _ ?_)
      have := RepC.lst (w := w) (S := S) noMu 1 (.ints .i64 (zs.take len)) b off cap (fun j => [.int .i64 ((zs.take len).getD j 0)]) (by show (zs.take len).length ≤ cap; omega) (hS b rfl)
        (fun i hi => .i _ _ _) (fun _ _ => rfl) (fun i j hi hj => by
          have hi' : i < len := by rw [← hlen]; exact hi
          obtain rfl : j = 0 := by omega
          show w.cell? ⟨b, off + (i * 1 + 0), none⟩ = _
          rw [Nat.mul_one, Nat.add_zero, hcell' i (by omega)]
          simp [List.getD_eq_getElem?_getD, hi'])
      rw [show (Cont.ints .i64 (zs.take len)).len = len from hlen] at this
      exact this
    · have hd : decide (b < w.heap.size) = true := decide_eq_true hb
      exact ⟨_, 2, shut_ints' (enc := enc) (w := w') (base := 0) (spare := fun b => decide (b < w.heap.size)) (held := true) (len := len) (cap := cap) (zs := zs) 0 ht he hc
        (Nat.zero_le b) hl hm (by simp only [hd, if_true]; exact hz) (fun i hi => by rw [cell_block (hw' b hb)]; exact hcell' i hi) hwz⟩
end
end Go.Proofs.YtgaokohhkdeomaaDoor.PE
namespace Go.Proofs.YtgaokohhkdeomaaDoor.PE
open Go
set_option maxRecDepth 100000
theorem calls_trueG {P : Program} {G : World → (Nat → Prop) → Prop} {g : Nat} {fn : Func} {c : Code} (hg : Enters P g fn c) {args : List PV} (h : PC P G g args [] (.bl true) []) {w : World} {S : Nat → Prop} {vs : List Value} (hw : G w S) (hS : ∀ a, S a → a < w.heap.size)
    (hv : RepVL w S noMu args vs) (may : MemPlace → Prop) :
    Calls P g vs.toArray w fun e w' => e = .returned (.bool true) ∧ w.keptBut w' may ∧ ∀ n, n < w.heap.size → w'.heap[n]? = w.heap[n]? := by
  refine (calls_of_does hg (h w S noMu vs hw hv ⟨fun b k h => by simp [hget] at h, fun b k a z h => by simp [hget] at h, fun b b' k k' a z z' h => by simp [hget] at h, hS⟩ (fun _ _ => rfl))).mono fun e w' he => ?_
  obtain ⟨v, rfl, S', μ', c⟩ := he
  have hr := c.rep
  have : v = .bool true := by
    cases hr with
    | cell _ _ _ _ h => cases h; rfl
    | agg _ _ _ hv h => simp [isAgg, unfr, unfrA, unfr1] at hv
  subst this
  have old : ∀ n, n < w.heap.size → w'.heap[n]? = w.heap[n]? := fun n hn => c.old n hn (fun b z hb => by simp at hb)
  exact ⟨rfl, keptBut_of_old c.os c.output old may, old⟩
def TG (w : World) (S : Nat → Prop) : Prop := S 1 ∧ Go.Proofs.TabAt 1 Go.Lib.deBruijn64tab w
theorem tg_ok : GOk TG := fun _ _ _ _ m h => ⟨m.sub 1 h.1, fun j hj => (m.cell 1 h.1 j).trans (h.2 j hj)⟩
theorem tg_tab : TabG TG := fun _ _ h => h.2
theorem tab_block {w : World} (h : Go.Proofs.TabAt 1 Go.Lib.deBruijn64tab w) : 1 < w.heap.size := by
  have h0 := h 0 (by decide)
  rcases Nat.lt_or_ge 1 w.heap.size with h1 | h1
  · exact h1
  · unfold World.cell? at h0
    rw [show w.heap[(⟨1, 0, none⟩ : Addr).block]? = none from Array.getElem?_eq_none h1] at h0
    cases h0
theorem tab_of_laid {laid : List (String × DataW Unit)} {W : World} (hl : laid = [("math/bits.deBruijn64tab", Go.Lib.tabData .u8 (Go.Lib.deBruijn64tab.map fun n : Nat => (n : Int)))]) (h : laidMetH Tryd.prog laid W) : Go.Proofs.TabAt 1 Go.Lib.deBruijn64tab W := by
  subst hl
  have h1 : laidMet Tryd.prog [("math/bits.deBruijn64tab", Go.Lib.tabData .u8 (Go.Lib.deBruijn64tab.map fun n : Nat => (n : Int)))] W := h
  have h2 := Go.Lib.tabIs_of_head (g := 1) (t := 203) (e := 5) (n := 64) (by kernel_rfl) (by kernel_rfl) (by kernel_rfl) (by kernel_rfl) (by kernel_rfl) (by kernel_rfl) h1
  intro j hj
  have h3 := h2.cell (g := 1) (by kernel_rfl) j (by rw [List.length_map]; exact hj)
  rw [h3, List.getD_eq_getElem?_getD, List.getD_eq_getElem?_getD, List.getElem?_map, List.getElem?_eq_getElem hj]
  rfl
end Go.Proofs.YtgaokohhkdeomaaDoor.PE
