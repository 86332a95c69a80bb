/-
  Part 6 of the proof: contracts of the program's functions. Conditions: those of the theorems below.
-/
import Derived.Test.YtejfdhcigkgbmaaDoorSums5
import Derived.Test.YtejfdhcigkgbmaaDoorSums2
import Derived.RowKit3
import GoSem.ClaimChange
import Derived.ChangeSlices
import Derived.WideShapes
import Derived.OpenShut
import Derived.Test.YtejfdhcigkgbmaaDoorSums3
import Derived.Lib.LaidTab
set_option linter.all false
namespace Go.Proofs.YtejfdhcigkgbmaaDoor.PE
open Go
set_option maxRecDepth 100000
variable {G : World → (Nat → Prop) → Prop} (hG : GOk G)
noncomputable def b56 : Code := (loopsOf (bodyC Tryd.f56)).getD 0 .skip
def pol56 : Pol := { live := [(7, [5, 10, 11, 34, 35, 36])] }
theorem enter56 : Enters Tryd.prog 56 Tryd.f56 (bodyC Tryd.f56) := ⟨Tryd.func56, by kernel_rfl, rfl⟩
noncomputable def R56 : Orc := [(41, g41), (97, g97)]
noncomputable def O56 (A : Am) (qs : List Rat) (ff : Nat → Fr) : Orc := [(39, cst [armPV A, .lst 3 (.rats 64 qs)] True (.tup [.fr 10 (.fn (A.n + 1) (fun i => frP (ff i) 20000 1500)), .i .i64 0])), (41, g41), (97, g97)]
def n56 (m : Nat) (ff : Nat → Fr) (tx ty fx fy : Rat) (i : Int) : LS := ⟨[.ptr 0 6 0 0 [], .ptr 1 6 0 0 [], .nil, .lst 10 (.fn m (fun j => frP (ff (j + 0 + 0)) 20000 1500)), .i .i64 m, .i .i64 i], [some ⟨6, .vals [.agg [.q fx 40001, .q fy 40001]]⟩, some ⟨6, .vals [.agg [.q tx 20000, .q ty 20000]]⟩]⟩
def x56 (m : Nat) (ff : Nat → Fr) (tx ty fx fy : Rat) (xs : List Rat) (i : Int) : LS := ⟨[.ptr 0 6 0 0 [], .ptr 1 6 0 0 [], .sl 2 3 0 xs.length, .lst 10 (.fn m (fun j => frP (ff (j + 0 + 0)) 20000 1500)), .i .i64 m, .i .i64 i], [some ⟨6, .vals [.agg [.q fx 40001, .q fy 40001]]⟩, some ⟨6, .vals [.agg [.q tx 20000, .q ty 20000]]⟩, some ⟨3, .rats 160005 xs⟩]⟩
theorem t56n (m : Nat) (ff : Nat → Fr) (tx ty fx fy : Rat) (i : Int) : evRound Tryd.prog R56 [] pol56 Tryd.f56.ntmps 0 [5, 10, 11, 34, 35, 36] b56 (n56 m ff tx ty fx fy i) =
  Tr.br (decide (i < (↑m : Int))) (.br (decide ((0 : Int) ≤ i) && decide (i < (↑m : Int))) (.br (((20000 : Nat) + (20000 : Nat) + (1 : Nat)).ble (800000 : Nat)) (.br (((20000 : Nat) + (20000 : Nat) + (1 : Nat)).ble (800000 : Nat)) (.br (((20000 : Nat) + (20000 : Nat) + (1 : Nat) + (40001 : Nat)).ble (800000 : Nat)) (.br (((20000 : Nat) + (20000 : Nat) + (1 : Nat) + (40001 : Nat)).ble (800000 : Nat)) (.br (((20000 : Nat) + (20000 : Nat) + (1 : Nat) + (40001 : Nat) + ((20000 : Nat) + (20000 : Nat) + (1 : Nat) + (40001 : Nat)) + (1 : Nat)).ble (800000 : Nat)) (.br (Nat.blt (0 : Nat) [(tx - (ff (i.toNat + (0 : Nat) + (0 : Nat))).x) * fy - (ty - (ff (i.toNat + (0 : Nat) + (0 : Nat))).y) * fx].length && [(tx - (ff (i.toNat + (0 : Nat) + (0 : Nat))).x) * fy - (ty - (ff (i.toNat + (0 : Nat) + (0 : Nat))).y) * fx].length.ble (4294967296 : Nat)) (.br (decide ((-9223372036854775808) ≤ i + (1 : Int)) && decide (i + (1 : Int) ≤ 9223372036854775807)) (.ok (.out .normal (LS.mk [.ptr 0 6 0 0 [], .ptr 1 6 0 0 [], .sl 2 3 0 1, .lst 10 (.fn m fun (j : Nat) => .agg [.agg [.q (ff (j + (0 : Nat) + (0 : Nat))).x 20000, .q (ff (j + (0 : Nat) + (0 : Nat))).y 20000], .agg [.b (ff (j + (0 : Nat) + (0 : Nat))).h, .q (ff (j + (0 : Nat) + (0 : Nat))).t 1500]]), .i .i64 (↑m : Int), .i .i64 (i + (1 : Int))] [some (.mk 6 (.vals [.agg [.q fx 40001, .q fy 40001]])), some (.mk 6 (.vals [.agg [.q tx 20000, .q ty 20000]])), some (.mk 3 (.rats 160005 [(tx - (ff (i.toNat + (0 : Nat) + (0 : Nat))).x) * fy - (ty - (ff (i.toNat + (0 : Nat) + (0 : Nat))).y) * fx]))]))) (.no 11002)) (.no 10002)) (.no 1)) (.no 1)) (.no 1)) (.no 1)) (.no 1)) (.no 9004)) (.ok (.out (.exit 0) (LS.mk [.ptr 0 6 0 0 [], .ptr 1 6 0 0 [], .nil, .lst 10 (.fn m fun (j : Nat) => .agg [.agg [.q (ff (j + (0 : Nat) + (0 : Nat))).x 20000, .q (ff (j + (0 : Nat) + (0 : Nat))).y 20000], .agg [.b (ff (j + (0 : Nat) + (0 : Nat))).h, .q (ff (j + (0 : Nat) + (0 : Nat))).t 1500]]), .i .i64 (↑m : Int), .i .i64 i] [some (.mk 6 (.vals [.agg [.q fx 40001, .q fy 40001]])), some (.mk 6 (.vals [.agg [.q tx 20000, .q ty 20000]]))]))) := by kernel_rfl
theorem t56x (m : Nat) (ff : Nat → Fr) (tx ty fx fy : Rat) (xs : List Rat) (i : Int) : evRound Tryd.prog R56 [] pol56 Tryd.f56.ntmps 0 [5, 10, 11, 34, 35, 36] b56 (x56 m ff tx ty fx fy xs i) =
  Tr.br (decide (i < (↑m : Int))) (.br (decide ((0 : Int) ≤ i) && decide (i < (↑m : Int))) (.br (((20000 : Nat) + (20000 : Nat) + (1 : Nat)).ble (800000 : Nat)) (.br (((20000 : Nat) + (20000 : Nat) + (1 : Nat)).ble (800000 : Nat)) (.br (((20000 : Nat) + (20000 : Nat) + (1 : Nat) + (40001 : Nat)).ble (800000 : Nat)) (.br (((20000 : Nat) + (20000 : Nat) + (1 : Nat) + (40001 : Nat)).ble (800000 : Nat)) (.br (((20000 : Nat) + (20000 : Nat) + (1 : Nat) + (40001 : Nat) + ((20000 : Nat) + (20000 : Nat) + (1 : Nat) + (40001 : Nat)) + (1 : Nat)).ble (800000 : Nat)) (.br (xs.length.ble xs.length && (xs.length + [(tx - (ff (i.toNat + (0 : Nat) + (0 : Nat))).x) * fy - (ty - (ff (i.toNat + (0 : Nat) + (0 : Nat))).y) * fx].length).ble (4294967296 : Nat)) (.br (decide ((-9223372036854775808) ≤ i + (1 : Int)) && decide (i + (1 : Int) ≤ 9223372036854775807)) (.ok (.out .normal (LS.mk [.ptr 0 6 0 0 [], .ptr 1 6 0 0 [], .sl 2 3 0 (xs.length + [(tx - (ff (i.toNat + (0 : Nat) + (0 : Nat))).x) * fy - (ty - (ff (i.toNat + (0 : Nat) + (0 : Nat))).y) * fx].length), .lst 10 (.fn m fun (j : Nat) => .agg [.agg [.q (ff (j + (0 : Nat) + (0 : Nat))).x 20000, .q (ff (j + (0 : Nat) + (0 : Nat))).y 20000], .agg [.b (ff (j + (0 : Nat) + (0 : Nat))).h, .q (ff (j + (0 : Nat) + (0 : Nat))).t 1500]]), .i .i64 (↑m : Int), .i .i64 (i + (1 : Int))] [some (.mk 6 (.vals [.agg [.q fx 40001, .q fy 40001]])), some (.mk 6 (.vals [.agg [.q tx 20000, .q ty 20000]])), some (.mk 3 (.rats 160005 (List.take xs.length (List.drop (0 : Nat) xs) ++ [(tx - (ff (i.toNat + (0 : Nat) + (0 : Nat))).x) * fy - (ty - (ff (i.toNat + (0 : Nat) + (0 : Nat))).y) * fx])))]))) (.no 11002)) (.no 10002)) (.no 1)) (.no 1)) (.no 1)) (.no 1)) (.no 1)) (.no 9004)) (.ok (.out (.exit 0) (LS.mk [.ptr 0 6 0 0 [], .ptr 1 6 0 0 [], .sl 2 3 0 xs.length, .lst 10 (.fn m fun (j : Nat) => .agg [.agg [.q (ff (j + (0 : Nat) + (0 : Nat))).x 20000, .q (ff (j + (0 : Nat) + (0 : Nat))).y 20000], .agg [.b (ff (j + (0 : Nat) + (0 : Nat))).h, .q (ff (j + (0 : Nat) + (0 : Nat))).t 1500]]), .i .i64 (↑m : Int), .i .i64 i] [some (.mk 6 (.vals [.agg [.q fx 40001, .q fy 40001]])), some (.mk 6 (.vals [.agg [.q tx 20000, .q ty 20000]])), some (.mk 3 (.rats 160005 xs))]))) := by kernel_rfl
theorem e56 (A : Am) (qs : List Rat) (ff : Nat → Fr) (fx fy tx ty : Rat) (m : Nat) (xs : List Rat) (i : Int) : evF Tryd.prog (O56 A qs ff) [(7, lcst (n56 m ff tx ty fx fy 0) (.exit 0) (x56 m ff tx ty fx fy xs i))] pol56 Tryd.f56 [armPV A, .lst 3 (.rats 64 qs), .agg [.q fx 40001, .q fy 40001]] [] retK =
  Tr.br (decP (isA [.agg [.s A.name, .agg [.agg [.q A.bx 64, .q A.by_ 64], .agg [.bl false, .q A.t 64]], .lst 16 (.fn A.n fun (j : Nat) => .agg [.q (A.lk j).len 64, .q (A.lk j).low 64, .q (A.lk j).high 64, .q (A.lk j).spd 64, .q (A.lk j).brk 64, .lst 6 (.fn (A.lk j).np fun (a : Nat) => .agg [.q ((A.lk j).px a) 64, .q ((A.lk j).py a) 64])])], .lst 3 (.rats 64 qs)] True [.agg [.s A.name, .agg [.agg [.q A.bx 64, .q A.by_ 64], .agg [.bl false, .q A.t 64]], .lst 16 (.fn A.n fun (j : Nat) => .agg [.q (A.lk j).len 64, .q (A.lk j).low 64, .q (A.lk j).high 64, .q (A.lk j).spd 64, .q (A.lk j).brk 64, .lst 6 (.fn (A.lk j).np fun (a : Nat) => .agg [.q ((A.lk j).px a) 64, .q ((A.lk j).py a) 64])])], .lst 3 (.rats 64 qs)])) (.br (((0 : Nat) + (A.n + (1 : Nat))).ble (A.n + (1 : Nat))) (.br (!decide ((0 : Int) = (0 : Int))) (.ok (.ret (.tup [.nil, .i .i64 (0 : Int)]) [])) (.br (decide ((-9223372036854775808) ≤ (↑(A.n + (1 : Nat)) : Int) - (1 : Int)) && decide ((↑(A.n + (1 : Nat)) : Int) - (1 : Int) ≤ 9223372036854775807)) (.br (decide ((0 : Int) ≤ (↑(A.n + (1 : Nat)) : Int) - (1 : Int)) && decide ((↑(A.n + (1 : Nat)) : Int) - (1 : Int) < (↑(A.n + (1 : Nat)) : Int))) (.br (decide ((-9223372036854775808) ≤ (↑(A.n + (1 : Nat)) : Int) - (1 : Int)) && decide ((↑(A.n + (1 : Nat)) : Int) - (1 : Int) ≤ 9223372036854775807)) (.br (decide ((0 : Int) ≤ (↑(A.n + (1 : Nat)) : Int) - (1 : Int)) && decide ((↑(A.n + (1 : Nat)) : Int) - (1 : Int) ≤ (↑(A.n + (1 : Nat)) : Int))) (.br (decP (isLS (LS.mk [.ptr 0 6 0 0 [], .ptr 1 6 0 0 [], .nil, .lst 10 (.fn m fun (j : Nat) => .agg [.agg [.q (ff (j + (0 : Nat) + (0 : Nat))).x 20000, .q (ff (j + (0 : Nat) + (0 : Nat))).y 20000], .agg [.b (ff (j + (0 : Nat) + (0 : Nat))).h, .q (ff (j + (0 : Nat) + (0 : Nat))).t 1500]]), .i .i64 (↑m : Int), .i .i64 (0 : Int)] [some (.mk 6 (.vals [.agg [.q fx 40001, .q fy 40001]])), some (.mk 6 (.vals [.agg [.q tx 20000, .q ty 20000]]))]) (LS.mk [.ptr 0 6 0 0 [], .ptr 1 6 0 0 [], .nil, .lst 10 (.fn (((↑(A.n + (1 : Nat)) : Int) - (1 : Int)).toNat - (0 : Nat)) fun (j : Nat) => .agg [.agg [.q (ff (j + (0 : Nat) + (0 : Nat))).x 20000, .q (ff (j + (0 : Nat) + (0 : Nat))).y 20000], .agg [.b (ff (j + (0 : Nat) + (0 : Nat))).h, .q (ff (j + (0 : Nat) + (0 : Nat))).t 1500]]), .i .i64 (↑(((↑(A.n + (1 : Nat)) : Int) - (1 : Int)).toNat - (0 : Nat)) : Int), .i .i64 (0 : Int)] [some (.mk 6 (.vals [.agg [.q fx 40001, .q fy 40001]])), some (.mk 6 (.vals [.agg [.q (ff (((↑(A.n + (1 : Nat)) : Int) - (1 : Int)).toNat + (0 : Nat))).x 20000, .q (ff (((↑(A.n + (1 : Nat)) : Int) - (1 : Int)).toNat + (0 : Nat))).y 20000]]))]))) (.br (xs.length.ble xs.length) (.ok (.ret (.tup [.fr 3 (.rats 160005 (List.take xs.length (List.drop (0 : Nat) xs))), .i .i64 (0 : Int)]) [])) (.no 15)) (.no 1)) (.no 7003)) (.no 7004)) (.no 5005)) (.no 5006))) (.no 2006)) (.no 1) := by kernel_rfl
theorem enter49 : Enters Tryd.prog 49 Tryd.f49 (bodyC Tryd.f49) := ⟨Tryd.func49, by kernel_rfl, rfl⟩
def pol49 : Pol := { wr := [(45, [0])] }
theorem k49 (v : PV) : evF Tryd.prog [(36, s36), (45, s45)] [] pol49 Tryd.f49 [.w v] [] retK =
  Tr.br (okW v && decide ((0 : Int) < (1048576 : Int)) && decide ((1048576 : Int) ≤ (4294967296 : Int))) (.br (inI (nx v (1048576 : Int))) (.br (okW (rs v) && decide ((0 : Int) < (1048576 : Int)) && decide ((1048576 : Int) ≤ (4294967296 : Int))) (.br (inI (nx (rs v) (1048576 : Int))) (.ok (.ret (.agg [.q (rtV (nx v (1048576 : Int))) 64, .q (rtV (nx (rs v) (1048576 : Int))) 64]) [])) (.no 1)) (.no 1)) (.no 1)) (.no 1) := by kernel_rfl
noncomputable def g49 (VX VY : PV → Rat) : Spec := fun args hs K => match args, hs with
  | [.w v], [] => .br (decP (okW v = true ∧ VX v = rtV (nx v 1048576) ∧ VY v = rtV (nx (rs v) 1048576))) (K (.agg [.q (VX v) 64, .q (VY v) 64]) []) (.no 1)
  | _, _ => .no 1
include hG in
theorem gk49 (VX VY : PV → Rat) : SpecOK Tryd.prog G 49 (g49 VX VY) := by
  refine spec_of hG (.cons (ok36 hG) (.cons (ok45 hG) .nil)) mix enter49 (L := []) (pol := pol49) fun args hs K x h => ?_
  unfold g49 at h
  split at h
  case h_2 => cases h
  rename_i v
  obtain ⟨hc, hr⟩ := Tr.of_br h
  obtain ⟨hw, e1, e2⟩ := decP_iff.1 hc
  rw [e1, e2] at hr
  have w1 := okW_rs hw
  have r1 := nx_range v (show (0 : Int) < 1048576 by omega)
  have r2 := nx_range (rs v) (show (0 : Int) < 1048576 by omega)
  refine ⟨LpsOK.none (by kernel_rfl), _, _, _, ?_, .refl _, hr⟩
  rw [k49, Tr.run_t (by rw [hw]; decide), Tr.run_t (inI_iff.2 (by omega)), Tr.run_t (by rw [w1]; decide), Tr.run_t (inI_iff.2 (by omega)), Tr.run_ok]
noncomputable def tqF (ff : Nat → Fr) (n : Nat) (fx fy : Rat) (i : Nat) : Rat := ((ff n).x - (ff i).x) * fy - ((ff n).y - (ff i).y) * fx
noncomputable def tqL (ff : Nat → Fr) (n : Nat) (fx fy : Rat) : List Rat := (List.range n).map (tqF ff n fx fy)
include hG in
theorem orcR56 (hT : TabG G) : OrcOK Tryd.prog G R56 := .cons (gk41 hG hT) (.cons (gk97 hG hT) .nil)
include hG in
theorem goes56 (hT : TabG G) (m : Nat) (hm : m ≤ 3) (h1 : 1 ≤ m) (ff : Nat → Fr) (tx ty fx fy : Rat) :
    Goes (Rnd Tryd.prog G Tryd.f56.ntmps 0 [5, 10, 11, 34, 35, 36] b56) (n56 m ff tx ty fx fy 0) (.exit 0) (x56 m ff tx ty fx fy ((List.range m).map fun i => (tx - (ff i).x) * fy - (ty - (ff i).y) * fx) m) := by
  refine Goes.build (xst := fun ys (j : Nat) => x56 m ff tx ty fx fy ys ((j : Nat) : Int)) (fun i => (tx - (ff i).x) * fy - (ty - (ff i).y) * fx) (by simp) m h1 ?_ ?_ ?_
  · refine round_ok hG (orcR56 hG hT) mix (L := []) (pol := pol56) (O := R56) (LpsOK.none (by kernel_rfl)) (Nat.zero_le _) ?_
    rw [t56n, Tr.run_t (decide_eq_true (by omega)), Tr.run_t (by simp only [Bool.and_eq_true, decide_eq_true_eq]; omega), Tr.run_t (by decide), Tr.run_t (by decide), Tr.run_t (by decide), Tr.run_t (by decide), Tr.run_t (by decide), Tr.run_t (by simp), Tr.run_t (by decide), Tr.run_ok]
    rfl
  · intro ys j hj hj1 hjm
    refine round_ok hG (orcR56 hG hT) mix (L := []) (pol := pol56) (O := R56) (LpsOK.none (by kernel_rfl)) (Nat.zero_le _) ?_
    have e2 : ((j : Nat) : Int).toNat + 0 + 0 = j := by omega
    rw [t56x, e2, Tr.run_t (decide_eq_true (by omega)), Tr.run_t (by simp only [Bool.and_eq_true, decide_eq_true_eq]; omega), Tr.run_t (by decide), Tr.run_t (by decide), Tr.run_t (by decide), Tr.run_t (by decide), Tr.run_t (by decide), Tr.run_t (by simp only [Bool.and_eq_true, Nat.ble_eq, List.length_cons, List.length_nil]; omega), Tr.run_t (by simp only [Bool.and_eq_true, decide_eq_true_eq]; omega), Tr.run_ok, List.drop_zero, List.take_length]
    unfold x56
    rw [List.length_append]
    rfl
  · refine round_ok hG (orcR56 hG hT) mix (L := []) (pol := pol56) (O := R56) (LpsOK.none (by kernel_rfl)) (Nat.zero_le _) ?_
    rw [t56x, Tr.run_f (decide_eq_false (by omega)), Tr.run_ok]
    rfl
include hG in
theorem pc56 (hT : TabG G) (A : Am) (hA : armB A = true) (qs : List Rat) (hq : qs.length = A.n) (fx fy : Rat) (n m : Nat) (hn : n ≤ 40001) (hm : m ≤ 40001) :
    PC Tryd.prog G 56 [armPV A, .lst 3 (.rats 64 qs), .agg [.q fx n, .q fy m]] [] (.tup [.fr 3 (.rats 160005 (tqL (allF (bsF A) (qf qs) (fun j => (A.lk j).len) A.n) A.n fx fy)), .i .i64 0]) [] := by
  refine PC.args (.cons (.refl _) (.cons (.refl _) (.cons (VLe.agg (vllc (vle_qm hn) (vllc (vle_qm hm) vll0))) .nil))) ?_
  have h5 := (armB_c hA).2.2.2.2.1
  have h6 := (armB_c hA).2.2.2.2.2.1
  have p39 := pc39 hG hT A hA qs hq
  generalize allF (bsF A) (qf qs) (fun j => (A.lk j).len) A.n = ff at *
  have e1 : ((((A.n + 1 : Nat) : Int) - 1).toNat - 0) = A.n := by omega
  have e2 : ((((A.n + 1 : Nat) : Int) - 1).toNat + 0) = A.n := by omega
  have g := goes56 hG hT ((((A.n + 1 : Nat) : Int) - 1).toNat - 0) (by omega) (by omega) ff (ff ((((A.n + 1 : Nat) : Int) - 1).toNat + 0)).x (ff ((((A.n + 1 : Nat) : Int) - 1).toNat + 0)).y fx fy
  refine evF_pc hG (.cons (cst_t p39) (.cons (gk41 hG hT) (.cons (gk97 hG hT) .nil))) mix enter56 (pol := pol56) (lps1 (b := b56) (live := [5, 10, 11, 34, 35, 36]) (m := 0) (L := [(7, lcst (n56 ((((A.n + 1 : Nat) : Int) - 1).toNat - 0) ff (ff ((((A.n + 1 : Nat) : Int) - 1).toNat + 0)).x (ff ((((A.n + 1 : Nat) : Int) - 1).toNat + 0)).y fx fy 0) (.exit 0)
    (x56 ((((A.n + 1 : Nat) : Int) - 1).toNat - 0) ff (ff ((((A.n + 1 : Nat) : Int) - 1).toNat + 0)).x (ff ((((A.n + 1 : Nat) : Int) - 1).toNat + 0)).y fx fy ((List.range ((((A.n + 1 : Nat) : Int) - 1).toNat - 0)).map fun i => ((ff ((((A.n + 1 : Nat) : Int) - 1).toNat + 0)).x - (ff i).x) * fy - ((ff ((((A.n + 1 : Nat) : Int) - 1).toNat + 0)).y - (ff i).y) * fx) (((((A.n + 1 : Nat) : Int) - 1).toNat - 0 : Nat) : Int)))]) (by kernel_rfl) (by kernel_rfl) (by kernel_rfl) (lcst_ok g)) ?_
  refine (congrArg Tr.run (e56 A qs ff fx fy _ _ _ _ _)).trans ?_
  rw [Tr.run_t (decP_iff.2 ⟨rfl, trivial⟩), Tr.run_t (bleZ _), Tr.run_f (by decide), Tr.run_t (by simp only [Bool.and_eq_true, decide_eq_true_eq]; omega), Tr.run_t (by simp only [Bool.and_eq_true, decide_eq_true_eq]; omega), Tr.run_t (by simp only [Bool.and_eq_true, decide_eq_true_eq]; omega), Tr.run_t (by simp only [Bool.and_eq_true, decide_eq_true_eq]; omega),
    Tr.run_t isLS_t, Tr.run_t (by rw [Nat.ble_eq]; omega), Tr.run_ok, List.drop_zero, List.take_length, e1, e2]
  rfl
theorem enter55 : Enters Tryd.prog 55 Tryd.f55 (bodyC Tryd.f55) := ⟨Tryd.func55, by kernel_rfl, rfl⟩
noncomputable def q00 : List Rat := [mkRat (0 : Int) (Int.toNat (1 : Int)), mkRat (0 : Int) (Int.toNat (1 : Int))]
theorem k55 (S : Am) (a b : Rat) : evF Tryd.prog [(23, s23), (32, cst [.lst 1 (.ints .i64 [3, 2])] True (armFr S)), (56, cst [armPV S, .lst 3 (.rats 64 q00), .agg [.q (mkRat (0 : Int) (Int.toNat (1 : Int))) 64, .q (mkRat (1 : Int) (Int.toNat (1 : Int))) 64]] True (.tup [.fr 3 (.rats 160005 [a, b]), .i .i64 0])), (84, s84)] [] {} Tryd.f55 [] [] retK =
  Tr.br (decP (isA [.lst 1 (.ints .i64 [(3 : Int), (2 : Int)])] True [.lst 1 (.ints .i64 [(3 : Int), (2 : Int)])])) (.br (((0 : Nat) + S.n).ble S.n) (.br (decide ((0 : Int) < (1 : Int)) && decide ((1 : Int) < (4611686018427387904 : Int)) && decide ((-4611686018427387904 : Int) < (0 : Int)) && decide ((0 : Int) < (4611686018427387904 : Int))) (.br (decide ((0 : Int) < (1 : Int)) && decide ((1 : Int) < (4611686018427387904 : Int)) && decide ((-4611686018427387904 : Int) < (0 : Int)) && decide ((0 : Int) < (4611686018427387904 : Int))) (.br (decide ((0 : Int) < (1 : Int)) && decide ((1 : Int) < (4611686018427387904 : Int)) && decide ((-4611686018427387904 : Int) < (0 : Int)) && decide ((0 : Int) < (4611686018427387904 : Int))) (.br (decide ((0 : Int) < (1 : Int)) && decide ((1 : Int) < (4611686018427387904 : Int)) && decide ((-4611686018427387904 : Int) < (1 : Int)) && decide ((1 : Int) < (4611686018427387904 : Int))) (.br (decP (isA [.agg [.s S.name, .agg [.agg [.q S.bx 64, .q S.by_ 64], .agg [.bl false, .q S.t 64]], .lst 16 (.fn S.n fun (j : Nat) => .agg [.q (S.lk j).len 64, .q (S.lk j).low 64, .q (S.lk j).high 64, .q (S.lk j).spd 64, .q (S.lk j).brk 64, .lst 6 (.fn (S.lk j).np fun (a : Nat) => .agg [.q ((S.lk j).px a) 64, .q ((S.lk j).py a) 64])])], .lst 3 (.rats 64 [mkRat (0 : Int) (Int.toNat (1 : Int)), mkRat (0 : Int) (Int.toNat (1 : Int))]), .agg [.q (mkRat (0 : Int) (Int.toNat (1 : Int))) 64, .q (mkRat (1 : Int) (Int.toNat (1 : Int))) 64]] True [.agg [.s S.name, .agg [.agg [.q S.bx 64, .q S.by_ 64], .agg [.bl false, .q S.t 64]], .lst 16 (.fn S.n fun (j : Nat) => .agg [.q (S.lk (j + (0 : Nat))).len 64, .q (S.lk (j + (0 : Nat))).low 64, .q (S.lk (j + (0 : Nat))).high 64, .q (S.lk (j + (0 : Nat))).spd 64, .q (S.lk (j + (0 : Nat))).brk 64, .lst 6 (.fn (S.lk (j + (0 : Nat))).np fun (a : Nat) => .agg [.q ((S.lk (j + (0 : Nat))).px a) 64, .q ((S.lk (j + (0 : Nat))).py a) 64])])], .lst 3 (.rats 64 [mkRat (0 : Int) (Int.toNat (1 : Int)), mkRat (0 : Int) (Int.toNat (1 : Int))]), .agg [.q (mkRat (0 : Int) (Int.toNat (1 : Int))) 64, .q (mkRat (1 : Int) (Int.toNat (1 : Int))) 64]])) (.br (((0 : Nat) + [a, b].length).ble [a, b].length) (.br (decide ((0 : Int) = (0 : Int))) (.br (decide ((↑[a, b].length : Int) = (2 : Int))) (.br (decide ((0 : Int) ≤ (0 : Int)) && decide ((0 : Int) < (↑[a, b].length : Int))) (.br (decide ((0 : Int) < (1 : Int)) && decide ((1 : Int) < (4611686018427387904 : Int)) && decide ((-4611686018427387904 : Int) < (5 : Int)) && decide ((5 : Int) < (4611686018427387904 : Int))) (.br (decide ((List.take [a, b].length (List.drop (0 : Nat) [a, b])).getD (Int.toNat (0 : Int)) (0 : Rat) = mkRat (5 : Int) (Int.toNat (1 : Int)))) (.br (decide ((0 : Int) ≤ (1 : Int)) && decide ((1 : Int) < (↑[a, b].length : Int))) (.br (decide ((0 : Int) < (1 : Int)) && decide ((1 : Int) < (4611686018427387904 : Int)) && decide ((-4611686018427387904 : Int) < (2 : Int)) && decide ((2 : Int) < (4611686018427387904 : Int))) (.ok (.ret (.b (decide ((List.take [a, b].length (List.drop (0 : Nat) [a, b])).getD (Int.toNat (1 : Int)) (0 : Rat) = mkRat (2 : Int) (Int.toNat (1 : Int))))) [])) (.no 1)) (.no 3006)) (.ok (.ret (.bl false) []))) (.no 1)) (.no 3013)) (.ok (.ret (.bl false) []))) (.ok (.ret (.bl false) []))) (.no 2006)) (.no 1)) (.no 1)) (.no 1)) (.no 1)) (.no 1)) (.no 2011)) (.no 1) := by kernel_rfl
noncomputable def b9 : Code := (loopsOf (bodyC Tryd.f9)).getD 0 .skip
def pol9 : Pol := { live := [(12, [4, 10, 11, 12, 15, 17, 19, 21, 115, 116])] }
theorem enter9 : Enters Tryd.prog 9 Tryd.f9 (bodyC Tryd.f9) := ⟨Tryd.func9, by kernel_rfl, rfl⟩
def Tq (A : Am) (qs : List Rat) (TQ : Rat → Rat → List Rat) (a : PV) (q : List Rat) (n m : Nat) : Prop := a = armPV A ∧ q = qs ∧ n ≤ 40001 ∧ m ≤ 40001
noncomputable def v56 (A : Am) (qs : List Rat) (TQ : Rat → Rat → List Rat) : Spec := fun args hs K => match args, hs with
  | [a, .lst 3 (.rats 64 q), .agg [.q fx n, .q fy m]], [] => .br (decP (Tq A qs TQ a q n m)) (K (.tup [.fr 3 (.rats 160005 (TQ fx fy)), .i .i64 0]) []) (.no 1)
  | _, _ => .no 1
noncomputable def O9 (l m : PV) (A : Am) (qs : List Rat) (ff : Nat → Fr) (TQ : Rat → Rat → List Rat) (VX VY : PV → Rat) : Orc :=
  [(15, cst [.w l] True (armFr A)), (21, g21), (24, s24), (26, g26), (27, g27), (33, cst [armPV A, .w m] True (.fr 3 (.rats 64 qs))), (38, cst [] True (.bl true)), (39, cst [armPV A, .lst 3 (.rats 64 qs)] True (.tup [.fr 10 (.fn (A.n + 1) (fun i => frP (ff i) 20000 1500)), .i .i64 0])), (41, g41), (49, g49 VX VY), (55, cst [] True (.bl true)), (56, v56 A qs TQ), (57, g57)]
end Go.Proofs.YtejfdhcigkgbmaaDoor.PE
namespace Go.Proofs.YtejfdhcigkgbmaaDoor.PE
open Go
set_option maxRecDepth 100000
variable {G : World → (Nat → Prop) → Prop} (hG : GOk G)
def st9 (x : Int) (A : Am) (ff : Nat → Fr) (qs r s t : List Rat) (i : Int) : LS := ⟨[.i .i64 x, .bl false, .ptr 0 12 0 0 [], .lst 3 (.rats 64 qs), .lst 3 (.rats 160005 r), .lst 3 (.rats 160005 s), .lst 3 (.rats 160005 t), .lst 10 (.fn (A.n + 1) (fun j => frP (ff (j + 0)) 20000 1500)), .i .i64 t.length, .i .i64 i],
  [some ⟨12, .vals [armPV A]⟩]⟩
noncomputable def R9 : Orc := [(21, g21), (27, g27)]
theorem t9 (x : Int) (A : Am) (ff : Nat → Fr) (qs r s t : List Rat) (i : Int) : evRound Tryd.prog R9 [] pol9 Tryd.f9.ntmps 0 [4, 10, 11, 12, 15, 17, 19, 21, 115, 116] b9 (st9 x A ff qs r s t i) =
  Tr.br (decide (i < (↑t.length : Int))) (.br (decide ((0 : Int) ≤ i) && decide (i < (↑t.length : Int))) (.br (decide ((0 : Int) ≤ i) && decide (i < (↑r.length : Int))) (.br (decide ((0 : Int) ≤ i) && decide (i < (↑s.length : Int))) (.br (((160005 : Nat) + (160005 : Nat) + (1 : Nat)).ble (800000 : Nat)) (.br (((160005 : Nat) + ((160005 : Nat) + (160005 : Nat) + (1 : Nat))).ble (800000 : Nat)) (.br (!decide (rcmp (t.getD i.toNat (0 : Rat)) (r.getD i.toNat (0 : Rat) + s.getD i.toNat (0 : Rat)) = (0 : Int))) (.ok (.out .ret (LS.mk [.i .i64 x, .bl false, .ptr 0 12 0 0 [], .lst 3 (.rats 64 qs), .lst 3 (.rats 160005 r), .lst 3 (.rats 160005 s), .lst 3 (.rats 160005 t), .lst 10 (.fn (A.n + (1 : Nat)) fun (j : Nat) => .agg [.agg [.q (ff (j + (0 : Nat))).x 20000, .q (ff (j + (0 : Nat))).y 20000], .agg [.b (ff (j + (0 : Nat))).h, .q (ff (j + (0 : Nat))).t 1500]]), .i .i64 (↑t.length : Int), .i .i64 i] [some (.mk 12 (.vals [.agg [.s A.name, .agg [.agg [.q A.bx 64, .q A.by_ 64], .agg [.bl false, .q A.t 64]], .lst 16 (.fn A.n fun (j : Nat) => .agg [.q (A.lk j).len 64, .q (A.lk j).low 64, .q (A.lk j).high 64, .q (A.lk j).spd 64, .q (A.lk j).brk 64, .lst 6 (.fn (A.lk j).np fun (a : Nat) => .agg [.q ((A.lk j).px a) 64, .q ((A.lk j).py a) 64])])]]))]))) (.br (decide ((-9223372036854775808) ≤ i + (1 : Int)) && decide (i + (1 : Int) ≤ 9223372036854775807)) (.ok (.out .normal (LS.mk [.i .i64 x, .bl false, .ptr 0 12 0 0 [], .lst 3 (.rats 64 qs), .lst 3 (.rats 160005 r), .lst 3 (.rats 160005 s), .lst 3 (.rats 160005 t), .lst 10 (.fn (A.n + (1 : Nat)) fun (j : Nat) => .agg [.agg [.q (ff (j + (0 : Nat))).x 20000, .q (ff (j + (0 : Nat))).y 20000], .agg [.b (ff (j + (0 : Nat))).h, .q (ff (j + (0 : Nat))).t 1500]]), .i .i64 (↑t.length : Int), .i .i64 (i + (1 : Int))] [some (.mk 12 (.vals [.agg [.s A.name, .agg [.agg [.q A.bx 64, .q A.by_ 64], .agg [.bl false, .q A.t 64]], .lst 16 (.fn A.n fun (j : Nat) => .agg [.q (A.lk j).len 64, .q (A.lk j).low 64, .q (A.lk j).high 64, .q (A.lk j).spd 64, .q (A.lk j).brk 64, .lst 6 (.fn (A.lk j).np fun (a : Nat) => .agg [.q ((A.lk j).px a) 64, .q ((A.lk j).py a) 64])])]]))]))) (.no 17002))) (.no 1)) (.no 1)) (.no 15005)) (.no 15009)) (.no 15013)) (.ok (.out (.exit 0) (LS.mk [.i .i64 x, .bl false, .ptr 0 12 0 0 [], .lst 3 (.rats 64 qs), .lst 3 (.rats 160005 r), .lst 3 (.rats 160005 s), .lst 3 (.rats 160005 t), .lst 10 (.fn (A.n + (1 : Nat)) fun (j : Nat) => .agg [.agg [.q (ff (j + (0 : Nat))).x 20000, .q (ff (j + (0 : Nat))).y 20000], .agg [.b (ff (j + (0 : Nat))).h, .q (ff (j + (0 : Nat))).t 1500]]), .i .i64 (↑t.length : Int), .i .i64 i] [some (.mk 12 (.vals [.agg [.s A.name, .agg [.agg [.q A.bx 64, .q A.by_ 64], .agg [.bl false, .q A.t 64]], .lst 16 (.fn A.n fun (j : Nat) => .agg [.q (A.lk j).len 64, .q (A.lk j).low 64, .q (A.lk j).high 64, .q (A.lk j).spd 64, .q (A.lk j).brk 64, .lst 6 (.fn (A.lk j).np fun (a : Nat) => .agg [.q ((A.lk j).px a) 64, .q ((A.lk j).py a) 64])])]]))]))) := by kernel_rfl
theorem e9 (l m k n : PV) (x : Int) (A : Am) (qs : List Rat) (ff : Nat → Fr) (TQ : Rat → Rat → List Rat) (VX VY : PV → Rat) (r s t : List Rat) : evF Tryd.prog (O9 l m A qs ff TQ VX VY) [(12, lcst (st9 x A ff qs r s t 0) (.exit 0) (st9 x A ff qs r s t t.length))] pol9 Tryd.f9 [.w l, .w m, .w k, .w n, .i .i64 x] [] retK =
  Tr.br (decP (isA [] True [])) (.br (decP (isA [] True [])) (.br (decP (isA [l.w] True [l.w])) (.br (((0 : Nat) + A.n).ble A.n) (.br (decP (isA [.agg [.s A.name, .agg [.agg [.q A.bx 64, .q A.by_ 64], .agg [.bl false, .q A.t 64]], .lst 16 (.fn A.n fun (j : Nat) => .agg [.q (A.lk j).len 64, .q (A.lk j).low 64, .q (A.lk j).high 64, .q (A.lk j).spd 64, .q (A.lk j).brk 64, .lst 6 (.fn (A.lk j).np fun (a : Nat) => .agg [.q ((A.lk j).px a) 64, .q ((A.lk j).py a) 64])])], m.w] True [.agg [.s A.name, .agg [.agg [.q A.bx 64, .q A.by_ 64], .agg [.bl false, .q A.t 64]], .lst 16 (.fn A.n fun (j : Nat) => .agg [.q (A.lk (j + (0 : Nat))).len 64, .q (A.lk (j + (0 : Nat))).low 64, .q (A.lk (j + (0 : Nat))).high 64, .q (A.lk (j + (0 : Nat))).spd 64, .q (A.lk (j + (0 : Nat))).brk 64, .lst 6 (.fn (A.lk (j + (0 : Nat))).np fun (a : Nat) => .agg [.q ((A.lk (j + (0 : Nat))).px a) 64, .q ((A.lk (j + (0 : Nat))).py a) 64])])], m.w])) (.br (((0 : Nat) + qs.length).ble qs.length) (.br (decP (okW k = true ∧ VX k = rtV (nx k (1048576 : Int)) ∧ VY k = rtV (nx (rs k) (1048576 : Int)))) (.br (decP (okW n = true ∧ VX n = rtV (nx n (1048576 : Int)) ∧ VY n = rtV (nx (rs n) (1048576 : Int)))) (.br (decP (Tq A qs TQ (.agg [.s A.name, .agg [.agg [.q A.bx 64, .q A.by_ 64], .agg [.bl false, .q A.t 64]], .lst 16 (.fn A.n fun (j : Nat) => .agg [.q (A.lk (j + (0 : Nat))).len 64, .q (A.lk (j + (0 : Nat))).low 64, .q (A.lk (j + (0 : Nat))).high 64, .q (A.lk (j + (0 : Nat))).spd 64, .q (A.lk (j + (0 : Nat))).brk 64, .lst 6 (.fn (A.lk (j + (0 : Nat))).np fun (a : Nat) => .agg [.q ((A.lk (j + (0 : Nat))).px a) 64, .q ((A.lk (j + (0 : Nat))).py a) 64])])]) (List.take qs.length (List.drop (0 : Nat) qs)) (64 : Nat) (64 : Nat))) (.br (((0 : Nat) + (TQ (VX k) (VY k)).length).ble (TQ (VX k) (VY k)).length) (.br (decP (Tq A qs TQ (.agg [.s A.name, .agg [.agg [.q A.bx 64, .q A.by_ 64], .agg [.bl false, .q A.t 64]], .lst 16 (.fn A.n fun (j : Nat) => .agg [.q (A.lk (j + (0 : Nat))).len 64, .q (A.lk (j + (0 : Nat))).low 64, .q (A.lk (j + (0 : Nat))).high 64, .q (A.lk (j + (0 : Nat))).spd 64, .q (A.lk (j + (0 : Nat))).brk 64, .lst 6 (.fn (A.lk (j + (0 : Nat))).np fun (a : Nat) => .agg [.q ((A.lk (j + (0 : Nat))).px a) 64, .q ((A.lk (j + (0 : Nat))).py a) 64])])]) (List.take qs.length (List.drop (0 : Nat) qs)) (64 : Nat) (64 : Nat))) (.br (((0 : Nat) + (TQ (VX n) (VY n)).length).ble (TQ (VX n) (VY n)).length) (.br (((64 : Nat) + (64 : Nat) + (1 : Nat)).ble (800000 : Nat)) (.br (((64 : Nat) + (64 : Nat) + (1 : Nat)).ble (800000 : Nat)) (.br (decP (Tq A qs TQ (.agg [.s A.name, .agg [.agg [.q A.bx 64, .q A.by_ 64], .agg [.bl false, .q A.t 64]], .lst 16 (.fn A.n fun (j : Nat) => .agg [.q (A.lk (j + (0 : Nat))).len 64, .q (A.lk (j + (0 : Nat))).low 64, .q (A.lk (j + (0 : Nat))).high 64, .q (A.lk (j + (0 : Nat))).spd 64, .q (A.lk (j + (0 : Nat))).brk 64, .lst 6 (.fn (A.lk (j + (0 : Nat))).np fun (a : Nat) => .agg [.q ((A.lk (j + (0 : Nat))).px a) 64, .q ((A.lk (j + (0 : Nat))).py a) 64])])]) (List.take qs.length (List.drop (0 : Nat) qs)) ((64 : Nat) + (64 : Nat) + (1 : Nat)) ((64 : Nat) + (64 : Nat) + (1 : Nat)))) (.br (((0 : Nat) + (TQ (VX k + VX n) (VY k + VY n)).length).ble (TQ (VX k + VX n) (VY k + VY n)).length) (.br (decP (isA [.agg [.s A.name, .agg [.agg [.q A.bx 64, .q A.by_ 64], .agg [.bl false, .q A.t 64]], .lst 16 (.fn A.n fun (j : Nat) => .agg [.q (A.lk j).len 64, .q (A.lk j).low 64, .q (A.lk j).high 64, .q (A.lk j).spd 64, .q (A.lk j).brk 64, .lst 6 (.fn (A.lk j).np fun (a : Nat) => .agg [.q ((A.lk j).px a) 64, .q ((A.lk j).py a) 64])])], .lst 3 (.rats 64 qs)] True [.agg [.s A.name, .agg [.agg [.q A.bx 64, .q A.by_ 64], .agg [.bl false, .q A.t 64]], .lst 16 (.fn A.n fun (j : Nat) => .agg [.q (A.lk (j + (0 : Nat))).len 64, .q (A.lk (j + (0 : Nat))).low 64, .q (A.lk (j + (0 : Nat))).high 64, .q (A.lk (j + (0 : Nat))).spd 64, .q (A.lk (j + (0 : Nat))).brk 64, .lst 6 (.fn (A.lk (j + (0 : Nat))).np fun (a : Nat) => .agg [.q ((A.lk (j + (0 : Nat))).px a) 64, .q ((A.lk (j + (0 : Nat))).py a) 64])])], .lst 3 (.rats 64 (List.take qs.length (List.drop (0 : Nat) qs)))])) (.br (((0 : Nat) + (A.n + (1 : Nat))).ble (A.n + (1 : Nat))) (.br (!decide ((0 : Int) = (0 : Int))) (.ok (.ret (.bl false) [])) (.br (!decide ((0 : Int) = (0 : Int))) (.ok (.ret (.bl false) [])) (.br (!decide ((0 : Int) = (0 : Int))) (.ok (.ret (.bl false) [])) (.br (!decide ((0 : Int) = (0 : Int))) (.ok (.ret (.bl false) [])) (.br (!decide ((↑(List.take (TQ (VX k) (VY k)).length (List.drop (0 : Nat) (TQ (VX k) (VY k)))).length : Int) = (↑(List.take qs.length (List.drop (0 : Nat) qs)).length : Int))) (.ok (.ret (.bl false) [])) (.br (!decide ((↑(List.take (TQ (VX n) (VY n)).length (List.drop (0 : Nat) (TQ (VX n) (VY n)))).length : Int) = (↑(List.take qs.length (List.drop (0 : Nat) qs)).length : Int))) (.ok (.ret (.bl false) [])) (.br (!decide ((↑(List.take (TQ (VX k + VX n) (VY k + VY n)).length (List.drop (0 : Nat) (TQ (VX k + VX n) (VY k + VY n)))).length : Int) = (↑(List.take qs.length (List.drop (0 : Nat) qs)).length : Int))) (.ok (.ret (.bl false) [])) (.br (decide ((-9223372036854775808) ≤ (↑(List.take qs.length (List.drop (0 : Nat) qs)).length : Int) + (1 : Int)) && decide ((↑(List.take qs.length (List.drop (0 : Nat) qs)).length : Int) + (1 : Int) ≤ 9223372036854775807)) (.br (!decide ((↑(A.n + (1 : Nat)) : Int) = (↑(List.take qs.length (List.drop (0 : Nat) qs)).length : Int) + (1 : Int))) (.ok (.ret (.bl false) [])) (.br (decP (isLS (LS.mk [.i .i64 x, .bl false, .ptr 0 12 0 0 [], .lst 3 (.rats 64 qs), .lst 3 (.rats 160005 r), .lst 3 (.rats 160005 s), .lst 3 (.rats 160005 t), .lst 10 (.fn (A.n + (1 : Nat)) fun (j : Nat) => .agg [.agg [.q (ff (j + (0 : Nat))).x 20000, .q (ff (j + (0 : Nat))).y 20000], .agg [.b (ff (j + (0 : Nat))).h, .q (ff (j + (0 : Nat))).t 1500]]), .i .i64 (↑t.length : Int), .i .i64 (0 : Int)] [some (.mk 12 (.vals [.agg [.s A.name, .agg [.agg [.q A.bx 64, .q A.by_ 64], .agg [.bl false, .q A.t 64]], .lst 16 (.fn A.n fun (j : Nat) => .agg [.q (A.lk j).len 64, .q (A.lk j).low 64, .q (A.lk j).high 64, .q (A.lk j).spd 64, .q (A.lk j).brk 64, .lst 6 (.fn (A.lk j).np fun (a : Nat) => .agg [.q ((A.lk j).px a) 64, .q ((A.lk j).py a) 64])])]]))]) (LS.mk [.i .i64 x, .bl false, .ptr 0 12 0 0 [], .lst 3 (.rats 64 (List.take qs.length (List.drop (0 : Nat) qs))), .lst 3 (.rats 160005 (List.take (TQ (VX k) (VY k)).length (List.drop (0 : Nat) (TQ (VX k) (VY k))))), .lst 3 (.rats 160005 (List.take (TQ (VX n) (VY n)).length (List.drop (0 : Nat) (TQ (VX n) (VY n))))), .lst 3 (.rats 160005 (List.take (TQ (VX k + VX n) (VY k + VY n)).length (List.drop (0 : Nat) (TQ (VX k + VX n) (VY k + VY n))))), .lst 10 (.fn (A.n + (1 : Nat)) fun (j : Nat) => .agg [.agg [.q (ff (j + (0 : Nat))).x 20000, .q (ff (j + (0 : Nat))).y 20000], .agg [.b (ff (j + (0 : Nat))).h, .q (ff (j + (0 : Nat))).t 1500]]), .i .i64 (↑(List.take (TQ (VX k + VX n) (VY k + VY n)).length (List.drop (0 : Nat) (TQ (VX k + VX n) (VY k + VY n)))).length : Int), .i .i64 (0 : Int)] [some (.mk 12 (.vals [.agg [.s A.name, .agg [.agg [.q A.bx 64, .q A.by_ 64], .agg [.bl false, .q A.t 64]], .lst 16 (.fn A.n fun (j : Nat) => .agg [.q (A.lk (j + (0 : Nat))).len 64, .q (A.lk (j + (0 : Nat))).low 64, .q (A.lk (j + (0 : Nat))).high 64, .q (A.lk (j + (0 : Nat))).spd 64, .q (A.lk (j + (0 : Nat))).brk 64, .lst 6 (.fn (A.lk (j + (0 : Nat))).np fun (a : Nat) => .agg [.q ((A.lk (j + (0 : Nat))).px a) 64, .q ((A.lk (j + (0 : Nat))).py a) 64])])]]))]))) (.br (decide ((0 : Int) < (↑qs.length : Int)) && decide ((↑qs.length : Int) ≤ (4294967296 : Int))) (.br (decide ((0 : Int) ≤ (↑qs.length : Int)) && decide ((↑qs.length : Int) < (↑(A.n + (1 : Nat)) : Int))) (.br (decide ((0 : Int) ≤ x % (↑qs.length : Int)) && decide (x % (↑qs.length : Int) < (↑(A.n + (1 : Nat)) : Int))) (.br (((20000 : Nat) + (20000 : Nat) + (1 : Nat)).ble (800000 : Nat)) (.br (((20000 : Nat) + (20000 : Nat) + (1 : Nat)).ble (800000 : Nat)) (.br (decP (Tq A qs TQ (.agg [.s A.name, .agg [.agg [.q A.bx 64, .q A.by_ 64], .agg [.bl false, .q A.t 64]], .lst 16 (.fn A.n fun (j : Nat) => .agg [.q (A.lk j).len 64, .q (A.lk j).low 64, .q (A.lk j).high 64, .q (A.lk j).spd 64, .q (A.lk j).brk 64, .lst 6 (.fn (A.lk j).np fun (a : Nat) => .agg [.q ((A.lk j).px a) 64, .q ((A.lk j).py a) 64])])]) qs ((20000 : Nat) + (20000 : Nat) + (1 : Nat)) ((20000 : Nat) + (20000 : Nat) + (1 : Nat)))) (.br (((0 : Nat) + (TQ ((ff ((↑qs.length : Int).toNat + (0 : Nat))).x - (ff ((x % (↑qs.length : Int)).toNat + (0 : Nat))).x) ((ff ((↑qs.length : Int).toNat + (0 : Nat))).y - (ff ((x % (↑qs.length : Int)).toNat + (0 : Nat))).y)).length).ble (TQ ((ff ((↑qs.length : Int).toNat + (0 : Nat))).x - (ff ((x % (↑qs.length : Int)).toNat + (0 : Nat))).x) ((ff ((↑qs.length : Int).toNat + (0 : Nat))).y - (ff ((x % (↑qs.length : Int)).toNat + (0 : Nat))).y)).length) (.br (decide ((0 : Int) = (0 : Int))) (.br (decide ((↑(List.take (TQ ((ff ((↑qs.length : Int).toNat + (0 : Nat))).x - (ff ((x % (↑qs.length : Int)).toNat + (0 : Nat))).x) ((ff ((↑qs.length : Int).toNat + (0 : Nat))).y - (ff ((x % (↑qs.length : Int)).toNat + (0 : Nat))).y)).length (List.drop (0 : Nat) (TQ ((ff ((↑qs.length : Int).toNat + (0 : Nat))).x - (ff ((x % (↑qs.length : Int)).toNat + (0 : Nat))).x) ((ff ((↑qs.length : Int).toNat + (0 : Nat))).y - (ff ((x % (↑qs.length : Int)).toNat + (0 : Nat))).y)))).length : Int) = (↑qs.length : Int))) (.br (decide ((0 : Int) ≤ x % (↑qs.length : Int)) && decide (x % (↑qs.length : Int) < (↑(List.take (TQ ((ff ((↑qs.length : Int).toNat + (0 : Nat))).x - (ff ((x % (↑qs.length : Int)).toNat + (0 : Nat))).x) ((ff ((↑qs.length : Int).toNat + (0 : Nat))).y - (ff ((x % (↑qs.length : Int)).toNat + (0 : Nat))).y)).length (List.drop (0 : Nat) (TQ ((ff ((↑qs.length : Int).toNat + (0 : Nat))).x - (ff ((x % (↑qs.length : Int)).toNat + (0 : Nat))).x) ((ff ((↑qs.length : Int).toNat + (0 : Nat))).y - (ff ((x % (↑qs.length : Int)).toNat + (0 : Nat))).y)))).length : Int))) (.br (Nat.ble (160005 : Nat) (800000 : Nat)) (.ok (.ret (.b (decide (rcmp ((List.take (TQ ((ff ((↑qs.length : Int).toNat + (0 : Nat))).x - (ff ((x % (↑qs.length : Int)).toNat + (0 : Nat))).x) ((ff ((↑qs.length : Int).toNat + (0 : Nat))).y - (ff ((x % (↑qs.length : Int)).toNat + (0 : Nat))).y)).length (List.drop (0 : Nat) (TQ ((ff ((↑qs.length : Int).toNat + (0 : Nat))).x - (ff ((x % (↑qs.length : Int)).toNat + (0 : Nat))).x) ((ff ((↑qs.length : Int).toNat + (0 : Nat))).y - (ff ((x % (↑qs.length : Int)).toNat + (0 : Nat))).y)))).getD (x % (↑qs.length : Int)).toNat (0 : Rat)) (0 : Rat) = (0 : Int)))) [])) (.no 1)) (.no 20006)) (.ok (.ret (.bl false) []))) (.ok (.ret (.bl false) []))) (.no 19006)) (.no 1)) (.no 1)) (.no 1)) (.no 19010)) (.no 19015)) (.no 1)) (.no 1))) (.no 10003))))))))) (.no 9006)) (.no 1)) (.no 8006)) (.no 1)) (.no 1)) (.no 1)) (.no 7006)) (.no 1)) (.no 6006)) (.no 1)) (.no 1)) (.no 1)) (.no 5010)) (.no 1)) (.no 4003)) (.no 1)) (.no 1)) (.no 1) := by kernel_rfl
include hG in
theorem pc55 (hT : TabG G) : PC Tryd.prog G 55 [] [] (.bl true) [] := by
  have p32 : PC Tryd.prog G 32 [.lst 1 (.ints .i64 [3, 2])] [] (armFr A32) [] := by
    obtain ⟨r, hs', p, e⟩ := ok32s hG [.lst 1 (.ints .i64 [3, 2])] [] (fun r hs' => .ok (.ret r hs')) (.ret (armFr A32) []) (by rfl)
    cases e
    exact p
  have p56 := pc56 hG hT A32 armB_32 q00 rfl (mkRat (0 : Int) (Int.toNat (1 : Int))) (mkRat (1 : Int) (Int.toNat (1 : Int))) 64 64 (by omega) (by omega)
  have e : tqL (allF (bsF A32) (qf q00) (fun j => (A32.lk j).len) A32.n) A32.n (mkRat (0 : Int) (Int.toNat (1 : Int))) (mkRat (1 : Int) (Int.toNat (1 : Int))) = [mkRat (5 : Int) (Int.toNat (1 : Int)), mkRat (2 : Int) (Int.toNat (1 : Int))] := by
    have h0 := (all_at (b := bsF A32) (q := qf q00) (L := fun j => (A32.lk j).len) (n := 2) (i := 0) (by omega))
    have h1 := (all_at (b := bsF A32) (q := qf q00) (L := fun j => (A32.lk j).len) (n := 2) (i := 1) (by omega))
    have h2 := (all_at (b := bsF A32) (q := qf q00) (L := fun j => (A32.lk j).len) (n := 2) (i := 2) (by omega))
    have e0 : tqF (allF (bsF A32) (qf q00) (fun j => (A32.lk j).len) 2) 2 (mkRat (0 : Int) (Int.toNat (1 : Int))) (mkRat (1 : Int) (Int.toNat (1 : Int))) 0 = mkRat (5 : Int) (Int.toNat (1 : Int)) := by
      unfold tqF
      rw [h0.1, h0.2, h2.1, h2.2]
      simp only [endR, estep, fstep, thH, thT, cosR, sinR, ftT, hide_eq]
      kernel_rfl
    have e1 : tqF (allF (bsF A32) (qf q00) (fun j => (A32.lk j).len) 2) 2 (mkRat (0 : Int) (Int.toNat (1 : Int))) (mkRat (1 : Int) (Int.toNat (1 : Int))) 1 = mkRat (2 : Int) (Int.toNat (1 : Int)) := by
      unfold tqF
      rw [h1.1, h1.2, h2.1, h2.2]
      simp only [endR, estep, fstep, thH, thT, cosR, sinR, ftT, hide_eq]
      kernel_rfl
    show [tqF (allF (bsF A32) (qf q00) (fun j => (A32.lk j).len) 2) 2 _ _ 0, tqF (allF (bsF A32) (qf q00) (fun j => (A32.lk j).len) 2) 2 _ _ 1] = _
    rw [e0, e1]
  rw [e] at p56
  refine (evF_pc hG (.cons (ok23 hG) (.cons (cst_t p32) (.cons (cst_t p56) (.cons (ok84 hG) .nil)))) mix enter55 (L := []) (pol := {}) (LpsOK.none (by kernel_rfl)) (r := .b true) (hs' := []) ?_).le (rle_b rfl) (.refl _)
  refine (congrArg Tr.run (k55 A32 _ _)).trans ?_
  rw [Tr.run_t (decP_iff.2 ⟨rfl, trivial⟩), Tr.run_t (by rw [Nat.ble_eq]; omega), Tr.run_t (by decide), Tr.run_t (by decide), Tr.run_t (by decide), Tr.run_t (by decide), Tr.run_t (decP_iff.2 ⟨rfl, trivial⟩), Tr.run_t (by decide), Tr.run_t (by decide), Tr.run_t (by decide), Tr.run_t (by decide), Tr.run_t (by decide), Tr.run_t (by exact decide_eq_true rfl), Tr.run_t (by decide), Tr.run_t (by decide), Tr.run_ok]
  show some (Res.ret (.b (decide (mkRat (2 : Int) (Int.toNat (1 : Int)) = mkRat (2 : Int) (Int.toNat (1 : Int))))) []) = _
  rw [decide_eq_true rfl]
include hG in
theorem vk56 (hT : TabG G) (A : Am) (hA : armB A = true) (qs : List Rat) (hq : qs.length = A.n) : SpecOK Tryd.prog G 56 (v56 A qs (tqL (allF (bsF A) (qf qs) (fun j => (A.lk j).len) A.n) A.n)) := by
  intro args hs K x h
  unfold v56 at h
  split at h
  case h_2 => cases h
  rename_i a q fx n fy m
  obtain ⟨hc, hr⟩ := Tr.of_br h
  obtain ⟨rfl, rfl, hn, hm⟩ := decP_iff.1 hc
  exact ⟨_, _, pc56 hG hT A hA q hq fx fy n m hn hm, hr⟩
include hG in
theorem orcR9 (hT : TabG G) : OrcOK Tryd.prog G R9 := .cons (gk21 hG hT) (.cons (gk27 hG hT) .nil)
include hG in
theorem goes9 (hT : TabG G) (x : Int) (A : Am) (ff : Nat → Fr) (qs r s t : List Rat) (hl : t.length ≤ 3) (hr : r.length = t.length) (hs : s.length = t.length) (h : ∀ i, i < t.length → t.getD i 0 = r.getD i 0 + s.getD i 0) :
    Goes (Rnd Tryd.prog G Tryd.f9.ntmps 0 [4, 10, 11, 12, 15, 17, 19, 21, 115, 116] b9) (st9 x A ff qs r s t 0) (.exit 0) (st9 x A ff qs r s t t.length) := by
  have g := Goes.count (R := Rnd Tryd.prog G Tryd.f9.ntmps 0 [4, 10, 11, 12, 15, 17, 19, 21, 115, 116] b9) (fun i => st9 x A ff qs r s t ((i : Nat) : Int)) (e := .exit 0) (ls' := st9 x A ff qs r s t t.length) (by simp) t.length 0
    (fun i _ hi => by
      refine round_ok hG (orcR9 hG hT) mix (L := []) (pol := pol9) (O := R9) (LpsOK.none (by kernel_rfl)) (Nat.zero_le _) ?_
      rw [t9, Int.toNat_natCast, h i (by omega), rcmp_refl0, Tr.run_t (decide_eq_true (by omega)), Tr.run_t (by simp only [Bool.and_eq_true, decide_eq_true_eq]; omega), Tr.run_t (by simp only [Bool.and_eq_true, decide_eq_true_eq]; omega), Tr.run_t (by simp only [Bool.and_eq_true, decide_eq_true_eq]; omega), Tr.run_t (by decide), Tr.run_t (by decide), Tr.run_f (by decide), Tr.run_t (by simp only [Bool.and_eq_true, decide_eq_true_eq]; omega), Tr.run_ok]
      rfl)
    (by
      refine round_ok hG (orcR9 hG hT) mix (L := []) (pol := pol9) (O := R9) (LpsOK.none (by kernel_rfl)) (Nat.zero_le _) ?_
      rw [t9, Nat.zero_add, Tr.run_f (decide_eq_false (by omega)), Tr.run_ok]
      rfl)
  exact g
theorem tqL_len (ff : Nat → Fr) (n : Nat) (fx fy : Rat) : (tqL ff n fx fy).length = n := by unfold tqL; rw [List.length_map, List.length_range]
theorem tqL_get (ff : Nat → Fr) (n : Nat) (fx fy : Rat) {i : Nat} (h : i < n) : (tqL ff n fx fy).getD i 0 = tqF ff n fx fy i := getD_map_range _ h
include hG in
theorem law9 (hT : TabG G) (l m k n : PV) (x : Int) (hl : okW l = true) (hm : okW m = true) (hk : okW k = true) (hn : okW n = true) : PC Tryd.prog G 9 [.w l, .w m, .w k, .w n, .i .i64 x] [] (.bl true) [] := by
  have hA := armB_V l
  have hX := limX_V l
  have p15 : PC Tryd.prog G 15 [.w l] [] (armFr (armD l)) [] := by
    obtain ⟨r, hs', p, e⟩ := ok15 hG [.w l] [] (fun r hs' => .ok (.ret r hs')) (.ret (armFr (armD l)) []) (by show (Tr.br _ _ _).run = _; rw [Tr.run_t hl]; rfl)
    cases e
    exact p
  generalize armD l = A at *
  have p33 : PC Tryd.prog G 33 [armPV A, .w m] [] (.fr 3 (.rats 64 (cfL A.lk m A.n))) [] := by
    obtain ⟨r, hs', p, e⟩ := ok33 hG [armPV A, .w m] [] (fun r hs' => .ok (.ret r hs')) (.ret (.fr 3 (.rats 64 (cfL A.lk m A.n))) []) (by
      show (Tr.br _ _ _).run = _
      rw [Tr.run_t (decP_iff.2 ⟨okA_arm hA, hX, hm⟩)]; rfl)
    cases e
    exact p
  obtain ⟨h1, h2, h3, h4, h5, h6, h7⟩ := armB_c hA
  have hq : (cfL A.lk m A.n).length = A.n := cfL_len _ _ _
  generalize cfL A.lk m A.n = qs at *
  have p39 := pc39 hG hT A hA qs hq
  have p56 := vk56 hG hT A hA qs hq
  generalize hff : allF (bsF A) (qf qs) (fun j => (A.lk j).len) A.n = ff at *
  have tl := tqL_len ff A.n
  have tg : ∀ fx fy i, i < A.n → (tqL ff A.n fx fy).getD i 0 = tqF ff A.n fx fy i := fun fx fy i h => tqL_get ff A.n fx fy h
  generalize hTQ : tqL ff A.n = TQ at *
  have g := goes9 hG hT x A ff qs (TQ (rtV (nx k 1048576)) (rtV (nx (rs k) 1048576))) (TQ (rtV (nx n 1048576)) (rtV (nx (rs n) 1048576))) (TQ (rtV (nx k 1048576) + rtV (nx n 1048576)) (rtV (nx (rs k) 1048576) + rtV (nx (rs n) 1048576))) (by rw [tl]; exact h6) (by rw [tl, tl]) (by rw [tl, tl]) (fun i hi => by
    rw [tl] at hi
    rw [tg _ _ _ hi, tg _ _ _ hi, tg _ _ _ hi]
    unfold tqF
    grind)
  refine (evF_pc hG (.cons (cst_t p15) (.cons (gk21 hG hT) (.cons (ok24 hG) (.cons (gk26 hG hT) (.cons (gk27 hG hT) (.cons (cst_t p33) (.cons (cst_t (pc38 hG hT)) (.cons (cst_t p39) (.cons (gk41 hG hT) (.cons (gk49 hG (fun v => rtV (nx v 1048576)) (fun v => rtV (nx (rs v) 1048576))) (.cons (cst_t (pc55 hG hT)) (.cons p56 (.cons (gk57 hG hT) .nil))))))))))))) mix enter9 (pol := pol9)
    (lps1 (b := b9) (live := [4, 10, 11, 12, 15, 17, 19, 21, 115, 116]) (m := 0) (L := [(12, lcst (st9 x A ff qs (TQ (rtV (nx k 1048576)) (rtV (nx (rs k) 1048576))) (TQ (rtV (nx n 1048576)) (rtV (nx (rs n) 1048576))) (TQ (rtV (nx k 1048576) + rtV (nx n 1048576)) (rtV (nx (rs k) 1048576) + rtV (nx (rs n) 1048576))) 0) (.exit 0)
      (st9 x A ff qs (TQ (rtV (nx k 1048576)) (rtV (nx (rs k) 1048576))) (TQ (rtV (nx n 1048576)) (rtV (nx (rs n) 1048576))) (TQ (rtV (nx k 1048576) + rtV (nx n 1048576)) (rtV (nx (rs k) 1048576) + rtV (nx (rs n) 1048576))) (TQ (rtV (nx k 1048576) + rtV (nx n 1048576)) (rtV (nx (rs k) 1048576) + rtV (nx (rs n) 1048576))).length))]) (by kernel_rfl) (by kernel_rfl) (by kernel_rfl) (lcst_ok g)) (r := .b true) (hs' := []) ?_).le (rle_b rfl) (.refl _)
  refine (congrArg Tr.run (e9 l m k n x A qs ff TQ (fun v => rtV (nx v 1048576)) (fun v => rtV (nx (rs v) 1048576)) _ _ _)).trans ?_
  simp only [List.drop_zero, List.take_length]
  simp only [tl, hq, Int.toNat_natCast, Nat.add_zero]
  have x0 := Int.emod_nonneg x (show (A.n : Int) ≠ 0 by omega)
  have x1 := Int.emod_lt_of_pos x (show (0 : Int) < A.n by omega)
  have tq : ∀ i, i < A.n → (TQ ((ff A.n).x - (ff i).x) ((ff A.n).y - (ff i).y)).getD i 0 = 0 := fun i hi => by
    rw [tg _ _ _ hi]
    unfold tqF
    grind
  have hx : (x % (A.n : Int)).toNat < A.n := by omega
  have hz := tq _ hx
  have ta : decP (Tq A qs TQ (armPV A) qs 64 64) = true := decP_iff.2 ⟨rfl, rfl, by omega, by omega⟩
  have nx2 : ∀ d : Int, (!decide (d = d)) = false := fun d => by simp
  have ba : decide ((A.n : Int) = (A.n : Int)) = true := decide_eq_true rfl
  rw [Tr.run_t (decP_iff.2 ⟨rfl, trivial⟩), Tr.run_t (decP_iff.2 ⟨rfl, trivial⟩), Tr.run_t (decP_iff.2 ⟨rfl, trivial⟩), Tr.run_t (bleZ _), Tr.run_t (decP_iff.2 ⟨rfl, trivial⟩), Tr.run_t (bleZ _), Tr.run_t (decP_iff.2 ⟨hk, trivial, trivial⟩), Tr.run_t (decP_iff.2 ⟨hn, trivial, trivial⟩),
    Tr.run_t (by exact ta), Tr.run_t (bleZ _), Tr.run_t (by exact ta), Tr.run_t (bleZ _), Tr.run_t (by decide), Tr.run_t (by decide), Tr.run_t (decP_iff.2 ⟨rfl, rfl, by decide, by decide⟩), Tr.run_t (bleZ _), Tr.run_t (decP_iff.2 ⟨rfl, trivial⟩), Tr.run_t (bleZ _),
    Tr.run_f (by decide), Tr.run_f (by decide), Tr.run_f (by decide), Tr.run_f (by decide), Tr.run_f (by simp), Tr.run_f (by simp), Tr.run_f (by simp), Tr.run_t (by simp only [Bool.and_eq_true, decide_eq_true_eq]; omega), Tr.run_f (by rw [Bool.not_eq_false', decide_eq_true_eq]; omega)]
  rw [Tr.run_t isLS_t, Tr.run_t (by simp only [Bool.and_eq_true, decide_eq_true_eq]; omega), Tr.run_t (by simp only [Bool.and_eq_true, decide_eq_true_eq]; omega), Tr.run_t (by simp only [Bool.and_eq_true, decide_eq_true_eq]; omega), Tr.run_t (by decide), Tr.run_t (by decide), Tr.run_t (decP_iff.2 ⟨rfl, rfl, by decide, by decide⟩), Tr.run_t (bleZ _),
    Tr.run_t (by simp), Tr.run_t (by simp), Tr.run_t (by simp only [Bool.and_eq_true, decide_eq_true_eq]; omega), Tr.run_t (by decide), Tr.run_ok, hz, rcmp_refl0]
  rfl
end Go.Proofs.YtejfdhcigkgbmaaDoor.PE
namespace Go.Proofs.YtejfdhcigkgbmaaDoor.PE
open Go
theorem calls_of_does {P : Program} {g : Nat} {fn : Func} {c : Code} (hg : Enters P g fn c) {vs : Array Value} {w : World} {R : Value → World → Prop} (h : Does P g vs w R) : Calls P g vs w fun e w' => ∃ v, e = .returned v ∧ R v w' := by
  have h1 := h { dst := some 0, op := .move (.const undef), type := 0, pos := "", after := #[], guard := none } ⟨#[undef], []⟩ (fun a w' => ∃ v, a.tmps[0]? = some v ∧ R v w') (fun _ _ _ => False) (fun v w' hv => ⟨v, by simp [Act.put], hv⟩)
  have : (callFunc g vs).run P w = .ok (.enter g vs) w := by
    have hname : fn.name ≠ "runtime.NumGoroutine" := by simpa using hg.name
    simp [callFunc, hg.at_, hname, hg.body]
  rw [this, Oper.upon_enter] at h1
  refine h1.mono fun e w' he => ?_
  cases e with
  | returned v =>
    obtain ⟨v', hv, hr⟩ := he
    simp [Act.put] at hv
    subst hv
    exact ⟨v, rfl, hr⟩
  | panicked chain => exact absurd he (by simp)
  | outgrown => exact absurd he (by simp [LetsOut])
theorem HRel.none (w : World) : HRel w (fun _ => False) noMu (hget (([] : List Blk).map some)) :=
  ⟨fun b k h => by simp [hget] at h, fun b k a z h => by simp [hget] at h, fun b b' k k' a z z' h => by simp [hget] at h, fun a h => h.elim⟩
theorem keptBut_of_old {w w' : World} (h1 : w'.os = w.os) (h2 : w'.output = w.output) (h3 : ∀ n, n < w.heap.size → w'.heap[n]? = w.heap[n]?) (may : MemPlace → Prop) : w.keptBut w' may := by
  refine ⟨h1, h2, fun i hi => ?_⟩
  rw [h3 i hi]
  split
  · rename_i e1 e2
    rw [e1] at e2
    cases e2
    exact ⟨rfl, rfl, rfl, fun _ _ => rfl⟩
  · rename_i e1 e2
    rw [e1] at e2
    cases e2
    exact .inr ⟨rfl, rfl⟩
  · rfl
end Go.Proofs.YtejfdhcigkgbmaaDoor.PE
namespace Go.Proofs.YtejfdhcigkgbmaaDoor.PE
open Go Go.ChangeShapes Go.WideShapes
set_option maxRecDepth 100000
def blkOf : Value → Nat → Prop
  | .slice (some a) _ _, b => b = a.block
  | _, _ => False
section
variable {H : Type} {enc : TypeId × Value → H} {P : Program} {w : World} {t e : TypeId} {base : Nat} {v : Value} {d : DataW H} {p : List MemPlace}
theorem arg_ints (ht : P.underlying t = some (.slice e)) (he : P.underlying e = some (.int .i64)) (hc : P.cellsOf e = 1)
    (hval : Value.okWide P w .any base t v) (h : DataW.Trod enc P w 0 (fun _ => true) true t v d p) :
    ∃ u : PV, okW u = true ∧ (∀ n ∈ intsW u, -9223372036854775808 ≤ n ∧ n ≤ 9223372036854775807) ∧ (∀ b, blkOf v b → b < w.heap.size) ∧ (∀ S : Nat → Prop, (∀ b, blkOf v b → S b) → RepV w S noMu (.w u) v) ∧
      (∀ w' : World, (∀ n, n < w.heap.size → w'.heap[n]? = w.heap[n]?) → ∃ p', DataW.Trod enc P w' 0 (fun b => decide (b < w.heap.size)) true t v d p') ∧
      ((intsW u = [] ∧ d = .nil) ∨ ∃ sp, d = .slice (lits .i64 (intsW u)) sp) := by
  have hval' := hval
  obtain ⟨a0, len, cap, rfl⟩ := okWide_slice ht hval
  obtain ⟨fuel, hf⟩ := h
  rcases open_ints ht he hc hf with ⟨hcs, hx⟩ | ⟨a, len', cap', zs, hcs, _, hl, hm, hz, hx, hcell, hwz⟩
  · simp [Value.cells] at hcs
    obtain ⟨rfl, rfl, rfl⟩ := hcs
    simp only [Prod.mk.injEq] at hx
    obtain ⟨rfl, rfl⟩ := hx
    refine ⟨.nil, rfl, fun n hn => (nomatch hn), fun b hb => hb.elim, fun S _ => .cell _ _ _ rfl (.w _ _ _ (.nil _)), fun w' _ => ⟨[], RowKit.shut_slice_nil ht⟩, .inl ⟨rfl, rfl⟩⟩
  · simp [Value.cells] at hcs
    obtain ⟨rfl, rfl, rfl⟩ := hcs
    simp only [Prod.mk.injEq] at hx
    obtain ⟨rfl, rfl⟩ := hx
    simp only [if_true] at hz
    unfold Value.okWide at hval'
    rw [ht] at hval'
    simp only [Cell.okWide, Cell.ok, ht] at hval'
    obtain ⟨_, _, _, hsp, row, cells, hsh, _⟩ := hval'
    obtain ⟨b, off, spot⟩ := a
    simp only at hsp
    subst hsp
    have hb : b < w.heap.size := by
      unfold World.shape? at hsh
      split at hsh
      · rename_i hh; exact (Array.getElem?_eq_some_iff.1 hh).1
      · cases hsh
    have hcell' : ∀ j, j < zs.length → w.cell? ⟨b, off + j, none⟩ = some (.int .i64 (zs.getD j 0)) := fun j hj => by rw [← add_plain]; exact hcell j hj
    have hlen : (zs.take len).length = len := by rw [List.length_take]; omega
    refine ⟨.lst 1 (.ints .i64 (zs.take len)), rfl, fun n hn => bounds_i64 (hwz n (List.mem_of_mem_take hn)), fun c hc => (by rw [show c = b from hc]; exact hb), fun S hS => ?_, fun w' hw' => ?_, .inr ⟨_, rfl⟩⟩
    · refine .cell _ _ _ rfl (.w _ _ _ ?_)
      have := RepC.lst (w := w) (S := S) noMu 1 (.ints .i64 (zs.take len)) b off cap (fun j => [.int .i64 ((zs.take len).getD j 0)]) (by show (zs.take len).length ≤ cap; omega) (hS b rfl)
        (fun i hi => .i _ _ _) (fun _ _ => rfl) (fun i j hi hj => by
          have hi' : i < len := by rw [← hlen]; exact hi
          obtain rfl : j = 0 := by omega
          show w.cell? ⟨b, off + (i * 1 + 0), none⟩ = _
          rw [Nat.mul_one, Nat.add_zero, hcell' i (by omega)]
          simp [List.getD_eq_getElem?_getD, hi'])
      rw [show (Cont.ints .i64 (zs.take len)).len = len from hlen] at this
      exact this
    · have hd : decide (b < w.heap.size) = true := decide_eq_true hb
      exact ⟨_, 2, shut_ints' (enc := enc) (w := w') (base := 0) (spare := fun b => decide (b < w.heap.size)) (held := true) (len := len) (cap := cap) (zs := zs) 0 ht he hc
        (Nat.zero_le b) hl hm (by simp only [hd, if_true]; exact hz) (fun i hi => by rw [cell_block (hw' b hb)]; exact hcell' i hi) hwz⟩
end
end Go.Proofs.YtejfdhcigkgbmaaDoor.PE
namespace Go.Proofs.YtejfdhcigkgbmaaDoor.PE
open Go
set_option maxRecDepth 100000
theorem calls_trueG {P : Program} {G : World → (Nat → Prop) → Prop} {g : Nat} {fn : Func} {c : Code} (hg : Enters P g fn c) {args : List PV} (h : PC P G g args [] (.bl true) []) {w : World} {S : Nat → Prop} {vs : List Value} (hw : G w S) (hS : ∀ a, S a → a < w.heap.size)
    (hv : RepVL w S noMu args vs) (may : MemPlace → Prop) :
    Calls P g vs.toArray w fun e w' => e = .returned (.bool true) ∧ w.keptBut w' may ∧ ∀ n, n < w.heap.size → w'.heap[n]? = w.heap[n]? := by
  refine (calls_of_does hg (h w S noMu vs hw hv ⟨fun b k h => by simp [hget] at h, fun b k a z h => by simp [hget] at h, fun b b' k k' a z z' h => by simp [hget] at h, hS⟩ (fun _ _ => rfl))).mono fun e w' he => ?_
  obtain ⟨v, rfl, S', μ', c⟩ := he
  have hr := c.rep
  have : v = .bool true := by
    cases hr with
    | cell _ _ _ _ h => cases h; rfl
    | agg _ _ _ hv h => simp [isAgg, unfr, unfrA, unfr1] at hv
  subst this
  have old : ∀ n, n < w.heap.size → w'.heap[n]? = w.heap[n]? := fun n hn => c.old n hn (fun b z hb => by simp at hb)
  exact ⟨rfl, keptBut_of_old c.os c.output old may, old⟩
def TG (w : World) (S : Nat → Prop) : Prop := S 1 ∧ Go.Proofs.TabAt 1 Go.Lib.deBruijn64tab w
theorem tg_ok : GOk TG := fun _ _ _ _ m h => ⟨m.sub 1 h.1, fun j hj => (m.cell 1 h.1 j).trans (h.2 j hj)⟩
theorem tg_tab : TabG TG := fun _ _ h => h.2
theorem tab_block {w : World} (h : Go.Proofs.TabAt 1 Go.Lib.deBruijn64tab w) : 1 < w.heap.size := by
  have h0 := h 0 (by decide)
  rcases Nat.lt_or_ge 1 w.heap.size with h1 | h1
  · exact h1
  · unfold World.cell? at h0
    rw [show w.heap[(⟨1, 0, none⟩ : Addr).block]? = none from Array.getElem?_eq_none h1] at h0
    cases h0
theorem tab_of_laid {laid : List (String × DataW Unit)} {W : World} (hl : laid = [("math/bits.deBruijn64tab", Go.Lib.tabData .u8 (Go.Lib.deBruijn64tab.map fun n : Nat => (n : Int)))]) (h : laidMetH Tryd.prog laid W) : Go.Proofs.TabAt 1 Go.Lib.deBruijn64tab W := by
  subst hl
  have h1 : laidMet Tryd.prog [("math/bits.deBruijn64tab", Go.Lib.tabData .u8 (Go.Lib.deBruijn64tab.map fun n : Nat => (n : Int)))] W := h
  have h2 := Go.Lib.tabIs_of_head (g := 1) (t := 190) (e := 5) (n := 64) (by kernel_rfl) (by kernel_rfl) (by kernel_rfl) (by kernel_rfl) (by kernel_rfl) (by kernel_rfl) h1
  intro j hj
  have h3 := h2.cell (g := 1) (by kernel_rfl) j (by rw [List.length_map]; exact hj)
  rw [h3, List.getD_eq_getElem?_getD, List.getD_eq_getElem?_getD, List.getElem?_map, List.getElem?_eq_getElem hj]
  rfl
end Go.Proofs.YtejfdhcigkgbmaaDoor.PE
