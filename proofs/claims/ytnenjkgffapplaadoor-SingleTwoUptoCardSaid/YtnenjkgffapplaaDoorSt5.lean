/-
  Part 5 of the proof: contracts of the program's functions. Conditions: those of the theorems below.
-/
import Derived.Test.YtnenjkgffapplaaDoorSt4
import Derived.Test.YtnenjkgffapplaaDoorSt2
import Derived.RowKit3
import GoSem.ClaimChange
import Derived.ChangeSlices
import Derived.WideShapes
import Derived.OpenShut
import Derived.Test.YtnenjkgffapplaaDoorSt3
import Derived.Lib.LaidTab
set_option linter.all false
noncomputable section
namespace Go.Proofs.YtnenjkgffapplaaDoor.PE
open Go
set_option maxRecDepth 100000
variable {G : World -> (Nat -> Prop) -> Prop} (hG : GOk G)
theorem enter45 : Enters Tryd.prog 60 Tryd.f60 (qe Tryd.f60) := ⟨Tryd.func60, by kernel_rfl, rfl⟩
theorem e45 (l : List Int) (n : Int) : evF Tryd.prog [(49, s24)] [] {} Tryd.f60 [.ptr 0 1 0 0 [], .i .i64 n] [⟨1, .vals [.agg [.lst 1 (.ints .i64 l)]]⟩] qm =
 Tr.br (decide ((l.length : Int) = 0)) (.ok (.ret (PV.i .i64 0) [{ e := 1, c := Cont.vals [PV.agg [PV.lst 1 (.ints .i64 l)]] }])) (.br (decide (n < 1)) (.ok (.ret (PV.i .i64 0) [{ e := 1, c := Cont.vals [PV.agg [PV.lst 1 (.ints .i64 l)]] }])) (.br (ix ((0 : Int)) ((l.length : Int))) (.br (decide ((0 : Int) <= 1) && decide ((1 : Int) <= (l.length : Int))) (.br (decide ((0 : Int) < n) && decide (n <= 4294967296)) (.ok (.ret (PV.i .i64 (l.getD (Int.toNat 0) (0 : Int) % n)) [{ e := 1, c := Cont.vals [PV.agg [PV.lst 1 (.ints .i64 (List.take ((Cont.ints .i64 l).len - Int.toNat (1 : Int)) (List.drop (Int.toNat (1 : Int)) l)))]] }])) (.no 1)) (.no 5004)) (.no 4003))) := by kernel_rfl
theorem e45n (n : Int) : evF Tryd.prog [(49, s24)] [] {} Tryd.f60 [.ptr 0 1 0 0 [], .i .i64 n] [⟨1, .vals [.agg [.nil]]⟩] qm =
 Tr.br (decide ((0 : Int) = 0)) (.ok (.ret (PV.i .i64 0) [{ e := 1, c := Cont.vals [PV.agg [PV.nil]] }])) (.br (decide (n < 1)) (.ok (.ret (PV.i .i64 0) [{ e := 1, c := Cont.vals [PV.agg [PV.nil]] }])) (.no 4003)) := by kernel_rfl
def nx (v : PV) (n : Int) : Int := (intsW v).headD 0 % n
def rs (v : PV) : PV := match v with
 | .lst 1 (.ints .i64 xs) => .lst 1 (.ints .i64 xs.tail)
 | v => v
theorem okW_rs {v : PV} (h : okW v = true) : okW (rs v) = true := by
 rcases okW_cases h with rfl | ⟨xs, rfl⟩ <;> rfl
theorem qt (v : PV) {n : Int} (h : 0 < n) : 0 <= nx v n /\ nx v n < n := ⟨Int.emod_nonneg _ (by omega), Int.emod_lt_of_pos _ h⟩
def s45 : Spec := fun args hs K => match args, hs with
 | [.ptr 0 1 0 0 [], .i .i64 n], [⟨1, .vals [.agg [.w v]]⟩] => .br (okW v && decide (0 < n) && decide (n <= 4294967296)) (K (.i .i64 (nx v n)) [⟨1, .vals [.agg [.w (rs v)]]⟩]) (.no 1)
 | _, _ => .no 1
include hG in
theorem ok45 : qc Tryd.prog G 60 s45 := by
 intro args hs K x h
 unfold s45 at h
 split at h
 case h_2 => cases h
 rename_i n v
 obtain ⟨hc, hr⟩ := Tr.of_br h
 simp only [Bool.and_eq_true, decide_eq_true_eq] at hc
 obtain ⟨⟨hw, h0⟩, h1⟩ := hc
 have ho := KsLe.one (KLe.vals (e := 1) (VLeL.cons (VLe.agg (VLeL.cons (vle_w_out hw) .nil)) .nil))
 have hi := KsLe.one (KLe.vals (e := 1) (VLeL.cons (VLe.agg (VLeL.cons (vle_w_in (okW_rs hw)) .nil)) .nil))
 refine ⟨_, _, PC.blocks ho (PC.le (r := .i .i64 (nx v n)) (hs' := [⟨1, .vals [.agg [rs v]]⟩]) ?_ (.refl _) hi), hr⟩
 rcases okW_cases hw with rfl | ⟨l, rfl⟩
 ·refine qn hG (.cons (ok24 hG) .nil) mix enter45 (L := []) (pol := {}) (LpsOK.none (by kernel_rfl)) ?_
  rw [e45n, Tr.run_t (by decide), Tr.run_ok]
  show some (Res.ret (.i .i64 0) _) = some (Res.ret (.i .i64 (0 % n)) _)
  rw [Int.zero_emod]; rfl
 ·refine qn hG (.cons (ok24 hG) .nil) mix enter45 (L := []) (pol := {}) (LpsOK.none (by kernel_rfl)) ?_
  rw [e45]
  cases l with
  | nil =>
   rw [Tr.run_t (by decide), Tr.run_ok]
   show some (Res.ret (.i .i64 0) _) = some (Res.ret (.i .i64 (0 % n)) _)
   rw [Int.zero_emod]; rfl
  | cons y ys =>
   have hl : (y :: ys).length = ys.length + 1 := rfl
   rw [Tr.run_f (decide_eq_false (by omega)), Tr.run_f (decide_eq_false (by omega)), Tr.run_t (by simp only [Bool.and_eq_true, decide_eq_true_eq]; omega), Tr.run_t (by simp only [Bool.and_eq_true, decide_eq_true_eq]; omega), Tr.run_t (by simp only [Bool.and_eq_true, decide_eq_true_eq]; omega), Tr.run_ok]
   have ht : List.take ((Cont.ints .i64 (y :: ys)).len - Int.toNat 1) (List.drop (Int.toNat 1) (y :: ys)) = ys := by
    show List.take (ys.length + 1 - 1) ys = ys
    rw [Nat.add_sub_cancel, List.take_length]
   rw [ht]
   rfl
theorem enter104 : Enters Tryd.prog 101 Tryd.f101 (qe Tryd.f101) := ⟨Tryd.func101, by kernel_rfl, rfl⟩
theorem e104 (a b : Int) : evF Tryd.prog [(75, s81)] [] {} Tryd.f101 [.i .i64 a, .i .i64 b] [] qm =
 Tr.br (decide ((0 : Int) < 4) && decide ((4 : Int) < 4611686018427387904) && decide ((-4611686018427387904 : Int) < a) && decide (a < 4611686018427387904)) (.br (decide ((0 : Int) < 4) && decide ((4 : Int) < 4611686018427387904) && decide ((-4611686018427387904 : Int) < b) && decide (b < 4611686018427387904)) (.ok (.ret (PV.agg [PV.q (mkRat a (Int.toNat (4 : Int))) 64, PV.q (mkRat b (Int.toNat (4 : Int))) 64]) [])) (.no 1)) (.no 1) := by kernel_rfl
def smI (a : Int) : Bool := decide (-1000000 < a) && decide (a < 1000000)
theorem smI_iff {a : Int} : smI a = true ↔ -1000000 < a /\ a < 1000000 := by simp [smI]
def s104 : Spec := fun args hs K => match args, hs with
 | [.i .i64 a, .i .i64 b], [] => .br (smI a && smI b) (K (.agg [.q (mkRat a 4) 64, .q (mkRat b 4) 64]) []) (.no 1)
 | _, _ => .no 1
include hG in
theorem ok104 : qc Tryd.prog G 101 s104 := by
 refine ql hG (.cons (ok81 hG) .nil) mix enter104 (L := []) (pol := {}) fun args hs K x h => ?_
 unfold s104 at h
 split at h
 case h_2 => cases h
 rename_i a b
 obtain ⟨hc, hr⟩ := Tr.of_br h
 simp only [Bool.and_eq_true, smI_iff] at hc
 refine ⟨LpsOK.none (by kernel_rfl), _, _, _, ?_, .refl _, hr⟩
 rw [e104]
 repeat rw [Tr.run_t (by simp only [Bool.and_eq_true, decide_eq_true_eq]; omega)]
 rw [Tr.run_ok]
 rfl
theorem enter105 : Enters Tryd.prog 102 Tryd.f102 (qe Tryd.f102) := ⟨Tryd.func102, by kernel_rfl, rfl⟩
theorem e105 (a b c d : Int) : evF Tryd.prog [(101, s104)] [] {} Tryd.f102 [.i .i64 a, .i .i64 b, .i .i64 c, .i .i64 d] [] qm =
 Tr.br (smI a && smI b) (.br (smI c && smI b) (.br (smI c && smI d) (.br (smI a && smI d) (.ok (.ret (PV.lst 6 (.vals [PV.agg [PV.q (mkRat a (4 : Nat)) 64, PV.q (mkRat b (4 : Nat)) 64], PV.agg [PV.q (mkRat c (4 : Nat)) 64, PV.q (mkRat b (4 : Nat)) 64], PV.agg [PV.q (mkRat c (4 : Nat)) 64, PV.q (mkRat d (4 : Nat)) 64], PV.agg [PV.q (mkRat a (4 : Nat)) 64, PV.q (mkRat d (4 : Nat)) 64]])) [])) (.no 1)) (.no 1)) (.no 1)) (.no 1) := by kernel_rfl
def s105 : Spec := fun args hs K => match args, hs with
 | [.i .i64 a, .i .i64 b, .i .i64 c, .i .i64 d], [] => .br (smI a && smI b && smI c && smI d) (K (.lst 6 (.vals [.agg [.q (mkRat a 4) 64, .q (mkRat b 4) 64], .agg [.q (mkRat c 4) 64, .q (mkRat b 4) 64], .agg [.q (mkRat c 4) 64, .q (mkRat d 4) 64], .agg [.q (mkRat a 4) 64, .q (mkRat d 4) 64]])) []) (.no 1)
 | _, _ => .no 1
include hG in
theorem ok105 : qc Tryd.prog G 102 s105 := by
 refine ql hG (.cons (ok104 hG) .nil) mix enter105 (L := []) (pol := {}) fun args hs K x h => ?_
 unfold s105 at h
 split at h
 case h_2 => cases h
 rename_i a b c d
 obtain ⟨hc, hr⟩ := Tr.of_br h
 simp only [Bool.and_eq_true] at hc
 obtain ⟨⟨⟨ha, hb⟩, hc⟩, hd⟩ := hc
 refine ⟨LpsOK.none (by kernel_rfl), _, _, _, ?_, .refl _, hr⟩
 rw [e105, Tr.run_t (by rw [ha, hb]; rfl), Tr.run_t (by rw [hc, hb]; rfl), Tr.run_t (by rw [hc, hd]; rfl), Tr.run_t (by rw [ha, hd]; rfl), Tr.run_ok]
def b68 : Code := (qi (qe Tryd.f59)).getD 0 .skip
def pol68 : Pol := { live := [(4, [0, 4, 5, 30, 31])], wr := [(60, [0])] }
def O68 : Orc := [(60, s45), (75, s81), (101, s104), (102, s105)]
theorem enter68 : Enters Tryd.prog 59 Tryd.f59 (qe Tryd.f59) := ⟨Tryd.func59, by kernel_rfl, rfl⟩
def lkC (a b c d e : Rat) (s : Cont) : PV := .agg [.q a 64, .q b 64, .q c 64, .q d 64, .q e 64, .lst 6 s]
def zArm (z1 z2 z3 z4 z5 z6 z7 : ByteArray) : PV := .agg [.s z1, .agg [.agg [.agg [.bl false, .s z2, .s z3], .agg [.bl false, .s z4, .s z5]], .agg [.bl false, .agg [.bl false, .s z6, .s z7]]], .nil]
def frA (nm : ByteArray) (bx by_ t : Rat) (l : PV) : PV := .agg [.s nm, .agg [.agg [.q bx 64, .q by_ 64], .agg [.bl false, .q t 64]], l]
def E : ByteArray := ⟨#[]⟩
def st68 (v : PV) (nm : ByteArray) (bx by_ t : Rat) (l : PV) (bs : List (Option Blk)) (c i : Int) : LS := ⟨[.ptr 0 1 0 0 [], .ptr 1 12 0 0 [], .ptr 2 12 0 0 [], .i .i64 c, .i .i64 i], [some ⟨1, .vals [.agg [.w v]]⟩, some ⟨12, .vals [zArm E E E E E E E]⟩, some ⟨12, .vals [frA nm bx by_ t l]⟩] ++ bs⟩
theorem r68a (v : PV) (nm : ByteArray) (bx by_ t : Rat) (c i : Int) : qg Tryd.prog O68 [] pol68 Tryd.f59.ntmps 1 [0, 4, 5, 30, 31] b68 (st68 v nm bx by_ t .nil [] c i) =
 Tr.br (decide (i < c)) (.br (okW v && decide ((0 : Int) < 4) && decide ((4 : Int) <= 4294967296)) (.br (ib ((2 : Int) * nx v (4 : Int))) (.br (ib ((4 : Int) + 2 * nx v (4 : Int))) (.br (decide ((0 : Int) < 4) && decide ((4 : Int) < 4611686018427387904) && decide ((-4611686018427387904 : Int) < 4 + 2 * nx v (4 : Int)) && decide ((4 : Int) + 2 * nx v (4 : Int) < 4611686018427387904)) (.br (okW (rs v) && decide ((0 : Int) < 6) && decide ((6 : Int) <= 4294967296)) (.br (ib ((-1 : Int) - nx (rs v) (6 : Int))) (.br (decide ((0 : Int) < 3) && decide ((3 : Int) < 4611686018427387904) && decide ((-4611686018427387904 : Int) < (-1) - nx (rs v) (6 : Int)) && decide ((-1 : Int) - nx (rs v) (6 : Int) < 4611686018427387904)) (.br (okW (rs (rs v)) && decide ((0 : Int) < 6) && decide ((6 : Int) <= 4294967296)) (.br (ib ((1 : Int) + nx (rs (rs v)) (6 : Int))) (.br (decide ((0 : Int) < 3) && decide ((3 : Int) < 4611686018427387904) && decide ((-4611686018427387904 : Int) < 1 + nx (rs (rs v)) (6 : Int)) && decide ((1 : Int) + nx (rs (rs v)) (6 : Int) < 4611686018427387904)) (.br (okW (rs (rs (rs v))) && decide ((0 : Int) < 8) && decide ((8 : Int) <= 4294967296)) (.br (ib ((4 : Int) + nx (rs (rs (rs v))) (8 : Int))) (.br (decide ((0 : Int) < 4 + nx (rs (rs (rs v))) (8 : Int)) && decide ((4 : Int) + nx (rs (rs (rs v))) (8 : Int) < 4611686018427387904) && decide ((-4611686018427387904 : Int) < 1) && decide ((1 : Int) < 4611686018427387904)) (.br (okW (rs (rs (rs (rs v)))) && decide ((0 : Int) < 20) && decide ((20 : Int) <= 4294967296)) (.br (ib ((10 : Int) + nx (rs (rs (rs (rs v)))) (20 : Int))) (.br (decide ((0 : Int) < 10 + nx (rs (rs (rs (rs v)))) (20 : Int)) && decide ((10 : Int) + nx (rs (rs (rs (rs v)))) (20 : Int) < 4611686018427387904) && decide ((-4611686018427387904 : Int) < 1) && decide ((1 : Int) < 4611686018427387904)) (.br (ib ((4 : Int) + 2 * nx v (4 : Int) + 1)) (.br (smI (-1 : Int) && smI (-1 : Int) && smI ((4 : Int) + 2 * nx v (4 : Int) + 1) && smI (1 : Int)) (.br (okW (rs (rs (rs (rs (rs v))))) && decide ((0 : Int) < 3) && decide ((3 : Int) <= 4294967296)) (.br (decide (nx (rs (rs (rs (rs (rs v))))) (3 : Int) = 2)) (.br (smI (-1 : Int) && smI (-1 : Int)) (.br (ib ((4 : Int) + 2 * nx v (4 : Int) + 1)) (.br (smI ((4 : Int) + 2 * nx v (4 : Int) + 1) && smI (0 : Int)) (.br (smI (-1 : Int) && smI (1 : Int)) (.br (Nat.blt (0 : Nat) [PV.agg [PV.q (mkRat ((4 : Int) + 2 * nx v (4 : Int)) (Int.toNat (4 : Int))) 64, PV.q (mkRat ((-1 : Int) - nx (rs v) (6 : Int)) (Int.toNat (3 : Int))) 64, PV.q (mkRat ((1 : Int) + nx (rs (rs v)) (6 : Int)) (Int.toNat (3 : Int))) 64, PV.q (mkRat (1 : Int) ((4 : Int) + nx (rs (rs (rs v))) (8 : Int)).toNat) 64, PV.q (mkRat (1 : Int) ((10 : Int) + nx (rs (rs (rs (rs v)))) (20 : Int)).toNat) 64, PV.lst 6 (.vals [PV.agg [PV.q (mkRat (-1 : Int) (4 : Nat)) 64, PV.q (mkRat (-1 : Int) (4 : Nat)) 64], PV.agg [PV.q (mkRat ((4 : Int) + 2 * nx v (4 : Int) + 1) (4 : Nat)) 64, PV.q (mkRat (0 : Int) (4 : Nat)) 64], PV.agg [PV.q (mkRat (-1 : Int) (4 : Nat)) 64, PV.q (mkRat (1 : Int) (4 : Nat)) 64]])]].length && [PV.agg [PV.q (mkRat ((4 : Int) + 2 * nx v (4 : Int)) (Int.toNat (4 : Int))) 64, PV.q (mkRat ((-1 : Int) - nx (rs v) (6 : Int)) (Int.toNat (3 : Int))) 64, PV.q (mkRat ((1 : Int) + nx (rs (rs v)) (6 : Int)) (Int.toNat (3 : Int))) 64, PV.q (mkRat (1 : Int) ((4 : Int) + nx (rs (rs (rs v))) (8 : Int)).toNat) 64, PV.q (mkRat (1 : Int) ((10 : Int) + nx (rs (rs (rs (rs v)))) (20 : Int)).toNat) 64, PV.lst 6 (.vals [PV.agg [PV.q (mkRat (-1 : Int) (4 : Nat)) 64, PV.q (mkRat (-1 : Int) (4 : Nat)) 64], PV.agg [PV.q (mkRat ((4 : Int) + 2 * nx v (4 : Int) + 1) (4 : Nat)) 64, PV.q (mkRat (0 : Int) (4 : Nat)) 64], PV.agg [PV.q (mkRat (-1 : Int) (4 : Nat)) 64, PV.q (mkRat (1 : Int) (4 : Nat)) 64]])]].length.ble 4294967296) (.br (ib (i + 1)) (.ok (.out .normal { t := [PV.ptr 0 1 0 0 [], PV.ptr 1 12 0 0 [], PV.ptr 2 12 0 0 [], PV.i .i64 c, PV.i .i64 (i + 1)], h := [some { e := 1, c := Cont.vals [PV.agg [(rs (rs (rs (rs (rs (rs v)))))).w]] }, some { e := 12, c := Cont.vals [PV.agg [PV.s E, PV.agg [PV.agg [PV.agg [PV.bl false, PV.s E, PV.s E], PV.agg [PV.bl false, PV.s E, PV.s E]], PV.agg [PV.bl false, PV.agg [PV.bl false, PV.s E, PV.s E]]], PV.nil]] }, some { e := 12, c := Cont.vals [PV.agg [PV.s nm, PV.agg [PV.agg [PV.q bx 64, PV.q by_ 64], PV.agg [PV.bl false, PV.q t 64]], PV.sl 3 16 0 1]] }, some { e := 16, c := Cont.vals [PV.agg [PV.q (mkRat ((4 : Int) + 2 * nx v (4 : Int)) (Int.toNat (4 : Int))) 64, PV.q (mkRat ((-1 : Int) - nx (rs v) (6 : Int)) (Int.toNat (3 : Int))) 64, PV.q (mkRat ((1 : Int) + nx (rs (rs v)) (6 : Int)) (Int.toNat (3 : Int))) 64, PV.q (mkRat (1 : Int) ((4 : Int) + nx (rs (rs (rs v))) (8 : Int)).toNat) 64, PV.q (mkRat (1 : Int) ((10 : Int) + nx (rs (rs (rs (rs v)))) (20 : Int)).toNat) 64, PV.lst 6 (.vals [PV.agg [PV.q (mkRat (-1 : Int) (4 : Nat)) 64, PV.q (mkRat (-1 : Int) (4 : Nat)) 64], PV.agg [PV.q (mkRat ((4 : Int) + 2 * nx v (4 : Int) + 1) (4 : Nat)) 64, PV.q (mkRat (0 : Int) (4 : Nat)) 64], PV.agg [PV.q (mkRat (-1 : Int) (4 : Nat)) 64, PV.q (mkRat (1 : Int) (4 : Nat)) 64]])]] }] })) (.no 11002)) (.no 10003)) (.no 1)) (.no 1)) (.no 9006)) (.no 1)) (.br (Nat.blt (0 : Nat) [PV.agg [PV.q (mkRat ((4 : Int) + 2 * nx v (4 : Int)) (Int.toNat (4 : Int))) 64, PV.q (mkRat ((-1 : Int) - nx (rs v) (6 : Int)) (Int.toNat (3 : Int))) 64, PV.q (mkRat ((1 : Int) + nx (rs (rs v)) (6 : Int)) (Int.toNat (3 : Int))) 64, PV.q (mkRat (1 : Int) ((4 : Int) + nx (rs (rs (rs v))) (8 : Int)).toNat) 64, PV.q (mkRat (1 : Int) ((10 : Int) + nx (rs (rs (rs (rs v)))) (20 : Int)).toNat) 64, PV.lst 6 (.vals [PV.agg [PV.q (mkRat (-1 : Int) (4 : Nat)) 64, PV.q (mkRat (-1 : Int) (4 : Nat)) 64], PV.agg [PV.q (mkRat ((4 : Int) + 2 * nx v (4 : Int) + 1) (4 : Nat)) 64, PV.q (mkRat (-1 : Int) (4 : Nat)) 64], PV.agg [PV.q (mkRat ((4 : Int) + 2 * nx v (4 : Int) + 1) (4 : Nat)) 64, PV.q (mkRat (1 : Int) (4 : Nat)) 64], PV.agg [PV.q (mkRat (-1 : Int) (4 : Nat)) 64, PV.q (mkRat (1 : Int) (4 : Nat)) 64]])]].length && [PV.agg [PV.q (mkRat ((4 : Int) + 2 * nx v (4 : Int)) (Int.toNat (4 : Int))) 64, PV.q (mkRat ((-1 : Int) - nx (rs v) (6 : Int)) (Int.toNat (3 : Int))) 64, PV.q (mkRat ((1 : Int) + nx (rs (rs v)) (6 : Int)) (Int.toNat (3 : Int))) 64, PV.q (mkRat (1 : Int) ((4 : Int) + nx (rs (rs (rs v))) (8 : Int)).toNat) 64, PV.q (mkRat (1 : Int) ((10 : Int) + nx (rs (rs (rs (rs v)))) (20 : Int)).toNat) 64, PV.lst 6 (.vals [PV.agg [PV.q (mkRat (-1 : Int) (4 : Nat)) 64, PV.q (mkRat (-1 : Int) (4 : Nat)) 64], PV.agg [PV.q (mkRat ((4 : Int) + 2 * nx v (4 : Int) + 1) (4 : Nat)) 64, PV.q (mkRat (-1 : Int) (4 : Nat)) 64], PV.agg [PV.q (mkRat ((4 : Int) + 2 * nx v (4 : Int) + 1) (4 : Nat)) 64, PV.q (mkRat (1 : Int) (4 : Nat)) 64], PV.agg [PV.q (mkRat (-1 : Int) (4 : Nat)) 64, PV.q (mkRat (1 : Int) (4 : Nat)) 64]])]].length.ble 4294967296) (.br (ib (i + 1)) (.ok (.out .normal { t := [PV.ptr 0 1 0 0 [], PV.ptr 1 12 0 0 [], PV.ptr 2 12 0 0 [], PV.i .i64 c, PV.i .i64 (i + 1)], h := [some { e := 1, c := Cont.vals [PV.agg [(rs (rs (rs (rs (rs (rs v)))))).w]] }, some { e := 12, c := Cont.vals [PV.agg [PV.s E, PV.agg [PV.agg [PV.agg [PV.bl false, PV.s E, PV.s E], PV.agg [PV.bl false, PV.s E, PV.s E]], PV.agg [PV.bl false, PV.agg [PV.bl false, PV.s E, PV.s E]]], PV.nil]] }, some { e := 12, c := Cont.vals [PV.agg [PV.s nm, PV.agg [PV.agg [PV.q bx 64, PV.q by_ 64], PV.agg [PV.bl false, PV.q t 64]], PV.sl 3 16 0 1]] }, some { e := 16, c := Cont.vals [PV.agg [PV.q (mkRat ((4 : Int) + 2 * nx v (4 : Int)) (Int.toNat (4 : Int))) 64, PV.q (mkRat ((-1 : Int) - nx (rs v) (6 : Int)) (Int.toNat (3 : Int))) 64, PV.q (mkRat ((1 : Int) + nx (rs (rs v)) (6 : Int)) (Int.toNat (3 : Int))) 64, PV.q (mkRat (1 : Int) ((4 : Int) + nx (rs (rs (rs v))) (8 : Int)).toNat) 64, PV.q (mkRat (1 : Int) ((10 : Int) + nx (rs (rs (rs (rs v)))) (20 : Int)).toNat) 64, PV.lst 6 (.vals [PV.agg [PV.q (mkRat (-1 : Int) (4 : Nat)) 64, PV.q (mkRat (-1 : Int) (4 : Nat)) 64], PV.agg [PV.q (mkRat ((4 : Int) + 2 * nx v (4 : Int) + 1) (4 : Nat)) 64, PV.q (mkRat (-1 : Int) (4 : Nat)) 64], PV.agg [PV.q (mkRat ((4 : Int) + 2 * nx v (4 : Int) + 1) (4 : Nat)) 64, PV.q (mkRat (1 : Int) (4 : Nat)) 64], PV.agg [PV.q (mkRat (-1 : Int) (4 : Nat)) 64, PV.q (mkRat (1 : Int) (4 : Nat)) 64]])]] }] })) (.no 11002)) (.no 10003))) (.no 1)) (.no 1)) (.no 7005)) (.no 1)) (.no 7008)) (.no 1)) (.no 1)) (.no 7012)) (.no 1)) (.no 1)) (.no 7016)) (.no 1)) (.no 1)) (.no 7020)) (.no 1)) (.no 1)) (.no 6002)) (.no 6003)) (.no 1)) (.ok (.out (.exit 0) { t := [PV.ptr 0 1 0 0 [], PV.ptr 1 12 0 0 [], PV.ptr 2 12 0 0 [], PV.i .i64 c, PV.i .i64 i], h := [some { e := 1, c := Cont.vals [PV.agg [v.w]] }, some { e := 12, c := Cont.vals [PV.agg [PV.s E, PV.agg [PV.agg [PV.agg [PV.bl false, PV.s E, PV.s E], PV.agg [PV.bl false, PV.s E, PV.s E]], PV.agg [PV.bl false, PV.agg [PV.bl false, PV.s E, PV.s E]]], PV.nil]] }, some { e := 12, c := Cont.vals [PV.agg [PV.s nm, PV.agg [PV.agg [PV.q bx 64, PV.q by_ 64], PV.agg [PV.bl false, PV.q t 64]], PV.nil]] }] })) := by kernel_rfl
theorem r68b (v : PV) (nm : ByteArray) (bx by_ t : Rat) (c i : Int) (a1 b1 c1 d1 e1 : Rat) (s1 : Cont) : qg Tryd.prog O68 [] pol68 Tryd.f59.ntmps 1 [0, 4, 5, 30, 31] b68 (st68 v nm bx by_ t (.sl 3 16 0 1) [some ⟨16, .vals [lkC a1 b1 c1 d1 e1 s1]⟩] c i) =
 Tr.br (decide (i < c)) (.br (okW v && decide ((0 : Int) < 4) && decide ((4 : Int) <= 4294967296)) (.br (ib ((2 : Int) * nx v (4 : Int))) (.br (ib ((4 : Int) + 2 * nx v (4 : Int))) (.br (decide ((0 : Int) < 4) && decide ((4 : Int) < 4611686018427387904) && decide ((-4611686018427387904 : Int) < 4 + 2 * nx v (4 : Int)) && decide ((4 : Int) + 2 * nx v (4 : Int) < 4611686018427387904)) (.br (okW (rs v) && decide ((0 : Int) < 6) && decide ((6 : Int) <= 4294967296)) (.br (ib ((-1 : Int) - nx (rs v) (6 : Int))) (.br (decide ((0 : Int) < 3) && decide ((3 : Int) < 4611686018427387904) && decide ((-4611686018427387904 : Int) < (-1) - nx (rs v) (6 : Int)) && decide ((-1 : Int) - nx (rs v) (6 : Int) < 4611686018427387904)) (.br (okW (rs (rs v)) && decide ((0 : Int) < 6) && decide ((6 : Int) <= 4294967296)) (.br (ib ((1 : Int) + nx (rs (rs v)) (6 : Int))) (.br (decide ((0 : Int) < 3) && decide ((3 : Int) < 4611686018427387904) && decide ((-4611686018427387904 : Int) < 1 + nx (rs (rs v)) (6 : Int)) && decide ((1 : Int) + nx (rs (rs v)) (6 : Int) < 4611686018427387904)) (.br (okW (rs (rs (rs v))) && decide ((0 : Int) < 8) && decide ((8 : Int) <= 4294967296)) (.br (ib ((4 : Int) + nx (rs (rs (rs v))) (8 : Int))) (.br (decide ((0 : Int) < 4 + nx (rs (rs (rs v))) (8 : Int)) && decide ((4 : Int) + nx (rs (rs (rs v))) (8 : Int) < 4611686018427387904) && decide ((-4611686018427387904 : Int) < 1) && decide ((1 : Int) < 4611686018427387904)) (.br (okW (rs (rs (rs (rs v)))) && decide ((0 : Int) < 20) && decide ((20 : Int) <= 4294967296)) (.br (ib ((10 : Int) + nx (rs (rs (rs (rs v)))) (20 : Int))) (.br (decide ((0 : Int) < 10 + nx (rs (rs (rs (rs v)))) (20 : Int)) && decide ((10 : Int) + nx (rs (rs (rs (rs v)))) (20 : Int) < 4611686018427387904) && decide ((-4611686018427387904 : Int) < 1) && decide ((1 : Int) < 4611686018427387904)) (.br (ib ((4 : Int) + 2 * nx v (4 : Int) + 1)) (.br (smI (-1 : Int) && smI (-1 : Int) && smI ((4 : Int) + 2 * nx v (4 : Int) + 1) && smI (1 : Int)) (.br (okW (rs (rs (rs (rs (rs v))))) && decide ((0 : Int) < 3) && decide ((3 : Int) <= 4294967296)) (.br (decide (nx (rs (rs (rs (rs (rs v))))) (3 : Int) = 2)) (.br (smI (-1 : Int) && smI (-1 : Int)) (.br (ib ((4 : Int) + 2 * nx v (4 : Int) + 1)) (.br (smI ((4 : Int) + 2 * nx v (4 : Int) + 1) && smI (0 : Int)) (.br (smI (-1 : Int) && smI (1 : Int)) (.br (((1 : Nat) + [PE.PV.agg [PV.q (mkRat ((4 : Int) + 2 * nx v (4 : Int)) (Int.toNat (4 : Int))) 64, PV.q (mkRat ((-1 : Int) - nx (rs v) (6 : Int)) (Int.toNat (3 : Int))) 64, PV.q (mkRat ((1 : Int) + nx (rs (rs v)) (6 : Int)) (Int.toNat (3 : Int))) 64, PV.q (mkRat (1 : Int) ((4 : Int) + nx (rs (rs (rs v))) (8 : Int)).toNat) 64, PV.q (mkRat (1 : Int) ((10 : Int) + nx (rs (rs (rs (rs v)))) (20 : Int)).toNat) 64, PV.lst 6 (.vals [PV.agg [PV.q (mkRat (-1 : Int) (4 : Nat)) 64, PV.q (mkRat (-1 : Int) (4 : Nat)) 64], PV.agg [PV.q (mkRat ((4 : Int) + 2 * nx v (4 : Int) + 1) (4 : Nat)) 64, PV.q (mkRat (0 : Int) (4 : Nat)) 64], PV.agg [PV.q (mkRat (-1 : Int) (4 : Nat)) 64, PV.q (mkRat (1 : Int) (4 : Nat)) 64]])]].length).ble 4294967296) (.br (ib (i + 1)) (.ok (.out .normal { t := [PV.ptr 0 1 0 0 [], PV.ptr 1 12 0 0 [], PV.ptr 2 12 0 0 [], PV.i .i64 c, PV.i .i64 (i + 1)], h := [some { e := 1, c := Cont.vals [PV.agg [(rs (rs (rs (rs (rs (rs v)))))).w]] }, some { e := 12, c := Cont.vals [PV.agg [PV.s E, PV.agg [PV.agg [PV.agg [PV.bl false, PV.s E, PV.s E], PV.agg [PV.bl false, PV.s E, PV.s E]], PV.agg [PV.bl false, PV.agg [PV.bl false, PV.s E, PV.s E]]], PV.nil]] }, some { e := 12, c := Cont.vals [PV.agg [PV.s nm, PV.agg [PV.agg [PV.q bx 64, PV.q by_ 64], PV.agg [PV.bl false, PV.q t 64]], PV.sl 3 16 0 2]] }, some { e := 16, c := Cont.vals [PV.agg [PV.q a1 64, PV.q b1 64, PV.q c1 64, PV.q d1 64, PV.q e1 64, PV.lst 6 s1], PV.agg [PV.q (mkRat ((4 : Int) + 2 * nx v (4 : Int)) (Int.toNat (4 : Int))) 64, PV.q (mkRat ((-1 : Int) - nx (rs v) (6 : Int)) (Int.toNat (3 : Int))) 64, PV.q (mkRat ((1 : Int) + nx (rs (rs v)) (6 : Int)) (Int.toNat (3 : Int))) 64, PV.q (mkRat (1 : Int) ((4 : Int) + nx (rs (rs (rs v))) (8 : Int)).toNat) 64, PV.q (mkRat (1 : Int) ((10 : Int) + nx (rs (rs (rs (rs v)))) (20 : Int)).toNat) 64, PV.lst 6 (.vals [PV.agg [PV.q (mkRat (-1 : Int) (4 : Nat)) 64, PV.q (mkRat (-1 : Int) (4 : Nat)) 64], PV.agg [PV.q (mkRat ((4 : Int) + 2 * nx v (4 : Int) + 1) (4 : Nat)) 64, PV.q (mkRat (0 : Int) (4 : Nat)) 64], PV.agg [PV.q (mkRat (-1 : Int) (4 : Nat)) 64, PV.q (mkRat (1 : Int) (4 : Nat)) 64]])]] }] })) (.no 11002)) (.no 10003)) (.no 1)) (.no 1)) (.no 9006)) (.no 1)) (.br (((1 : Nat) + [PE.PV.agg [PV.q (mkRat ((4 : Int) + 2 * nx v (4 : Int)) (Int.toNat (4 : Int))) 64, PV.q (mkRat ((-1 : Int) - nx (rs v) (6 : Int)) (Int.toNat (3 : Int))) 64, PV.q (mkRat ((1 : Int) + nx (rs (rs v)) (6 : Int)) (Int.toNat (3 : Int))) 64, PV.q (mkRat (1 : Int) ((4 : Int) + nx (rs (rs (rs v))) (8 : Int)).toNat) 64, PV.q (mkRat (1 : Int) ((10 : Int) + nx (rs (rs (rs (rs v)))) (20 : Int)).toNat) 64, PV.lst 6 (.vals [PV.agg [PV.q (mkRat (-1 : Int) (4 : Nat)) 64, PV.q (mkRat (-1 : Int) (4 : Nat)) 64], PV.agg [PV.q (mkRat ((4 : Int) + 2 * nx v (4 : Int) + 1) (4 : Nat)) 64, PV.q (mkRat (-1 : Int) (4 : Nat)) 64], PV.agg [PV.q (mkRat ((4 : Int) + 2 * nx v (4 : Int) + 1) (4 : Nat)) 64, PV.q (mkRat (1 : Int) (4 : Nat)) 64], PV.agg [PV.q (mkRat (-1 : Int) (4 : Nat)) 64, PV.q (mkRat (1 : Int) (4 : Nat)) 64]])]].length).ble 4294967296) (.br (ib (i + 1)) (.ok (.out .normal { t := [PV.ptr 0 1 0 0 [], PV.ptr 1 12 0 0 [], PV.ptr 2 12 0 0 [], PV.i .i64 c, PV.i .i64 (i + 1)], h := [some { e := 1, c := Cont.vals [PV.agg [(rs (rs (rs (rs (rs (rs v)))))).w]] }, some { e := 12, c := Cont.vals [PV.agg [PV.s E, PV.agg [PV.agg [PV.agg [PV.bl false, PV.s E, PV.s E], PV.agg [PV.bl false, PV.s E, PV.s E]], PV.agg [PV.bl false, PV.agg [PV.bl false, PV.s E, PV.s E]]], PV.nil]] }, some { e := 12, c := Cont.vals [PV.agg [PV.s nm, PV.agg [PV.agg [PV.q bx 64, PV.q by_ 64], PV.agg [PV.bl false, PV.q t 64]], PV.sl 3 16 0 2]] }, some { e := 16, c := Cont.vals [PV.agg [PV.q a1 64, PV.q b1 64, PV.q c1 64, PV.q d1 64, PV.q e1 64, PV.lst 6 s1], PV.agg [PV.q (mkRat ((4 : Int) + 2 * nx v (4 : Int)) (Int.toNat (4 : Int))) 64, PV.q (mkRat ((-1 : Int) - nx (rs v) (6 : Int)) (Int.toNat (3 : Int))) 64, PV.q (mkRat ((1 : Int) + nx (rs (rs v)) (6 : Int)) (Int.toNat (3 : Int))) 64, PV.q (mkRat (1 : Int) ((4 : Int) + nx (rs (rs (rs v))) (8 : Int)).toNat) 64, PV.q (mkRat (1 : Int) ((10 : Int) + nx (rs (rs (rs (rs v)))) (20 : Int)).toNat) 64, PV.lst 6 (.vals [PV.agg [PV.q (mkRat (-1 : Int) (4 : Nat)) 64, PV.q (mkRat (-1 : Int) (4 : Nat)) 64], PV.agg [PV.q (mkRat ((4 : Int) + 2 * nx v (4 : Int) + 1) (4 : Nat)) 64, PV.q (mkRat (-1 : Int) (4 : Nat)) 64], PV.agg [PV.q (mkRat ((4 : Int) + 2 * nx v (4 : Int) + 1) (4 : Nat)) 64, PV.q (mkRat (1 : Int) (4 : Nat)) 64], PV.agg [PV.q (mkRat (-1 : Int) (4 : Nat)) 64, PV.q (mkRat (1 : Int) (4 : Nat)) 64]])]] }] })) (.no 11002)) (.no 10003))) (.no 1)) (.no 1)) (.no 7005)) (.no 1)) (.no 7008)) (.no 1)) (.no 1)) (.no 7012)) (.no 1)) (.no 1)) (.no 7016)) (.no 1)) (.no 1)) (.no 7020)) (.no 1)) (.no 1)) (.no 6002)) (.no 6003)) (.no 1)) (.ok (.out (.exit 0) { t := [PV.ptr 0 1 0 0 [], PV.ptr 1 12 0 0 [], PV.ptr 2 12 0 0 [], PV.i .i64 c, PV.i .i64 i], h := [some { e := 1, c := Cont.vals [PV.agg [v.w]] }, some { e := 12, c := Cont.vals [PV.agg [PV.s E, PV.agg [PV.agg [PV.agg [PV.bl false, PV.s E, PV.s E], PV.agg [PV.bl false, PV.s E, PV.s E]], PV.agg [PV.bl false, PV.agg [PV.bl false, PV.s E, PV.s E]]], PV.nil]] }, some { e := 12, c := Cont.vals [PV.agg [PV.s nm, PV.agg [PV.agg [PV.q bx 64, PV.q by_ 64], PV.agg [PV.bl false, PV.q t 64]], PV.sl 3 16 0 1]] }, some { e := 16, c := Cont.vals [PV.agg [PV.q a1 64, PV.q b1 64, PV.q c1 64, PV.q d1 64, PV.q e1 64, PV.lst 6 s1]] }] })) := by kernel_rfl
theorem r68c (v : PV) (nm : ByteArray) (bx by_ t : Rat) (c i : Int) (a1 b1 c1 d1 e1 a2 b2 c2 d2 e2 : Rat) (s1 s2 : Cont) : qg Tryd.prog O68 [] pol68 Tryd.f59.ntmps 1 [0, 4, 5, 30, 31] b68 (st68 v nm bx by_ t (.sl 3 16 0 2) [some ⟨16, .vals [lkC a1 b1 c1 d1 e1 s1, lkC a2 b2 c2 d2 e2 s2]⟩] c i) =
 Tr.br (decide (i < c)) (.br (okW v && decide ((0 : Int) < 4) && decide ((4 : Int) <= 4294967296)) (.br (ib ((2 : Int) * nx v (4 : Int))) (.br (ib ((4 : Int) + 2 * nx v (4 : Int))) (.br (decide ((0 : Int) < 4) && decide ((4 : Int) < 4611686018427387904) && decide ((-4611686018427387904 : Int) < 4 + 2 * nx v (4 : Int)) && decide ((4 : Int) + 2 * nx v (4 : Int) < 4611686018427387904)) (.br (okW (rs v) && decide ((0 : Int) < 6) && decide ((6 : Int) <= 4294967296)) (.br (ib ((-1 : Int) - nx (rs v) (6 : Int))) (.br (decide ((0 : Int) < 3) && decide ((3 : Int) < 4611686018427387904) && decide ((-4611686018427387904 : Int) < (-1) - nx (rs v) (6 : Int)) && decide ((-1 : Int) - nx (rs v) (6 : Int) < 4611686018427387904)) (.br (okW (rs (rs v)) && decide ((0 : Int) < 6) && decide ((6 : Int) <= 4294967296)) (.br (ib ((1 : Int) + nx (rs (rs v)) (6 : Int))) (.br (decide ((0 : Int) < 3) && decide ((3 : Int) < 4611686018427387904) && decide ((-4611686018427387904 : Int) < 1 + nx (rs (rs v)) (6 : Int)) && decide ((1 : Int) + nx (rs (rs v)) (6 : Int) < 4611686018427387904)) (.br (okW (rs (rs (rs v))) && decide ((0 : Int) < 8) && decide ((8 : Int) <= 4294967296)) (.br (ib ((4 : Int) + nx (rs (rs (rs v))) (8 : Int))) (.br (decide ((0 : Int) < 4 + nx (rs (rs (rs v))) (8 : Int)) && decide ((4 : Int) + nx (rs (rs (rs v))) (8 : Int) < 4611686018427387904) && decide ((-4611686018427387904 : Int) < 1) && decide ((1 : Int) < 4611686018427387904)) (.br (okW (rs (rs (rs (rs v)))) && decide ((0 : Int) < 20) && decide ((20 : Int) <= 4294967296)) (.br (ib ((10 : Int) + nx (rs (rs (rs (rs v)))) (20 : Int))) (.br (decide ((0 : Int) < 10 + nx (rs (rs (rs (rs v)))) (20 : Int)) && decide ((10 : Int) + nx (rs (rs (rs (rs v)))) (20 : Int) < 4611686018427387904) && decide ((-4611686018427387904 : Int) < 1) && decide ((1 : Int) < 4611686018427387904)) (.br (ib ((4 : Int) + 2 * nx v (4 : Int) + 1)) (.br (smI (-1 : Int) && smI (-1 : Int) && smI ((4 : Int) + 2 * nx v (4 : Int) + 1) && smI (1 : Int)) (.br (okW (rs (rs (rs (rs (rs v))))) && decide ((0 : Int) < 3) && decide ((3 : Int) <= 4294967296)) (.br (decide (nx (rs (rs (rs (rs (rs v))))) (3 : Int) = 2)) (.br (smI (-1 : Int) && smI (-1 : Int)) (.br (ib ((4 : Int) + 2 * nx v (4 : Int) + 1)) (.br (smI ((4 : Int) + 2 * nx v (4 : Int) + 1) && smI (0 : Int)) (.br (smI (-1 : Int) && smI (1 : Int)) (.br (((2 : Nat) + [PE.PV.agg [PV.q (mkRat ((4 : Int) + 2 * nx v (4 : Int)) (Int.toNat (4 : Int))) 64, PV.q (mkRat ((-1 : Int) - nx (rs v) (6 : Int)) (Int.toNat (3 : Int))) 64, PV.q (mkRat ((1 : Int) + nx (rs (rs v)) (6 : Int)) (Int.toNat (3 : Int))) 64, PV.q (mkRat (1 : Int) ((4 : Int) + nx (rs (rs (rs v))) (8 : Int)).toNat) 64, PV.q (mkRat (1 : Int) ((10 : Int) + nx (rs (rs (rs (rs v)))) (20 : Int)).toNat) 64, PV.lst 6 (.vals [PV.agg [PV.q (mkRat (-1 : Int) (4 : Nat)) 64, PV.q (mkRat (-1 : Int) (4 : Nat)) 64], PV.agg [PV.q (mkRat ((4 : Int) + 2 * nx v (4 : Int) + 1) (4 : Nat)) 64, PV.q (mkRat (0 : Int) (4 : Nat)) 64], PV.agg [PV.q (mkRat (-1 : Int) (4 : Nat)) 64, PV.q (mkRat (1 : Int) (4 : Nat)) 64]])]].length).ble 4294967296) (.br (ib (i + 1)) (.ok (.out .normal { t := [PV.ptr 0 1 0 0 [], PV.ptr 1 12 0 0 [], PV.ptr 2 12 0 0 [], PV.i .i64 c, PV.i .i64 (i + 1)], h := [some { e := 1, c := Cont.vals [PV.agg [(rs (rs (rs (rs (rs (rs v)))))).w]] }, some { e := 12, c := Cont.vals [PV.agg [PV.s E, PV.agg [PV.agg [PV.agg [PV.bl false, PV.s E, PV.s E], PV.agg [PV.bl false, PV.s E, PV.s E]], PV.agg [PV.bl false, PV.agg [PV.bl false, PV.s E, PV.s E]]], PV.nil]] }, some { e := 12, c := Cont.vals [PV.agg [PV.s nm, PV.agg [PV.agg [PV.q bx 64, PV.q by_ 64], PV.agg [PV.bl false, PV.q t 64]], PV.sl 3 16 0 3]] }, some { e := 16, c := Cont.vals [PV.agg [PV.q a1 64, PV.q b1 64, PV.q c1 64, PV.q d1 64, PV.q e1 64, PV.lst 6 s1], PV.agg [PV.q a2 64, PV.q b2 64, PV.q c2 64, PV.q d2 64, PV.q e2 64, PV.lst 6 s2], PV.agg [PV.q (mkRat ((4 : Int) + 2 * nx v (4 : Int)) (Int.toNat (4 : Int))) 64, PV.q (mkRat ((-1 : Int) - nx (rs v) (6 : Int)) (Int.toNat (3 : Int))) 64, PV.q (mkRat ((1 : Int) + nx (rs (rs v)) (6 : Int)) (Int.toNat (3 : Int))) 64, PV.q (mkRat (1 : Int) ((4 : Int) + nx (rs (rs (rs v))) (8 : Int)).toNat) 64, PV.q (mkRat (1 : Int) ((10 : Int) + nx (rs (rs (rs (rs v)))) (20 : Int)).toNat) 64, PV.lst 6 (.vals [PV.agg [PV.q (mkRat (-1 : Int) (4 : Nat)) 64, PV.q (mkRat (-1 : Int) (4 : Nat)) 64], PV.agg [PV.q (mkRat ((4 : Int) + 2 * nx v (4 : Int) + 1) (4 : Nat)) 64, PV.q (mkRat (0 : Int) (4 : Nat)) 64], PV.agg [PV.q (mkRat (-1 : Int) (4 : Nat)) 64, PV.q (mkRat (1 : Int) (4 : Nat)) 64]])]] }] })) (.no 11002)) (.no 10003)) (.no 1)) (.no 1)) (.no 9006)) (.no 1)) (.br (((2 : Nat) + [PE.PV.agg [PV.q (mkRat ((4 : Int) + 2 * nx v (4 : Int)) (Int.toNat (4 : Int))) 64, PV.q (mkRat ((-1 : Int) - nx (rs v) (6 : Int)) (Int.toNat (3 : Int))) 64, PV.q (mkRat ((1 : Int) + nx (rs (rs v)) (6 : Int)) (Int.toNat (3 : Int))) 64, PV.q (mkRat (1 : Int) ((4 : Int) + nx (rs (rs (rs v))) (8 : Int)).toNat) 64, PV.q (mkRat (1 : Int) ((10 : Int) + nx (rs (rs (rs (rs v)))) (20 : Int)).toNat) 64, PV.lst 6 (.vals [PV.agg [PV.q (mkRat (-1 : Int) (4 : Nat)) 64, PV.q (mkRat (-1 : Int) (4 : Nat)) 64], PV.agg [PV.q (mkRat ((4 : Int) + 2 * nx v (4 : Int) + 1) (4 : Nat)) 64, PV.q (mkRat (-1 : Int) (4 : Nat)) 64], PV.agg [PV.q (mkRat ((4 : Int) + 2 * nx v (4 : Int) + 1) (4 : Nat)) 64, PV.q (mkRat (1 : Int) (4 : Nat)) 64], PV.agg [PV.q (mkRat (-1 : Int) (4 : Nat)) 64, PV.q (mkRat (1 : Int) (4 : Nat)) 64]])]].length).ble 4294967296) (.br (ib (i + 1)) (.ok (.out .normal { t := [PV.ptr 0 1 0 0 [], PV.ptr 1 12 0 0 [], PV.ptr 2 12 0 0 [], PV.i .i64 c, PV.i .i64 (i + 1)], h := [some { e := 1, c := Cont.vals [PV.agg [(rs (rs (rs (rs (rs (rs v)))))).w]] }, some { e := 12, c := Cont.vals [PV.agg [PV.s E, PV.agg [PV.agg [PV.agg [PV.bl false, PV.s E, PV.s E], PV.agg [PV.bl false, PV.s E, PV.s E]], PV.agg [PV.bl false, PV.agg [PV.bl false, PV.s E, PV.s E]]], PV.nil]] }, some { e := 12, c := Cont.vals [PV.agg [PV.s nm, PV.agg [PV.agg [PV.q bx 64, PV.q by_ 64], PV.agg [PV.bl false, PV.q t 64]], PV.sl 3 16 0 3]] }, some { e := 16, c := Cont.vals [PV.agg [PV.q a1 64, PV.q b1 64, PV.q c1 64, PV.q d1 64, PV.q e1 64, PV.lst 6 s1], PV.agg [PV.q a2 64, PV.q b2 64, PV.q c2 64, PV.q d2 64, PV.q e2 64, PV.lst 6 s2], PV.agg [PV.q (mkRat ((4 : Int) + 2 * nx v (4 : Int)) (Int.toNat (4 : Int))) 64, PV.q (mkRat ((-1 : Int) - nx (rs v) (6 : Int)) (Int.toNat (3 : Int))) 64, PV.q (mkRat ((1 : Int) + nx (rs (rs v)) (6 : Int)) (Int.toNat (3 : Int))) 64, PV.q (mkRat (1 : Int) ((4 : Int) + nx (rs (rs (rs v))) (8 : Int)).toNat) 64, PV.q (mkRat (1 : Int) ((10 : Int) + nx (rs (rs (rs (rs v)))) (20 : Int)).toNat) 64, PV.lst 6 (.vals [PV.agg [PV.q (mkRat (-1 : Int) (4 : Nat)) 64, PV.q (mkRat (-1 : Int) (4 : Nat)) 64], PV.agg [PV.q (mkRat ((4 : Int) + 2 * nx v (4 : Int) + 1) (4 : Nat)) 64, PV.q (mkRat (-1 : Int) (4 : Nat)) 64], PV.agg [PV.q (mkRat ((4 : Int) + 2 * nx v (4 : Int) + 1) (4 : Nat)) 64, PV.q (mkRat (1 : Int) (4 : Nat)) 64], PV.agg [PV.q (mkRat (-1 : Int) (4 : Nat)) 64, PV.q (mkRat (1 : Int) (4 : Nat)) 64]])]] }] })) (.no 11002)) (.no 10003))) (.no 1)) (.no 1)) (.no 7005)) (.no 1)) (.no 7008)) (.no 1)) (.no 1)) (.no 7012)) (.no 1)) (.no 1)) (.no 7016)) (.no 1)) (.no 1)) (.no 7020)) (.no 1)) (.no 1)) (.no 6002)) (.no 6003)) (.no 1)) (.ok (.out (.exit 0) { t := [PV.ptr 0 1 0 0 [], PV.ptr 1 12 0 0 [], PV.ptr 2 12 0 0 [], PV.i .i64 c, PV.i .i64 i], h := [some { e := 1, c := Cont.vals [PV.agg [v.w]] }, some { e := 12, c := Cont.vals [PV.agg [PV.s E, PV.agg [PV.agg [PV.agg [PV.bl false, PV.s E, PV.s E], PV.agg [PV.bl false, PV.s E, PV.s E]], PV.agg [PV.bl false, PV.agg [PV.bl false, PV.s E, PV.s E]]], PV.nil]] }, some { e := 12, c := Cont.vals [PV.agg [PV.s nm, PV.agg [PV.agg [PV.q bx 64, PV.q by_ 64], PV.agg [PV.bl false, PV.q t 64]], PV.sl 3 16 0 2]] }, some { e := 16, c := Cont.vals [PV.agg [PV.q a1 64, PV.q b1 64, PV.q c1 64, PV.q d1 64, PV.q e1 64, PV.lst 6 s1], PV.agg [PV.q a2 64, PV.q b2 64, PV.q c2 64, PV.q d2 64, PV.q e2 64, PV.lst 6 s2]] }] })) := by kernel_rfl
theorem r68d (v : PV) (nm : ByteArray) (bx by_ t : Rat) (c i : Int) (a1 b1 c1 d1 e1 a2 b2 c2 d2 e2 a3 b3 c3 d3 e3 : Rat) (s1 s2 s3 : Cont) : qg Tryd.prog O68 [] pol68 Tryd.f59.ntmps 1 [0, 4, 5, 30, 31] b68 (st68 v nm bx by_ t (.sl 3 16 0 3) [some ⟨16, .vals [lkC a1 b1 c1 d1 e1 s1, lkC a2 b2 c2 d2 e2 s2, lkC a3 b3 c3 d3 e3 s3]⟩] c i) =
 Tr.br (decide (i < c)) (.br (okW v && decide ((0 : Int) < 4) && decide ((4 : Int) <= 4294967296)) (.br (ib ((2 : Int) * nx v (4 : Int))) (.br (ib ((4 : Int) + 2 * nx v (4 : Int))) (.br (decide ((0 : Int) < 4) && decide ((4 : Int) < 4611686018427387904) && decide ((-4611686018427387904 : Int) < 4 + 2 * nx v (4 : Int)) && decide ((4 : Int) + 2 * nx v (4 : Int) < 4611686018427387904)) (.br (okW (rs v) && decide ((0 : Int) < 6) && decide ((6 : Int) <= 4294967296)) (.br (ib ((-1 : Int) - nx (rs v) (6 : Int))) (.br (decide ((0 : Int) < 3) && decide ((3 : Int) < 4611686018427387904) && decide ((-4611686018427387904 : Int) < (-1) - nx (rs v) (6 : Int)) && decide ((-1 : Int) - nx (rs v) (6 : Int) < 4611686018427387904)) (.br (okW (rs (rs v)) && decide ((0 : Int) < 6) && decide ((6 : Int) <= 4294967296)) (.br (ib ((1 : Int) + nx (rs (rs v)) (6 : Int))) (.br (decide ((0 : Int) < 3) && decide ((3 : Int) < 4611686018427387904) && decide ((-4611686018427387904 : Int) < 1 + nx (rs (rs v)) (6 : Int)) && decide ((1 : Int) + nx (rs (rs v)) (6 : Int) < 4611686018427387904)) (.br (okW (rs (rs (rs v))) && decide ((0 : Int) < 8) && decide ((8 : Int) <= 4294967296)) (.br (ib ((4 : Int) + nx (rs (rs (rs v))) (8 : Int))) (.br (decide ((0 : Int) < 4 + nx (rs (rs (rs v))) (8 : Int)) && decide ((4 : Int) + nx (rs (rs (rs v))) (8 : Int) < 4611686018427387904) && decide ((-4611686018427387904 : Int) < 1) && decide ((1 : Int) < 4611686018427387904)) (.br (okW (rs (rs (rs (rs v)))) && decide ((0 : Int) < 20) && decide ((20 : Int) <= 4294967296)) (.br (ib ((10 : Int) + nx (rs (rs (rs (rs v)))) (20 : Int))) (.br (decide ((0 : Int) < 10 + nx (rs (rs (rs (rs v)))) (20 : Int)) && decide ((10 : Int) + nx (rs (rs (rs (rs v)))) (20 : Int) < 4611686018427387904) && decide ((-4611686018427387904 : Int) < 1) && decide ((1 : Int) < 4611686018427387904)) (.br (ib ((4 : Int) + 2 * nx v (4 : Int) + 1)) (.br (smI (-1 : Int) && smI (-1 : Int) && smI ((4 : Int) + 2 * nx v (4 : Int) + 1) && smI (1 : Int)) (.br (okW (rs (rs (rs (rs (rs v))))) && decide ((0 : Int) < 3) && decide ((3 : Int) <= 4294967296)) (.br (decide (nx (rs (rs (rs (rs (rs v))))) (3 : Int) = 2)) (.br (smI (-1 : Int) && smI (-1 : Int)) (.br (ib ((4 : Int) + 2 * nx v (4 : Int) + 1)) (.br (smI ((4 : Int) + 2 * nx v (4 : Int) + 1) && smI (0 : Int)) (.br (smI (-1 : Int) && smI (1 : Int)) (.br (((3 : Nat) + [PE.PV.agg [PV.q (mkRat ((4 : Int) + 2 * nx v (4 : Int)) (Int.toNat (4 : Int))) 64, PV.q (mkRat ((-1 : Int) - nx (rs v) (6 : Int)) (Int.toNat (3 : Int))) 64, PV.q (mkRat ((1 : Int) + nx (rs (rs v)) (6 : Int)) (Int.toNat (3 : Int))) 64, PV.q (mkRat (1 : Int) ((4 : Int) + nx (rs (rs (rs v))) (8 : Int)).toNat) 64, PV.q (mkRat (1 : Int) ((10 : Int) + nx (rs (rs (rs (rs v)))) (20 : Int)).toNat) 64, PV.lst 6 (.vals [PV.agg [PV.q (mkRat (-1 : Int) (4 : Nat)) 64, PV.q (mkRat (-1 : Int) (4 : Nat)) 64], PV.agg [PV.q (mkRat ((4 : Int) + 2 * nx v (4 : Int) + 1) (4 : Nat)) 64, PV.q (mkRat (0 : Int) (4 : Nat)) 64], PV.agg [PV.q (mkRat (-1 : Int) (4 : Nat)) 64, PV.q (mkRat (1 : Int) (4 : Nat)) 64]])]].length).ble 4294967296) (.br (ib (i + 1)) (.ok (.out .normal { t := [PV.ptr 0 1 0 0 [], PV.ptr 1 12 0 0 [], PV.ptr 2 12 0 0 [], PV.i .i64 c, PV.i .i64 (i + 1)], h := [some { e := 1, c := Cont.vals [PV.agg [(rs (rs (rs (rs (rs (rs v)))))).w]] }, some { e := 12, c := Cont.vals [PV.agg [PV.s E, PV.agg [PV.agg [PV.agg [PV.bl false, PV.s E, PV.s E], PV.agg [PV.bl false, PV.s E, PV.s E]], PV.agg [PV.bl false, PV.agg [PV.bl false, PV.s E, PV.s E]]], PV.nil]] }, some { e := 12, c := Cont.vals [PV.agg [PV.s nm, PV.agg [PV.agg [PV.q bx 64, PV.q by_ 64], PV.agg [PV.bl false, PV.q t 64]], PV.sl 3 16 0 4]] }, some { e := 16, c := Cont.vals [PV.agg [PV.q a1 64, PV.q b1 64, PV.q c1 64, PV.q d1 64, PV.q e1 64, PV.lst 6 s1], PV.agg [PV.q a2 64, PV.q b2 64, PV.q c2 64, PV.q d2 64, PV.q e2 64, PV.lst 6 s2], PV.agg [PV.q a3 64, PV.q b3 64, PV.q c3 64, PV.q d3 64, PV.q e3 64, PV.lst 6 s3], PV.agg [PV.q (mkRat ((4 : Int) + 2 * nx v (4 : Int)) (Int.toNat (4 : Int))) 64, PV.q (mkRat ((-1 : Int) - nx (rs v) (6 : Int)) (Int.toNat (3 : Int))) 64, PV.q (mkRat ((1 : Int) + nx (rs (rs v)) (6 : Int)) (Int.toNat (3 : Int))) 64, PV.q (mkRat (1 : Int) ((4 : Int) + nx (rs (rs (rs v))) (8 : Int)).toNat) 64, PV.q (mkRat (1 : Int) ((10 : Int) + nx (rs (rs (rs (rs v)))) (20 : Int)).toNat) 64, PV.lst 6 (.vals [PV.agg [PV.q (mkRat (-1 : Int) (4 : Nat)) 64, PV.q (mkRat (-1 : Int) (4 : Nat)) 64], PV.agg [PV.q (mkRat ((4 : Int) + 2 * nx v (4 : Int) + 1) (4 : Nat)) 64, PV.q (mkRat (0 : Int) (4 : Nat)) 64], PV.agg [PV.q (mkRat (-1 : Int) (4 : Nat)) 64, PV.q (mkRat (1 : Int) (4 : Nat)) 64]])]] }] })) (.no 11002)) (.no 10003)) (.no 1)) (.no 1)) (.no 9006)) (.no 1)) (.br (((3 : Nat) + [PE.PV.agg [PV.q (mkRat ((4 : Int) + 2 * nx v (4 : Int)) (Int.toNat (4 : Int))) 64, PV.q (mkRat ((-1 : Int) - nx (rs v) (6 : Int)) (Int.toNat (3 : Int))) 64, PV.q (mkRat ((1 : Int) + nx (rs (rs v)) (6 : Int)) (Int.toNat (3 : Int))) 64, PV.q (mkRat (1 : Int) ((4 : Int) + nx (rs (rs (rs v))) (8 : Int)).toNat) 64, PV.q (mkRat (1 : Int) ((10 : Int) + nx (rs (rs (rs (rs v)))) (20 : Int)).toNat) 64, PV.lst 6 (.vals [PV.agg [PV.q (mkRat (-1 : Int) (4 : Nat)) 64, PV.q (mkRat (-1 : Int) (4 : Nat)) 64], PV.agg [PV.q (mkRat ((4 : Int) + 2 * nx v (4 : Int) + 1) (4 : Nat)) 64, PV.q (mkRat (-1 : Int) (4 : Nat)) 64], PV.agg [PV.q (mkRat ((4 : Int) + 2 * nx v (4 : Int) + 1) (4 : Nat)) 64, PV.q (mkRat (1 : Int) (4 : Nat)) 64], PV.agg [PV.q (mkRat (-1 : Int) (4 : Nat)) 64, PV.q (mkRat (1 : Int) (4 : Nat)) 64]])]].length).ble 4294967296) (.br (ib (i + 1)) (.ok (.out .normal { t := [PV.ptr 0 1 0 0 [], PV.ptr 1 12 0 0 [], PV.ptr 2 12 0 0 [], PV.i .i64 c, PV.i .i64 (i + 1)], h := [some { e := 1, c := Cont.vals [PV.agg [(rs (rs (rs (rs (rs (rs v)))))).w]] }, some { e := 12, c := Cont.vals [PV.agg [PV.s E, PV.agg [PV.agg [PV.agg [PV.bl false, PV.s E, PV.s E], PV.agg [PV.bl false, PV.s E, PV.s E]], PV.agg [PV.bl false, PV.agg [PV.bl false, PV.s E, PV.s E]]], PV.nil]] }, some { e := 12, c := Cont.vals [PV.agg [PV.s nm, PV.agg [PV.agg [PV.q bx 64, PV.q by_ 64], PV.agg [PV.bl false, PV.q t 64]], PV.sl 3 16 0 4]] }, some { e := 16, c := Cont.vals [PV.agg [PV.q a1 64, PV.q b1 64, PV.q c1 64, PV.q d1 64, PV.q e1 64, PV.lst 6 s1], PV.agg [PV.q a2 64, PV.q b2 64, PV.q c2 64, PV.q d2 64, PV.q e2 64, PV.lst 6 s2], PV.agg [PV.q a3 64, PV.q b3 64, PV.q c3 64, PV.q d3 64, PV.q e3 64, PV.lst 6 s3], PV.agg [PV.q (mkRat ((4 : Int) + 2 * nx v (4 : Int)) (Int.toNat (4 : Int))) 64, PV.q (mkRat ((-1 : Int) - nx (rs v) (6 : Int)) (Int.toNat (3 : Int))) 64, PV.q (mkRat ((1 : Int) + nx (rs (rs v)) (6 : Int)) (Int.toNat (3 : Int))) 64, PV.q (mkRat (1 : Int) ((4 : Int) + nx (rs (rs (rs v))) (8 : Int)).toNat) 64, PV.q (mkRat (1 : Int) ((10 : Int) + nx (rs (rs (rs (rs v)))) (20 : Int)).toNat) 64, PV.lst 6 (.vals [PV.agg [PV.q (mkRat (-1 : Int) (4 : Nat)) 64, PV.q (mkRat (-1 : Int) (4 : Nat)) 64], PV.agg [PV.q (mkRat ((4 : Int) + 2 * nx v (4 : Int) + 1) (4 : Nat)) 64, PV.q (mkRat (-1 : Int) (4 : Nat)) 64], PV.agg [PV.q (mkRat ((4 : Int) + 2 * nx v (4 : Int) + 1) (4 : Nat)) 64, PV.q (mkRat (1 : Int) (4 : Nat)) 64], PV.agg [PV.q (mkRat (-1 : Int) (4 : Nat)) 64, PV.q (mkRat (1 : Int) (4 : Nat)) 64]])]] }] })) (.no 11002)) (.no 10003))) (.no 1)) (.no 1)) (.no 7005)) (.no 1)) (.no 7008)) (.no 1)) (.no 1)) (.no 7012)) (.no 1)) (.no 1)) (.no 7016)) (.no 1)) (.no 1)) (.no 7020)) (.no 1)) (.no 1)) (.no 6002)) (.no 6003)) (.no 1)) (.ok (.out (.exit 0) { t := [PV.ptr 0 1 0 0 [], PV.ptr 1 12 0 0 [], PV.ptr 2 12 0 0 [], PV.i .i64 c, PV.i .i64 i], h := [some { e := 1, c := Cont.vals [PV.agg [v.w]] }, some { e := 12, c := Cont.vals [PV.agg [PV.s E, PV.agg [PV.agg [PV.agg [PV.bl false, PV.s E, PV.s E], PV.agg [PV.bl false, PV.s E, PV.s E]], PV.agg [PV.bl false, PV.agg [PV.bl false, PV.s E, PV.s E]]], PV.nil]] }, some { e := 12, c := Cont.vals [PV.agg [PV.s nm, PV.agg [PV.agg [PV.q bx 64, PV.q by_ 64], PV.agg [PV.bl false, PV.q t 64]], PV.sl 3 16 0 3]] }, some { e := 16, c := Cont.vals [PV.agg [PV.q a1 64, PV.q b1 64, PV.q c1 64, PV.q d1 64, PV.q e1 64, PV.lst 6 s1], PV.agg [PV.q a2 64, PV.q b2 64, PV.q c2 64, PV.q d2 64, PV.q e2 64, PV.lst 6 s2], PV.agg [PV.q a3 64, PV.q b3 64, PV.q c3 64, PV.q d3 64, PV.q e3 64, PV.lst 6 s3]] }] })) := by kernel_rfl
end Go.Proofs.YtnenjkgffapplaaDoor.PE
namespace Go.Proofs.YtnenjkgffapplaaDoor.PE
open Go
set_option maxRecDepth 100000
variable {G : World -> (Nat -> Prop) -> Prop} (hG : GOk G)
def r6 (v : PV) : PV := rs (rs (rs (rs (rs (rs v)))))
def shV (v : PV) : Cont := if nx (rs (rs (rs (rs (rs v))))) 3 = 2 then
  .vals [.agg [.q (mkRat (-1) 4) 64, .q (mkRat (-1) 4) 64], .agg [.q (mkRat (4 + 2 * nx v 4 + 1) 4) 64, .q (mkRat 0 4) 64], .agg [.q (mkRat (-1) 4) 64, .q (mkRat 1 4) 64]]
 else .vals [.agg [.q (mkRat (-1) 4) 64, .q (mkRat (-1) 4) 64], .agg [.q (mkRat (4 + 2 * nx v 4 + 1) 4) 64, .q (mkRat (-1) 4) 64], .agg [.q (mkRat (4 + 2 * nx v 4 + 1) 4) 64, .q (mkRat 1 4) 64], .agg [.q (mkRat (-1) 4) 64, .q (mkRat 1 4) 64]]
def lenV (v : PV) : Rat := mkRat (4 + 2 * nx v 4) (Int.toNat 4)
def lowV (v : PV) : Rat := mkRat (-1 - nx (rs v) 6) (Int.toNat 3)
def highV (v : PV) : Rat := mkRat (1 + nx (rs (rs v)) 6) (Int.toNat 3)
def spdV (v : PV) : Rat := mkRat 1 (4 + nx (rs (rs (rs v))) 8).toNat
def brkV (v : PV) : Rat := mkRat 1 (10 + nx (rs (rs (rs (rs v)))) 20).toNat
def lkV (v : PV) : PV := lkC (lenV v) (lowV v) (highV v) (spdV v) (brkV v) (shV v)
theorem step68a (v : PV) (hw : okW v = true) (nm : ByteArray) (bx by_ t : Rat) (c : Int) (hc : 0 < c) :
  (qg Tryd.prog O68 [] pol68 Tryd.f59.ntmps 1 [0, 4, 5, 30, 31] b68 (st68 v nm bx by_ t .nil [] c 0)).run = some (.out .normal (st68 (r6 v) nm bx by_ t (.sl 3 16 0 1) [some ⟨16, .vals [lkV v]⟩] c 1)) := by
 have w1 := okW_rs hw
 have w2 := okW_rs w1
 have w3 := okW_rs w2
 have w4 := okW_rs w3
 have w5 := okW_rs w4
 have g0 := qt v (show (0 : Int) < 4 by omega)
 have g1 := qt (rs v) (show (0 : Int) < 6 by omega)
 have g2 := qt (rs (rs v)) (show (0 : Int) < 6 by omega)
 have g3 := qt (rs (rs (rs v))) (show (0 : Int) < 8 by omega)
 have g4 := qt (rs (rs (rs (rs v)))) (show (0 : Int) < 20 by omega)
 rw [r68a]
 by_cases hb : nx (rs (rs (rs (rs (rs v))))) 3 = 2
 ·have hs : shV v = .vals [.agg [.q (mkRat (-1) 4) 64, .q (mkRat (-1) 4) 64], .agg [.q (mkRat (4 + 2 * nx v 4 + 1) 4) 64, .q (mkRat 0 4) 64], .agg [.q (mkRat (-1) 4) 64, .q (mkRat 1 4) 64]] := if_pos hb
  repeat rw [Tr.run_t (by simp only [hw, w1, w2, w3, w4, w5, Bool.true_and, Bool.and_eq_true, decide_eq_true_eq, smI_iff, Nat.blt_eq, Nat.ble_eq, List.length_cons, List.length_nil]; omega)]
  rw [Tr.run_ok]
  unfold lkV
  rw [hs]
  rfl
 ·have hs : shV v = .vals [.agg [.q (mkRat (-1) 4) 64, .q (mkRat (-1) 4) 64], .agg [.q (mkRat (4 + 2 * nx v 4 + 1) 4) 64, .q (mkRat (-1) 4) 64], .agg [.q (mkRat (4 + 2 * nx v 4 + 1) 4) 64, .q (mkRat 1 4) 64], .agg [.q (mkRat (-1) 4) 64, .q (mkRat 1 4) 64]] := if_neg hb
  repeat rw [Tr.run_t (by simp only [hw, w1, w2, w3, w4, w5, Bool.true_and, Bool.and_eq_true, decide_eq_true_eq, smI_iff, Nat.blt_eq, Nat.ble_eq, List.length_cons, List.length_nil]; omega)]
  rw [Tr.run_f (decide_eq_false hb)]
  repeat rw [Tr.run_t (by simp only [hw, w1, w2, w3, w4, w5, Bool.true_and, Bool.and_eq_true, decide_eq_true_eq, smI_iff, Nat.blt_eq, Nat.ble_eq, List.length_cons, List.length_nil]; omega)]
  rw [Tr.run_ok]
  unfold lkV
  rw [hs]
  rfl
theorem step68b (v : PV) (hw : okW v = true) (nm : ByteArray) (bx by_ t : Rat) (c : Int) (a1 b1 c1 d1 e1 : Rat) (s1 : Cont) (hc : 1 < c) :
  (qg Tryd.prog O68 [] pol68 Tryd.f59.ntmps 1 [0, 4, 5, 30, 31] b68 (st68 v nm bx by_ t (.sl 3 16 0 1) [some ⟨16, .vals [lkC a1 b1 c1 d1 e1 s1]⟩] c 1)).run = some (.out .normal (st68 (r6 v) nm bx by_ t (.sl 3 16 0 2) [some ⟨16, .vals [lkC a1 b1 c1 d1 e1 s1, lkV v]⟩] c 2)) := by
 have w1 := okW_rs hw
 have w2 := okW_rs w1
 have w3 := okW_rs w2
 have w4 := okW_rs w3
 have w5 := okW_rs w4
 have g0 := qt v (show (0 : Int) < 4 by omega)
 have g1 := qt (rs v) (show (0 : Int) < 6 by omega)
 have g2 := qt (rs (rs v)) (show (0 : Int) < 6 by omega)
 have g3 := qt (rs (rs (rs v))) (show (0 : Int) < 8 by omega)
 have g4 := qt (rs (rs (rs (rs v)))) (show (0 : Int) < 20 by omega)
 rw [r68b]
 by_cases hb : nx (rs (rs (rs (rs (rs v))))) 3 = 2
 ·have hs : shV v = .vals [.agg [.q (mkRat (-1) 4) 64, .q (mkRat (-1) 4) 64], .agg [.q (mkRat (4 + 2 * nx v 4 + 1) 4) 64, .q (mkRat 0 4) 64], .agg [.q (mkRat (-1) 4) 64, .q (mkRat 1 4) 64]] := if_pos hb
  repeat rw [Tr.run_t (by simp only [hw, w1, w2, w3, w4, w5, Bool.true_and, Bool.and_eq_true, decide_eq_true_eq, smI_iff, Nat.blt_eq, Nat.ble_eq, List.length_cons, List.length_nil]; omega)]
  rw [Tr.run_ok]
  unfold lkV
  rw [hs]
  rfl
 ·have hs : shV v = .vals [.agg [.q (mkRat (-1) 4) 64, .q (mkRat (-1) 4) 64], .agg [.q (mkRat (4 + 2 * nx v 4 + 1) 4) 64, .q (mkRat (-1) 4) 64], .agg [.q (mkRat (4 + 2 * nx v 4 + 1) 4) 64, .q (mkRat 1 4) 64], .agg [.q (mkRat (-1) 4) 64, .q (mkRat 1 4) 64]] := if_neg hb
  repeat rw [Tr.run_t (by simp only [hw, w1, w2, w3, w4, w5, Bool.true_and, Bool.and_eq_true, decide_eq_true_eq, smI_iff, Nat.blt_eq, Nat.ble_eq, List.length_cons, List.length_nil]; omega)]
  rw [Tr.run_f (decide_eq_false hb)]
  repeat rw [Tr.run_t (by simp only [hw, w1, w2, w3, w4, w5, Bool.true_and, Bool.and_eq_true, decide_eq_true_eq, smI_iff, Nat.blt_eq, Nat.ble_eq, List.length_cons, List.length_nil]; omega)]
  rw [Tr.run_ok]
  unfold lkV
  rw [hs]
  rfl
theorem step68c (v : PV) (hw : okW v = true) (nm : ByteArray) (bx by_ t : Rat) (c : Int) (a1 b1 c1 d1 e1 a2 b2 c2 d2 e2 : Rat) (s1 s2 : Cont) (hc : 2 < c) :
  (qg Tryd.prog O68 [] pol68 Tryd.f59.ntmps 1 [0, 4, 5, 30, 31] b68 (st68 v nm bx by_ t (.sl 3 16 0 2) [some ⟨16, .vals [lkC a1 b1 c1 d1 e1 s1, lkC a2 b2 c2 d2 e2 s2]⟩] c 2)).run = some (.out .normal (st68 (r6 v) nm bx by_ t (.sl 3 16 0 3) [some ⟨16, .vals [lkC a1 b1 c1 d1 e1 s1, lkC a2 b2 c2 d2 e2 s2, lkV v]⟩] c 3)) := by
 have w1 := okW_rs hw
 have w2 := okW_rs w1
 have w3 := okW_rs w2
 have w4 := okW_rs w3
 have w5 := okW_rs w4
 have g0 := qt v (show (0 : Int) < 4 by omega)
 have g1 := qt (rs v) (show (0 : Int) < 6 by omega)
 have g2 := qt (rs (rs v)) (show (0 : Int) < 6 by omega)
 have g3 := qt (rs (rs (rs v))) (show (0 : Int) < 8 by omega)
 have g4 := qt (rs (rs (rs (rs v)))) (show (0 : Int) < 20 by omega)
 rw [r68c]
 by_cases hb : nx (rs (rs (rs (rs (rs v))))) 3 = 2
 ·have hs : shV v = .vals [.agg [.q (mkRat (-1) 4) 64, .q (mkRat (-1) 4) 64], .agg [.q (mkRat (4 + 2 * nx v 4 + 1) 4) 64, .q (mkRat 0 4) 64], .agg [.q (mkRat (-1) 4) 64, .q (mkRat 1 4) 64]] := if_pos hb
  repeat rw [Tr.run_t (by simp only [hw, w1, w2, w3, w4, w5, Bool.true_and, Bool.and_eq_true, decide_eq_true_eq, smI_iff, Nat.blt_eq, Nat.ble_eq, List.length_cons, List.length_nil]; omega)]
  rw [Tr.run_ok]
  unfold lkV
  rw [hs]
  rfl
 ·have hs : shV v = .vals [.agg [.q (mkRat (-1) 4) 64, .q (mkRat (-1) 4) 64], .agg [.q (mkRat (4 + 2 * nx v 4 + 1) 4) 64, .q (mkRat (-1) 4) 64], .agg [.q (mkRat (4 + 2 * nx v 4 + 1) 4) 64, .q (mkRat 1 4) 64], .agg [.q (mkRat (-1) 4) 64, .q (mkRat 1 4) 64]] := if_neg hb
  repeat rw [Tr.run_t (by simp only [hw, w1, w2, w3, w4, w5, Bool.true_and, Bool.and_eq_true, decide_eq_true_eq, smI_iff, Nat.blt_eq, Nat.ble_eq, List.length_cons, List.length_nil]; omega)]
  rw [Tr.run_f (decide_eq_false hb)]
  repeat rw [Tr.run_t (by simp only [hw, w1, w2, w3, w4, w5, Bool.true_and, Bool.and_eq_true, decide_eq_true_eq, smI_iff, Nat.blt_eq, Nat.ble_eq, List.length_cons, List.length_nil]; omega)]
  rw [Tr.run_ok]
  unfold lkV
  rw [hs]
  rfl
end Go.Proofs.YtnenjkgffapplaaDoor.PE
namespace Go.Proofs.YtnenjkgffapplaaDoor.PE
open Go
set_option maxRecDepth 100000
variable {G : World -> (Nat -> Prop) -> Prop} (hG : GOk G)
def Pl68 (v z : PV) (u1 u2 u3 : Nat) (c i : Int) : Prop := okW v = true /\ i = 0 /\ 1 <= c /\ c <= 3 /\ z = zArm E E E E E E E /\ u1 = 64 /\ u2 = 64 /\ u3 = 64
def l68 : qy := fun ls K => match ls with
 | ⟨[.ptr 0 1 0 0 [], .ptr 1 12 0 0 [], .ptr 2 12 0 0 [], .i .i64 c, .i .i64 i], [some ⟨1, .vals [.agg [.w v]]⟩, some ⟨12, .vals [z]⟩, some ⟨12, .vals [.agg [.s nm, .agg [.agg [.q bx u1, .q by_ u2], .agg [.bl false, .q t u3]], .nil]]⟩]⟩ =>
  .br (qh (Pl68 v z u1 u2 u3 c i)) (.br (decide (c = 1)) (K (.exit 0) (st68 (r6 v) nm bx by_ t (.sl 3 16 0 1) [some ⟨16, .vals [lkV v]⟩] c 1))
   (.br (decide (c = 2)) (K (.exit 0) (st68 (r6 (r6 v)) nm bx by_ t (.sl 3 16 0 2) [some ⟨16, .vals [lkV v, lkV (r6 v)]⟩] c 2))
    (K (.exit 0) (st68 (r6 (r6 (r6 v))) nm bx by_ t (.sl 3 16 0 3) [some ⟨16, .vals [lkV v, lkV (r6 v), lkV (r6 (r6 v))]⟩] c 3)))) (.no 1)
 | _ => .no 1
include hG in
theorem orc68 : OrcOK Tryd.prog G O68 := .cons (ok45 hG) (.cons (ok81 hG) (.cons (ok104 hG) (.cons (ok105 hG) .nil)))
include hG in
theorem rnd68 {ls ls' : LS} {e : Exit} (hl : 1 <= ls.h.length) (h : (qg Tryd.prog O68 [] pol68 Tryd.f59.ntmps 1 [0, 4, 5, 30, 31] b68 ls).run = some (.out e ls')) : Rnd Tryd.prog G Tryd.f59.ntmps 1 [0, 4, 5, 30, 31] b68 ls e ls' :=
 qb hG (orc68 hG) mix (L := []) (pol := pol68) (O := O68) (LpsOK.none (by kernel_rfl)) hl h
theorem okW_r6 {v : PV} (h : okW v = true) : okW (r6 v) = true := okW_rs (okW_rs (okW_rs (okW_rs (okW_rs (okW_rs h)))))
include hG in
theorem loop68 : qv Tryd.prog G Tryd.f59.ntmps 1 [0, 4, 5, 30, 31] b68 l68 := by
 intro ls K y hm h
 unfold l68 at h
 split at h
 case h_2 => cases h
 rename_i c i v z nm bx u1 by_ u2 t u3
 obtain ⟨hc, hr⟩ := Tr.of_br h
 obtain ⟨hw, rfl, h1, h3, rfl, rfl, rfl, rfl⟩ := decP_iff.1 hc
 have a1 := rnd68 hG (ls := st68 v nm bx by_ t .nil [] c 0) (by simp [st68]) (step68a v hw nm bx by_ t c (by omega))
 have w1 := okW_r6 hw
 by_cases e1 : c = 1
 ·subst e1
  rw [Tr.run_t (by decide)] at hr
  have a2 := rnd68 hG (ls := st68 (r6 v) nm bx by_ t (.sl 3 16 0 1) [some ⟨16, .vals [lkV v]⟩] 1 1) (e := .exit 0) (by simp [st68]) ((congrArg Tr.run (r68b (r6 v) nm bx by_ t 1 1 _ _ _ _ _ _)).trans ((Tr.run_f (by decide)).trans rfl))
  exact ⟨_, _, qo (.more _ _ _ _ a1 (.last _ _ _ a2 (by simp))), hr⟩
 ·rw [Tr.run_f (decide_eq_false e1)] at hr
  have a2 := rnd68 hG (ls := st68 (r6 v) nm bx by_ t (.sl 3 16 0 1) [some ⟨16, .vals [lkV v]⟩] c 1) (by simp [st68]) (step68b (r6 v) w1 nm bx by_ t c _ _ _ _ _ _ (by omega))
  by_cases e2 : c = 2
  ·subst e2
   rw [Tr.run_t (by decide)] at hr
   have a3 := rnd68 hG (ls := st68 (r6 (r6 v)) nm bx by_ t (.sl 3 16 0 2) [some ⟨16, .vals [lkV v, lkV (r6 v)]⟩] 2 2) (e := .exit 0) (by simp [st68]) ((congrArg Tr.run (r68c (r6 (r6 v)) nm bx by_ t 2 2 _ _ _ _ _ _ _ _ _ _ _ _)).trans ((Tr.run_f (by decide)).trans rfl))
   exact ⟨_, _, qo (.more _ _ _ _ a1 (.more _ _ _ _ a2 (.last _ _ _ a3 (by simp)))), hr⟩
  ·have e3 : c = 3 := by omega
   subst e3
   rw [Tr.run_f (by decide)] at hr
   have a3 := rnd68 hG (ls := st68 (r6 (r6 v)) nm bx by_ t (.sl 3 16 0 2) [some ⟨16, .vals [lkV v, lkV (r6 v)]⟩] 3 2) (by simp [st68]) (step68c (r6 (r6 v)) (okW_r6 w1) nm bx by_ t 3 _ _ _ _ _ _ _ _ _ _ _ _ (by omega))
   have a4 := rnd68 hG (ls := st68 (r6 (r6 (r6 v))) nm bx by_ t (.sl 3 16 0 3) [some ⟨16, .vals [lkV v, lkV (r6 v), lkV (r6 (r6 v))]⟩] 3 3) (e := .exit 0) (by simp [st68]) ((congrArg Tr.run (r68d (r6 (r6 (r6 v))) nm bx by_ t 3 3 _ _ _ _ _ _ _ _ _ _ _ _ _ _ _ _ _ _)).trans ((Tr.run_f (by decide)).trans rfl))
   exact ⟨_, _, qo (.more _ _ _ _ a1 (.more _ _ _ _ a2 (.more _ _ _ _ a3 (.last _ _ _ a4 (by simp))))), hr⟩
theorem e68 (v : PV) : evF Tryd.prog O68 [(4, l68)] pol68 Tryd.f59 [.ptr 0 1 0 0 [], .i .i64 0] [⟨1, .vals [.agg [.w v]]⟩] qm =
 Tr.br (ix ((0 : Int)) ((↑[PV.s (ByteArray.mk #[(111 : UInt8), (110 : UInt8), (101 : UInt8)]), PV.s (ByteArray.mk #[(116 : UInt8), (119 : UInt8), (111 : UInt8)]), PV.s (ByteArray.mk #[(116 : UInt8), (104 : UInt8), (114 : UInt8), (101 : UInt8), (101 : UInt8)]), PV.s (ByteArray.mk #[(102 : UInt8), (111 : UInt8), (117 : UInt8), (114 : UInt8)])].length : Int))) (.br (ib ((40 : Int) * 0)) (.br (smI ((40 : Int) * 0) && smI (0 : Int)) (.br (okW v && decide ((0 : Int) < 4) && decide ((4 : Int) <= 4294967296)) (.br (ix (nx v (4 : Int)) ((↑[(0 : Int), (1 : Int), (-1 : Int), (1 : Int)].length : Int))) (.br (okW (rs v) && decide ((0 : Int) < 3) && decide ((3 : Int) <= 4294967296)) (.br (ib ((1 : Int) + nx (rs v) (3 : Int))) (.br (decide ((0 : Int) < 1 + nx (rs v) (3 : Int)) && decide ((1 : Int) + nx (rs v) (3 : Int) < 4611686018427387904) && decide ((-4611686018427387904 : Int) < [(0 : Int), (1 : Int), (-1 : Int), (1 : Int)].getD (nx v (4 : Int)).toNat (0 : Int)) && decide ([(0 : Int), (1 : Int), (-1 : Int), (1 : Int)].getD (nx v (4 : Int)).toNat (0 : Int) < 4611686018427387904)) (.br (okW (rs (rs v)) && decide ((0 : Int) < 3) && decide ((3 : Int) <= 4294967296)) (.br (ib ((1 : Int) + nx (rs (rs v)) (3 : Int))) (.br (qh (Pl68 (rs (rs (rs v))) (PV.agg [PV.s (ByteArray.mk #[]), PV.agg [PV.agg [PV.agg [PV.bl false, PV.s (ByteArray.mk #[]), PV.s (ByteArray.mk #[])], PV.agg [PV.bl false, PV.s (ByteArray.mk #[]), PV.s (ByteArray.mk #[])]], PV.agg [PV.bl false, PV.agg [PV.bl false, PV.s (ByteArray.mk #[]), PV.s (ByteArray.mk #[])]]], PV.nil]) (64 : Nat) (64 : Nat) (64 : Nat) ((1 : Int) + nx (rs (rs v)) (3 : Int)) (0 : Int))) (.br (decide ((1 : Int) + nx (rs (rs v)) (3 : Int) = 1)) (.ok (.ret (PV.agg [PV.s (ByteArray.mk #[(111 : UInt8), (110 : UInt8), (101 : UInt8)]), PV.agg [PV.agg [PV.q (mkRat ((40 : Int) * 0) (4 : Nat)) 64, PV.q (mkRat (0 : Int) (4 : Nat)) 64], PV.agg [PV.bl false, PV.q (mkRat ([(0 : Int), (1 : Int), (-1 : Int), (1 : Int)].getD (nx v (4 : Int)).toNat (0 : Int)) ((1 : Int) + nx (rs v) (3 : Int)).toNat) 64]], PV.fr 16 (.vals [PV.agg [PV.q (lenV (rs (rs (rs v)))) 64, PV.q (lowV (rs (rs (rs v)))) 64, PV.q (highV (rs (rs (rs v)))) 64, PV.q (spdV (rs (rs (rs v)))) 64, PV.q (brkV (rs (rs (rs v)))) 64, PV.lst 6 (shV (rs (rs (rs v))))]])]) [Blk.mk 1 (.vals [PV.agg [(r6 (rs (rs (rs v)))).w]])])) (.br (decide ((1 : Int) + nx (rs (rs v)) (3 : Int) = 2)) (.ok (.ret (PV.agg [PV.s (ByteArray.mk #[(111 : UInt8), (110 : UInt8), (101 : UInt8)]), PV.agg [PV.agg [PV.q (mkRat ((40 : Int) * 0) (4 : Nat)) 64, PV.q (mkRat (0 : Int) (4 : Nat)) 64], PV.agg [PV.bl false, PV.q (mkRat ([(0 : Int), (1 : Int), (-1 : Int), (1 : Int)].getD (nx v (4 : Int)).toNat (0 : Int)) ((1 : Int) + nx (rs v) (3 : Int)).toNat) 64]], PV.fr 16 (.vals [PV.agg [PV.q (lenV (rs (rs (rs v)))) 64, PV.q (lowV (rs (rs (rs v)))) 64, PV.q (highV (rs (rs (rs v)))) 64, PV.q (spdV (rs (rs (rs v)))) 64, PV.q (brkV (rs (rs (rs v)))) 64, PV.lst 6 (shV (rs (rs (rs v))))], PV.agg [PV.q (lenV (r6 (rs (rs (rs v))))) 64, PV.q (lowV (r6 (rs (rs (rs v))))) 64, PV.q (highV (r6 (rs (rs (rs v))))) 64, PV.q (spdV (r6 (rs (rs (rs v))))) 64, PV.q (brkV (r6 (rs (rs (rs v))))) 64, PV.lst 6 (shV (r6 (rs (rs (rs v)))))]])]) [Blk.mk 1 (.vals [PV.agg [(r6 (r6 (rs (rs (rs v))))).w]])])) (.ok (.ret (PV.agg [PV.s (ByteArray.mk #[(111 : UInt8), (110 : UInt8), (101 : UInt8)]), PV.agg [PV.agg [PV.q (mkRat ((40 : Int) * 0) (4 : Nat)) 64, PV.q (mkRat (0 : Int) (4 : Nat)) 64], PV.agg [PV.bl false, PV.q (mkRat ([(0 : Int), (1 : Int), (-1 : Int), (1 : Int)].getD (nx v (4 : Int)).toNat (0 : Int)) ((1 : Int) + nx (rs v) (3 : Int)).toNat) 64]], PV.fr 16 (.vals [PV.agg [PV.q (lenV (rs (rs (rs v)))) 64, PV.q (lowV (rs (rs (rs v)))) 64, PV.q (highV (rs (rs (rs v)))) 64, PV.q (spdV (rs (rs (rs v)))) 64, PV.q (brkV (rs (rs (rs v)))) 64, PV.lst 6 (shV (rs (rs (rs v))))], PV.agg [PV.q (lenV (r6 (rs (rs (rs v))))) 64, PV.q (lowV (r6 (rs (rs (rs v))))) 64, PV.q (highV (r6 (rs (rs (rs v))))) 64, PV.q (spdV (r6 (rs (rs (rs v))))) 64, PV.q (brkV (r6 (rs (rs (rs v))))) 64, PV.lst 6 (shV (r6 (rs (rs (rs v)))))], PV.agg [PV.q (lenV (r6 (r6 (rs (rs (rs v)))))) 64, PV.q (lowV (r6 (r6 (rs (rs (rs v)))))) 64, PV.q (highV (r6 (r6 (rs (rs (rs v)))))) 64, PV.q (spdV (r6 (r6 (rs (rs (rs v)))))) 64, PV.q (brkV (r6 (r6 (rs (rs (rs v)))))) 64, PV.lst 6 (shV (r6 (r6 (rs (rs (rs v))))))]])]) [Blk.mk 1 (.vals [PV.agg [(r6 (r6 (r6 (rs (rs (rs v)))))).w]])])))) (.no 1)) (.no 4002)) (.no 1)) (.no 1)) (.no 3006)) (.no 1)) (.no 3010)) (.no 1)) (.no 1)) (.no 3015)) (.no 2005) := by kernel_rfl
def itR6 : Nat -> PV -> PV
 | 0, v => v
 | k + 1, v => itR6 k (r6 v)
def lkD (v : PV) : Lk := ⟨lenV v, lowV v, highV v, spdV v, brkV v, (shV v).len, fun i => dq (fldV ((shV v).get i) 0), fun i => dq (fldV ((shV v).get i) 1)⟩
def armD (v : PV) : Am := ⟨⟨#[111, 110, 101]⟩, mkRat (40 * 0) 4, mkRat 0 4, mkRat ([(0 : Int), 1, -1, 1].getD (nx v 4).toNat 0) (1 + nx (rs v) 3).toNat, (1 + nx (rs (rs v)) 3).toNat, fun j => lkD (itR6 j (rs (rs (rs v))))⟩
theorem shV_get (v : PV) (i : Nat) (h : i < (shV v).len) : (shV v).get i = .agg [.q (dq (fldV ((shV v).get i) 0)) 64, .q (dq (fldV ((shV v).get i) 1)) 64] := by
 unfold shV at *
 by_cases hb : nx (rs (rs (rs (rs (rs v))))) 3 = 2
 ·simp only [hb, if_true, Cont.len, List.length_cons, List.length_nil] at h ⊢
  match i, h with
  | 0, _ => rfl
  | 1, _ => rfl
  | 2, _ => rfl
  | i + 3, h => omega
 ·simp only [hb, if_false, Cont.len, List.length_cons, List.length_nil] at h ⊢
  match i, h with
  | 0, _ => rfl
  | 1, _ => rfl
  | 2, _ => rfl
  | 3, _ => rfl
  | i + 4, h => omega
theorem lkV_le (v : PV) : VLe (lkV v) (lkPV (lkD v)) := by
 refine VLe.agg (VLeL.cons (.refl _) (VLeL.cons (.refl _) (VLeL.cons (.refl _) (VLeL.cons (.refl _) (VLeL.cons (.refl _) (VLeL.cons ?_ .nil))))))
 refine VLe.lst rfl fun i hi => ?_
 have := shV_get v i hi
 have e : (Cont.fn (lkD v).np (pv (lkD v).px (lkD v).py)).get i = (shV v).get i := this.symm
 rw [e]
 exact .refl _
theorem rle_arm (nm : ByteArray) (bx by_ t : Rat) (vs : List PV) (n : Nat) (f : Nat -> PV) (hl : vs.length = n) (h : ∀ (i : Nat) (v : PV), vs[i]? = some v -> noRef 8 v = true /\ VLe v (f i)) :
  RLe (frA nm bx by_ t (.fr 16 (.vals vs))) (frA nm bx by_ t (.fr 16 (.fn n f))) := by
 subst hl
 exact ⟨fun m => .refl _, fun m => KsLe.one (KLe.fn rfl h)⟩
def armFr (A : Am) : PV := frA A.name A.bx A.by_ A.t (.fr 16 (.fn A.n (fun j => lkPV (A.lk j))))
def s68 : Spec := fun args hs K => match args, hs with
 | [.ptr 0 1 0 0 [], .i .i64 k], [⟨1, .vals [.agg [.w v]]⟩] => .br (okW v && decide (k = 0)) (K (armFr (armD v)) [⟨1, .vals [.agg [.w (itR6 (armD v).n (rs (rs (rs v))))]]⟩]) (.no 1)
 | _, _ => .no 1
include hG in
theorem ok68 : qc Tryd.prog G 59 s68 := by
 refine ql hG (orc68 hG) mix enter68 (L := [(4, l68)]) (pol := pol68) fun args hs K x h => ?_
 unfold s68 at h
 split at h
 case h_2 => cases h
 rename_i k v
 obtain ⟨hc, hr⟩ := Tr.of_br h
 simp only [Bool.and_eq_true, decide_eq_true_eq] at hc
 obtain ⟨hw, rfl⟩ := hc
 refine ⟨lps1 (b := b68) (live := [0, 4, 5, 30, 31]) (sp := l68) (m := 1) (by kernel_rfl) (by kernel_rfl) (by kernel_rfl) (loop68 hG), ?_⟩
 have w1 := okW_rs hw
 have w2 := okW_rs w1
 have w3 := okW_rs w2
 have g0 := qt v (show (0 : Int) < 4 by omega)
 have g1 := qt (rs v) (show (0 : Int) < 3 by omega)
 have g2 := qt (rs (rs v)) (show (0 : Int) < 3 by omega)
 have gt : ∀ i : Nat, -2 < [(0 : Int), 1, -1, 1].getD i 0 /\ [(0 : Int), 1, -1, 1].getD i 0 < 2 := by
  intro i
  match i with
  | 0 => decide
  | 1 => decide
  | 2 => decide
  | 3 => decide
  | i + 4 => exact ⟨by show (-2 : Int) < 0; decide, by show (0 : Int) < 2; decide⟩
 have gt' := gt (nx v 4).toNat
 rw [e68]
 rw [Tr.run_t (by decide), Tr.run_t (by decide), Tr.run_t (by decide), Tr.run_t (by rw [hw]; decide), Tr.run_t (by simp only [Bool.and_eq_true, decide_eq_true_eq, List.length_cons, List.length_nil]; omega), Tr.run_t (by rw [w1]; decide),
  Tr.run_t (by simp only [Bool.and_eq_true, decide_eq_true_eq]; omega), Tr.run_t (by simp only [Bool.and_eq_true, decide_eq_true_eq]; omega), Tr.run_t (by rw [w2]; decide), Tr.run_t (by simp only [Bool.and_eq_true, decide_eq_true_eq]; omega),
  Tr.run_t (decP_iff.2 ⟨w3, rfl, by omega, by omega, rfl, rfl, rfl, rfl⟩)]
 have hn : (armD v).n = (1 + nx (rs (rs v)) 3).toNat := rfl
 have one : ∀ (vs : List PV), vs.length = (armD v).n -> (∀ i u, vs[i]? = some u -> u = lkV (itR6 i (rs (rs (rs v))))) ->
   RLe (frA (armD v).name (armD v).bx (armD v).by_ (armD v).t (.fr 16 (.vals vs))) (armFr (armD v)) := by
  intro vs hl hv
  refine rle_arm _ _ _ _ _ _ _ hl fun i u hu => ?_
  rw [hv i u hu]
  exact ⟨rfl, lkV_le _⟩
 by_cases e1 : 1 + nx (rs (rs v)) 3 = 1
 ·have hn1 : (armD v).n = 1 := by omega
  rw [hn1] at hr
  rw [Tr.run_t (decide_eq_true e1)]
  refine ⟨_, _, _, rfl, one [lkV (rs (rs (rs v)))] (by rw [hn1]; rfl) (fun i u hu => ?_), hr⟩
  match i, hu with
  | 0, hu => exact (Option.some.inj hu).symm
  | i + 1, hu => simp at hu
 ·rw [Tr.run_f (decide_eq_false e1)]
  by_cases e2 : 1 + nx (rs (rs v)) 3 = 2
  ·have hn1 : (armD v).n = 2 := by omega
   rw [hn1] at hr
   rw [Tr.run_t (decide_eq_true e2)]
   refine ⟨_, _, _, rfl, one [lkV (rs (rs (rs v))), lkV (r6 (rs (rs (rs v))))] (by rw [hn1]; rfl) (fun i u hu => ?_), hr⟩
   match i, hu with
   | 0, hu => exact (Option.some.inj hu).symm
   | 1, hu => exact (Option.some.inj hu).symm
   | i + 2, hu => simp at hu
  ·have hn1 : (armD v).n = 3 := by omega
   rw [hn1] at hr
   rw [Tr.run_f (decide_eq_false e2)]
   refine ⟨_, _, _, rfl, one [lkV (rs (rs (rs v))), lkV (r6 (rs (rs (rs v)))), lkV (r6 (r6 (rs (rs (rs v)))))] (by rw [hn1]; rfl) (fun i u hu => ?_), hr⟩
   match i, hu with
   | 0, hu => exact (Option.some.inj hu).symm
   | 1, hu => exact (Option.some.inj hu).symm
   | 2, hu => exact (Option.some.inj hu).symm
   | i + 3, hu => simp at hu
theorem enter15 : Enters Tryd.prog 13 Tryd.f13 (qe Tryd.f13) := ⟨Tryd.func13, by kernel_rfl, rfl⟩
def pol15 : Pol := { own := [6], wr := [(59, [0])] }
theorem e15 (v : PV) : evF Tryd.prog [(59, s68)] [] pol15 Tryd.f13 [.w v] [] qm =
 Tr.br (okW v && decide ((0 : Int) = 0)) (.br ((armD v).n.ble (armD v).n) (.ok (.ret (PV.agg [PV.s (armD v).name, PV.agg [PV.agg [PV.q (armD v).bx 64, PV.q (armD v).by_ 64], PV.agg [PV.bl false, PV.q (armD v).t 64]], PV.fr 16 (.fn (armD v).n fun (j : Nat) => PV.agg [PV.q ((armD v).lk (j + 0)).len 64, PV.q ((armD v).lk (j + 0)).low 64, PV.q ((armD v).lk (j + 0)).high 64, PV.q ((armD v).lk (j + 0)).spd 64, PV.q ((armD v).lk (j + 0)).brk 64, PV.lst 6 (.fn ((armD v).lk (j + 0)).np fun (a : Nat) => PV.agg [PV.q (((armD v).lk (j + 0)).px a) 64, PV.q (((armD v).lk (j + 0)).py a) 64])])]) [])) (.no 15)) (.no 1) := by kernel_rfl
def s15 : Spec := fun args hs K => match args, hs with
 | [.w v], [] => .br (okW v) (K (armFr (armD v)) []) (.no 1)
 | _, _ => .no 1
include hG in
theorem ok15 : qc Tryd.prog G 13 s15 := by
 refine ql hG (.cons (ok68 hG) .nil) mix enter15 (L := []) (pol := pol15) fun args hs K x h => ?_
 unfold s15 at h
 split at h
 case h_2 => cases h
 rename_i v
 obtain ⟨hc, hr⟩ := Tr.of_br h
 refine ⟨LpsOK.none (by kernel_rfl), _, _, _, ?_, .refl _, hr⟩
 rw [e15, Tr.run_t (by rw [hc]; decide), Tr.run_t (by rw [Nat.ble_eq]; omega), Tr.run_ok]
 rfl

theorem smQ_mk {n : Int} {d : Nat} (hd : d ≠ 0) (hn : n.natAbs <= 1000000) (hd2 : d <= 1000) : smQ (mkRat n d) = true :=
 smQ_iff.2 ⟨Nat.le_trans (mkRat_num_le n hd) hn, Nat.le_trans (mkRat_den_le n hd) hd2⟩
theorem mk_posI {n : Int} {d : Nat} (hn : 0 < n) (hd : 0 < d) : (0 : Rat) < mkRat n d := by
 rw [show n = ((n.toNat : Nat) : Int) by omega]; exact Prof.mk_pos (by omega) hd
theorem mk_negI {n : Int} {d : Nat} (hn : n < 0) (hd : 0 < d) : mkRat n d < (0 : Rat) := by
 have h := mk_posI (n := -n) (d := d) (by omega) hd
 rw [<- Rat.neg_mkRat] at h
 grind
def shF (g : Int) (b : Bool) : Cont := match b with
 | true => .vals [.agg [.q (mkRat (-1) 4) 64, .q (mkRat (-1) 4) 64], .agg [.q (mkRat (4 + 2 * g + 1) 4) 64, .q (mkRat 0 4) 64], .agg [.q (mkRat (-1) 4) 64, .q (mkRat 1 4) 64]]
 | false => .vals [.agg [.q (mkRat (-1) 4) 64, .q (mkRat (-1) 4) 64], .agg [.q (mkRat (4 + 2 * g + 1) 4) 64, .q (mkRat (-1) 4) 64], .agg [.q (mkRat (4 + 2 * g + 1) 4) 64, .q (mkRat 1 4) 64], .agg [.q (mkRat (-1) 4) 64, .q (mkRat 1 4) 64]]
theorem shV_F (v : PV) : shV v = shF (nx v 4) (decide (nx (rs (rs (rs (rs (rs v))))) 3 = 2)) := by
 unfold shV
 by_cases hb : nx (rs (rs (rs (rs (rs v))))) 3 = 2
 ·rw [if_pos hb, decide_eq_true hb]; rfl
 ·rw [if_neg hb, decide_eq_false hb]; rfl
theorem shF_ok : ∀ (g : Nat) (b : Bool), g < 4 -> polyB (shF g b).len (fun i => dq (fldV ((shF g b).get i) 0)) (fun i => dq (fldV ((shF g b).get i) 1)) = true
 | 0, true, _ => by kernel_rfl
 | 1, true, _ => by kernel_rfl
 | 2, true, _ => by kernel_rfl
 | 3, true, _ => by kernel_rfl
 | 0, false, _ => by kernel_rfl
 | 1, false, _ => by kernel_rfl
 | 2, false, _ => by kernel_rfl
 | 3, false, _ => by kernel_rfl
theorem lkB_V (v : PV) : lkB (lkD v) = true := by
 have g0 := qt v (show (0 : Int) < 4 by omega)
 have g1 := qt (rs v) (show (0 : Int) < 6 by omega)
 have g2 := qt (rs (rs v)) (show (0 : Int) < 6 by omega)
 have g3 := qt (rs (rs (rs v))) (show (0 : Int) < 8 by omega)
 have g4 := qt (rs (rs (rs (rs v)))) (show (0 : Int) < 20 by omega)
 have t3 : Int.toNat 3 = 3 := rfl
 have t4 : Int.toNat 4 = 4 := rfl
 have p := shF_ok (nx v 4).toNat (decide (nx (rs (rs (rs (rs (rs v))))) 3 = 2)) (by omega)
 rw [Int.toNat_of_nonneg g0.1, <- shV_F] at p
 have hlh : lowV v < highV v := by
  have a := mk_negI (n := -1 - nx (rs v) 6) (d := 3) (by omega) (by omega)
  have b := mk_posI (n := 1 + nx (rs (rs v)) 6) (d := 3) (by omega) (by omega)
  unfold lowV highV
  rw [t3]
  grind
 simp only [lkB, Bool.and_eq_true, decide_eq_true_eq]
 refine ⟨⟨⟨⟨⟨⟨⟨⟨⟨?_, ?_⟩, ?_⟩, ?_⟩, ?_⟩, ?_⟩, hlh⟩, ?_⟩, ?_⟩, p⟩
 ·exact smQ_mk (by omega) (by omega) (by omega)
 ·exact smQ_mk (by omega) (by omega) (by omega)
 ·exact smQ_mk (by omega) (by omega) (by omega)
 ·exact smQ_mk (by omega) (by omega) (by omega)
 ·exact smQ_mk (by omega) (by omega) (by omega)
 ·exact mk_posI (by omega) (by omega)
 ·exact mk_posI (by omega) (by omega)
 ·exact mk_posI (by omega) (by omega)
theorem armB_V (v : PV) : armB (armD v) = true := by
 have g0 := qt v (show (0 : Int) < 4 by omega)
 have g1 := qt (rs v) (show (0 : Int) < 3 by omega)
 have g2 := qt (rs (rs v)) (show (0 : Int) < 3 by omega)
 have hn : (armD v).n = (1 + nx (rs (rs v)) 3).toNat := rfl
 simp only [armB, Bool.and_eq_true, decide_eq_true_eq, List.all_eq_true]
 refine ⟨⟨⟨⟨⟨⟨by kernel_rfl, by kernel_rfl⟩, by kernel_rfl⟩, ?_⟩, by omega⟩, by omega⟩, fun j _ => lkB_V _⟩
 have gt : ∀ i : Nat, ([(0 : Int), 1, -1, 1].getD i 0).natAbs <= 1 := by
  intro i
  match i with
  | 0 => decide
  | 1 => decide
  | 2 => decide
  | 3 => decide
  | i + 4 => show (0 : Int).natAbs <= 1; decide
 have := gt (nx v 4).toNat
 exact smQ_mk (by omega) (by omega) (by omega)
end Go.Proofs.YtnenjkgffapplaaDoor.PE
namespace Go.Proofs.YtnenjkgffapplaaDoor.PE
open Go
set_option maxRecDepth 100000
variable {G : World -> (Nat -> Prop) -> Prop} (hG : GOk G)
def b106a : Code := (qi (qe Tryd.f103)).getD 0 .skip
def b106b : Code := (qi (qe Tryd.f103)).getD 1 .skip
def pol106 : Pol := { live := [(3, [1, 4, 5, 12, 13, 14]), (8, [1, 4, 5, 26, 27, 28])] }
theorem enter106 : Enters Tryd.prog 103 Tryd.f103 (qe Tryd.f103) := ⟨Tryd.func103, by kernel_rfl, rfl⟩
def st106a (x : Rat) (w : Nat) (bl : List UInt8) (i : Nat) : LS := ⟨[.ptr 0 3 0 0 [], .i .i64 (bv (bl.take i) : Nat), .i .i64 0, .lst 1 (.ints .u8 (bl.map fun c => (c.toNat : Int))), .i .i64 (bl.length : Nat), .i .i64 (i : Nat)], [some ⟨3, .vals [.q x w]⟩]⟩
def st106b (x : Rat) (w : Nat) (a : Int) (bl : List UInt8) (i : Nat) : LS := ⟨[.ptr 0 3 0 0 [], .i .i64 a, .i .i64 (bv (bl.take i) : Nat), .lst 1 (.ints .u8 (bl.map fun c => (c.toNat : Int))), .i .i64 (bl.length : Nat), .i .i64 (i : Nat)], [some ⟨3, .vals [.q x w]⟩]⟩
theorem r106a (x : Rat) (w : Nat) (a b n i : Int) (l : List Int) : qg Tryd.prog [] [] pol106 Tryd.f103.ntmps 0 [1, 4, 5, 12, 13, 14] b106a ⟨[.ptr 0 3 0 0 [], .i .i64 a, .i .i64 b, .lst 1 (.ints .u8 l), .i .i64 n, .i .i64 i], [some ⟨3, .vals [.q x w]⟩]⟩ =
 Tr.br (decide (i < n)) (.br (ix (i) ((l.length : Int))) (.br (ib ((256 : Int) * a)) (.br (ib ((256 : Int) * a + IntKind.i64.wrap (l.getD i.toNat (0 : Int)))) (.br (ib (i + 1)) (.ok (.out .normal (LS.mk [.ptr 0 3 0 0 [], .i .i64 ((256 : Int) * a + IntKind.i64.wrap (l.getD i.toNat (0 : Int))), .i .i64 b, .lst 1 (.ints .u8 l), .i .i64 n, .i .i64 (i + 1)] [some (.mk 3 (.vals [.q x w]))]))) (.no 7002)) (.no 6002)) (.no 6005)) (.no 5003)) (.ok (.out (.exit 0) (LS.mk [.ptr 0 3 0 0 [], .i .i64 a, .i .i64 b, .lst 1 (.ints .u8 l), .i .i64 n, .i .i64 i] [some (.mk 3 (.vals [.q x w]))]))) := by kernel_rfl
theorem r106b (x : Rat) (w : Nat) (a b n i : Int) (l : List Int) : qg Tryd.prog [] [] pol106 Tryd.f103.ntmps 0 [1, 4, 5, 26, 27, 28] b106b ⟨[.ptr 0 3 0 0 [], .i .i64 a, .i .i64 b, .lst 1 (.ints .u8 l), .i .i64 n, .i .i64 i], [some ⟨3, .vals [.q x w]⟩]⟩ =
 Tr.br (decide (i < n)) (.br (ix (i) ((l.length : Int))) (.br (ib ((256 : Int) * b)) (.br (ib ((256 : Int) * b + IntKind.i64.wrap (l.getD i.toNat (0 : Int)))) (.br (ib (i + 1)) (.ok (.out .normal (LS.mk [.ptr 0 3 0 0 [], .i .i64 a, .i .i64 ((256 : Int) * b + IntKind.i64.wrap (l.getD i.toNat (0 : Int))), .lst 1 (.ints .u8 l), .i .i64 n, .i .i64 (i + 1)] [some (.mk 3 (.vals [.q x w]))]))) (.no 12002)) (.no 11002)) (.no 11005)) (.no 10003)) (.ok (.out (.exit 2) (LS.mk [.ptr 0 3 0 0 [], .i .i64 a, .i .i64 b, .lst 1 (.ints .u8 l), .i .i64 n, .i .i64 i] [some (.mk 3 (.vals [.q x w]))]))) := by kernel_rfl
def bI (l : List Int) : Int := (bv (l.map fun n => UInt8.ofNat n.toNat) : Nat)
theorem bI_map (bl : List UInt8) : bI (bl.map fun c => (c.toNat : Int)) = (bv bl : Nat) := by
 unfold bI
 rw [List.map_map]
 have : (List.map ((fun n : Int => UInt8.ofNat n.toNat) ∘ fun c : UInt8 => (c.toNat : Int)) bl) = bl := by
  rw [List.map_congr_left (g := id) (fun c _ => by simp), List.map_id]
 rw [this]
def F106 (l : List Int) (n i : Int) : Prop := ∃ bl : List UInt8, l = (bl.map fun c => (c.toNat : Int)) /\ n = (bl.length : Nat) /\ i = 0 /\ bl.length <= 2
def l106a : qy := fun ls K => match ls with
 | ⟨[.ptr 0 3 0 0 [], .i .i64 a, .i .i64 b, .lst 1 (.ints .u8 l), .i .i64 n, .i .i64 i], [some ⟨3, .vals [.q x w]⟩]⟩ => .br (qh (F106 l n i /\ a = 0 /\ b = 0)) (K (.exit 0) ⟨[.ptr 0 3 0 0 [], .i .i64 (bI l), .i .i64 b, .lst 1 (.ints .u8 l), .i .i64 n, .i .i64 n], [some ⟨3, .vals [.q x w]⟩]⟩) (.no 1)
 | _ => .no 1
def l106b : qy := fun ls K => match ls with
 | ⟨[.ptr 0 3 0 0 [], .i .i64 a, .i .i64 b, .lst 1 (.ints .u8 l), .i .i64 n, .i .i64 i], [some ⟨3, .vals [.q x w]⟩]⟩ => .br (qh (F106 l n i /\ b = 0)) (K (.exit 2) ⟨[.ptr 0 3 0 0 [], .i .i64 a, .i .i64 (bI l), .lst 1 (.ints .u8 l), .i .i64 n, .i .i64 n], [some ⟨3, .vals [.q x w]⟩]⟩) (.no 1)
 | _ => .no 1
theorem bv2_lt (bl : List UInt8) (i : Nat) (h : bl.length <= 2) : bv (bl.take i) < 65536 := by
 have h1 := bv_lt (bl.take i)
 have h2 : 256 ^ (bl.take i).length <= 256 ^ 2 := Nat.pow_le_pow_right (by omega) (by rw [List.length_take]; omega)
 omega
theorem bv_take_succ (bl : List UInt8) (i : Nat) (h : i < bl.length) : bv (bl.take (i + 1)) = bv (bl.take i) * 256 + (bl.getD i 0).toNat := by
 rw [List.take_add_one, List.getElem?_eq_getElem h, List.getD_eq_getElem?_getD, List.getElem?_eq_getElem h]
 exact bv_snoc _ _
theorem byte_get (bl : List UInt8) (i : Nat) (h : i < bl.length) : IntKind.i64.wrap ((bl.map fun c => (c.toNat : Int)).getD i 0) = ((bl.getD i 0).toNat : Int) := by
 rw [List.getD_eq_getElem?_getD, List.getD_eq_getElem?_getD, List.getElem?_map, List.getElem?_eq_getElem h]
 have := UInt8.toNat_lt (bl[i])
 show IntKind.i64.wrap ((bl[i].toNat : Nat) : Int) = ((bl[i].toNat : Nat) : Int)
 exact wi64 (by omega) (by omega)
include hG in
theorem loop106a : qv Tryd.prog G Tryd.f103.ntmps 0 [1, 4, 5, 12, 13, 14] b106a l106a := by
 intro ls K y hm h
 unfold l106a at h
 split at h
 case h_2 => cases h
 rename_i a b l n i x w
 obtain ⟨hc, hr⟩ := Tr.of_br h
 obtain ⟨⟨bl, rfl, rfl, rfl, hl⟩, rfl, rfl⟩ := decP_iff.1 hc
 have hg := Goes.count (R := Rnd Tryd.prog G Tryd.f103.ntmps 0 [1, 4, 5, 12, 13, 14] b106a) (fun i => st106a x w bl i) (e := .exit 0) (ls' := st106a x w bl bl.length) (by simp) bl.length 0
  (fun i _ hi => qb hG .nil mix (L := []) (pol := pol106) (O := []) (LpsOK.none (by kernel_rfl)) (Nat.zero_le _) (by
   have hi' : i < bl.length := by omega
   have b1 := bv2_lt bl i hl
   have b2 := bv2_lt bl (i + 1) hl
   have b3 := bv_take_succ bl i hi'
   have b4 := byte_get bl i hi'
   unfold st106a
   rw [r106a, Int.toNat_natCast, b4, Tr.run_t (decide_eq_true (by omega)), Tr.run_t (by simp only [Bool.and_eq_true, decide_eq_true_eq, List.length_map]; omega), Tr.run_t (by simp only [Bool.and_eq_true, decide_eq_true_eq]; omega), Tr.run_t (by simp only [Bool.and_eq_true, decide_eq_true_eq]; omega), Tr.run_t (by simp only [Bool.and_eq_true, decide_eq_true_eq]; omega), Tr.run_ok]
   have e1 : 256 * ((bv (bl.take i) : Nat) : Int) + ((bl.getD i 0).toNat : Int) = ((bv (bl.take (i + 1)) : Nat) : Int) := by omega
   rw [e1]
   rfl))
  (by
   refine qb hG .nil mix (L := []) (pol := pol106) (O := []) (LpsOK.none (by kernel_rfl)) (Nat.zero_le _) ?_
   unfold st106a
   rw [Nat.zero_add, r106a, Tr.run_f (decide_eq_false (by omega)), Tr.run_ok])
 refine ⟨_, _, qo hg, ?_⟩
 unfold st106a
 rw [List.take_length, <- bI_map]
 exact hr
include hG in
theorem loop106b : qv Tryd.prog G Tryd.f103.ntmps 0 [1, 4, 5, 26, 27, 28] b106b l106b := by
 intro ls K y hm h
 unfold l106b at h
 split at h
 case h_2 => cases h
 rename_i a b l n i x w
 obtain ⟨hc, hr⟩ := Tr.of_br h
 obtain ⟨⟨bl, rfl, rfl, rfl, hl⟩, rfl⟩ := decP_iff.1 hc
 have hg := Goes.count (R := Rnd Tryd.prog G Tryd.f103.ntmps 0 [1, 4, 5, 26, 27, 28] b106b) (fun i => st106b x w a bl i) (e := .exit 2) (ls' := st106b x w a bl bl.length) (by simp) bl.length 0
  (fun i _ hi => qb hG .nil mix (L := []) (pol := pol106) (O := []) (LpsOK.none (by kernel_rfl)) (Nat.zero_le _) (by
   have hi' : i < bl.length := by omega
   have b1 := bv2_lt bl i hl
   have b2 := bv2_lt bl (i + 1) hl
   have b3 := bv_take_succ bl i hi'
   have b4 := byte_get bl i hi'
   unfold st106b
   rw [r106b, Int.toNat_natCast, b4, Tr.run_t (decide_eq_true (by omega)), Tr.run_t (by simp only [Bool.and_eq_true, decide_eq_true_eq, List.length_map]; omega), Tr.run_t (by simp only [Bool.and_eq_true, decide_eq_true_eq]; omega), Tr.run_t (by simp only [Bool.and_eq_true, decide_eq_true_eq]; omega), Tr.run_t (by simp only [Bool.and_eq_true, decide_eq_true_eq]; omega), Tr.run_ok]
   have e1 : 256 * ((bv (bl.take i) : Nat) : Int) + ((bl.getD i 0).toNat : Int) = ((bv (bl.take (i + 1)) : Nat) : Int) := by omega
   rw [e1]
   rfl))
  (by
   refine qb hG .nil mix (L := []) (pol := pol106) (O := []) (LpsOK.none (by kernel_rfl)) (Nat.zero_le _) ?_
   unfold st106b
   rw [Nat.zero_add, r106b, Tr.run_f (decide_eq_false (by omega)), Tr.run_ok])
 refine ⟨_, _, qo hg, ?_⟩
 unfold st106b
 rw [List.take_length, <- bI_map]
 exact hr
theorem e106 (x : Rat) (w : Nat) : evF Tryd.prog [] [(3, l106a), (8, l106b)] pol106 Tryd.f103 [.q x w] [] qm =
 Tr.br (qh (F106 (List.map (fun (c : UInt8) => (c.toNat : Int)) (qa x.num.natAbs x.num.natAbs []).toArray.toList) (↑(List.map (fun (c : UInt8) => (c.toNat : Int)) (qa x.num.natAbs x.num.natAbs []).toArray.toList).length : Int) (0 : Int) /\ (0 : Int) = 0 /\ (0 : Int) = 0)) (.br (qh (F106 (List.map (fun (c : UInt8) => (c.toNat : Int)) (qa x.den x.den []).toArray.toList) (↑(List.map (fun (c : UInt8) => (c.toNat : Int)) (qa x.den x.den []).toArray.toList).length : Int) (0 : Int) /\ (0 : Int) = 0)) (.br (qk x) (.br (ib ((0 : Int) - bI (List.map (fun (c : UInt8) => (c.toNat : Int)) (qa x.num.natAbs x.num.natAbs []).toArray.toList))) (.ok (.ret (.tup [.i .i64 ((0 : Int) - bI (List.map (fun (c : UInt8) => (c.toNat : Int)) (qa x.num.natAbs x.num.natAbs []).toArray.toList)), .i .i64 (if (1 : Int) > bI (List.map (fun (c : UInt8) => (c.toNat : Int)) (qa x.den x.den []).toArray.toList) then (1 : Int) else bI (List.map (fun (c : UInt8) => (c.toNat : Int)) (qa x.den x.den []).toArray.toList))]) [])) (.no 14002)) (.ok (.ret (.tup [.i .i64 (bI (List.map (fun (c : UInt8) => (c.toNat : Int)) (qa x.num.natAbs x.num.natAbs []).toArray.toList)), .i .i64 (if (1 : Int) > bI (List.map (fun (c : UInt8) => (c.toNat : Int)) (qa x.den x.den []).toArray.toList) then (1 : Int) else bI (List.map (fun (c : UInt8) => (c.toNat : Int)) (qa x.den x.den []).toArray.toList))]) []))) (.no 1)) (.no 1) := by kernel_rfl
def smX (x : Rat) : Bool := decide (x.num.natAbs < 1000) && decide (x.den < 1000)
def s106 : Spec := fun args hs K => match args, hs with
 | [.q x _], [] => .br (smX x) (K (.tup [.i .i64 x.num, .i .i64 x.den]) []) (.no 1)
 | _, _ => .no 1


theorem bI_nbl (n : Nat) : bI (List.map (fun (c : UInt8) => (c.toNat : Int)) (qa n n []).toArray.toList) = (n : Int) := by
 rw [show (qa n n []).toArray.toList = nbl n from rfl, bI_map, bv_nbl]
theorem F106_nbl {n : Nat} (h : n < 65536) : F106 (List.map (fun (c : UInt8) => (c.toNat : Int)) (qa n n []).toArray.toList) ((List.map (fun (c : UInt8) => (c.toNat : Int)) (qa n n []).toArray.toList).length : Nat) 0 := by
 rw [show (qa n n []).toArray.toList = nbl n from rfl]
 exact ⟨nbl n, rfl, by rw [List.length_map], rfl, nbl_length_le (k := 2) (by omega)⟩
include hG in
theorem ok106 : qc Tryd.prog G 103 s106 := by
 refine ql hG .nil mix enter106 (L := [(3, l106a), (8, l106b)]) (pol := pol106) fun args hs K x h => ?_
 unfold s106 at h
 split at h
 case h_2 => cases h
 rename_i x w
 obtain ⟨hc, hr⟩ := Tr.of_br h
 simp only [smX, Bool.and_eq_true, decide_eq_true_eq] at hc
 refine ⟨lps2 (b1 := b106a) (live1 := [1, 4, 5, 12, 13, 14]) (sp1 := l106a) (b2 := b106b) (live2 := [1, 4, 5, 26, 27, 28]) (sp2 := l106b) (m := 0) (by kernel_rfl) (by kernel_rfl) (by kernel_rfl) (by kernel_rfl) (by kernel_rfl) (loop106a hG) (loop106b hG), ?_⟩
 have hd := x.den_pos
 rw [e106, bI_nbl, bI_nbl, Tr.run_t (decP_iff.2 ⟨F106_nbl (by omega), rfl, rfl⟩), Tr.run_t (decP_iff.2 ⟨F106_nbl (by omega), rfl⟩)]
 have e2 : (if (1 : Int) > (x.den : Int) then (1 : Int) else (x.den : Int)) = (x.den : Int) := if_neg (by omega)
 rw [e2]
 cases hn : qk x with
 | true =>
  have hneg : x.num < 0 := of_decide_eq_true hn
  rw [Tr.run_t rfl, Tr.run_t (by simp only [Bool.and_eq_true, decide_eq_true_eq]; omega), Tr.run_ok, show (0 : Int) - (x.num.natAbs : Int) = x.num by omega]
  exact ⟨_, _, _, rfl, .refl _, hr⟩
 | false =>
  have hneg : ¬ x.num < 0 := of_decide_eq_false hn
  rw [Tr.run_f rfl, Tr.run_ok, show (x.num.natAbs : Int) = x.num by omega]
  exact ⟨_, _, _, rfl, .refl _, hr⟩
end Go.Proofs.YtnenjkgffapplaaDoor.PE
namespace Go.Proofs.YtnenjkgffapplaaDoor.PE
open Go
set_option maxRecDepth 100000
variable {G : World -> (Nat -> Prop) -> Prop} (hG : GOk G)
def b69 : Code := (qi (qe Tryd.f61)).getD 0 .skip
def pol69 : Pol := { live := [(3, [1, 5, 14, 15, 16])], wr := [(60, [0])] }
theorem enter69 : Enters Tryd.prog 61 Tryd.f61 (qe Tryd.f61) := ⟨Tryd.func61, by kernel_rfl, rfl⟩
def O69 : Orc := [(60, s45), (75, s81), (103, s106)]
def n69 (v : PV) (n : Nat) (lk : Nat -> Lk) (i : Int) : LS := ⟨[.ptr 0 1 0 0 [], .nil, .lst 16 (.fn n (fun j => lkPV (lk j))), .i .i64 n, .i .i64 i], [some ⟨1, .vals [.agg [.w v]]⟩]⟩
def x69 (v : PV) (n : Nat) (lk : Nat -> Lk) (xs : List Rat) (i : Int) : LS := ⟨[.ptr 0 1 0 0 [], .sl 1 3 0 xs.length, .lst 16 (.fn n (fun j => lkPV (lk j))), .i .i64 n, .i .i64 i], [some ⟨1, .vals [.agg [.w v]]⟩, some ⟨3, .rats 64 xs⟩]⟩
theorem r69n (v : PV) (n : Nat) (lk : Nat -> Lk) (i : Int) : qg Tryd.prog O69 [] pol69 Tryd.f61.ntmps 1 [1, 5, 14, 15, 16] b69 (n69 v n lk i) =
 Tr.br (decide (i < (n : Int))) (.br (ix (i) ((n : Int))) (.br (smX (lk i.toNat).low) (.br (smX (lk i.toNat).high) (.br (okW v && decide ((0 : Int) < 9) && decide ((9 : Int) <= 4294967296)) (.br (ib ((8 : Int) * (lk i.toNat).low.num)) (.br (ib ((8 : Int) * (lk i.toNat).low.num * (↑(lk i.toNat).high.den : Int))) (.br (ib ((lk i.toNat).high.num * (↑(lk i.toNat).low.den : Int))) (.br (ib ((lk i.toNat).low.num * (↑(lk i.toNat).high.den : Int))) (.br (ib ((lk i.toNat).high.num * (↑(lk i.toNat).low.den : Int) - (lk i.toNat).low.num * (↑(lk i.toNat).high.den : Int))) (.br (ib (((lk i.toNat).high.num * (↑(lk i.toNat).low.den : Int) - (lk i.toNat).low.num * (↑(lk i.toNat).high.den : Int)) * nx v (9 : Int))) (.br (ib ((8 : Int) * (lk i.toNat).low.num * (↑(lk i.toNat).high.den : Int) + ((lk i.toNat).high.num * (↑(lk i.toNat).low.den : Int) - (lk i.toNat).low.num * (↑(lk i.toNat).high.den : Int)) * nx v (9 : Int))) (.br (ib ((8 : Int) * (↑(lk i.toNat).low.den : Int))) (.br (ib ((8 : Int) * (↑(lk i.toNat).low.den : Int) * (↑(lk i.toNat).high.den : Int))) (.br (decide ((0 : Int) < 8 * (↑(lk i.toNat).low.den : Int) * (↑(lk i.toNat).high.den : Int)) && decide ((8 : Int) * (↑(lk i.toNat).low.den : Int) * (↑(lk i.toNat).high.den : Int) < 4611686018427387904) && decide ((-4611686018427387904 : Int) < 8 * (lk i.toNat).low.num * (↑(lk i.toNat).high.den : Int) + ((lk i.toNat).high.num * (↑(lk i.toNat).low.den : Int) - (lk i.toNat).low.num * (↑(lk i.toNat).high.den : Int)) * nx v (9 : Int)) && decide ((8 : Int) * (lk i.toNat).low.num * (↑(lk i.toNat).high.den : Int) + ((lk i.toNat).high.num * (↑(lk i.toNat).low.den : Int) - (lk i.toNat).low.num * (↑(lk i.toNat).high.den : Int)) * nx v (9 : Int) < 4611686018427387904)) (.br (Nat.blt (0 : Nat) [mkRat ((8 : Int) * (lk i.toNat).low.num * (↑(lk i.toNat).high.den : Int) + ((lk i.toNat).high.num * (↑(lk i.toNat).low.den : Int) - (lk i.toNat).low.num * (↑(lk i.toNat).high.den : Int)) * nx v (9 : Int)) ((8 : Int) * (↑(lk i.toNat).low.den : Int) * (↑(lk i.toNat).high.den : Int)).toNat].length && [mkRat ((8 : Int) * (lk i.toNat).low.num * (↑(lk i.toNat).high.den : Int) + ((lk i.toNat).high.num * (↑(lk i.toNat).low.den : Int) - (lk i.toNat).low.num * (↑(lk i.toNat).high.den : Int)) * nx v (9 : Int)) ((8 : Int) * (↑(lk i.toNat).low.den : Int) * (↑(lk i.toNat).high.den : Int)).toNat].length.ble 4294967296) (.br (ib (i + 1)) (.ok (.out .normal { t := [.ptr 0 1 0 0 [], .sl 1 3 0 1, .lst 16 (.fn n fun (j : Nat) => .agg [.q (lk j).len 64, .q (lk j).low 64, .q (lk j).high 64, .q (lk j).spd 64, .q (lk j).brk 64, .lst 6 (.fn (lk j).np fun (a : Nat) => .agg [.q ((lk j).px a) 64, .q ((lk j).py a) 64])]), .i .i64 (n : Int), .i .i64 (i + 1)], h := [some { e := 1, c := Cont.vals [.agg [(rs v).w]] }, some { e := 3, c := Cont.rats 64 [mkRat ((8 : Int) * (lk i.toNat).low.num * (↑(lk i.toNat).high.den : Int) + ((lk i.toNat).high.num * (↑(lk i.toNat).low.den : Int) - (lk i.toNat).low.num * (↑(lk i.toNat).high.den : Int)) * nx v (9 : Int)) ((8 : Int) * (↑(lk i.toNat).low.den : Int) * (↑(lk i.toNat).high.den : Int)).toNat] }] })) (.no 10002)) (.no 9002)) (.no 1)) (.no 9005)) (.no 9007)) (.no 9009)) (.no 9010)) (.no 9012)) (.no 9013)) (.no 9016)) (.no 9019)) (.no 9021)) (.no 1)) (.no 1)) (.no 1)) (.no 5004)) (.ok (.out (.exit 0) { t := [.ptr 0 1 0 0 [], .nil, .lst 16 (.fn n fun (j : Nat) => .agg [.q (lk j).len 64, .q (lk j).low 64, .q (lk j).high 64, .q (lk j).spd 64, .q (lk j).brk 64, .lst 6 (.fn (lk j).np fun (a : Nat) => .agg [.q ((lk j).px a) 64, .q ((lk j).py a) 64])]), .i .i64 (n : Int), .i .i64 i], h := [some { e := 1, c := Cont.vals [.agg [v.w]] }] })) := by kernel_rfl
theorem r69 (v : PV) (n : Nat) (lk : Nat -> Lk) (xs : List Rat) (i : Int) : qg Tryd.prog O69 [] pol69 Tryd.f61.ntmps 1 [1, 5, 14, 15, 16] b69 (x69 v n lk xs i) =
 Tr.br (decide (i < (n : Int))) (.br (ix (i) ((n : Int))) (.br (smX (lk i.toNat).low) (.br (smX (lk i.toNat).high) (.br (okW v && decide ((0 : Int) < 9) && decide ((9 : Int) <= 4294967296)) (.br (ib ((8 : Int) * (lk i.toNat).low.num)) (.br (ib ((8 : Int) * (lk i.toNat).low.num * (↑(lk i.toNat).high.den : Int))) (.br (ib ((lk i.toNat).high.num * (↑(lk i.toNat).low.den : Int))) (.br (ib ((lk i.toNat).low.num * (↑(lk i.toNat).high.den : Int))) (.br (ib ((lk i.toNat).high.num * (↑(lk i.toNat).low.den : Int) - (lk i.toNat).low.num * (↑(lk i.toNat).high.den : Int))) (.br (ib (((lk i.toNat).high.num * (↑(lk i.toNat).low.den : Int) - (lk i.toNat).low.num * (↑(lk i.toNat).high.den : Int)) * nx v (9 : Int))) (.br (ib ((8 : Int) * (lk i.toNat).low.num * (↑(lk i.toNat).high.den : Int) + ((lk i.toNat).high.num * (↑(lk i.toNat).low.den : Int) - (lk i.toNat).low.num * (↑(lk i.toNat).high.den : Int)) * nx v (9 : Int))) (.br (ib ((8 : Int) * (↑(lk i.toNat).low.den : Int))) (.br (ib ((8 : Int) * (↑(lk i.toNat).low.den : Int) * (↑(lk i.toNat).high.den : Int))) (.br (decide ((0 : Int) < 8 * (↑(lk i.toNat).low.den : Int) * (↑(lk i.toNat).high.den : Int)) && decide ((8 : Int) * (↑(lk i.toNat).low.den : Int) * (↑(lk i.toNat).high.den : Int) < 4611686018427387904) && decide ((-4611686018427387904 : Int) < 8 * (lk i.toNat).low.num * (↑(lk i.toNat).high.den : Int) + ((lk i.toNat).high.num * (↑(lk i.toNat).low.den : Int) - (lk i.toNat).low.num * (↑(lk i.toNat).high.den : Int)) * nx v (9 : Int)) && decide ((8 : Int) * (lk i.toNat).low.num * (↑(lk i.toNat).high.den : Int) + ((lk i.toNat).high.num * (↑(lk i.toNat).low.den : Int) - (lk i.toNat).low.num * (↑(lk i.toNat).high.den : Int)) * nx v (9 : Int) < 4611686018427387904)) (.br (xs.length.ble xs.length && (xs.length + [mkRat ((8 : Int) * (lk i.toNat).low.num * (↑(lk i.toNat).high.den : Int) + ((lk i.toNat).high.num * (↑(lk i.toNat).low.den : Int) - (lk i.toNat).low.num * (↑(lk i.toNat).high.den : Int)) * nx v (9 : Int)) ((8 : Int) * (↑(lk i.toNat).low.den : Int) * (↑(lk i.toNat).high.den : Int)).toNat].length).ble 4294967296) (.br (ib (i + 1)) (.ok (.out .normal { t := [.ptr 0 1 0 0 [], .sl 1 3 0 (xs.length + [mkRat ((8 : Int) * (lk i.toNat).low.num * (↑(lk i.toNat).high.den : Int) + ((lk i.toNat).high.num * (↑(lk i.toNat).low.den : Int) - (lk i.toNat).low.num * (↑(lk i.toNat).high.den : Int)) * nx v (9 : Int)) ((8 : Int) * (↑(lk i.toNat).low.den : Int) * (↑(lk i.toNat).high.den : Int)).toNat].length), .lst 16 (.fn n fun (j : Nat) => .agg [.q (lk j).len 64, .q (lk j).low 64, .q (lk j).high 64, .q (lk j).spd 64, .q (lk j).brk 64, .lst 6 (.fn (lk j).np fun (a : Nat) => .agg [.q ((lk j).px a) 64, .q ((lk j).py a) 64])]), .i .i64 (n : Int), .i .i64 (i + 1)], h := [some { e := 1, c := Cont.vals [.agg [(rs v).w]] }, some { e := 3, c := Cont.rats 64 (List.take xs.length (List.drop (0 : Nat) xs) ++ [mkRat ((8 : Int) * (lk i.toNat).low.num * (↑(lk i.toNat).high.den : Int) + ((lk i.toNat).high.num * (↑(lk i.toNat).low.den : Int) - (lk i.toNat).low.num * (↑(lk i.toNat).high.den : Int)) * nx v (9 : Int)) ((8 : Int) * (↑(lk i.toNat).low.den : Int) * (↑(lk i.toNat).high.den : Int)).toNat]) }] })) (.no 10002)) (.no 9002)) (.no 1)) (.no 9005)) (.no 9007)) (.no 9009)) (.no 9010)) (.no 9012)) (.no 9013)) (.no 9016)) (.no 9019)) (.no 9021)) (.no 1)) (.no 1)) (.no 1)) (.no 5004)) (.ok (.out (.exit 0) { t := [.ptr 0 1 0 0 [], .sl 1 3 0 xs.length, .lst 16 (.fn n fun (j : Nat) => .agg [.q (lk j).len 64, .q (lk j).low 64, .q (lk j).high 64, .q (lk j).spd 64, .q (lk j).brk 64, .lst 6 (.fn (lk j).np fun (a : Nat) => .agg [.q ((lk j).px a) 64, .q ((lk j).py a) 64])]), .i .i64 (n : Int), .i .i64 i], h := [some { e := 1, c := Cont.vals [.agg [v.w]] }, some { e := 3, c := Cont.rats 64 xs }] })) := by kernel_rfl

def itRs : Nat -> PV -> PV
 | 0, v => v
 | k + 1, v => rs (itRs k v)
theorem okW_itRs {v : PV} (h : okW v = true) : ∀ k, okW (itRs k v) = true
 | 0 => h
 | k + 1 => okW_rs (okW_itRs h k)
def cf0 (l h : Rat) (k : Int) : Rat := mkRat ((8 : Int) * l.num * (h.den : Int) + (h.num * (l.den : Int) - l.num * (h.den : Int)) * k) ((8 : Int) * (l.den : Int) * (h.den : Int)).toNat
def cf1 (lk : Nat -> Lk) (v : PV) (j : Nat) : Rat := cf0 (lk j).low (lk j).high (nx (itRs j v) 9)
def cfL (lk : Nat -> Lk) (v : PV) (n : Nat) : List Rat := (List.range n).map (cf1 lk v)
theorem cfL_succ (lk : Nat -> Lk) (v : PV) (n : Nat) : cfL lk v (n + 1) = cfL lk v n ++ [cf1 lk v n] := by simp [cfL, List.range_succ]
theorem cfL_len (lk : Nat -> Lk) (v : PV) (n : Nat) : (cfL lk v n).length = n := by simp [cfL]
theorem nabs_mul {a b : Int} {A B : Nat} (ha : a.natAbs <= A) (hb : b.natAbs <= B) : (a * b).natAbs <= A * B := by
 rw [Int.natAbs_mul]; exact Nat.mul_le_mul ha hb
theorem smX_iff {x : Rat} : smX x = true ↔ x.num.natAbs < 1000 /\ x.den < 1000 := by simp [smX]
def st69 (v : PV) (n : Nat) (lk : Nat -> Lk) (xs : List Rat) (i : Int) : LS := match xs with
 | [] => n69 v n lk i
 | xs => x69 v n lk xs i
theorem st69_x {v : PV} {n : Nat} {lk : Nat -> Lk} {xs : List Rat} {i : Int} (h : xs ≠ []) : st69 v n lk xs i = x69 v n lk xs i := by
 cases xs with
 | nil => exact absurd rfl h
 | cons x xs => rfl
include hG in
theorem orc69 : OrcOK Tryd.prog G O69 := .cons (ok45 hG) (.cons (ok81 hG) (.cons (ok106 hG) .nil))
theorem step69 (v : PV) (hw : okW v = true) (n : Nat) (lk : Nat -> Lk) (xs : List Rat) (j : Nat) (hn : n <= 3) (hj : j < n) (hx : xs.length <= 1000) (h1 : smX (lk j).low = true) (h2 : smX (lk j).high = true) :
  (qg Tryd.prog O69 [] pol69 Tryd.f61.ntmps 1 [1, 5, 14, 15, 16] b69 (st69 v n lk xs ((j : Nat) : Int))).run = some (.out .normal (st69 (rs v) n lk (xs ++ [cf0 (lk j).low (lk j).high (nx v 9)]) ((j + 1 : Nat) : Int))) := by
 obtain ⟨a1, a2⟩ := smX_iff.1 h1
 obtain ⟨a3, a4⟩ := smX_iff.1 h2
 have d1 := (lk j).low.den_pos
 have d2 := (lk j).high.den_pos
 have g := qt v (show (0 : Int) < 9 by omega)
 have b1 : ((8 : Int) * (lk j).low.num * ((lk j).high.den : Int)).natAbs <= 8 * 1000 * 1000 := nabs_mul (nabs_mul (by omega) (by omega)) (by omega)
 have b2 : ((lk j).high.num * ((lk j).low.den : Int)).natAbs <= 1000 * 1000 := nabs_mul (by omega) (by omega)
 have b3 : ((lk j).low.num * ((lk j).high.den : Int)).natAbs <= 1000 * 1000 := nabs_mul (by omega) (by omega)
 have b4 : (((lk j).high.num * ((lk j).low.den : Int) - (lk j).low.num * ((lk j).high.den : Int)) * nx v 9).natAbs <= 2000000 * 9 := nabs_mul (by omega) (by omega)
 have b5 : ((8 : Int) * ((lk j).low.den : Int) * ((lk j).high.den : Int)).natAbs <= 8 * 1000 * 1000 := nabs_mul (nabs_mul (by omega) (by omega)) (by omega)
 have b6 : 0 < (8 : Int) * ((lk j).low.den : Int) * ((lk j).high.den : Int) := Int.mul_pos (by omega) (by omega)
 rw [st69_x (xs := xs ++ [cf0 (lk j).low (lk j).high (nx v 9)]) (by simp)]
 cases xs with
 | nil =>
  show (qg Tryd.prog O69 [] pol69 Tryd.f61.ntmps 1 [1, 5, 14, 15, 16] b69 (n69 v n lk ((j : Nat) : Int))).run = _
  rw [r69n, Int.toNat_natCast, Tr.run_t (decide_eq_true (by omega)), Tr.run_t (by simp only [Bool.and_eq_true, decide_eq_true_eq]; omega), Tr.run_t h1, Tr.run_t h2, Tr.run_t (by rw [hw]; decide)]
  repeat rw [Tr.run_t (by simp only [Bool.and_eq_true, decide_eq_true_eq, Nat.blt_eq, Nat.ble_eq, List.length_cons, List.length_nil]; omega)]
  rw [Tr.run_ok]
  rfl
 | cons y ys =>
  show (qg Tryd.prog O69 [] pol69 Tryd.f61.ntmps 1 [1, 5, 14, 15, 16] b69 (x69 v n lk (y :: ys) ((j : Nat) : Int))).run = _
  rw [r69, Int.toNat_natCast, Tr.run_t (decide_eq_true (by omega)), Tr.run_t (by simp only [Bool.and_eq_true, decide_eq_true_eq]; omega), Tr.run_t h1, Tr.run_t h2, Tr.run_t (by rw [hw]; decide)]
  simp only [List.length_cons] at hx
  repeat rw [Tr.run_t (by simp only [Bool.and_eq_true, decide_eq_true_eq, Nat.blt_eq, Nat.ble_eq, List.length_cons, List.length_nil]; omega)]
  rw [Tr.run_ok, List.drop_zero, List.take_length]
  have hlen : ((y :: ys) ++ [cf0 (lk j).low (lk j).high (nx v 9)]).length = (y :: ys).length + 1 := by simp
  unfold x69
  rw [hlen]
  rfl
def Pl69 (v : PV) (n : Nat) (f : Nat -> PV) (m i : Int) : Prop := ∃ lk : Nat -> Lk, f = (fun j => lkPV (lk j)) /\ m = n /\ i = 0 /\ 1 <= n /\ n <= 3 /\ okW v = true /\ ∀ j, j < n -> smX (lk j).low = true /\ smX (lk j).high = true
def cfF (f : Nat -> PV) (v : PV) (n : Nat) : List Rat := cfL (fun j => dLk (f j)) v n
def l69 : qy := fun ls K => match ls with
 | ⟨[.ptr 0 1 0 0 [], .nil, .lst 16 (.fn n f), .i .i64 m, .i .i64 i], [some ⟨1, .vals [.agg [.w v]]⟩]⟩ => .br (qh (Pl69 v n f m i)) (K (.exit 0) ⟨[.ptr 0 1 0 0 [], .sl 1 3 0 (cfF f v n).length, .lst 16 (.fn n f), .i .i64 m, .i .i64 m], [some ⟨1, .vals [.agg [.w (itRs n v)]]⟩, some ⟨3, .rats 64 (cfF f v n)⟩]⟩) (.no 1)
 | _ => .no 1
include hG in
theorem loop69 : qv Tryd.prog G Tryd.f61.ntmps 1 [1, 5, 14, 15, 16] b69 l69 := by
 intro ls K y hm h
 unfold l69 at h
 split at h
 case h_2 => cases h
 rename_i n f m i v
 obtain ⟨hc, hr⟩ := Tr.of_br h
 obtain ⟨lk, rfl, rfl, rfl, hn1, hn, hw, hp⟩ := decP_iff.1 hc
 have hg := Goes.count (R := Rnd Tryd.prog G Tryd.f61.ntmps 1 [1, 5, 14, 15, 16] b69) (fun i => st69 (itRs i v) n lk (cfL lk v i) ((i : Nat) : Int)) (e := .exit 0) (ls' := st69 (itRs n v) n lk (cfL lk v n) n) (by simp) n 0
  (fun i _ hi => qb hG (orc69 hG) mix (L := []) (pol := pol69) (O := O69) (LpsOK.none (by kernel_rfl)) (by cases cfL lk v i <;> simp [st69, n69, x69]) (by
   rw [cfL_succ]
   exact step69 (itRs i v) (okW_itRs hw i) n lk _ i hn (by omega) (by rw [cfL_len]; omega) (hp i (by omega)).1 (hp i (by omega)).2))
  (by
   refine qb hG (orc69 hG) mix (L := []) (pol := pol69) (O := O69) (LpsOK.none (by kernel_rfl)) (by cases cfL lk v (0 + n) <;> simp [st69, n69, x69]) ?_
   rw [Nat.zero_add]
   cases hc : cfL lk v n with
   | nil =>
    show (qg Tryd.prog O69 [] pol69 Tryd.f61.ntmps 1 [1, 5, 14, 15, 16] b69 (n69 (itRs n v) n lk ((n : Nat) : Int))).run = _
    rw [r69n, Tr.run_f (decide_eq_false (by omega)), Tr.run_ok]; rfl
   | cons y ys =>
    show (qg Tryd.prog O69 [] pol69 Tryd.f61.ntmps 1 [1, 5, 14, 15, 16] b69 (x69 (itRs n v) n lk (y :: ys) ((n : Nat) : Int))).run = _
    rw [r69, Tr.run_f (decide_eq_false (by omega)), Tr.run_ok]; rfl)
 refine ⟨_, _, qo hg, ?_⟩
 rw [st69_x (by intro h0; have := cfL_len lk v n; rw [h0] at this; simp at this; omega)]
 exact hr
theorem e69 (A : Am) (v : PV) : evF Tryd.prog O69 [(3, l69)] pol69 Tryd.f61 [qu A, .ptr 0 1 0 0 []] [⟨1, .vals [.agg [.w v]]⟩] qm =
 Tr.br (qh (Pl69 v A.n (fun (j : Nat) => lkPV (A.lk j)) (A.n : Int) (0 : Int))) (.br ((cfF (fun (j : Nat) => lkPV (A.lk j)) v A.n).length.ble (cfF (fun (j : Nat) => lkPV (A.lk j)) v A.n).length) (.ok (.ret (.fr 3 (.rats 64 (List.take (cfF (fun (j : Nat) => lkPV (A.lk j)) v A.n).length (List.drop (0 : Nat) (cfF (fun (j : Nat) => lkPV (A.lk j)) v A.n))))) [{ e := 1, c := Cont.vals [.agg [(itRs A.n v).w]] }])) (.no 15)) (.no 1) := by kernel_rfl
def limX (A : Am) : Bool := (List.range A.n).all fun j => smX (A.lk j).low && smX (A.lk j).high
def P69 (arm v : PV) : Prop := okA arm /\ limX (dArm arm) = true /\ okW v = true
def s69 : Spec := fun args hs K => match args, hs with
 | [.agg [.s nm, .agg [.agg [.q bx w1, .q by_ w2], .agg [hf, .q t w3]], .lst 16 c], .ptr 0 1 0 0 []], [⟨1, .vals [.agg [.w v]]⟩] =>
  .br (qh (P69 (.agg [.s nm, .agg [.agg [.q bx w1, .q by_ w2], .agg [hf, .q t w3]], .lst 16 c]) v)) (K (.fr 3 (.rats 64 (cfF c.get v c.len))) [⟨1, .vals [.agg [.w (itRs c.len v)]]⟩]) (.no 1)
 | _, _ => .no 1
include hG in
theorem ok69 : qc Tryd.prog G 61 s69 := by
 intro args hs K x h
 unfold s69 at h
 split at h
 case h_2 => cases h
 rename_i nm bx w1 by_ w2 hf t w3 c v
 obtain ⟨hc, hr⟩ := Tr.of_br h
 obtain ⟨⟨hv, hA⟩, hx, hw⟩ := decP_iff.1 hc
 generalize hA' : dArm (.agg [.s nm, .agg [.agg [.q bx w1, .q by_ w2], .agg [hf, .q t w3]], .lst 16 c]) = A at *
 have ek : cfF c.get v c.len = cfF (fun j => lkPV (A.lk j)) v A.n := by rw [<- hA']; rfl
 have en : c.len = A.n := by rw [<- hA']; rfl
 obtain ⟨h1, h2, h3, h4, h5, h6, h7⟩ := armB_c hA
 have hlim : ∀ j, j < A.n -> smX (A.lk j).low = true /\ smX (A.lk j).high = true := by
  intro j hj
  have := List.all_eq_true.1 hx j (List.mem_range.2 hj)
  rwa [Bool.and_eq_true] at this
 rw [ek, en] at hr
 refine ⟨_, _, PC.args (.cons hv (.refl _)) (qn hG (orc69 hG) mix enter69 (L := [(3, l69)]) (pol := pol69) (O := O69) (lps1 (b := b69) (live := [1, 5, 14, 15, 16]) (sp := l69) (m := 1) (by kernel_rfl) (by kernel_rfl) (by kernel_rfl) (loop69 hG)) ?_), hr⟩
 rw [e69, Tr.run_t (decP_iff.2 ⟨A.lk, rfl, rfl, rfl, h5, h6, hw, hlim⟩), Tr.run_t (by rw [Nat.ble_eq]; omega), Tr.run_ok, List.drop_zero, List.take_length]
def pol33 : Pol := { wr := [(61, [1])], own := [9] }
theorem enter33 : Enters Tryd.prog 30 Tryd.f30 (qe Tryd.f30) := ⟨Tryd.func30, by kernel_rfl, rfl⟩
def s33 : Spec := fun args hs K => match args, hs with
 | [.agg [.s nm, .agg [.agg [.q bx w1, .q by_ w2], .agg [.bl hf, .q t w3]], .lst 16 c], .w v], [] =>
  .br (qh (P69 (.agg [.s nm, .agg [.agg [.q bx w1, .q by_ w2], .agg [.bl hf, .q t w3]], .lst 16 c]) v)) (K (.fr 3 (.rats 64 (cfF c.get v c.len))) []) (.no 1)
 | _, _ => .no 1
theorem e33 (nm : ByteArray) (bx by_ t : Rat) (w1 w2 w3 : Nat) (hf : Bool) (c : Cont) (v : PV) : evF Tryd.prog [(61, s69)] [] pol33 Tryd.f30 [.agg [.s nm, .agg [.agg [.q bx w1, .q by_ w2], .agg [.bl hf, .q t w3]], .lst 16 c], .w v] [] qm =
 Tr.br (qh (P69 (.agg [.s nm, .agg [.agg [.q bx w1, .q by_ w2], .agg [.bl hf, .q t w3]], .lst 16 c]) v)) (.br ((cfF c.get v (match c with | Cont.ints k xs => xs.length | Cont.rats n xs => xs.length | Cont.vals vs => vs.length | Cont.fn n f => n)).length.ble (cfF c.get v (match c with | Cont.ints k xs => xs.length | Cont.rats n xs => xs.length | Cont.vals vs => vs.length | Cont.fn n f => n)).length) (.ok (.ret (.fr 3 (.rats 64 (List.take (Cont.rats (64 : Nat) (cfF c.get v c.len)).len (List.drop (0 : Nat) (cfF c.get v c.len))))) [])) (.no 15)) (.no 1) := by kernel_rfl
include hG in
theorem ok33 : qc Tryd.prog G 30 s33 := by
 refine ql hG (.cons (ok69 hG) .nil) mix enter33 (L := []) (pol := pol33) fun args hs K x h => ?_
 unfold s33 at h
 split at h
 case h_2 => cases h
 rename_i nm bx w1 by_ w2 hf t w3 c v
 obtain ⟨hc, hr⟩ := Tr.of_br h
 refine ⟨LpsOK.none (by kernel_rfl), _, _, _, ?_, .refl _, hr⟩
 rw [e33, Tr.run_t hc, Tr.run_t (by rw [Nat.ble_eq]; exact Nat.le_refl _), Tr.run_ok, List.drop_zero]
 show some (Res.ret (.fr 3 (.rats 64 (List.take (cfF c.get v c.len).length (cfF c.get v c.len)))) []) = _
 rw [List.take_length]
end Go.Proofs.YtnenjkgffapplaaDoor.PE
namespace Go.Proofs.YtnenjkgffapplaaDoor.PE
open Go
set_option maxRecDepth 100000
variable {G : World -> (Nat -> Prop) -> Prop} (hG : GOk G)
theorem enter84 : Enters Tryd.prog 33 Tryd.f33 (qe Tryd.f33) := ⟨Tryd.func33, by kernel_rfl, rfl⟩
def s84 : Spec := evF Tryd.prog [(28, s23)] [] {} Tryd.f33
include hG in
theorem ok84 : qc Tryd.prog G 33 s84 := spec_ev hG (.cons (ok23 hG) .nil) mix enter84 (fun _ => LpsOK.none (by kernel_rfl))
end Go.Proofs.YtnenjkgffapplaaDoor.PE
namespace Go.Proofs.YtnenjkgffapplaaDoor.PE
open Go
set_option maxRecDepth 100000
variable {G : World -> (Nat -> Prop) -> Prop} (hG : GOk G)
def b32 : Code := (qi (qe Tryd.f27)).getD 0 .skip
def pol32 : Pol := { live := [(3, [2, 3, 11, 12, 13])] }
def O32 : Orc := [(28, s23), (33, s84)]
theorem enter32 : Enters Tryd.prog 27 Tryd.f27 (qe Tryd.f27) := ⟨Tryd.func27, by kernel_rfl, rfl⟩
def l32 : qy := unr Tryd.prog O32 [] pol32 Tryd.f27.ntmps 0 [2, 3, 11, 12, 13] b32 3
theorem e32 (x : Unit) : evF Tryd.prog O32 [(3, l32)] pol32 Tryd.f27 [.lst 1 (.ints .i64 [3, 2])] [] qm =
 Tr.br (decide ((0 : Int) < 1) && decide ((1 : Int) < 4611686018427387904) && decide ((-4611686018427387904 : Int) < 0) && decide ((0 : Int) < 4611686018427387904)) (.br (decide ((0 : Int) < 1) && decide ((1 : Int) < 4611686018427387904) && decide ((-4611686018427387904 : Int) < 0) && decide ((0 : Int) < 4611686018427387904)) (.br (decide ((0 : Int) < 1) && decide ((1 : Int) < 4611686018427387904) && decide ((-4611686018427387904 : Int) < 0) && decide ((0 : Int) < 4611686018427387904)) (.br (decide ((0 : Int) < (↑[(3 : Int), (2 : Int)].length : Int))) (.br (ix ((0 : Int)) ((↑[(3 : Int), (2 : Int)].length : Int))) (.br (decide ((0 : Int) < 1) && decide ((1 : Int) < 4611686018427387904) && decide ((-4611686018427387904 : Int) < [(3 : Int), (2 : Int)].getD (Int.toNat 0) (0 : Int)) && decide ([(3 : Int), (2 : Int)].getD (Int.toNat 0) (0 : Int) < 4611686018427387904)) (.br (decide ((0 : Int) < 1) && decide ((1 : Int) < 4611686018427387904) && decide ((-4611686018427387904 : Int) < (-2)) && decide ((-2 : Int) < 4611686018427387904)) (.br (decide ((0 : Int) < 1) && decide ((1 : Int) < 4611686018427387904) && decide ((-4611686018427387904 : Int) < 2) && decide ((2 : Int) < 4611686018427387904)) (.br (decide ((0 : Int) < 4) && decide ((4 : Int) < 4611686018427387904) && decide ((-4611686018427387904 : Int) < 1) && decide ((1 : Int) < 4611686018427387904)) (.br (decide ((0 : Int) < 10) && decide ((10 : Int) < 4611686018427387904) && decide ((-4611686018427387904 : Int) < 1) && decide ((1 : Int) < 4611686018427387904)) (.br (decide ((0 : Int) < 1) && decide ((1 : Int) < 4611686018427387904) && decide ((-4611686018427387904 : Int) < 0) && decide ((0 : Int) < 4611686018427387904)) (.br (decide ((0 : Int) < 1) && decide ((1 : Int) < 4611686018427387904) && decide ((-4611686018427387904 : Int) < (-1)) && decide ((-1 : Int) < 4611686018427387904)) (.br (decide ((0 : Int) < 1) && decide ((1 : Int) < 4611686018427387904) && decide ((-4611686018427387904 : Int) < [(3 : Int), (2 : Int)].getD (Int.toNat 0) (0 : Int)) && decide ([(3 : Int), (2 : Int)].getD (Int.toNat 0) (0 : Int) < 4611686018427387904)) (.br (decide ((0 : Int) < 1) && decide ((1 : Int) < 4611686018427387904) && decide ((-4611686018427387904 : Int) < (-1)) && decide ((-1 : Int) < 4611686018427387904)) (.br (decide ((0 : Int) < 1) && decide ((1 : Int) < 4611686018427387904) && decide ((-4611686018427387904 : Int) < [(3 : Int), (2 : Int)].getD (Int.toNat 0) (0 : Int)) && decide ([(3 : Int), (2 : Int)].getD (Int.toNat 0) (0 : Int) < 4611686018427387904)) (.br (decide ((0 : Int) < 1) && decide ((1 : Int) < 4611686018427387904) && decide ((-4611686018427387904 : Int) < 1) && decide ((1 : Int) < 4611686018427387904)) (.br (decide ((0 : Int) < 1) && decide ((1 : Int) < 4611686018427387904) && decide ((-4611686018427387904 : Int) < 0) && decide ((0 : Int) < 4611686018427387904)) (.br (decide ((0 : Int) < 1) && decide ((1 : Int) < 4611686018427387904) && decide ((-4611686018427387904 : Int) < 1) && decide ((1 : Int) < 4611686018427387904)) (.br (Nat.blt (0 : Nat) [PV.agg [PV.q (mkRat ([(3 : Int), (2 : Int)].getD (Int.toNat 0) (0 : Int)) (Int.toNat (1 : Int))) 64, PV.q (mkRat (-2 : Int) (Int.toNat (1 : Int))) 64, PV.q (mkRat (2 : Int) (Int.toNat (1 : Int))) 64, PV.q (mkRat (1 : Int) (Int.toNat (4 : Int))) 64, PV.q (mkRat (1 : Int) (Int.toNat (10 : Int))) 64, PV.lst 6 (.vals [PV.agg [PV.q (mkRat (0 : Int) (Int.toNat (1 : Int))) 64, PV.q (mkRat (-1 : Int) (Int.toNat (1 : Int))) 64], PV.agg [PV.q (mkRat ([(3 : Int), (2 : Int)].getD (Int.toNat 0) (0 : Int)) (Int.toNat (1 : Int))) 64, PV.q (mkRat (-1 : Int) (Int.toNat (1 : Int))) 64], PV.agg [PV.q (mkRat ([(3 : Int), (2 : Int)].getD (Int.toNat 0) (0 : Int)) (Int.toNat (1 : Int))) 64, PV.q (mkRat (1 : Int) (Int.toNat (1 : Int))) 64], PV.agg [PV.q (mkRat (0 : Int) (Int.toNat (1 : Int))) 64, PV.q (mkRat (1 : Int) (Int.toNat (1 : Int))) 64]])]].length && [PV.agg [PV.q (mkRat ([(3 : Int), (2 : Int)].getD (Int.toNat 0) (0 : Int)) (Int.toNat (1 : Int))) 64, PV.q (mkRat (-2 : Int) (Int.toNat (1 : Int))) 64, PV.q (mkRat (2 : Int) (Int.toNat (1 : Int))) 64, PV.q (mkRat (1 : Int) (Int.toNat (4 : Int))) 64, PV.q (mkRat (1 : Int) (Int.toNat (10 : Int))) 64, PV.lst 6 (.vals [PV.agg [PV.q (mkRat (0 : Int) (Int.toNat (1 : Int))) 64, PV.q (mkRat (-1 : Int) (Int.toNat (1 : Int))) 64], PV.agg [PV.q (mkRat ([(3 : Int), (2 : Int)].getD (Int.toNat 0) (0 : Int)) (Int.toNat (1 : Int))) 64, PV.q (mkRat (-1 : Int) (Int.toNat (1 : Int))) 64], PV.agg [PV.q (mkRat ([(3 : Int), (2 : Int)].getD (Int.toNat 0) (0 : Int)) (Int.toNat (1 : Int))) 64, PV.q (mkRat (1 : Int) (Int.toNat (1 : Int))) 64], PV.agg [PV.q (mkRat (0 : Int) (Int.toNat (1 : Int))) 64, PV.q (mkRat (1 : Int) (Int.toNat (1 : Int))) 64]])]].length.ble 4294967296) (.br (ib ((0 : Int) + 1)) (.br (decide ((0 : Int) + 1 < (↑[(3 : Int), (2 : Int)].length : Int))) (.br (ix ((0 : Int) + 1) ((↑[(3 : Int), (2 : Int)].length : Int))) (.br (decide ((0 : Int) < 1) && decide ((1 : Int) < 4611686018427387904) && decide ((-4611686018427387904 : Int) < [(3 : Int), (2 : Int)].getD ((0 : Int) + 1).toNat (0 : Int)) && decide ([(3 : Int), (2 : Int)].getD ((0 : Int) + 1).toNat (0 : Int) < 4611686018427387904)) (.br (decide ((0 : Int) < 1) && decide ((1 : Int) < 4611686018427387904) && decide ((-4611686018427387904 : Int) < (-2)) && decide ((-2 : Int) < 4611686018427387904)) (.br (decide ((0 : Int) < 1) && decide ((1 : Int) < 4611686018427387904) && decide ((-4611686018427387904 : Int) < 2) && decide ((2 : Int) < 4611686018427387904)) (.br (decide ((0 : Int) < 4) && decide ((4 : Int) < 4611686018427387904) && decide ((-4611686018427387904 : Int) < 1) && decide ((1 : Int) < 4611686018427387904)) (.br (decide ((0 : Int) < 10) && decide ((10 : Int) < 4611686018427387904) && decide ((-4611686018427387904 : Int) < 1) && decide ((1 : Int) < 4611686018427387904)) (.br (decide ((0 : Int) < 1) && decide ((1 : Int) < 4611686018427387904) && decide ((-4611686018427387904 : Int) < 0) && decide ((0 : Int) < 4611686018427387904)) (.br (decide ((0 : Int) < 1) && decide ((1 : Int) < 4611686018427387904) && decide ((-4611686018427387904 : Int) < (-1)) && decide ((-1 : Int) < 4611686018427387904)) (.br (decide ((0 : Int) < 1) && decide ((1 : Int) < 4611686018427387904) && decide ((-4611686018427387904 : Int) < [(3 : Int), (2 : Int)].getD ((0 : Int) + 1).toNat (0 : Int)) && decide ([(3 : Int), (2 : Int)].getD ((0 : Int) + 1).toNat (0 : Int) < 4611686018427387904)) (.br (decide ((0 : Int) < 1) && decide ((1 : Int) < 4611686018427387904) && decide ((-4611686018427387904 : Int) < (-1)) && decide ((-1 : Int) < 4611686018427387904)) (.br (decide ((0 : Int) < 1) && decide ((1 : Int) < 4611686018427387904) && decide ((-4611686018427387904 : Int) < [(3 : Int), (2 : Int)].getD ((0 : Int) + 1).toNat (0 : Int)) && decide ([(3 : Int), (2 : Int)].getD ((0 : Int) + 1).toNat (0 : Int) < 4611686018427387904)) (.br (decide ((0 : Int) < 1) && decide ((1 : Int) < 4611686018427387904) && decide ((-4611686018427387904 : Int) < 1) && decide ((1 : Int) < 4611686018427387904)) (.br (decide ((0 : Int) < 1) && decide ((1 : Int) < 4611686018427387904) && decide ((-4611686018427387904 : Int) < 0) && decide ((0 : Int) < 4611686018427387904)) (.br (decide ((0 : Int) < 1) && decide ((1 : Int) < 4611686018427387904) && decide ((-4611686018427387904 : Int) < 1) && decide ((1 : Int) < 4611686018427387904)) (.br (([PV.agg [PV.q (mkRat ([(3 : Int), (2 : Int)].getD (Int.toNat 0) (0 : Int)) (Int.toNat (1 : Int))) 64, PV.q (mkRat (-2 : Int) (Int.toNat (1 : Int))) 64, PV.q (mkRat (2 : Int) (Int.toNat (1 : Int))) 64, PV.q (mkRat (1 : Int) (Int.toNat (4 : Int))) 64, PV.q (mkRat (1 : Int) (Int.toNat (10 : Int))) 64, PV.lst 6 (.vals [PV.agg [PV.q (mkRat (0 : Int) (Int.toNat (1 : Int))) 64, PV.q (mkRat (-1 : Int) (Int.toNat (1 : Int))) 64], PV.agg [PV.q (mkRat ([(3 : Int), (2 : Int)].getD (Int.toNat 0) (0 : Int)) (Int.toNat (1 : Int))) 64, PV.q (mkRat (-1 : Int) (Int.toNat (1 : Int))) 64], PV.agg [PV.q (mkRat ([(3 : Int), (2 : Int)].getD (Int.toNat 0) (0 : Int)) (Int.toNat (1 : Int))) 64, PV.q (mkRat (1 : Int) (Int.toNat (1 : Int))) 64], PV.agg [PV.q (mkRat (0 : Int) (Int.toNat (1 : Int))) 64, PV.q (mkRat (1 : Int) (Int.toNat (1 : Int))) (nat_lit 64)]])]].length + [PV.agg [PV.q (mkRat ([(3 : Int), (2 : Int)].getD ((0 : Int) + 1).toNat (0 : Int)) (Int.toNat (1 : Int))) 64, PV.q (mkRat (-2 : Int) (Int.toNat (1 : Int))) 64, PV.q (mkRat (2 : Int) (Int.toNat (1 : Int))) 64, PV.q (mkRat (1 : Int) (Int.toNat (4 : Int))) 64, PV.q (mkRat (1 : Int) (Int.toNat (10 : Int))) 64, PV.lst 6 (.vals [PV.agg [PV.q (mkRat (0 : Int) (Int.toNat (1 : Int))) 64, PV.q (mkRat (-1 : Int) (Int.toNat (1 : Int))) 64], PV.agg [PV.q (mkRat ([(3 : Int), (2 : Int)].getD ((0 : Int) + 1).toNat (0 : Int)) (Int.toNat (1 : Int))) 64, PV.q (mkRat (-1 : Int) (Int.toNat (1 : Int))) 64], PV.agg [PV.q (mkRat ([(3 : Int), (2 : Int)].getD ((0 : Int) + 1).toNat (0 : Int)) (Int.toNat (1 : Int))) 64, PV.q (mkRat (1 : Int) (Int.toNat (1 : Int))) 64], PV.agg [PV.q (mkRat (0 : Int) (Int.toNat (1 : Int))) 64, PV.q (mkRat (1 : Int) (Int.toNat (1 : Int))) (nat_lit 64)]])]].length).ble 4294967296) (.br (ib ((0 : Int) + 1 + 1)) (.br (decide ((0 : Int) + 1 + 1 < (↑[(3 : Int), (2 : Int)].length : Int))) (.br (ix ((0 : Int) + 1 + 1) ((↑[(3 : Int), (2 : Int)].length : Int))) (.br (decide ((0 : Int) < 1) && decide ((1 : Int) < 4611686018427387904) && decide ((-4611686018427387904 : Int) < [(3 : Int), (2 : Int)].getD ((0 : Int) + 1 + 1).toNat (0 : Int)) && decide ([(3 : Int), (2 : Int)].getD ((0 : Int) + 1 + 1).toNat (0 : Int) < 4611686018427387904)) (.br (decide ((0 : Int) < 1) && decide ((1 : Int) < 4611686018427387904) && decide ((-4611686018427387904 : Int) < (-2)) && decide ((-2 : Int) < 4611686018427387904)) (.br (decide ((0 : Int) < 1) && decide ((1 : Int) < 4611686018427387904) && decide ((-4611686018427387904 : Int) < 2) && decide ((2 : Int) < 4611686018427387904)) (.br (decide ((0 : Int) < 4) && decide ((4 : Int) < 4611686018427387904) && decide ((-4611686018427387904 : Int) < 1) && decide ((1 : Int) < 4611686018427387904)) (.br (decide ((0 : Int) < 10) && decide ((10 : Int) < 4611686018427387904) && decide ((-4611686018427387904 : Int) < 1) && decide ((1 : Int) < 4611686018427387904)) (.br (decide ((0 : Int) < 1) && decide ((1 : Int) < 4611686018427387904) && decide ((-4611686018427387904 : Int) < 0) && decide ((0 : Int) < 4611686018427387904)) (.br (decide ((0 : Int) < 1) && decide ((1 : Int) < 4611686018427387904) && decide ((-4611686018427387904 : Int) < (-1)) && decide ((-1 : Int) < 4611686018427387904)) (.br (decide ((0 : Int) < 1) && decide ((1 : Int) < 4611686018427387904) && decide ((-4611686018427387904 : Int) < [(3 : Int), (2 : Int)].getD ((0 : Int) + 1 + 1).toNat (0 : Int)) && decide ([(3 : Int), (2 : Int)].getD ((0 : Int) + 1 + 1).toNat (0 : Int) < 4611686018427387904)) (.br (decide ((0 : Int) < 1) && decide ((1 : Int) < 4611686018427387904) && decide ((-4611686018427387904 : Int) < (-1)) && decide ((-1 : Int) < 4611686018427387904)) (.br (decide ((0 : Int) < 1) && decide ((1 : Int) < 4611686018427387904) && decide ((-4611686018427387904 : Int) < [(3 : Int), (2 : Int)].getD ((0 : Int) + 1 + 1).toNat (0 : Int)) && decide ([(3 : Int), (2 : Int)].getD ((0 : Int) + 1 + 1).toNat (0 : Int) < 4611686018427387904)) (.br (decide ((0 : Int) < 1) && decide ((1 : Int) < 4611686018427387904) && decide ((-4611686018427387904 : Int) < 1) && decide ((1 : Int) < 4611686018427387904)) (.br (decide ((0 : Int) < 1) && decide ((1 : Int) < 4611686018427387904) && decide ((-4611686018427387904 : Int) < 0) && decide ((0 : Int) < 4611686018427387904)) (.br (decide ((0 : Int) < 1) && decide ((1 : Int) < 4611686018427387904) && decide ((-4611686018427387904 : Int) < 1) && decide ((1 : Int) < 4611686018427387904)) (.br (([PV.agg [PV.q (mkRat ([(3 : Int), (2 : Int)].getD (Int.toNat 0) (0 : Int)) (Int.toNat (1 : Int))) (nat_lit 64), PV.q (mkRat (-2 : Int) (Int.toNat (1 : Int))) (nat_lit 64), PV.q (mkRat (2 : Int) (Int.toNat (1 : Int))) (nat_lit 64), PV.q (mkRat (1 : Int) (Int.toNat (4 : Int))) (nat_lit 64), PV.q (mkRat (1 : Int) (Int.toNat (10 : Int))) (nat_lit 64), PV.lst (nat_lit 6) (Cont.vals [PV.agg [PV.q (mkRat (0 : Int) (Int.toNat (1 : Int))) (nat_lit 64), PV.q (mkRat (-1 : Int) (Int.toNat (1 : Int))) (nat_lit 64)], PV.agg [PV.q (mkRat ([(3 : Int), (2 : Int)].getD (Int.toNat 0) (0 : Int)) (Int.toNat (1 : Int))) (nat_lit 64), PV.q (mkRat (-1 : Int) (Int.toNat (1 : Int))) (nat_lit 64)], PV.agg [PV.q (mkRat ([(3 : Int), (2 : Int)].getD (Int.toNat 0) (0 : Int)) (Int.toNat (1 : Int))) (nat_lit 64), PV.q (mkRat (1 : Int) (Int.toNat (1 : Int))) (nat_lit 64)], PV.agg [PV.q (mkRat (0 : Int) (Int.toNat (1 : Int))) (nat_lit 64), PV.q (mkRat (1 : Int) (Int.toNat (1 : Int))) (nat_lit 64)]])]].length + [PV.agg [PV.q (mkRat ([(3 : Int), (2 : Int)].getD ((0 : Int) + 1).toNat (0 : Int)) (Int.toNat (1 : Int))) (nat_lit 64), PV.q (mkRat (-2 : Int) (Int.toNat (1 : Int))) (nat_lit 64), PV.q (mkRat (2 : Int) (Int.toNat (1 : Int))) (nat_lit 64), PV.q (mkRat (1 : Int) (Int.toNat (4 : Int))) (nat_lit 64), PV.q (mkRat (1 : Int) (Int.toNat (10 : Int))) (nat_lit 64), PV.lst (nat_lit 6) (Cont.vals [PV.agg [PV.q (mkRat (0 : Int) (Int.toNat (1 : Int))) (nat_lit 64), PV.q (mkRat (-1 : Int) (Int.toNat (1 : Int))) (nat_lit 64)], PV.agg [PV.q (mkRat ([(3 : Int), (2 : Int)].getD ((0 : Int) + 1).toNat (0 : Int)) (Int.toNat (1 : Int))) (nat_lit 64), PV.q (mkRat (-1 : Int) (Int.toNat (1 : Int))) (nat_lit 64)], PV.agg [PV.q (mkRat ([(3 : Int), (2 : Int)].getD ((0 : Int) + 1).toNat (0 : Int)) (Int.toNat (1 : Int))) (nat_lit 64), PV.q (mkRat (1 : Int) (Int.toNat (1 : Int))) (nat_lit 64)], PV.agg [PV.q (mkRat (0 : Int) (Int.toNat (1 : Int))) (nat_lit 64), PV.q (mkRat (1 : Int) (Int.toNat (1 : Int))) (nat_lit 64)]])]].length + [PV.agg [PV.q (mkRat ([(3 : Int), (2 : Int)].getD ((0 : Int) + 1 + 1).toNat (0 : Int)) (Int.toNat (1 : Int))) (nat_lit 64), PV.q (mkRat (-2 : Int) (Int.toNat (1 : Int))) (nat_lit 64), PV.q (mkRat (2 : Int) (Int.toNat (1 : Int))) (nat_lit 64), PV.q (mkRat (1 : Int) (Int.toNat (4 : Int))) (nat_lit 64), PV.q (mkRat (1 : Int) (Int.toNat (10 : Int))) (nat_lit 64), PV.lst (nat_lit 6) (Cont.vals [PV.agg [PV.q (mkRat (0 : Int) (Int.toNat (1 : Int))) (nat_lit 64), PV.q (mkRat (-1 : Int) (Int.toNat (1 : Int))) (nat_lit 64)], PV.agg [PV.q (mkRat ([(3 : Int), (2 : Int)].getD ((0 : Int) + 1 + 1).toNat (0 : Int)) (Int.toNat (1 : Int))) (nat_lit 64), PV.q (mkRat (-1 : Int) (Int.toNat (1 : Int))) (nat_lit 64)], PV.agg [PV.q (mkRat ([(3 : Int), (2 : Int)].getD ((0 : Int) + 1 + 1).toNat (0 : Int)) (Int.toNat (1 : Int))) (nat_lit 64), PV.q (mkRat (1 : Int) (Int.toNat (1 : Int))) (nat_lit 64)], PV.agg [PV.q (mkRat (0 : Int) (Int.toNat (1 : Int))) (nat_lit 64), PV.q (mkRat (1 : Int) (Int.toNat (1 : Int))) (nat_lit 64)]])]].length).ble 4294967296) (.br (ib ((0 : Int) + 1 + 1 + 1)) (.no (nat_lit 16)) (.no (nat_lit 7002))) (.no (nat_lit 6003))) (.no 1)) (.no 1)) (.no 1)) (.no 1)) (.no 1)) (.no 1)) (.no 1)) (.no 1)) (.no 1)) (.no 1)) (.no 1)) (.no 1)) (.no 1)) (.no 5003)) (.ok (.ret (PV.agg [PV.s (ByteArray.mk #[(111 : UInt8), (110 : UInt8), (101 : UInt8)]), PV.agg [PV.agg [PV.q (mkRat (0 : Int) (Int.toNat (1 : Int))) 64, PV.q (mkRat (0 : Int) (Int.toNat (1 : Int))) 64], PV.agg [PV.bl false, PV.q (mkRat (0 : Int) (Int.toNat (1 : Int))) 64]], PV.fr 16 (.vals [PV.agg [PV.q (mkRat ([(3 : Int), (2 : Int)].getD (Int.toNat 0) (0 : Int)) (Int.toNat (1 : Int))) 64, PV.q (mkRat (-2 : Int) (Int.toNat (1 : Int))) 64, PV.q (mkRat (2 : Int) (Int.toNat (1 : Int))) 64, PV.q (mkRat (1 : Int) (Int.toNat (4 : Int))) 64, PV.q (mkRat (1 : Int) (Int.toNat (10 : Int))) 64, PV.lst 6 (.vals [PV.agg [PV.q (mkRat (0 : Int) (Int.toNat (1 : Int))) 64, PV.q (mkRat (-1 : Int) (Int.toNat (1 : Int))) 64], PV.agg [PV.q (mkRat ([(3 : Int), (2 : Int)].getD (Int.toNat 0) (0 : Int)) (Int.toNat (1 : Int))) 64, PV.q (mkRat (-1 : Int) (Int.toNat (1 : Int))) 64], PV.agg [PV.q (mkRat ([(3 : Int), (2 : Int)].getD (Int.toNat 0) (0 : Int)) (Int.toNat (1 : Int))) 64, PV.q (mkRat (1 : Int) (Int.toNat (1 : Int))) 64], PV.agg [PV.q (mkRat (0 : Int) (Int.toNat (1 : Int))) 64, PV.q (mkRat (1 : Int) (Int.toNat (1 : Int))) (nat_lit 64)]])], PV.agg [PV.q (mkRat ([(3 : Int), (2 : Int)].getD ((0 : Int) + 1).toNat (0 : Int)) (Int.toNat (1 : Int))) 64, PV.q (mkRat (-2 : Int) (Int.toNat (1 : Int))) 64, PV.q (mkRat (2 : Int) (Int.toNat (1 : Int))) 64, PV.q (mkRat (1 : Int) (Int.toNat (4 : Int))) 64, PV.q (mkRat (1 : Int) (Int.toNat (10 : Int))) 64, PV.lst 6 (.vals [PV.agg [PV.q (mkRat (0 : Int) (Int.toNat (1 : Int))) 64, PV.q (mkRat (-1 : Int) (Int.toNat (1 : Int))) 64], PV.agg [PV.q (mkRat ([(3 : Int), (2 : Int)].getD ((0 : Int) + 1).toNat (0 : Int)) (Int.toNat (1 : Int))) 64, PV.q (mkRat (-1 : Int) (Int.toNat (1 : Int))) 64], PV.agg [PV.q (mkRat ([(3 : Int), (2 : Int)].getD ((0 : Int) + 1).toNat (0 : Int)) (Int.toNat (1 : Int))) 64, PV.q (mkRat (1 : Int) (Int.toNat (1 : Int))) 64], PV.agg [PV.q (mkRat (0 : Int) (Int.toNat (1 : Int))) 64, PV.q (mkRat (1 : Int) (Int.toNat (1 : Int))) (nat_lit 64)]])]])]) []))) (.no 7002)) (.no 6003)) (.no 1)) (.no 1)) (.no 1)) (.no 1)) (.no 1)) (.no 1)) (.no 1)) (.no 1)) (.no 1)) (.no 1)) (.no 1)) (.no 1)) (.no 1)) (.no 5003)) (.ok (.ret (PV.agg [PV.s (ByteArray.mk #[(111 : UInt8), (110 : UInt8), (101 : UInt8)]), PV.agg [PV.agg [PV.q (mkRat (0 : Int) (Int.toNat (1 : Int))) 64, PV.q (mkRat (0 : Int) (Int.toNat (1 : Int))) 64], PV.agg [PV.bl false, PV.q (mkRat (0 : Int) (Int.toNat (1 : Int))) 64]], PV.fr 16 (.vals [PV.agg [PV.q (mkRat ([(3 : Int), (2 : Int)].getD (Int.toNat 0) (0 : Int)) (Int.toNat (1 : Int))) 64, PV.q (mkRat (-2 : Int) (Int.toNat (1 : Int))) 64, PV.q (mkRat (2 : Int) (Int.toNat (1 : Int))) 64, PV.q (mkRat (1 : Int) (Int.toNat (4 : Int))) 64, PV.q (mkRat (1 : Int) (Int.toNat (10 : Int))) 64, PV.lst 6 (.vals [PV.agg [PV.q (mkRat (0 : Int) (Int.toNat (1 : Int))) 64, PV.q (mkRat (-1 : Int) (Int.toNat (1 : Int))) 64], PV.agg [PV.q (mkRat ([(3 : Int), (2 : Int)].getD (Int.toNat 0) (0 : Int)) (Int.toNat (1 : Int))) 64, PV.q (mkRat (-1 : Int) (Int.toNat (1 : Int))) 64], PV.agg [PV.q (mkRat ([(3 : Int), (2 : Int)].getD (Int.toNat 0) (0 : Int)) (Int.toNat (1 : Int))) 64, PV.q (mkRat (1 : Int) (Int.toNat (1 : Int))) 64], PV.agg [PV.q (mkRat (0 : Int) (Int.toNat (1 : Int))) 64, PV.q (mkRat (1 : Int) (Int.toNat (1 : Int))) 64]])]])]) []))) (.no 7002)) (.no 6003)) (.no 1)) (.no 1)) (.no 1)) (.no 1)) (.no 1)) (.no 1)) (.no 1)) (.no 1)) (.no 1)) (.no 1)) (.no 1)) (.no 1)) (.no 1)) (.no 5003)) (.ok (.ret (PV.agg [PV.s (ByteArray.mk #[(111 : UInt8), (110 : UInt8), (101 : UInt8)]), PV.agg [PV.agg [PV.q (mkRat (0 : Int) (Int.toNat (1 : Int))) 64, PV.q (mkRat (0 : Int) (Int.toNat (1 : Int))) 64], PV.agg [PV.bl false, PV.q (mkRat (0 : Int) (Int.toNat (1 : Int))) 64]], PV.nil]) []))) (.no 1)) (.no 1)) (.no 1) := by kernel_rfl
def smC (L : Int) : Cont := .vals [.agg [.q (mkRat 0 1) 64, .q (mkRat (-1) 1) 64], .agg [.q (mkRat L 1) 64, .q (mkRat (-1) 1) 64], .agg [.q (mkRat L 1) 64, .q (mkRat 1 1) 64], .agg [.q (mkRat 0 1) 64, .q (mkRat 1 1) 64]]
def smV (L : Int) : PV := lkC (mkRat L 1) (mkRat (-2) 1) (mkRat 2 1) (mkRat 1 4) (mkRat 1 10) (smC L)
def smL (L : Int) : Lk := ⟨mkRat L 1, mkRat (-2) 1, mkRat 2 1, mkRat 1 4, mkRat 1 10, 4, fun i => dq (fldV ((smC L).get i) 0), fun i => dq (fldV ((smC L).get i) 1)⟩
theorem smV_le (L : Int) : VLe (smV L) (lkPV (smL L)) := by
 refine VLe.agg (VLeL.cons (.refl _) (VLeL.cons (.refl _) (VLeL.cons (.refl _) (VLeL.cons (.refl _) (VLeL.cons (.refl _) (VLeL.cons ?_ .nil))))))
 refine VLe.lst rfl fun i hi => ?_
 have hi' : i < 4 := hi
 match i, hi' with
 | 0, _ => exact .refl _
 | 1, _ => exact .refl _
 | 2, _ => exact .refl _
 | 3, _ => exact .refl _
 | i + 4, h => omega
end Go.Proofs.YtnenjkgffapplaaDoor.PE
namespace Go.Proofs.YtnenjkgffapplaaDoor.PE
open Go
set_option maxRecDepth 100000
variable {G : World -> (Nat -> Prop) -> Prop} (hG : GOk G)
def OV : Orc := [(19, g21), (36, g27), (56, g29), (65, g43), (152, g133), (153, g134)]
theorem enter57 : Enters Tryd.prog 88 Tryd.f88 (qe Tryd.f88) := ⟨Tryd.func88, by kernel_rfl, rfl⟩
theorem enter121 : Enters Tryd.prog 137 Tryd.f137 (qe Tryd.f137) := ⟨Tryd.func137, by kernel_rfl, rfl⟩
theorem enter92 : Enters Tryd.prog 120 Tryd.f120 (qe Tryd.f120) := ⟨Tryd.func120, by kernel_rfl, rfl⟩
theorem enter51 : Enters Tryd.prog 119 Tryd.f119 (qe Tryd.f119) := ⟨Tryd.func119, by kernel_rfl, rfl⟩
include hG in
theorem orcV (hT : qD G) : OrcOK Tryd.prog G OV := .cons (gk21 hG hT) (.cons (gk27 hG hT) (.cons (gk29 hG hT) (.cons (gk43 hG hT) (.cons (gk133 hG hT) (.cons (gk134 hG hT) .nil)))))
def g57 : Spec := evF Tryd.prog OV [] {} Tryd.f88
def g41 : Spec := evF Tryd.prog OV [] {} Tryd.f38
def g42 : Spec := evF Tryd.prog OV [] {} Tryd.f39
def g97 : Spec := evF Tryd.prog OV [] {} Tryd.f84
include hG in
theorem gk57 (hT : qD G) : qc Tryd.prog G 88 g57 := spec_ev hG (orcV hG hT) mix enter57 (fun _ => LpsOK.none (by kernel_rfl))
include hG in
theorem gk41 (hT : qD G) : qc Tryd.prog G 38 g41 := spec_ev hG (orcV hG hT) mix enter41 (fun _ => LpsOK.none (by kernel_rfl))
include hG in
theorem gk97 (hT : qD G) : qc Tryd.prog G 84 g97 := spec_ev hG (orcV hG hT) mix enter97 (fun _ => LpsOK.none (by kernel_rfl))
theorem k121 (x y t : Rat) (h : Bool) (n m k : Nat) : evF Tryd.prog OV [] {} Tryd.f137 [.agg [.q x n, .q y m], .agg [.b h, .q t k]] [] qm =
 Tr.br (k.ble 100000 && Nat.ble 1 k) (.br (k.ble 100000 && Nat.ble 1 k) (.br ((n + ((4 : Nat) * k + 4)).ble 800000) (.br ((m + ((4 : Nat) * k + 4)).ble 800000) (.br ((n + ((4 : Nat) * k + 4) + (m + ((4 : Nat) * k + 4)) + 1).ble 800000) (.br ((n + ((4 : Nat) * k + 4)).ble 800000) (.br ((m + ((4 : Nat) * k + 4)).ble 800000) (.br ((n + ((4 : Nat) * k + 4) + (m + ((4 : Nat) * k + 4)) + 1).ble 800000) (.ok (.ret (.agg [.q (x * cosR h t - y * sinR h t) (n + ((4 : Nat) * k + 4) + (m + ((4 : Nat) * k + 4)) + 1), .q (x * sinR h t + y * cosR h t) (n + ((4 : Nat) * k + 4) + (m + ((4 : Nat) * k + 4)) + 1)]) [])) (.no 1)) (.no 1)) (.no 1)) (.no 1)) (.no 1)) (.no 1)) (.no 1)) (.no 1) := by kernel_rfl
def g121 : Spec := fun args hs K => match args, hs with
 | [.agg [.q x n, .q y m], .agg [hv, .q t k]], [] => match bof hv with
  | some h => .br (Nat.ble (n + m + 8 * k + 9) 800000 && Nat.ble 1 k) (K (.agg [.q (x * cosR h t - y * sinR h t) (n + m + 8 * k + 9), .q (x * sinR h t + y * cosR h t) (n + m + 8 * k + 9)]) []) (.no 1)
  | none => .no 1
 | _, _ => .no 1
theorem vc_rle {x y u v : Rat} {n m p r : Nat} (h1 : x = u) (h2 : y = v) (h3 : n <= p) (h4 : m <= r) : RLe (.agg [.q x n, .q y m]) (.agg [.q u p, .q v r]) := by
 subst h1; subst h2
 exact rle_of_vle (fun _ => rfl) (fun _ => rfl) (VLe.agg (vllc (vle_qm h3) (vllc (vle_qm h4) vll0)))
include hG in
theorem gk121 (hT : qD G) : qc Tryd.prog G 137 g121 := by
 intro args hs K x h
 unfold g121 at h
 split at h
 case h_2 => cases h
 rename_i x n y m hv t k
 split at h
 case h_2 => cases h
 rename_i b hb
 obtain ⟨hc, hr⟩ := Tr.of_br h
 simp only [Bool.and_eq_true, Nat.ble_eq] at hc
 have key : ∃ r, (evF Tryd.prog OV [] {} Tryd.f137 [.agg [.q x n, .q y m], .agg [.b b, .q t k]] [] qm).run = some (.ret r []) /\ RLe r (.agg [.q (x * cosR b t - y * sinR b t) (n + m + 8 * k + 9), .q (x * sinR b t + y * cosR b t) (n + m + 8 * k + 9)]) := by
  rw [k121]
  repeat rw [Tr.run_t (by simp only [Bool.and_eq_true, Nat.ble_eq]; omega)]
  exact ⟨_, rfl, vc_rle rfl rfl (by omega) (by omega)⟩
 obtain ⟨r, k1, k2⟩ := key
 exact ⟨_, _, PC.args (.cons (.refl _) (.cons (tn_le hb rfl (Nat.le_refl _)) .nil)) ((qn hG (orcV hG hT) mix enter121 (L := []) (pol := {}) (LpsOK.none (by kernel_rfl)) k1).le k2 (.refl _)), hr⟩
def O92 : Orc := [(88, g57), (137, g121)]
theorem k92 (x y t u v : Rat) (h : Bool) (n m k p r : Nat) : evF Tryd.prog O92 [] {} Tryd.f120 [.agg [.agg [.q x n, .q y m], .agg [.b h, .q t k]], .agg [.q u p, .q v r]] [] qm =
 Tr.br ((p + r + 8 * k + 9).ble 800000 && Nat.ble 1 k) (.br ((n + (p + r + 8 * k + 9) + 1).ble 800000) (.br ((m + (p + r + 8 * k + 9) + 1).ble 800000) (.ok (.ret (.agg [.q (x + (u * cosR h t - v * sinR h t)) (n + (p + r + 8 * k + 9) + 1), .q (y + (u * sinR h t + v * cosR h t)) (m + (p + r + 8 * k + 9) + 1)]) [])) (.no 1)) (.no 1)) (.no 1) := by kernel_rfl
def g92 : Spec := fun args hs K => match args, hs with
 | [.agg [.agg [.q x n, .q y m], .agg [hv, .q t k]], .agg [.q u p, .q v r]], [] => match bof hv with
  | some h => match r with
   | 1 => match p with
    | 1 => .br (qh (u = 0 /\ v = 0 /\ n + 8 * k + 20 <= 800000 /\ m + 8 * k + 20 <= 800000)) (K (.agg [.q x n, .q y m]) []) (.no 1)
    | p => .br (qh (v = 0 /\ n + p + 8 * k + 20 <= 800000 /\ m + p + 8 * k + 20 <= 800000 /\ 1 <= k)) (K (.agg [.q (x + u * cosR h t) (n + p + 8 * k + 11), .q (y + u * sinR h t) (m + p + 8 * k + 11)]) []) (.no 1)
   | r => .br (Nat.ble (n + p + r + 8 * k + 20) 800000 && Nat.ble (m + p + r + 8 * k + 20) 800000 && Nat.ble 1 k) (K (.agg [.q (x + (u * cosR h t - v * sinR h t)) (n + p + r + 8 * k + 10), .q (y + (u * sinR h t + v * cosR h t)) (m + p + r + 8 * k + 10)]) []) (.no 1)
  | none => .no 1
 | _, _ => .no 1
include hG in
theorem orc92 (hT : qD G) : OrcOK Tryd.prog G O92 := .cons (gk57 hG hT) (.cons (gk121 hG hT) .nil)
theorem put_key (x y t u v : Rat) (h : Bool) (n m k p r : Nat) (h1 : n + p + r + 8 * k + 10 <= 800000) (h2 : m + p + r + 8 * k + 10 <= 800000) (h3 : 1 <= k) : ∃ z, (evF Tryd.prog O92 [] {} Tryd.f120 [.agg [.agg [.q x n, .q y m], .agg [.b h, .q t k]], .agg [.q u p, .q v r]] [] qm).run = some (.ret z []) /\
  RLe z (.agg [.q (x + (u * cosR h t - v * sinR h t)) (n + p + r + 8 * k + 10), .q (y + (u * sinR h t + v * cosR h t)) (m + p + r + 8 * k + 10)]) := by
 rw [k92]
 repeat rw [Tr.run_t (by simp only [Bool.and_eq_true, Nat.ble_eq]; omega)]
 exact ⟨_, rfl, vc_rle rfl rfl (by omega) (by omega)⟩
theorem put_sz {x y : Rat} {n m k : Nat} {t : Rat} {hv : PV} {b : PV} (w : World) (S : Nat -> Prop) (μ : Mu) (vs : List Value) (h : RepVL w S μ [.agg [.agg [.q x n, .q y m], .agg [hv, .q t k]], b] vs) : sz x <= n /\ sz y <= m /\ sz t <= k := by
 cases h with
 | cons _ _ _ _ _ h _ =>
  obtain ⟨ds, hd⟩ := RepV_agg h (.agg [.q x n, .q y m]) (by simp)
  obtain ⟨es, he⟩ := RepV_agg h (.agg [hv, .q t k]) (by simp)
  cases hd with
  | agg _ _ _ hl =>
   obtain ⟨a, ha⟩ := RepL_get hl (.q x n) (by simp)
   obtain ⟨b, hb⟩ := RepL_get hl (.q y m) (by simp)
   cases he with
   | agg _ _ _ hl2 =>
    obtain ⟨c, hc⟩ := RepL_get hl2 (.q t k) (by simp)
    exact ⟨RepC_q ha, RepC_q hb, RepC_q hc⟩
include hG in
theorem gk92 (hT : qD G) : qc Tryd.prog G 120 g92 := by
 intro args hs K z h
 unfold g92 at h
 split at h
 case h_2 => cases h
 rename_i x n y m hv t k u p v r
 split at h
 case h_2 => cases h
 rename_i b hb
 have hargs : ArgsLe [.agg [.agg [.q x n, .q y m], .agg [hv, .q t k]], .agg [.q u p, .q v r]] [.agg [.agg [.q x n, .q y m], .agg [.b b, .q t k]], .agg [.q u p, .q v r]] := .cons (VLe.agg (vllc (.refl _) (vllc (tn_le hb rfl (Nat.le_refl _)) vll0))) (.cons (.refl _) .nil)
 split at h
 ·split at h
  ·obtain ⟨hc, hr⟩ := Tr.of_br h
   obtain ⟨rfl, rfl, h1, h2⟩ := decP_iff.1 hc
   refine ⟨_, _, ?_, hr⟩
   refine PC.args hargs (pc_assume _ put_sz fun hq => ?_)
   obtain ⟨r, k1, k2⟩ := put_key x y t 0 0 b n m k 1 1 (by omega) (by omega) (sz_lt hq.2.2).2.2
   refine ((qn hG (orc92 hG hT) mix enter92 (L := []) (pol := {}) (LpsOK.none (by kernel_rfl)) k1).le k2 (.refl _)).le ?_ (.refl _)
   rw [show x + (0 * cosR b t - 0 * sinR b t) = x by grind, show y + (0 * sinR b t + 0 * cosR b t) = y by grind]
   exact rle_of_vle (fun _ => rfl) (fun _ => rfl) (VLe.agg (vllc (vle_qq hq.1) (vllc (vle_qq hq.2.1) vll0)))
  ·obtain ⟨hc, hr⟩ := Tr.of_br h
   obtain ⟨rfl, h1, h2, h3⟩ := decP_iff.1 hc
   obtain ⟨r, k1, k2⟩ := put_key x y t u 0 b n m k p 1 (by omega) (by omega) h3
   refine ⟨_, _, PC.args hargs (((qn hG (orc92 hG hT) mix enter92 (L := []) (pol := {}) (LpsOK.none (by kernel_rfl)) k1).le k2 (.refl _)).le (vc_rle ?_ ?_ (by omega) (by omega)) (.refl _)), hr⟩
   ·grind
   ·grind
 ·obtain ⟨hc, hr⟩ := Tr.of_br h
  simp only [Bool.and_eq_true, Nat.ble_eq] at hc
  obtain ⟨r, k1, k2⟩ := put_key x y t u v b n m k p r (by omega) (by omega) hc.2
  exact ⟨_, _, PC.args hargs ((qn hG (orc92 hG hT) mix enter92 (L := []) (pol := {}) (LpsOK.none (by kernel_rfl)) k1).le k2 (.refl _)), hr⟩
def O51 : Orc := [(120, g92), (136, g93)]
def g51 : Spec := evF Tryd.prog O51 [] {} Tryd.f119
include hG in
theorem gk51 (hT : qD G) : qc Tryd.prog G 119 g51 := spec_ev hG (.cons (gk92 hG hT) (.cons (gk93 hG hT) .nil)) mix enter51 (fun _ => LpsOK.none (by kernel_rfl))
theorem enter39 : Enters Tryd.prog 79 Tryd.f79 (qe Tryd.f79) := ⟨Tryd.func79, by kernel_rfl, rfl⟩
end Go.Proofs.YtnenjkgffapplaaDoor.PE
namespace Go.Proofs.YtnenjkgffapplaaDoor.PE
open Go
set_option maxRecDepth 100000
variable {G : World -> (Nat -> Prop) -> Prop} (hG : GOk G)
def b39 : Code := (qi (qe Tryd.f79)).getD 0 .skip
def pol39 : Pol := { live := [(9, [1, 7, 8, 9, 10, 29, 30, 31])] }
def O39 : Orc := [(118, g50), (119, g51), (63, g71), (116, s85)]
structure Fr where
 x : Rat
 y : Rat
 h : Bool
 t : Rat
def frP (f : Fr) (a b : Nat) : PV := .agg [.agg [.q f.x a, .q f.y a], .agg [.b f.h, .q f.t b]]
def n39 (qs : List Rat) (n : Nat) (lk : Nat -> Lk) (x y t : Rat) (i : Int) : LS := ⟨[.lst 3 (.rats 64 qs), .ptr 0 10 0 0 [], .ptr 1 6 0 0 [], .ptr 2 4 0 0 [], .nil, .lst 16 (.fn n (fun j => lkPV (lk j))), .i .i64 n, .i .i64 i],
 [some ⟨10, .vals [.agg [.agg [.q x 64, .q y 64], .agg [.bl false, .q t 64]]]⟩, some ⟨6, .vals [.agg [.q ((0 : Int) : Rat) 1, .q ((0 : Int) : Rat) 1]]⟩, some ⟨4, .vals [.agg [.bl false, .q ((0 : Int) : Rat) 1]]⟩]⟩
def x39 (qs : List Rat) (n : Nat) (lk : Nat -> Lk) (ys : List PV) (l : Nat) (x y : Rat) (h : Bool) (t : Rat) (a b : Nat) (i : Int) : LS := ⟨[.lst 3 (.rats 64 qs), .ptr 0 10 0 0 [], .ptr 1 6 0 0 [], .ptr 2 4 0 0 [], .sl 3 10 0 l, .lst 16 (.fn n (fun j => lkPV (lk j))), .i .i64 n, .i .i64 i],
 [some ⟨10, .vals [.agg [.agg [.q x a, .q y a], .agg [.b h, .q t b]]]⟩, some ⟨6, .vals [.agg [.q ((0 : Int) : Rat) 1, .q ((0 : Int) : Rat) 1]]⟩, some ⟨4, .vals [.agg [.bl false, .q ((0 : Int) : Rat) 1]]⟩, some ⟨10, .vals ys⟩]⟩
theorem t39n (qs : List Rat) (n : Nat) (lk : Nat -> Lk) (x y t : Rat) (i : Int) : qg Tryd.prog O39 [] pol39 Tryd.f79.ntmps 0 [1, 7, 8, 9, 10, 29, 30, 31] b39 (n39 qs n lk x y t i) =
 Tr.br (decide (i < (n : Int))) (.br (ix (i) ((n : Int))) (.br (ix (i) ((qs.length : Int))) (.br (Nat.ble 64 (400000 : Nat)) (.br (qh ((↑(0 : Int) : Rat) = 0 /\ (↑(0 : Int) : Rat) = 0 /\ (64 : Nat) + 8 * 64 + 20 <= 800000 /\ (64 : Nat) + 8 * 64 + 20 <= 800000)) (.br (Nat.ble 64 (50000 : Nat) && Nat.ble 1 (64 : Nat) && Nat.ble 64 (50000 : Nat) && Nat.ble 1 (64 : Nat)) (.br (Nat.blt (0 : Nat) [PV.agg [PV.agg [PV.q x 64, PV.q y 64], PV.agg [PV.b (thH false t false (qs.getD i.toNat 0)), PV.q (thT false t false (qs.getD i.toNat 0)) 259]]].length && [PV.agg [PV.agg [PV.q x 64, PV.q y 64], PV.agg [PV.b (thH false t false (qs.getD i.toNat 0)), PV.q (thT false t false (qs.getD i.toNat 0)) 259]]].length.ble 4294967296) (.br (decide ((-72057594037927936 : Int) < 0) && decide ((0 : Int) <= 9223372036854775807)) (.br (qh ((↑(0 : Int) : Rat) = 0 /\ (64 : Nat) + 64 + 8 * ((2 : Nat) * 64 + 2 * 64 + 3) + 20 <= 800000 /\ (64 : Nat) + 64 + 8 * ((2 : Nat) * 64 + 2 * 64 + 3) + 20 <= 800000 /\ (1 : Nat) <= 2 * 64 + 2 * 64 + 3)) (.br (qh (false = false /\ (↑(0 : Int) : Rat) = 0 /\ (2 : Nat) * 64 + 2 * 64 + 3 <= 50000)) (.br (ib (i + 1)) (.ok (.out .normal (LS.mk [PV.lst 3 (.rats 64 qs), PV.ptr 0 10 0 0 [], PV.ptr 1 6 0 0 [], PV.ptr 2 4 0 0 [], PV.sl 3 10 0 1, PV.lst 16 (.fn n fun (j : Nat) => PV.agg [PV.q (lk j).len 64, PV.q (lk j).low 64, PV.q (lk j).high 64, PV.q (lk j).spd 64, PV.q (lk j).brk 64, PV.lst 6 (.fn (lk j).np fun (a : Nat) => PV.agg [PV.q ((lk j).px a) 64, PV.q ((lk j).py a) 64])]), PV.i .i64 (n : Int), PV.i .i64 (i + 1)] [some (.mk 10 (.vals [PV.agg [PV.agg [PV.q (x + (lk i.toNat).len * cosR (thH false t false (qs.getD i.toNat 0)) (thT false t false (qs.getD i.toNat 0))) 2211, PV.q (y + (lk i.toNat).len * sinR (thH false t false (qs.getD i.toNat 0)) (thT false t false (qs.getD i.toNat 0))) 2211], PV.agg [PV.b (thH false t false (qs.getD i.toNat 0)), PV.q (ftT (thH false t false (qs.getD i.toNat 0)) (thT false t false (qs.getD i.toNat 0))) 259]]])), some (.mk 6 (.vals [PV.agg [PV.q (↑(0 : Int) : Rat) 1, PV.q (↑(0 : Int) : Rat) 1]])), some (.mk 4 (.vals [PV.agg [PV.bl false, PV.q (↑(0 : Int) : Rat) 1]])), some (.mk 10 (.vals [PV.agg [PV.agg [PV.q x 64, PV.q y 64], PV.agg [PV.b (thH false t false (qs.getD i.toNat 0)), PV.q (thT false t false (qs.getD i.toNat 0)) 259]]]))]))) (.no 15002)) (.no 1)) (.no 1)) (.no 1)) (.no 13002)) (.no 1)) (.no 1)) (.no 1)) (.no 12007)) (.no 11005)) (.ok (.out (.exit 0) (LS.mk [PV.lst 3 (.rats 64 qs), PV.ptr 0 10 0 0 [], PV.ptr 1 6 0 0 [], PV.ptr 2 4 0 0 [], PV.nil, PV.lst 16 (.fn n fun (j : Nat) => PV.agg [PV.q (lk j).len 64, PV.q (lk j).low 64, PV.q (lk j).high 64, PV.q (lk j).spd 64, PV.q (lk j).brk 64, PV.lst 6 (.fn (lk j).np fun (a : Nat) => PV.agg [PV.q ((lk j).px a) 64, PV.q ((lk j).py a) 64])]), PV.i .i64 (n : Int), PV.i .i64 i] [some (.mk 10 (.vals [PV.agg [PV.agg [PV.q x 64, PV.q y 64], PV.agg [PV.bl false, PV.q t 64]]])), some (.mk 6 (.vals [PV.agg [PV.q (↑(0 : Int) : Rat) 1, PV.q (↑(0 : Int) : Rat) 1]])), some (.mk 4 (.vals [PV.agg [PV.bl false, PV.q (↑(0 : Int) : Rat) 1]]))]))) := by kernel_rfl
theorem t39a (qs : List Rat) (n : Nat) (lk : Nat -> Lk) (f0 : Fr) (x y : Rat) (h : Bool) (t : Rat) (i : Int) : qg Tryd.prog O39 [] pol39 Tryd.f79.ntmps 0 [1, 7, 8, 9, 10, 29, 30, 31] b39 (x39 qs n lk [frP f0 64 259] 1 x y h t 2211 259 i) =
 Tr.br (decide (i < (n : Int))) (.br (ix (i) ((n : Int))) (.br (ix (i) ((qs.length : Int))) (.br (Nat.ble 64 (400000 : Nat)) (.br (qh ((↑(0 : Int) : Rat) = 0 /\ (↑(0 : Int) : Rat) = 0 /\ (2211 : Nat) + 8 * 259 + 20 <= 800000 /\ (2211 : Nat) + 8 * 259 + 20 <= 800000)) (.br (Nat.ble 259 (50000 : Nat) && Nat.ble 1 (259 : Nat) && Nat.ble 64 (50000 : Nat) && Nat.ble 1 (64 : Nat)) (.br (((1 : Nat) + [PE.PV.agg [PV.agg [PV.q x 2211, PV.q y 2211], PV.agg [PV.b (thH h t false (qs.getD i.toNat 0)), PV.q (thT h t false (qs.getD i.toNat 0)) 649]]].length).ble 4294967296) (.br (decide ((-72057594037927936 : Int) < 0) && decide ((0 : Int) <= 9223372036854775807)) (.br (qh ((↑(0 : Int) : Rat) = 0 /\ (2211 : Nat) + 64 + 8 * ((2 : Nat) * 259 + 2 * 64 + 3) + 20 <= 800000 /\ (2211 : Nat) + 64 + 8 * ((2 : Nat) * 259 + 2 * 64 + 3) + 20 <= 800000 /\ (1 : Nat) <= 2 * 259 + 2 * 64 + 3)) (.br (qh (false = false /\ (↑(0 : Int) : Rat) = 0 /\ (2 : Nat) * 259 + 2 * 64 + 3 <= 50000)) (.br (ib (i + 1)) (.ok (.out .normal (LS.mk [PV.lst 3 (.rats 64 qs), PV.ptr 0 10 0 0 [], PV.ptr 1 6 0 0 [], PV.ptr 2 4 0 0 [], PV.sl 3 10 0 2, PV.lst 16 (.fn n fun (j : Nat) => PV.agg [PV.q (lk j).len 64, PV.q (lk j).low 64, PV.q (lk j).high 64, PV.q (lk j).spd 64, PV.q (lk j).brk 64, PV.lst 6 (.fn (lk j).np fun (a : Nat) => PV.agg [PV.q ((lk j).px a) 64, PV.q ((lk j).py a) 64])]), PV.i .i64 (n : Int), PV.i .i64 (i + 1)] [some (.mk 10 (.vals [PV.agg [PV.agg [PV.q (x + (lk i.toNat).len * cosR (thH h t false (qs.getD i.toNat 0)) (thT h t false (qs.getD i.toNat 0))) 7478, PV.q (y + (lk i.toNat).len * sinR (thH h t false (qs.getD i.toNat 0)) (thT h t false (qs.getD i.toNat 0))) 7478], PV.agg [PV.b (thH h t false (qs.getD i.toNat 0)), PV.q (ftT (thH h t false (qs.getD i.toNat 0)) (thT h t false (qs.getD i.toNat 0))) 649]]])), some (.mk 6 (.vals [PV.agg [PV.q (↑(0 : Int) : Rat) 1, PV.q (↑(0 : Int) : Rat) 1]])), some (.mk 4 (.vals [PV.agg [PV.bl false, PV.q (↑(0 : Int) : Rat) 1]])), some (.mk 10 (.vals [frP f0 64 259, PV.agg [PV.agg [PV.q x 2211, PV.q y 2211], PV.agg [PV.b (thH h t false (qs.getD i.toNat 0)), PV.q (thT h t false (qs.getD i.toNat 0)) 649]]]))]))) (.no 15002)) (.no 1)) (.no 1)) (.no 1)) (.no 13002)) (.no 1)) (.no 1)) (.no 1)) (.no 12007)) (.no 11005)) (.ok (.out (.exit 0) (LS.mk [PV.lst 3 (.rats 64 qs), PV.ptr 0 10 0 0 [], PV.ptr 1 6 0 0 [], PV.ptr 2 4 0 0 [], PV.sl 3 10 0 1, PV.lst 16 (.fn n fun (j : Nat) => PV.agg [PV.q (lk j).len 64, PV.q (lk j).low 64, PV.q (lk j).high 64, PV.q (lk j).spd 64, PV.q (lk j).brk 64, PV.lst 6 (.fn (lk j).np fun (a : Nat) => PV.agg [PV.q ((lk j).px a) 64, PV.q ((lk j).py a) 64])]), PV.i .i64 (n : Int), PV.i .i64 i] [some (.mk 10 (.vals [PV.agg [PV.agg [PV.q x 2211, PV.q y 2211], PV.agg [PV.b h, PV.q t 259]]])), some (.mk 6 (.vals [PV.agg [PV.q (↑(0 : Int) : Rat) 1, PV.q (↑(0 : Int) : Rat) 1]])), some (.mk 4 (.vals [PV.agg [PV.bl false, PV.q (↑(0 : Int) : Rat) 1]])), some (.mk 10 (.vals [frP f0 64 259]))]))) := by kernel_rfl
theorem t39b (qs : List Rat) (n : Nat) (lk : Nat -> Lk) (f0 f1 : Fr) (x y : Rat) (h : Bool) (t : Rat) (i : Int) : qg Tryd.prog O39 [] pol39 Tryd.f79.ntmps 0 [1, 7, 8, 9, 10, 29, 30, 31] b39 (x39 qs n lk [frP f0 64 259, frP f1 2211 649] 2 x y h t 7478 649 i) =
 Tr.br (decide (i < (n : Int))) (.br (ix (i) ((n : Int))) (.br (ix (i) ((qs.length : Int))) (.br (Nat.ble 64 (400000 : Nat)) (.br (qh ((↑(0 : Int) : Rat) = 0 /\ (↑(0 : Int) : Rat) = 0 /\ (7478 : Nat) + 8 * 649 + 20 <= 800000 /\ (7478 : Nat) + 8 * 649 + 20 <= 800000)) (.br (Nat.ble 649 (50000 : Nat) && Nat.ble 1 (649 : Nat) && Nat.ble 64 (50000 : Nat) && Nat.ble 1 (64 : Nat)) (.br (((2 : Nat) + [PE.PV.agg [PV.agg [PV.q x 7478, PV.q y 7478], PV.agg [PV.b (thH h t false (qs.getD i.toNat 0)), PV.q (thT h t false (qs.getD i.toNat 0)) 1429]]].length).ble 4294967296) (.br (decide ((-72057594037927936 : Int) < 0) && decide ((0 : Int) <= 9223372036854775807)) (.br (qh ((↑(0 : Int) : Rat) = 0 /\ (7478 : Nat) + 64 + 8 * ((2 : Nat) * 649 + 2 * 64 + 3) + 20 <= 800000 /\ (7478 : Nat) + 64 + 8 * ((2 : Nat) * 649 + 2 * 64 + 3) + 20 <= 800000 /\ (1 : Nat) <= 2 * 649 + 2 * 64 + 3)) (.br (qh (false = false /\ (↑(0 : Int) : Rat) = 0 /\ (2 : Nat) * 649 + 2 * 64 + 3 <= 50000)) (.br (ib (i + 1)) (.ok (.out .normal (LS.mk [PV.lst 3 (.rats 64 qs), PV.ptr 0 10 0 0 [], PV.ptr 1 6 0 0 [], PV.ptr 2 4 0 0 [], PV.sl 3 10 0 3, PV.lst 16 (.fn n fun (j : Nat) => PV.agg [PV.q (lk j).len 64, PV.q (lk j).low 64, PV.q (lk j).high 64, PV.q (lk j).spd 64, PV.q (lk j).brk 64, PV.lst 6 (.fn (lk j).np fun (a : Nat) => PV.agg [PV.q ((lk j).px a) 64, PV.q ((lk j).py a) 64])]), PV.i .i64 (n : Int), PV.i .i64 (i + 1)] [some (.mk 10 (.vals [PV.agg [PV.agg [PV.q (x + (lk i.toNat).len * cosR (thH h t false (qs.getD i.toNat 0)) (thT h t false (qs.getD i.toNat 0))) 18985, PV.q (y + (lk i.toNat).len * sinR (thH h t false (qs.getD i.toNat 0)) (thT h t false (qs.getD i.toNat 0))) 18985], PV.agg [PV.b (thH h t false (qs.getD i.toNat 0)), PV.q (ftT (thH h t false (qs.getD i.toNat 0)) (thT h t false (qs.getD i.toNat 0))) 1429]]])), some (.mk 6 (.vals [PV.agg [PV.q (↑(0 : Int) : Rat) 1, PV.q (↑(0 : Int) : Rat) 1]])), some (.mk 4 (.vals [PV.agg [PV.bl false, PV.q (↑(0 : Int) : Rat) 1]])), some (.mk 10 (.vals [frP f0 64 259, frP f1 2211 649, PV.agg [PV.agg [PV.q x 7478, PV.q y 7478], PV.agg [PV.b (thH h t false (qs.getD i.toNat 0)), PV.q (thT h t false (qs.getD i.toNat 0)) 1429]]]))]))) (.no 15002)) (.no 1)) (.no 1)) (.no 1)) (.no 13002)) (.no 1)) (.no 1)) (.no 1)) (.no 12007)) (.no 11005)) (.ok (.out (.exit 0) (LS.mk [PV.lst 3 (.rats 64 qs), PV.ptr 0 10 0 0 [], PV.ptr 1 6 0 0 [], PV.ptr 2 4 0 0 [], PV.sl 3 10 0 2, PV.lst 16 (.fn n fun (j : Nat) => PV.agg [PV.q (lk j).len 64, PV.q (lk j).low 64, PV.q (lk j).high 64, PV.q (lk j).spd 64, PV.q (lk j).brk 64, PV.lst 6 (.fn (lk j).np fun (a : Nat) => PV.agg [PV.q ((lk j).px a) 64, PV.q ((lk j).py a) 64])]), PV.i .i64 (n : Int), PV.i .i64 i] [some (.mk 10 (.vals [PV.agg [PV.agg [PV.q x 7478, PV.q y 7478], PV.agg [PV.b h, PV.q t 649]]])), some (.mk 6 (.vals [PV.agg [PV.q (↑(0 : Int) : Rat) 1, PV.q (↑(0 : Int) : Rat) 1]])), some (.mk 4 (.vals [PV.agg [PV.bl false, PV.q (↑(0 : Int) : Rat) 1]])), some (.mk 10 (.vals [frP f0 64 259, frP f1 2211 649]))]))) := by kernel_rfl
theorem t39c (qs : List Rat) (n : Nat) (lk : Nat -> Lk) (f0 f1 f2 : Fr) (x y : Rat) (h : Bool) (t : Rat) (i : Int) : qg Tryd.prog O39 [] pol39 Tryd.f79.ntmps 0 [1, 7, 8, 9, 10, 29, 30, 31] b39 (x39 qs n lk [frP f0 64 259, frP f1 2211 649, frP f2 7478 1429] 3 x y h t 18985 1429 i) =
 Tr.br (decide (i < (n : Int))) (.br (ix (i) ((n : Int))) (.br (ix (i) ((qs.length : Int))) (.br (Nat.ble 64 (400000 : Nat)) (.br (qh ((↑(0 : Int) : Rat) = 0 /\ (↑(0 : Int) : Rat) = 0 /\ (18985 : Nat) + 8 * 1429 + 20 <= 800000 /\ (18985 : Nat) + 8 * 1429 + 20 <= 800000)) (.br (Nat.ble 1429 (50000 : Nat) && Nat.ble 1 (1429 : Nat) && Nat.ble 64 (50000 : Nat) && Nat.ble 1 (64 : Nat)) (.br (((3 : Nat) + [PE.PV.agg [PV.agg [PV.q x 18985, PV.q y 18985], PV.agg [PV.b (thH h t false (qs.getD i.toNat 0)), PV.q (thT h t false (qs.getD i.toNat 0)) 2989]]].length).ble 4294967296) (.br (decide ((-72057594037927936 : Int) < 0) && decide ((0 : Int) <= 9223372036854775807)) (.br (qh ((↑(0 : Int) : Rat) = 0 /\ (18985 : Nat) + 64 + 8 * ((2 : Nat) * 1429 + 2 * 64 + 3) + 20 <= 800000 /\ (18985 : Nat) + 64 + 8 * ((2 : Nat) * 1429 + 2 * 64 + 3) + 20 <= 800000 /\ (1 : Nat) <= 2 * 1429 + 2 * 64 + 3)) (.br (qh (false = false /\ (↑(0 : Int) : Rat) = 0 /\ (2 : Nat) * 1429 + 2 * 64 + 3 <= 50000)) (.br (ib (i + 1)) (.ok (.out .normal (LS.mk [PV.lst 3 (.rats 64 qs), PV.ptr 0 10 0 0 [], PV.ptr 1 6 0 0 [], PV.ptr 2 4 0 0 [], PV.sl 3 10 0 4, PV.lst 16 (.fn n fun (j : Nat) => PV.agg [PV.q (lk j).len 64, PV.q (lk j).low 64, PV.q (lk j).high 64, PV.q (lk j).spd 64, PV.q (lk j).brk 64, PV.lst 6 (.fn (lk j).np fun (a : Nat) => PV.agg [PV.q ((lk j).px a) 64, PV.q ((lk j).py a) 64])]), PV.i .i64 (n : Int), PV.i .i64 (i + 1)] [some (.mk 10 (.vals [PV.agg [PV.agg [PV.q (x + (lk i.toNat).len * cosR (thH h t false (qs.getD i.toNat 0)) (thT h t false (qs.getD i.toNat 0))) 42972, PV.q (y + (lk i.toNat).len * sinR (thH h t false (qs.getD i.toNat 0)) (thT h t false (qs.getD i.toNat 0))) 42972], PV.agg [PV.b (thH h t false (qs.getD i.toNat 0)), PV.q (ftT (thH h t false (qs.getD i.toNat 0)) (thT h t false (qs.getD i.toNat 0))) 2989]]])), some (.mk 6 (.vals [PV.agg [PV.q (↑(0 : Int) : Rat) 1, PV.q (↑(0 : Int) : Rat) 1]])), some (.mk 4 (.vals [PV.agg [PV.bl false, PV.q (↑(0 : Int) : Rat) 1]])), some (.mk 10 (.vals [frP f0 64 259, frP f1 2211 649, frP f2 7478 1429, PV.agg [PV.agg [PV.q x 18985, PV.q y 18985], PV.agg [PV.b (thH h t false (qs.getD i.toNat 0)), PV.q (thT h t false (qs.getD i.toNat 0)) 2989]]]))]))) (.no 15002)) (.no 1)) (.no 1)) (.no 1)) (.no 13002)) (.no 1)) (.no 1)) (.no 1)) (.no 12007)) (.no 11005)) (.ok (.out (.exit 0) (LS.mk [PV.lst 3 (.rats 64 qs), PV.ptr 0 10 0 0 [], PV.ptr 1 6 0 0 [], PV.ptr 2 4 0 0 [], PV.sl 3 10 0 3, PV.lst 16 (.fn n fun (j : Nat) => PV.agg [PV.q (lk j).len 64, PV.q (lk j).low 64, PV.q (lk j).high 64, PV.q (lk j).spd 64, PV.q (lk j).brk 64, PV.lst 6 (.fn (lk j).np fun (a : Nat) => PV.agg [PV.q ((lk j).px a) 64, PV.q ((lk j).py a) 64])]), PV.i .i64 (n : Int), PV.i .i64 i] [some (.mk 10 (.vals [PV.agg [PV.agg [PV.q x 18985, PV.q y 18985], PV.agg [PV.b h, PV.q t 1429]]])), some (.mk 6 (.vals [PV.agg [PV.q (↑(0 : Int) : Rat) 1, PV.q (↑(0 : Int) : Rat) 1]])), some (.mk 4 (.vals [PV.agg [PV.bl false, PV.q (↑(0 : Int) : Rat) 1]])), some (.mk 10 (.vals [frP f0 64 259, frP f1 2211 649, frP f2 7478 1429]))]))) := by kernel_rfl
theorem e39a (A : Am) (qs : List Rat) (f0 e : Fr) (i : Int) : evF Tryd.prog O39 [(9, lcst (n39 qs A.n A.lk A.bx A.by_ A.t 0) (.exit 0) (x39 qs A.n A.lk [frP f0 64 259] 1 e.x e.y e.h e.t 2211 259 i))] pol39 Tryd.f79 [qu A, .lst 3 (.rats 64 qs)] [] qm =
 Tr.br (qh (P85 [qu A, PV.i .i64 (qs.length : Int)])) (.br (!decide ((0 : Int) = 0)) (.ok (.ret (PV.tup [PV.nil, PV.i .i64 0]) [])) (.br (decide ((-72057594037927936 : Int) < 0) && decide ((0 : Int) <= 9223372036854775807)) (.br (decide ((-72057594037927936 : Int) < 0) && decide ((0 : Int) <= 9223372036854775807)) (.br (decide ((-72057594037927936 : Int) < 0) && decide ((0 : Int) <= 9223372036854775807)) (.br (((Int.natAbs (0 : Int)).log2 + 1).ble 400000) (.br (qh (isLS (LS.mk [PV.lst 3 (.rats 64 qs), PV.ptr 0 10 0 0 [], PV.ptr 1 6 0 0 [], PV.ptr 2 4 0 0 [], PV.nil, PV.lst 16 (.fn A.n fun (j : Nat) => PV.agg [PV.q (A.lk j).len 64, PV.q (A.lk j).low 64, PV.q (A.lk j).high 64, PV.q (A.lk j).spd 64, PV.q (A.lk j).brk 64, PV.lst 6 (.fn (A.lk j).np fun (a : Nat) => PV.agg [PV.q ((A.lk j).px a) 64, PV.q ((A.lk j).py a) 64])]), PV.i .i64 (A.n : Int), PV.i .i64 0] [some (.mk 10 (.vals [PV.agg [PV.agg [PV.q A.bx 64, PV.q A.by_ 64], PV.agg [PV.bl false, PV.q A.t 64]]])), some (.mk 6 (.vals [PV.agg [PV.q (↑(0 : Int) : Rat) 1, PV.q (↑(0 : Int) : Rat) 1]])), some (.mk 4 (.vals [PV.agg [PV.bl false, PV.q (↑(0 : Int) : Rat) 1]]))]) (LS.mk [PV.lst 3 (.rats 64 qs), PV.ptr 0 10 0 0 [], PV.ptr 1 6 0 0 [], PV.ptr 2 4 0 0 [], PV.nil, PV.lst 16 (.fn A.n fun (j : Nat) => PV.agg [PV.q (A.lk j).len 64, PV.q (A.lk j).low 64, PV.q (A.lk j).high 64, PV.q (A.lk j).spd 64, PV.q (A.lk j).brk 64, PV.lst 6 (.fn (A.lk j).np fun (a : Nat) => PV.agg [PV.q ((A.lk j).px a) 64, PV.q ((A.lk j).py a) 64])]), PV.i .i64 (A.n : Int), PV.i .i64 0] [some (.mk 10 (.vals [PV.agg [PV.agg [PV.q A.bx 64, PV.q A.by_ 64], PV.agg [PV.bl false, PV.q A.t 64]]])), some (.mk 6 (.vals [PV.agg [PV.q (↑(0 : Int) : Rat) 1, PV.q (↑(0 : Int) : Rat) 1]])), some (.mk 4 (.vals [PV.agg [PV.bl false, PV.q (↑(0 : Int) : Rat) 1]]))]))) (.br (((1 : Nat) + [frP e 2211 259].length).ble 4294967296) (.ok (.ret (PV.tup [PV.fr 10 (.vals [frP f0 64 259, frP e 2211 259]), PV.i .i64 0]) [])) (.no 16003)) (.no 1)) (.no 1)) (.no 1)) (.no 1)) (.no 1))) (.no 1) := by kernel_rfl
theorem e39b (A : Am) (qs : List Rat) (f0 f1 e : Fr) (i : Int) : evF Tryd.prog O39 [(9, lcst (n39 qs A.n A.lk A.bx A.by_ A.t 0) (.exit 0) (x39 qs A.n A.lk [frP f0 64 259, frP f1 2211 649] 2 e.x e.y e.h e.t 7478 649 i))] pol39 Tryd.f79 [qu A, .lst 3 (.rats 64 qs)] [] qm =
 Tr.br (qh (P85 [qu A, PV.i .i64 (qs.length : Int)])) (.br (!decide ((0 : Int) = 0)) (.ok (.ret (PV.tup [PV.nil, PV.i .i64 0]) [])) (.br (decide ((-72057594037927936 : Int) < 0) && decide ((0 : Int) <= 9223372036854775807)) (.br (decide ((-72057594037927936 : Int) < 0) && decide ((0 : Int) <= 9223372036854775807)) (.br (decide ((-72057594037927936 : Int) < 0) && decide ((0 : Int) <= 9223372036854775807)) (.br (((Int.natAbs (0 : Int)).log2 + 1).ble 400000) (.br (qh (isLS (LS.mk [PV.lst 3 (.rats 64 qs), PV.ptr 0 10 0 0 [], PV.ptr 1 6 0 0 [], PV.ptr 2 4 0 0 [], PV.nil, PV.lst 16 (.fn A.n fun (j : Nat) => PV.agg [PV.q (A.lk j).len 64, PV.q (A.lk j).low 64, PV.q (A.lk j).high 64, PV.q (A.lk j).spd 64, PV.q (A.lk j).brk 64, PV.lst 6 (.fn (A.lk j).np fun (a : Nat) => PV.agg [PV.q ((A.lk j).px a) 64, PV.q ((A.lk j).py a) 64])]), PV.i .i64 (A.n : Int), PV.i .i64 0] [some (.mk 10 (.vals [PV.agg [PV.agg [PV.q A.bx 64, PV.q A.by_ 64], PV.agg [PV.bl false, PV.q A.t 64]]])), some (.mk 6 (.vals [PV.agg [PV.q (↑(0 : Int) : Rat) 1, PV.q (↑(0 : Int) : Rat) 1]])), some (.mk 4 (.vals [PV.agg [PV.bl false, PV.q (↑(0 : Int) : Rat) 1]]))]) (LS.mk [PV.lst 3 (.rats 64 qs), PV.ptr 0 10 0 0 [], PV.ptr 1 6 0 0 [], PV.ptr 2 4 0 0 [], PV.nil, PV.lst 16 (.fn A.n fun (j : Nat) => PV.agg [PV.q (A.lk j).len 64, PV.q (A.lk j).low 64, PV.q (A.lk j).high 64, PV.q (A.lk j).spd 64, PV.q (A.lk j).brk 64, PV.lst 6 (.fn (A.lk j).np fun (a : Nat) => PV.agg [PV.q ((A.lk j).px a) 64, PV.q ((A.lk j).py a) 64])]), PV.i .i64 (A.n : Int), PV.i .i64 0] [some (.mk 10 (.vals [PV.agg [PV.agg [PV.q A.bx 64, PV.q A.by_ 64], PV.agg [PV.bl false, PV.q A.t 64]]])), some (.mk 6 (.vals [PV.agg [PV.q (↑(0 : Int) : Rat) 1, PV.q (↑(0 : Int) : Rat) 1]])), some (.mk 4 (.vals [PV.agg [PV.bl false, PV.q (↑(0 : Int) : Rat) 1]]))]))) (.br (((2 : Nat) + [frP e 7478 649].length).ble 4294967296) (.ok (.ret (PV.tup [PV.fr 10 (.vals [frP f0 64 259, frP f1 2211 649, frP e 7478 649]), PV.i .i64 0]) [])) (.no 16003)) (.no 1)) (.no 1)) (.no 1)) (.no 1)) (.no 1))) (.no 1) := by kernel_rfl
theorem e39c (A : Am) (qs : List Rat) (f0 f1 f2 e : Fr) (i : Int) : evF Tryd.prog O39 [(9, lcst (n39 qs A.n A.lk A.bx A.by_ A.t 0) (.exit 0) (x39 qs A.n A.lk [frP f0 64 259, frP f1 2211 649, frP f2 7478 1429] 3 e.x e.y e.h e.t 18985 1429 i))] pol39 Tryd.f79 [qu A, .lst 3 (.rats 64 qs)] [] qm =
 Tr.br (qh (P85 [qu A, PV.i .i64 (qs.length : Int)])) (.br (!decide ((0 : Int) = 0)) (.ok (.ret (PV.tup [PV.nil, PV.i .i64 0]) [])) (.br (decide ((-72057594037927936 : Int) < 0) && decide ((0 : Int) <= 9223372036854775807)) (.br (decide ((-72057594037927936 : Int) < 0) && decide ((0 : Int) <= 9223372036854775807)) (.br (decide ((-72057594037927936 : Int) < 0) && decide ((0 : Int) <= 9223372036854775807)) (.br (((Int.natAbs (0 : Int)).log2 + 1).ble 400000) (.br (qh (isLS (LS.mk [PV.lst 3 (.rats 64 qs), PV.ptr 0 10 0 0 [], PV.ptr 1 6 0 0 [], PV.ptr 2 4 0 0 [], PV.nil, PV.lst 16 (.fn A.n fun (j : Nat) => PV.agg [PV.q (A.lk j).len 64, PV.q (A.lk j).low 64, PV.q (A.lk j).high 64, PV.q (A.lk j).spd 64, PV.q (A.lk j).brk 64, PV.lst 6 (.fn (A.lk j).np fun (a : Nat) => PV.agg [PV.q ((A.lk j).px a) 64, PV.q ((A.lk j).py a) 64])]), PV.i .i64 (A.n : Int), PV.i .i64 0] [some (.mk 10 (.vals [PV.agg [PV.agg [PV.q A.bx 64, PV.q A.by_ 64], PV.agg [PV.bl false, PV.q A.t 64]]])), some (.mk 6 (.vals [PV.agg [PV.q (↑(0 : Int) : Rat) 1, PV.q (↑(0 : Int) : Rat) 1]])), some (.mk 4 (.vals [PV.agg [PV.bl false, PV.q (↑(0 : Int) : Rat) 1]]))]) (LS.mk [PV.lst 3 (.rats 64 qs), PV.ptr 0 10 0 0 [], PV.ptr 1 6 0 0 [], PV.ptr 2 4 0 0 [], PV.nil, PV.lst 16 (.fn A.n fun (j : Nat) => PV.agg [PV.q (A.lk j).len 64, PV.q (A.lk j).low 64, PV.q (A.lk j).high 64, PV.q (A.lk j).spd 64, PV.q (A.lk j).brk 64, PV.lst 6 (.fn (A.lk j).np fun (a : Nat) => PV.agg [PV.q ((A.lk j).px a) 64, PV.q ((A.lk j).py a) 64])]), PV.i .i64 (A.n : Int), PV.i .i64 0] [some (.mk 10 (.vals [PV.agg [PV.agg [PV.q A.bx 64, PV.q A.by_ 64], PV.agg [PV.bl false, PV.q A.t 64]]])), some (.mk 6 (.vals [PV.agg [PV.q (↑(0 : Int) : Rat) 1, PV.q (↑(0 : Int) : Rat) 1]])), some (.mk 4 (.vals [PV.agg [PV.bl false, PV.q (↑(0 : Int) : Rat) 1]]))]))) (.br (((3 : Nat) + [frP e 18985 1429].length).ble 4294967296) (.ok (.ret (PV.tup [PV.fr 10 (.vals [frP f0 64 259, frP f1 2211 649, frP f2 7478 1429, frP e 18985 1429]), PV.i .i64 0]) [])) (.no 16003)) (.no 1)) (.no 1)) (.no 1)) (.no 1)) (.no 1))) (.no 1) := by kernel_rfl
def fstep (q : Rat) (E : Fr) : Fr := ⟨E.x, E.y, thH E.h E.t false q, thT E.h E.t false q⟩
def estep (L : Rat) (F : Fr) : Fr := ⟨F.x + L * cosR F.h F.t, F.y + L * sinR F.h F.t, F.h, ftT F.h F.t⟩
def endR (b : Fr) (q L : Nat -> Rat) : Nat -> Fr
 | 0 => b
 | i + 1 => estep (L i) (fstep (q i) (endR b q L i))
def frmF (b : Fr) (q L : Nat -> Rat) (i : Nat) : Fr := fstep (q i) (endR b q L i)
def allF (b : Fr) (q L : Nat -> Rat) (n i : Nat) : Fr := if i < n then frmF b q L i else endR b q L n
include hG in
theorem orc39 (hT : qD G) : OrcOK Tryd.prog G O39 := .cons (gk50 hG hT) (.cons (gk51 hG hT) (.cons (gk71 hG) (.cons (ok85 hG) .nil)))
def qf (qs : List Rat) (i : Nat) : Rat := qs.getD i 0
def bsF (A : Am) : Fr := ⟨A.bx, A.by_, false, A.t⟩
def Fq (qs : List Rat) (lk : Nat -> Lk) (b : Fr) (i : Nat) : Fr := frmF b (qf qs) (fun j => (lk j).len) i
def Eq' (qs : List Rat) (lk : Nat -> Lk) (b : Fr) (i : Nat) : Fr := endR b (qf qs) (fun j => (lk j).len) i
section
variable (qs : List Rat) (n : Nat) (lk : Nat -> Lk) (b : Fr)
include hG in
theorem r39_0 (hT : qD G) (hb : b.h = false) (hn : 1 <= n) (hq : qs.length = n) : Rnd Tryd.prog G Tryd.f79.ntmps 0 [1, 7, 8, 9, 10, 29, 30, 31] b39 (n39 qs n lk b.x b.y b.t 0) .normal (x39 qs n lk [frP (Fq qs lk b 0) 64 259] 1 (Eq' qs lk b 1).x (Eq' qs lk b 1).y (Eq' qs lk b 1).h (Eq' qs lk b 1).t 2211 259 1) := by
 refine qb hG (orc39 hG hT) mix (L := []) (pol := pol39) (O := O39) (LpsOK.none (by kernel_rfl)) (Nat.zero_le _) ?_
 rw [t39n, Tr.run_t (decide_eq_true (by omega)), Tr.run_t (by simp only [Bool.and_eq_true, decide_eq_true_eq]; omega), Tr.run_t (by simp only [Bool.and_eq_true, decide_eq_true_eq]; omega), Tr.run_t (by decide), Tr.run_t (decP_iff.2 ⟨rfl, rfl, by decide, by decide⟩), Tr.run_t (by decide), Tr.run_t (by simp), Tr.run_t (by decide),
  Tr.run_t (decP_iff.2 ⟨rfl, by decide, by decide, by decide⟩), Tr.run_t (decP_iff.2 ⟨rfl, rfl, by decide⟩), Tr.run_t (by decide), Tr.run_ok]
 obtain ⟨bx, by_, bh, bt⟩ := b
 simp only at hb
 subst hb
 rfl
include hG in
theorem r39_1 (hT : qD G) (hn : 2 <= n) (hq : qs.length = n) : Rnd Tryd.prog G Tryd.f79.ntmps 0 [1, 7, 8, 9, 10, 29, 30, 31] b39 (x39 qs n lk [frP (Fq qs lk b 0) 64 259] 1 (Eq' qs lk b 1).x (Eq' qs lk b 1).y (Eq' qs lk b 1).h (Eq' qs lk b 1).t 2211 259 1) .normal
  (x39 qs n lk [frP (Fq qs lk b 0) 64 259, frP (Fq qs lk b 1) 2211 649] 2 (Eq' qs lk b 2).x (Eq' qs lk b 2).y (Eq' qs lk b 2).h (Eq' qs lk b 2).t 7478 649 2) := by
 refine qb hG (orc39 hG hT) mix (L := []) (pol := pol39) (O := O39) (LpsOK.none (by kernel_rfl)) (Nat.zero_le _) ?_
 rw [t39a, Tr.run_t (decide_eq_true (by omega)), Tr.run_t (by simp only [Bool.and_eq_true, decide_eq_true_eq]; omega), Tr.run_t (by simp only [Bool.and_eq_true, decide_eq_true_eq]; omega), Tr.run_t (by decide), Tr.run_t (decP_iff.2 ⟨rfl, rfl, by decide, by decide⟩), Tr.run_t (by decide), Tr.run_t (by simp), Tr.run_t (by decide),
  Tr.run_t (decP_iff.2 ⟨rfl, by decide, by decide, by decide⟩), Tr.run_t (decP_iff.2 ⟨rfl, rfl, by decide⟩), Tr.run_t (by decide), Tr.run_ok]
 rfl
include hG in
theorem r39_2 (hT : qD G) (hn : 3 <= n) (hq : qs.length = n) : Rnd Tryd.prog G Tryd.f79.ntmps 0 [1, 7, 8, 9, 10, 29, 30, 31] b39 (x39 qs n lk [frP (Fq qs lk b 0) 64 259, frP (Fq qs lk b 1) 2211 649] 2 (Eq' qs lk b 2).x (Eq' qs lk b 2).y (Eq' qs lk b 2).h (Eq' qs lk b 2).t 7478 649 2) .normal
  (x39 qs n lk [frP (Fq qs lk b 0) 64 259, frP (Fq qs lk b 1) 2211 649, frP (Fq qs lk b 2) 7478 1429] 3 (Eq' qs lk b 3).x (Eq' qs lk b 3).y (Eq' qs lk b 3).h (Eq' qs lk b 3).t 18985 1429 3) := by
 refine qb hG (orc39 hG hT) mix (L := []) (pol := pol39) (O := O39) (LpsOK.none (by kernel_rfl)) (Nat.zero_le _) ?_
 rw [t39b, Tr.run_t (decide_eq_true (by omega)), Tr.run_t (by simp only [Bool.and_eq_true, decide_eq_true_eq]; omega), Tr.run_t (by simp only [Bool.and_eq_true, decide_eq_true_eq]; omega), Tr.run_t (by decide), Tr.run_t (decP_iff.2 ⟨rfl, rfl, by decide, by decide⟩), Tr.run_t (by decide), Tr.run_t (by simp), Tr.run_t (by decide),
  Tr.run_t (decP_iff.2 ⟨rfl, by decide, by decide, by decide⟩), Tr.run_t (decP_iff.2 ⟨rfl, rfl, by decide⟩), Tr.run_t (by decide), Tr.run_ok]
 rfl
end
def frs (A : Am) (qs : List Rat) : Cont := .fn (A.n + 1) (fun i => frP (allF (bsF A) (qf qs) (fun j => (A.lk j).len) A.n i) 20000 1500)
def P39 (arm : PV) (qs : List Rat) : Prop := okA arm /\ qs.length = (dArm arm).n
def g39 : Spec := fun args hs K => match args, hs with
 | [arm, .lst 3 (.rats w qs)], [] => .br (qh (P39 arm qs /\ w = 64)) (K (.tup [.fr 10 (frs (dArm arm) qs), .i .i64 0]) []) (.no 1)
 | _, _ => .no 1
theorem frP_le {f g : Fr} (h : f = g) {a b c d : Nat} (h1 : a <= c) (h2 : b <= d) : VLe (frP f a b) (frP g c d) := by
 subst h
 exact VLe.agg (vllc (VLe.agg (vllc (vle_qm h1) (vllc (vle_qm h1) vll0))) (vllc (VLe.agg (vllc (.refl _) (vllc (vle_qm h2) vll0))) vll0))
theorem frs_le0 (e n : Nat) (f : Nat -> PV) (vs : List PV) (hl : vs.length = n) (h : ∀ (i : Nat) (v : PV), vs[i]? = some v -> noRef 8 v = true /\ VLe v (f i)) :
  RLe (.tup [.fr e (.vals vs), .i .i64 0]) (.tup [.fr e (.fn n f), .i .i64 0]) := by
 subst hl
 exact ⟨fun m => .refl _, fun m => KsLe.one (KLe.fn rfl h)⟩
theorem frs_le (A : Am) (qs : List Rat) (vs : List PV) (hl : vs.length = A.n + 1) (h : ∀ (i : Nat) (v : PV), vs[i]? = some v -> noRef 8 v = true /\ VLe v (frP (allF (bsF A) (qf qs) (fun j => (A.lk j).len) A.n i) 20000 1500)) :
  RLe (.tup [.fr 10 (.vals vs), .i .i64 0]) (.tup [.fr 10 (frs A qs), .i .i64 0]) := frs_le0 _ _ _ vs hl h
section
variable (qs : List Rat) (n : Nat) (lk : Nat -> Lk) (b : Fr)
include hG in
theorem goes39a (hT : qD G) (hb : b.h = false) (hn : n = 1) (hq : qs.length = n) : Goes (Rnd Tryd.prog G Tryd.f79.ntmps 0 [1, 7, 8, 9, 10, 29, 30, 31] b39) (n39 qs n lk b.x b.y b.t 0) (.exit 0) (x39 qs n lk [frP (Fq qs lk b 0) 64 259] 1 (Eq' qs lk b 1).x (Eq' qs lk b 1).y (Eq' qs lk b 1).h (Eq' qs lk b 1).t 2211 259 1) := by
 refine .more _ _ _ _ (r39_0 hG qs n lk b hT hb (by omega) hq) (.last _ _ _ (qb hG (orc39 hG hT) mix (L := []) (pol := pol39) (O := O39) (LpsOK.none (by kernel_rfl)) (Nat.zero_le _) ?_) (by simp))
 rw [t39a, Tr.run_f (decide_eq_false (by omega)), Tr.run_ok]
 rfl
include hG in
theorem goes39b (hT : qD G) (hb : b.h = false) (hn : n = 2) (hq : qs.length = n) : Goes (Rnd Tryd.prog G Tryd.f79.ntmps 0 [1, 7, 8, 9, 10, 29, 30, 31] b39) (n39 qs n lk b.x b.y b.t 0) (.exit 0) (x39 qs n lk [frP (Fq qs lk b 0) 64 259, frP (Fq qs lk b 1) 2211 649] 2 (Eq' qs lk b 2).x (Eq' qs lk b 2).y (Eq' qs lk b 2).h (Eq' qs lk b 2).t 7478 649 2) := by
 refine .more _ _ _ _ (r39_0 hG qs n lk b hT hb (by omega) hq) (.more _ _ _ _ (r39_1 hG qs n lk b hT (by omega) hq) (.last _ _ _ (qb hG (orc39 hG hT) mix (L := []) (pol := pol39) (O := O39) (LpsOK.none (by kernel_rfl)) (Nat.zero_le _) ?_) (by simp)))
 rw [t39b, Tr.run_f (decide_eq_false (by omega)), Tr.run_ok]
 rfl
include hG in
theorem goes39c (hT : qD G) (hb : b.h = false) (hn : n = 3) (hq : qs.length = n) : Goes (Rnd Tryd.prog G Tryd.f79.ntmps 0 [1, 7, 8, 9, 10, 29, 30, 31] b39) (n39 qs n lk b.x b.y b.t 0) (.exit 0) (x39 qs n lk [frP (Fq qs lk b 0) 64 259, frP (Fq qs lk b 1) 2211 649, frP (Fq qs lk b 2) 7478 1429] 3 (Eq' qs lk b 3).x (Eq' qs lk b 3).y (Eq' qs lk b 3).h (Eq' qs lk b 3).t 18985 1429 3) := by
 refine .more _ _ _ _ (r39_0 hG qs n lk b hT hb (by omega) hq) (.more _ _ _ _ (r39_1 hG qs n lk b hT (by omega) hq) (.more _ _ _ _ (r39_2 hG qs n lk b hT (by omega) hq) (.last _ _ _ (qb hG (orc39 hG hT) mix (L := []) (pol := pol39) (O := O39) (LpsOK.none (by kernel_rfl)) (Nat.zero_le _) ?_) (by simp))))
 rw [t39c, Tr.run_f (decide_eq_false (by omega)), Tr.run_ok]
 rfl
end
theorem allF_lt {b : Fr} {q L : Nat -> Rat} {n i : Nat} (h : i < n) : allF b q L n i = frmF b q L i := if_pos h
theorem allF_n {b : Fr} {q L : Nat -> Rat} {n : Nat} : allF b q L n n = endR b q L n := if_neg (Nat.lt_irrefl n)
include hG in
theorem gk39 (hT : qD G) : qc Tryd.prog G 79 g39 := by
 intro args hs K x h
 unfold g39 at h
 split at h
 case h_2 => cases h
 rename_i arm w qs
 obtain ⟨hc, hr⟩ := Tr.of_br h
 obtain ⟨⟨⟨hv, hA⟩, hq⟩, rfl⟩ := decP_iff.1 hc
 generalize dArm arm = A at *
 obtain ⟨h1, h2, h3, h4, h5, h6, h7⟩ := armB_c hA
 have z0 : ((Int.natAbs (0 : Int)).log2 + 1).ble 400000 = true := by decide
 have hcs : A.n = 1 \/ A.n = 2 \/ A.n = 3 := by omega
 refine ⟨_, _, PC.args (.cons hv (.cons (.refl _) .nil)) ?_, hr⟩
 rcases hcs with hn | hn | hn
 ·have g := goes39a hG qs A.n A.lk (bsF A) hT rfl hn hq
  refine (qn hG (orc39 hG hT) mix enter39 (hs := []) (pol := pol39) (L := [(9, lcst (n39 qs A.n A.lk A.bx A.by_ A.t 0) (.exit 0) (x39 qs A.n A.lk [frP (Fq qs A.lk (bsF A) 0) 64 259] 1 (Eq' qs A.lk (bsF A) 1).x (Eq' qs A.lk (bsF A) 1).y (Eq' qs A.lk (bsF A) 1).h (Eq' qs A.lk (bsF A) 1).t 2211 259 1))]) (lps1 (b := b39) (live := [1, 7, 8, 9, 10, 29, 30, 31]) (m := 0) (by kernel_rfl) (by kernel_rfl) (by kernel_rfl) (lcst_ok g)) (r := .tup [.fr 10 (.vals [frP (Fq qs A.lk (bsF A) 0) 64 259, frP (Eq' qs A.lk (bsF A) 1) 2211 259]), .i .i64 0]) (hs' := []) ?_).le ?_ (.refl _)
  ·refine (congrArg Tr.run (e39a A qs (Fq qs A.lk (bsF A) 0) (Eq' qs A.lk (bsF A) 1) 1)).trans ?_
   rw [Tr.run_t (decP_iff.2 ⟨qu A, A, by first | (rw [hq]; done) | (rw [hq]; rfl), .refl _, hA⟩), Tr.run_f (by decide), Tr.run_t (by decide), Tr.run_t (by decide), Tr.run_t (by decide), Tr.run_t z0, Tr.run_t isLS_t, Tr.run_t (by simp), Tr.run_ok]
   all_goals rfl
  ·refine frs_le A qs _ (by rw [hn]; rfl) fun i v hi => ?_
   match i, hi with
   | 0, hi => simp at hi; subst hi; exact ⟨rfl, frP_le (by rw [hn, allF_lt (by omega)]; rfl) (by omega) (by omega)⟩
   | 1, hi => simp at hi; subst hi; exact ⟨rfl, frP_le (by rw [hn, allF_n]; rfl) (by omega) (by omega)⟩
   | i + 2, hi => simp at hi
 ·have g := goes39b hG qs A.n A.lk (bsF A) hT rfl hn hq
  refine (qn hG (orc39 hG hT) mix enter39 (hs := []) (pol := pol39) (L := [(9, lcst (n39 qs A.n A.lk A.bx A.by_ A.t 0) (.exit 0) (x39 qs A.n A.lk [frP (Fq qs A.lk (bsF A) 0) 64 259, frP (Fq qs A.lk (bsF A) 1) 2211 649] 2 (Eq' qs A.lk (bsF A) 2).x (Eq' qs A.lk (bsF A) 2).y (Eq' qs A.lk (bsF A) 2).h (Eq' qs A.lk (bsF A) 2).t 7478 649 2))]) (lps1 (b := b39) (live := [1, 7, 8, 9, 10, 29, 30, 31]) (m := 0) (by kernel_rfl) (by kernel_rfl) (by kernel_rfl) (lcst_ok g)) (r := .tup [.fr 10 (.vals [frP (Fq qs A.lk (bsF A) 0) 64 259, frP (Fq qs A.lk (bsF A) 1) 2211 649, frP (Eq' qs A.lk (bsF A) 2) 7478 649]), .i .i64 0]) (hs' := []) ?_).le ?_ (.refl _)
  ·refine (congrArg Tr.run (e39b A qs (Fq qs A.lk (bsF A) 0) (Fq qs A.lk (bsF A) 1) (Eq' qs A.lk (bsF A) 2) 2)).trans ?_
   rw [Tr.run_t (decP_iff.2 ⟨qu A, A, by first | (rw [hq]; done) | (rw [hq]; rfl), .refl _, hA⟩), Tr.run_f (by decide), Tr.run_t (by decide), Tr.run_t (by decide), Tr.run_t (by decide), Tr.run_t z0, Tr.run_t isLS_t, Tr.run_t (by simp), Tr.run_ok]
   all_goals rfl
  ·refine frs_le A qs _ (by rw [hn]; rfl) fun i v hi => ?_
   match i, hi with
   | 0, hi => simp at hi; subst hi; exact ⟨rfl, frP_le (by rw [hn, allF_lt (by omega)]; rfl) (by omega) (by omega)⟩
   | 1, hi => simp at hi; subst hi; exact ⟨rfl, frP_le (by rw [hn, allF_lt (by omega)]; rfl) (by omega) (by omega)⟩
   | 2, hi => simp at hi; subst hi; exact ⟨rfl, frP_le (by rw [hn, allF_n]; rfl) (by omega) (by omega)⟩
   | i + 3, hi => simp at hi
 ·have g := goes39c hG qs A.n A.lk (bsF A) hT rfl hn hq
  refine (qn hG (orc39 hG hT) mix enter39 (hs := []) (pol := pol39) (L := [(9, lcst (n39 qs A.n A.lk A.bx A.by_ A.t 0) (.exit 0) (x39 qs A.n A.lk [frP (Fq qs A.lk (bsF A) 0) 64 259, frP (Fq qs A.lk (bsF A) 1) 2211 649, frP (Fq qs A.lk (bsF A) 2) 7478 1429] 3 (Eq' qs A.lk (bsF A) 3).x (Eq' qs A.lk (bsF A) 3).y (Eq' qs A.lk (bsF A) 3).h (Eq' qs A.lk (bsF A) 3).t 18985 1429 3))]) (lps1 (b := b39) (live := [1, 7, 8, 9, 10, 29, 30, 31]) (m := 0) (by kernel_rfl) (by kernel_rfl) (by kernel_rfl) (lcst_ok g)) (r := .tup [.fr 10 (.vals [frP (Fq qs A.lk (bsF A) 0) 64 259, frP (Fq qs A.lk (bsF A) 1) 2211 649, frP (Fq qs A.lk (bsF A) 2) 7478 1429, frP (Eq' qs A.lk (bsF A) 3) 18985 1429]), .i .i64 0]) (hs' := []) ?_).le ?_ (.refl _)
  ·refine (congrArg Tr.run (e39c A qs (Fq qs A.lk (bsF A) 0) (Fq qs A.lk (bsF A) 1) (Fq qs A.lk (bsF A) 2) (Eq' qs A.lk (bsF A) 3) 3)).trans ?_
   rw [Tr.run_t (decP_iff.2 ⟨qu A, A, by first | (rw [hq]; done) | (rw [hq]; rfl), .refl _, hA⟩), Tr.run_f (by decide), Tr.run_t (by decide), Tr.run_t (by decide), Tr.run_t (by decide), Tr.run_t z0, Tr.run_t isLS_t, Tr.run_t (by simp), Tr.run_ok]
   all_goals rfl
  ·refine frs_le A qs _ (by rw [hn]; rfl) fun i v hi => ?_
   match i, hi with
   | 0, hi => simp at hi; subst hi; exact ⟨rfl, frP_le (by rw [hn, allF_lt (by omega)]; rfl) (by omega) (by omega)⟩
   | 1, hi => simp at hi; subst hi; exact ⟨rfl, frP_le (by rw [hn, allF_lt (by omega)]; rfl) (by omega) (by omega)⟩
   | 2, hi => simp at hi; subst hi; exact ⟨rfl, frP_le (by rw [hn, allF_lt (by omega)]; rfl) (by omega) (by omega)⟩
   | 3, hi => simp at hi; subst hi; exact ⟨rfl, frP_le (by rw [hn, allF_n]; rfl) (by omega) (by omega)⟩
   | i + 4, hi => simp at hi
end Go.Proofs.YtnenjkgffapplaaDoor.PE
namespace Go.Proofs.YtnenjkgffapplaaDoor.PE
open Go
set_option maxRecDepth 100000
variable {G : World -> (Nat -> Prop) -> Prop} (hG : GOk G)
theorem limX_V (v : PV) : limX (armD v) = true := by
 refine List.all_eq_true.2 fun j _ => ?_
 rw [Bool.and_eq_true]
 have small : ∀ (n : Int), n.natAbs < 1000 -> smX (mkRat n (Int.toNat 3)) = true := fun n hn => smX_iff.2 ⟨Nat.lt_of_le_of_lt (mkRat_num_le n (by decide)) hn, Nat.lt_of_le_of_lt (mkRat_den_le n (by decide)) (by decide)⟩
 have g1 := qt (rs (itR6 j (rs (rs (rs v))))) (show (0 : Int) < 6 by omega)
 have g2 := qt (rs (rs (itR6 j (rs (rs (rs v)))))) (show (0 : Int) < 6 by omega)
 exact ⟨small _ (by omega), small _ (by omega)⟩
end Go.Proofs.YtnenjkgffapplaaDoor.PE
namespace Go.Proofs.YtnenjkgffapplaaDoor.PE
open Go
set_option maxRecDepth 100000
variable {G : World -> (Nat -> Prop) -> Prop} (hG : GOk G)
def R6 : Orc := [(36, g27), (38, g41), (39, g42), (65, g43)]
theorem cst_t {P : Program} {G : World -> (Nat -> Prop) -> Prop} {g : Nat} {as' : List PV} {r : PV} (h : PC P G g as' [] r []) : qc P G g (cst as' True r) := cst_ok fun _ => h
theorem cos_sin (h : Bool) (t : Rat) : cosR h t * cosR h t + sinR h t * sinR h t = 1 := by
 rw [cosR, sinR, qd, qd]
 cases h
 ·simp only [Bool.false_eq_true, if_false]
  have h0 := sq_pos1 t
  generalize hd : 1 + t * t = d at *
  have e1 : (1 - t * t) / d * ((1 - t * t) / d) + (t + t) / d * ((t + t) / d) = ((1 - t * t) * (1 - t * t) + (t + t) * (t + t)) / (d * d) := by grind
  have e2 : (1 - t * t) * (1 - t * t) + (t + t) * (t + t) = d * d := by grind
  rw [e1, e2]
  rw [Rat.div_def]
  exact Rat.mul_inv_cancel _ (fun h => h0 (by rcases Rat.mul_eq_zero.1 h with h | h <;> exact h))
 ·simp only [if_true]
  grind
theorem all_at {b : Fr} {q L : Nat -> Rat} {n i : Nat} (h : i <= n) : (allF b q L n i).x = (endR b q L i).x /\ (allF b q L n i).y = (endR b q L i).y := by
 rcases Nat.lt_or_ge i n with h1 | h1
 ·rw [allF_lt h1]; exact ⟨rfl, rfl⟩
 ·obtain rfl : i = n := by omega
  rw [allF_n]; exact ⟨rfl, rfl⟩
theorem end_step {b : Fr} {q L : Nat -> Rat} (i : Nat) : (endR b q L (i + 1)).x = (endR b q L i).x + L i * cosR (frmF b q L i).h (frmF b q L i).t /\ (endR b q L (i + 1)).y = (endR b q L i).y + L i * sinR (frmF b q L i).h (frmF b q L i).t := ⟨rfl, rfl⟩
include hG in
theorem pc39 (hT : qD G) (A : Am) (hA : armB A = true) (qs : List Rat) (hq : qs.length = A.n) :
  PC Tryd.prog G 79 [qu A, .lst 3 (.rats 64 qs)] [] (.tup [.fr 10 (.fn (A.n + 1) (fun i => frP (allF (bsF A) (qf qs) (fun j => (A.lk j).len) A.n i) 20000 1500)), .i .i64 0]) [] := by
 obtain ⟨r, hs', p, e⟩ := gk39 hG hT [qu A, .lst 3 (.rats 64 qs)] [] (fun r hs' => .ok (.ret r hs')) (.ret (.tup [.fr 10 (frs A qs), .i .i64 0]) []) (by
  show (Tr.br _ _ _).run = _
  rw [Tr.run_t (decP_iff.2 ⟨⟨okA_arm hA, hq⟩, rfl⟩)]; rfl)
 cases e
 exact p
end Go.Proofs.YtnenjkgffapplaaDoor.PE
namespace Go.Proofs.YtnenjkgffapplaaDoor.PE
open Go
set_option maxRecDepth 100000
variable {G : World -> (Nat -> Prop) -> Prop} (hG : GOk G)
end Go.Proofs.YtnenjkgffapplaaDoor.PE
namespace Go.Proofs.YtnenjkgffapplaaDoor.PE
open Go
set_option maxRecDepth 100000
variable {G : World -> (Nat -> Prop) -> Prop} (hG : GOk G)
def b102 : Code := (qi (qe Tryd.f85)).getD 0 .skip
def pol102 : Pol := { live := [(7, [8, 9, 33, 34, 35])] }
theorem enter102 : Enters Tryd.prog 85 Tryd.f85 (qe Tryd.f85) := ⟨Tryd.func85, by kernel_rfl, rfl⟩
def R102 : Orc := [(38, g41), (99, g83)]
def O102 (A : Am) (qs : List Rat) (ff : Nat -> Fr) (n : Nat) : Orc := [(79, cst [qu A, .lst 3 (.rats 64 qs)] True (.tup [.fr 10 (.fn (n + 1) (fun i => frP (ff i) 20000 1500)), .i .i64 0])), (38, g41), (99, g83)]
def l102 : qy := unr Tryd.prog R102 [] pol102 Tryd.f85.ntmps 0 [8, 9, 33, 34, 35] b102 4
theorem e102 (A : Am) (qs : List Rat) (ff : Nat -> Fr) (n : Nat) : evF Tryd.prog (O102 A qs ff n) [(7, l102)] pol102 Tryd.f85 [qu A, .lst 3 (.rats 64 qs)] [] qm =
 Tr.br (qh (isA [qu A, PV.lst 3 (.rats 64 qs)] True [qu A, PV.lst 3 (.rats 64 qs)])) (.br (((0 : Nat) + (n + 1)).ble (n + 1)) (.br (!decide ((0 : Int) = 0)) (.ok (.ret (PV.tup [PV.nil, PV.i .i64 0]) [])) (.br (ib ((↑(n + 1) : Int) - 1)) (.br (ix ((↑(n + 1) : Int) - 1) ((↑(n + 1) : Int))) (.br (ib ((↑(n + 1) : Int) - 1)) (.br (decide ((0 : Int) <= (↑(n + 1) : Int) - 1) && decide ((↑(n + 1) : Int) - 1 <= (↑(n + 1) : Int))) (.br (decide ((0 : Int) < (↑(((↑(n + 1) : Int) - 1).toNat - 0) : Int))) (.br (ix ((0 : Int)) ((↑(((↑(n + 1) : Int) - 1).toNat - 0) : Int))) (.br (((20000 : Nat) + 20000 + 1).ble 800000) (.br (((20000 : Nat) + 20000 + 1).ble 800000) (.br (((20000 : Nat) + 20000 + 1).ble 800000) (.br (Nat.blt (0 : Nat) [PV.agg [PV.q (-((ff (((↑(n + 1) : Int) - 1).toNat + 0)).y - (ff (Int.toNat 0 + 0 + 0)).y)) 40001, PV.q ((ff (((↑(n + 1) : Int) - 1).toNat + 0)).x - (ff (Int.toNat 0 + 0 + 0)).x) 40001]].length && [PV.agg [PV.q (-((ff (((↑(n + 1) : Int) - 1).toNat + 0)).y - (ff (Int.toNat 0 + 0 + 0)).y)) 40001, PV.q ((ff (((↑(n + 1) : Int) - 1).toNat + 0)).x - (ff (Int.toNat 0 + 0 + 0)).x) 40001]].length.ble 4294967296) (.br (ib ((0 : Int) + 1)) (.br (decide ((0 : Int) + 1 < (↑(((↑(n + 1) : Int) - 1).toNat - 0) : Int))) (.br (ix ((0 : Int) + 1) ((↑(((↑(n + 1) : Int) - 1).toNat - 0) : Int))) (.br (((20000 : Nat) + 20000 + 1).ble 800000) (.br (((20000 : Nat) + 20000 + 1).ble 800000) (.br (((20000 : Nat) + 20000 + 1).ble 800000) (.br (([PV.agg [PV.q (-((ff (((↑(n + 1) : Int) - 1).toNat + 0)).y - (ff (Int.toNat 0 + 0 + 0)).y)) 40001, PV.q ((ff (((↑(n + 1) : Int) - 1).toNat + 0)).x - (ff (Int.toNat 0 + 0 + 0)).x) 40001]].length + [PV.agg [PV.q (-((ff (((↑(n + 1) : Int) - 1).toNat + 0)).y - (ff (((0 : Int) + 1).toNat + 0 + 0)).y)) 40001, PV.q ((ff (((↑(n + 1) : Int) - 1).toNat + 0)).x - (ff (((0 : Int) + 1).toNat + 0 + 0)).x) 40001]].length).ble 4294967296) (.br (ib ((0 : Int) + 1 + 1)) (.br (decide ((0 : Int) + 1 + 1 < (↑(((↑(n + 1) : Int) - 1).toNat - 0) : Int))) (.br (ix ((0 : Int) + 1 + 1) ((↑(((↑(n + 1) : Int) - 1).toNat - 0) : Int))) (.br (((20000 : Nat) + 20000 + 1).ble 800000) (.br (((20000 : Nat) + 20000 + 1).ble 800000) (.br (((20000 : Nat) + 20000 + 1).ble 800000) (.br (([PV.agg [PV.q (-((ff (((↑(n + 1) : Int) - 1).toNat + 0)).y - (ff (Int.toNat 0 + 0 + 0)).y)) 40001, PV.q ((ff (((↑(n + 1) : Int) - 1).toNat + 0)).x - (ff (Int.toNat 0 + 0 + 0)).x) 40001]].length + [PV.agg [PV.q (-((ff (((↑(n + 1) : Int) - 1).toNat + 0)).y - (ff (((0 : Int) + 1).toNat + 0 + 0)).y)) 40001, PV.q ((ff (((↑(n + 1) : Int) - 1).toNat + 0)).x - (ff (((0 : Int) + 1).toNat + 0 + 0)).x) 40001]].length + [PV.agg [PV.q (-((ff (((↑(n + 1) : Int) - 1).toNat + 0)).y - (ff (((0 : Int) + 1 + 1).toNat + 0 + 0)).y)) 40001, PV.q ((ff (((↑(n + 1) : Int) - 1).toNat + 0)).x - (ff (((0 : Int) + 1 + 1).toNat + 0 + 0)).x) 40001]].length).ble 4294967296) (.br (ib ((0 : Int) + 1 + 1 + 1)) (.br (decide ((0 : Int) + 1 + 1 + 1 < (↑(((↑(n + 1) : Int) - 1).toNat - 0) : Int))) (.br (ix ((0 : Int) + 1 + 1 + 1) ((↑(((↑(n + 1) : Int) - 1).toNat - 0) : Int))) (.br (((20000 : Nat) + 20000 + 1).ble 800000) (.br (((20000 : Nat) + 20000 + 1).ble 800000) (.br (((20000 : Nat) + 20000 + 1).ble 800000) (.br (([PV.agg [PV.q (-((ff (((↑(n + 1) : Int) - 1).toNat + 0)).y - (ff (Int.toNat 0 + 0 + 0)).y)) 40001, PV.q ((ff (((↑(n + 1) : Int) - 1).toNat + 0)).x - (ff (Int.toNat 0 + 0 + 0)).x) 40001]].length + [PV.agg [PV.q (-((ff (((↑(n + 1) : Int) - 1).toNat + 0)).y - (ff (((0 : Int) + 1).toNat + 0 + 0)).y)) 40001, PV.q ((ff (((↑(n + 1) : Int) - 1).toNat + 0)).x - (ff (((0 : Int) + 1).toNat + 0 + 0)).x) 40001]].length + [PV.agg [PV.q (-((ff (((↑(n + 1) : Int) - 1).toNat + 0)).y - (ff (((0 : Int) + 1 + 1).toNat + 0 + 0)).y)) 40001, PV.q ((ff (((↑(n + 1) : Int) - 1).toNat + 0)).x - (ff (((0 : Int) + 1 + 1).toNat + 0 + 0)).x) 40001]].length + [PV.agg [PV.q (-((ff (((↑(n + 1) : Int) - 1).toNat + 0)).y - (ff (((0 : Int) + 1 + 1 + 1).toNat + 0 + 0)).y)) 40001, PV.q ((ff (((↑(n + 1) : Int) - 1).toNat + 0)).x - (ff (((0 : Int) + 1 + 1 + 1).toNat + 0 + 0)).x) 40001]].length).ble 4294967296) (.br (ib ((0 : Int) + 1 + 1 + 1 + 1)) (.no 16) (.no 12002)) (.no 11002)) (.no 1)) (.no 1)) (.no 1)) (.no 9004)) (.ok (.ret (PV.tup [PV.fr 6 (.vals [PV.agg [PV.q (-((ff (((↑(n + 1) : Int) - 1).toNat + 0)).y - (ff (Int.toNat 0 + 0 + 0)).y)) 40001, PV.q ((ff (((↑(n + 1) : Int) - 1).toNat + 0)).x - (ff (Int.toNat 0 + 0 + 0)).x) 40001], PV.agg [PV.q (-((ff (((↑(n + 1) : Int) - 1).toNat + 0)).y - (ff (((0 : Int) + 1).toNat + 0 + 0)).y)) 40001, PV.q ((ff (((↑(n + 1) : Int) - 1).toNat + 0)).x - (ff (((0 : Int) + 1).toNat + 0 + 0)).x) 40001], PV.agg [PV.q (-((ff (((↑(n + 1) : Int) - 1).toNat + 0)).y - (ff (((0 : Int) + 1 + 1).toNat + 0 + 0)).y)) 40001, PV.q ((ff (((↑(n + 1) : Int) - 1).toNat + 0)).x - (ff (((0 : Int) + 1 + 1).toNat + 0 + 0)).x) 40001]]), PV.i .i64 0]) []))) (.no 12002)) (.no 11002)) (.no 1)) (.no 1)) (.no 1)) (.no 9004)) (.ok (.ret (PV.tup [PV.fr 6 (.vals [PV.agg [PV.q (-((ff (((↑(n + 1) : Int) - 1).toNat + 0)).y - (ff (Int.toNat 0 + 0 + 0)).y)) 40001, PV.q ((ff (((↑(n + 1) : Int) - 1).toNat + 0)).x - (ff (Int.toNat 0 + 0 + 0)).x) 40001], PV.agg [PV.q (-((ff (((↑(n + 1) : Int) - 1).toNat + 0)).y - (ff (((0 : Int) + 1).toNat + 0 + 0)).y)) 40001, PV.q ((ff (((↑(n + 1) : Int) - 1).toNat + 0)).x - (ff (((0 : Int) + 1).toNat + 0 + 0)).x) 40001]]), PV.i .i64 0]) []))) (.no 12002)) (.no 11002)) (.no 1)) (.no 1)) (.no 1)) (.no 9004)) (.ok (.ret (PV.tup [PV.fr 6 (.vals [PV.agg [PV.q (-((ff (((↑(n + 1) : Int) - 1).toNat + 0)).y - (ff (Int.toNat 0 + 0 + 0)).y)) 40001, PV.q ((ff (((↑(n + 1) : Int) - 1).toNat + 0)).x - (ff (Int.toNat 0 + 0 + 0)).x) 40001]]), PV.i .i64 0]) []))) (.no 12002)) (.no 11002)) (.no 1)) (.no 1)) (.no 1)) (.no 9004)) (.ok (.ret (PV.tup [PV.nil, PV.i .i64 0]) []))) (.no 7003)) (.no 7004)) (.no 5005)) (.no 5006))) (.no 2006)) (.no 1) := by kernel_rfl
def colX (ff : Nat -> Fr) (n i : Nat) : Rat := -((ff n).y - (ff i).y)
def colY (ff : Nat -> Fr) (n i : Nat) : Rat := (ff n).x - (ff i).x
include hG in
theorem pc102 (hT : qD G) (A : Am) (hA : armB A = true) (qs : List Rat) (hq : qs.length = A.n) :
  PC Tryd.prog G 85 [qu A, .lst 3 (.rats 64 qs)] [] (.tup [.fr 6 (.fn A.n (fun i => .agg [.q (colX (allF (bsF A) (qf qs) (fun j => (A.lk j).len) A.n) A.n i) 40001, .q (colY (allF (bsF A) (qf qs) (fun j => (A.lk j).len) A.n) A.n i) 40001])), .i .i64 0]) [] := by
 have h5 := (armB_c hA).2.2.2.2.1
 have h6 := (armB_c hA).2.2.2.2.2.1
 have p39 := pc39 hG hT A hA qs hq
 generalize allF (bsF A) (qf qs) (fun j => (A.lk j).len) A.n = ff at *
 have key : ∃ vs : List PV, (evF Tryd.prog (O102 A qs ff A.n) [(7, l102)] pol102 Tryd.f85 [qu A, .lst 3 (.rats 64 qs)] [] qm).run = some (.ret (.tup [.fr 6 (.vals vs), .i .i64 0]) []) /\ vs.length = A.n /\ ∀ (i : Nat) (v : PV), vs[i]? = some v -> noRef 8 v = true /\ VLe v (.agg [.q (colX ff A.n i) 40001, .q (colY ff A.n i) 40001]) := by
  have e1 : (((A.n + 1 : Nat) : Int) - 1).toNat + 0 = A.n := by omega
  have hcs : A.n = 1 \/ A.n = 2 \/ A.n = 3 := by omega
  rw [e102]
  rcases hcs with hn | hn | hn
  ·simp only [hn]
   rw [Tr.run_t (decP_iff.2 ⟨rfl, trivial⟩), Tr.run_t (by decide), Tr.run_f (by decide)]
   repeat rw [Tr.run_t (by first | decide | rfl)]
   rw [Tr.run_f (by decide)]
   refine ⟨_, rfl, rfl, fun i v hi => ?_⟩
   match i, hi with
   | 0, hi => simp at hi; subst hi; exact ⟨rfl, .refl _⟩
   | i + 1, hi => simp at hi
  ·simp only [hn]
   rw [Tr.run_t (decP_iff.2 ⟨rfl, trivial⟩), Tr.run_t (by decide), Tr.run_f (by decide)]
   repeat rw [Tr.run_t (by first | decide | rfl)]
   rw [Tr.run_f (by decide)]
   refine ⟨_, rfl, rfl, fun i v hi => ?_⟩
   match i, hi with
   | 0, hi => simp at hi; subst hi; exact ⟨rfl, .refl _⟩
   | 1, hi => simp at hi; subst hi; exact ⟨rfl, .refl _⟩
   | i + 2, hi => simp at hi
  ·simp only [hn]
   rw [Tr.run_t (decP_iff.2 ⟨rfl, trivial⟩), Tr.run_t (by decide), Tr.run_f (by decide)]
   repeat rw [Tr.run_t (by first | decide | rfl)]
   rw [Tr.run_f (by decide)]
   refine ⟨_, rfl, rfl, fun i v hi => ?_⟩
   match i, hi with
   | 0, hi => simp at hi; subst hi; exact ⟨rfl, .refl _⟩
   | 1, hi => simp at hi; subst hi; exact ⟨rfl, .refl _⟩
   | 2, hi => simp at hi; subst hi; exact ⟨rfl, .refl _⟩
   | i + 3, hi => simp at hi
 obtain ⟨vs, k1, k2, k3⟩ := key
 exact (qn hG (.cons (cst_t p39) (.cons (gk41 hG hT) (.cons (gk83 hG hT) .nil))) mix enter102 (pol := pol102) (L := [(7, l102)]) (lps1 (b := b102) (live := [8, 9, 33, 34, 35]) (sp := l102) (m := 0) (by kernel_rfl) (by kernel_rfl) (by kernel_rfl) (unr_ok hG (.cons (gk41 hG hT) (.cons (gk83 hG hT) .nil)) mix (LpsOK.none (by kernel_rfl)) 4)) k1).le (frs_le0 _ _ _ vs k2 k3) (.refl _)
def sumR (f : Nat -> Rat) : Nat -> Rat
 | 0 => 0
 | n + 1 => sumR f n + f n
end Go.Proofs.YtnenjkgffapplaaDoor.PE
namespace Go.Proofs.YtnenjkgffapplaaDoor.PE
open Go
set_option maxRecDepth 100000
variable {G : World -> (Nat -> Prop) -> Prop} (hG : GOk G)
end Go.Proofs.YtnenjkgffapplaaDoor.PE
namespace Go.Proofs.YtnenjkgffapplaaDoor.PE
open Go
set_option maxRecDepth 100000
theorem q_dd {a b c : Rat} (hb : ¬ b = 0) (hc : ¬ c = 0) : a / c / (b / c) = a / b := by grind
theorem q_sub {a b c e p q : Rat} (hp : ¬ p = 0) (hq : ¬ q = 0) : a / p * (b / q) - c / p * (e / q) = (a * b - c * e) / (p * q) := by grind
theorem q_add {a b c e p q : Rat} (hp : ¬ p = 0) (hq : ¬ q = 0) : a / p * (b / q) + c / p * (e / q) = (a * b + c * e) / (p * q) := by grind
theorem q_sq1 {n d : Rat} (hd : ¬ d = 0) : 1 + n / d * (n / d) = (d * d + n * n) / (d * d) /\ 1 - n / d * (n / d) = (d * d - n * n) / (d * d) /\ n / d + n / d = (n + n) * d / (d * d) := by
 refine ⟨?_, ?_, ?_⟩ <;> grind
theorem q_cos {n d : Rat} (hd : ¬ d = 0) (hD : ¬ d * d + n * n = 0) : (1 - n / d * (n / d)) / (1 + n / d * (n / d)) = (d * d - n * n) / (d * d + n * n) /\ (n / d + n / d) / (1 + n / d * (n / d)) = (n + n) * d / (d * d + n * n) := by
 obtain ⟨e1, e2, e3⟩ := q_sq1 (n := n) hd
 have h2 : ¬ d * d = 0 := fun h => (Rat.mul_eq_zero.1 h).elim hd hd
 rw [e1, e2, e3]
 exact ⟨q_dd hD h2, q_dd hD h2⟩
theorem then_cs (h : Bool) (t : Rat) (g : Bool) (s : Rat) :
  cosR (thH h t g s) (thT h t g s) = cosR h t * cosR g s - sinR h t * sinR g s /\ sinR (thH h t g s) (thT h t g s) = sinR h t * cosR g s + cosR h t * sinR g s := by
 have ht := sq_pos1 t
 have hs := sq_pos1 s
 have mz : ∀ x y : Rat, ¬ x = 0 -> ¬ y = 0 -> ¬ x * y = 0 := fun x y hx hy h => (Rat.mul_eq_zero.1 h).elim hx hy
 have hD := mz _ _ ht hs
 simp only [cosR, sinR, thH, thT, qd]
 cases h <;> cases g <;> simp only [Bool.false_eq_true, if_false, if_true, decide_eq_true_eq]
 ·rw [q_sub ht hs, q_add ht hs]
  by_cases h0 : 1 - t * s = 0
  ·rw [if_pos h0, if_pos h0]
   have e : t * s = 1 := by grind
   rw [show (1 - t * t) * (1 - s * s) - (t + t) * (s + s) = -((1 + t * t) * (1 + s * s)) by grind, show (t + t) * (1 - s * s) + (1 - t * t) * (s + s) = 0 by grind]
   generalize (1 + t * t) * (1 + s * s) = D at *
   constructor <;> grind
  ·rw [if_neg h0, if_neg h0, if_neg h0]
   have hE : (1 - t * s) * (1 - t * s) + (t + s) * (t + s) = (1 + t * t) * (1 + s * s) := by grind
   obtain ⟨e1, e2⟩ := q_cos (n := t + s) (d := 1 - t * s) h0 (by rw [hE]; exact hD)
   rw [e1, e2, hE]
   rw [show (1 - t * s) * (1 - t * s) - (t + s) * (t + s) = (1 - t * t) * (1 - s * s) - (t + t) * (s + s) by grind, show (t + s + (t + s)) * (1 - t * s) = (t + t) * (1 - s * s) + (1 - t * t) * (s + s) by grind]
   exact ⟨rfl, rfl⟩
 ·by_cases h0 : t = 0
  ·subst h0
   simp only [if_true]
   constructor <;> grind
  ·simp only [if_neg h0]
   have hE : t * t + -1 * -1 = 1 + t * t := by grind
   obtain ⟨e1, e2⟩ := q_cos (n := -1) (d := t) h0 (by rw [hE]; exact ht)
   rw [e1, e2, hE]
   generalize 1 + t * t = D at *
   constructor <;> grind
 ·by_cases h0 : s = 0
  ·subst h0
   simp only [if_true]
   constructor <;> grind
  ·simp only [if_neg h0]
   have hE : s * s + -1 * -1 = 1 + s * s := by grind
   obtain ⟨e1, e2⟩ := q_cos (n := -1) (d := s) h0 (by rw [hE]; exact hs)
   rw [e1, e2, hE]
   generalize 1 + s * s = D at *
   constructor <;> grind
 ·constructor <;> grind
end Go.Proofs.YtnenjkgffapplaaDoor.PE
namespace Go.Proofs.YtnenjkgffapplaaDoor.PE
open Go
set_option maxRecDepth 100000
theorem th_norm (h : Bool) (t : Rat) (g : Bool) (s : Rat) : thH h t g s = true -> thT h t g s = 0 := by
 rw [thH, thT, qd, qd]
 cases h <;> cases g <;> simp only [Bool.false_eq_true, if_false, if_true, decide_eq_true_eq]
 ·intro h; rw [if_pos h]
 ·intro h; rw [if_pos h]
 ·intro h; rw [if_pos h]
 ·exact fun h => h.elim
theorem ft_of {h : Bool} {t : Rat} (n : h = true -> t = 0) : ftT h t = t := by
 rw [ftT, qd]
 cases h
 ·rfl
 ·exact (n rfl).symm
end Go.Proofs.YtnenjkgffapplaaDoor.PE
namespace Go.Proofs.YtnenjkgffapplaaDoor.PE
open Go
set_option maxRecDepth 100000
variable {G : World -> (Nat -> Prop) -> Prop} (hG : GOk G)
theorem enterRank : Enters Tryd.prog 42 Tryd.f42 (qe Tryd.f42) := ⟨Tryd.func42, by kernel_rfl, rfl⟩
def bRank : Code := (qi (qe Tryd.f42)).getD 0 .skip
def bRankI : Code := (qi bRank).getD 0 .skip
def polRank : Pol := { live := [(4, [6, 7, 8, 19, 20, 21]), (9, [6, 7, 8, 10, 19, 20, 21, 40, 41, 42])] }
def RRank : Orc := [(31, g26), (84, g97)]
def colC (n : Nat) (cx cy : Nat -> Rat) : Cont := .fn n (fun i => .agg [.q (cx i) 40001, .q (cy i) 40001])
def oRank (n : Nat) (cx cy : Nat -> Rat) (r i : Int) : LS := ⟨[.lst 6 (colC n cx cy), .i .i64 0, .i .i64 r, .lst 6 (colC n cx cy), .i .i64 n, .i .i64 i], []⟩
def iRank (n : Nat) (cx cy : Nat -> Rat) (ux uy : Rat) (r i j : Int) : LS := ⟨[.lst 6 (colC n cx cy), .i .i64 0, .i .i64 r, .ptr 0 6 0 0 [], .lst 6 (colC n cx cy), .i .i64 n, .i .i64 i, .lst 6 (colC i.toNat cx cy), .i .i64 i, .i .i64 j], [some ⟨6, .vals [.agg [.q ux 40001, .q uy 40001]]⟩]⟩
theorem tRankI (n : Nat) (cx cy : Nat -> Rat) (ux uy : Rat) (r i j : Int) : (qg Tryd.prog RRank [] polRank Tryd.f42.ntmps 0 [6, 7, 8, 10, 19, 20, 21, 40, 41, 42] bRankI (iRank n cx cy ux uy r i j)).run =
 (Tr.br (decide (j < i)) (.br (ix (j) ((i.toNat : Int))) (.br (!decide (rcmp (ux * cy j.toNat - uy * cx j.toNat) (0 : Rat) = 0)) (.br (ib (j + 1)) (.ok (.out .normal (LS.mk [.lst 6 (.fn n fun (i : Nat) => .agg [.q (cx i) 40001, .q (cy i) 40001]), .i .i64 0, .i .i64 2, .ptr 0 6 0 0 [], .lst 6 (.fn n fun (i : Nat) => .agg [.q (cx i) 40001, .q (cy i) 40001]), .i .i64 (n : Int), .i .i64 i, .lst 6 (.fn i.toNat fun (i : Nat) => .agg [.q (cx i) 40001, .q (cy i) 40001]), .i .i64 i, .i .i64 (j + 1)] [some (.mk 6 (.vals [.agg [.q ux 40001, .q uy 40001]]))]))) (.no 14002)) (.br (ib (j + 1)) (.ok (.out .normal (LS.mk [.lst 6 (.fn n fun (i : Nat) => .agg [.q (cx i) 40001, .q (cy i) 40001]), .i .i64 0, .i .i64 r, .ptr 0 6 0 0 [], .lst 6 (.fn n fun (i : Nat) => .agg [.q (cx i) 40001, .q (cy i) 40001]), .i .i64 (n : Int), .i .i64 i, .lst 6 (.fn i.toNat fun (i : Nat) => .agg [.q (cx i) 40001, .q (cy i) 40001]), .i .i64 i, .i .i64 (j + 1)] [some (.mk 6 (.vals [.agg [.q ux 40001, .q uy 40001]]))]))) (.no 14002))) (.no 11004)) (.ok (.out (.exit 2) (LS.mk [.lst 6 (.fn n fun (i : Nat) => .agg [.q (cx i) 40001, .q (cy i) 40001]), .i .i64 0, .i .i64 r, .ptr 0 6 0 0 [], .lst 6 (.fn n fun (i : Nat) => .agg [.q (cx i) 40001, .q (cy i) 40001]), .i .i64 (n : Int), .i .i64 i, .lst 6 (.fn i.toNat fun (i : Nat) => .agg [.q (cx i) 40001, .q (cy i) 40001]), .i .i64 i, .i .i64 j] [some (.mk 6 (.vals [.agg [.q ux 40001, .q uy 40001]]))])))).run := by kernel_rfl
def lRankI (n : Nat) (cx cy : Nat -> Rat) (F : Int -> Int) (i : Int) : qy := fun ls K => match ls with
 | ⟨[_, _, .i .i64 r, _, _, _, _, _, _, _], _⟩ => .br (qh (isLS (iRank n cx cy (cx i.toNat) (cy i.toNat) r i 0) ls)) (K (.exit 2) (iRank n cx cy (cx i.toNat) (cy i.toNat) (F r) i i)) (.no 1)
 | _ => .no 1
theorem tRank (n : Nat) (cx cy : Nat -> Rat) (r i : Int) (F : Int -> Int) : (qg Tryd.prog RRank [(9, lRankI n cx cy F i)] polRank Tryd.f42.ntmps 0 [6, 7, 8, 19, 20, 21] bRank (oRank n cx cy r i)).run =
 (Tr.br (decide (i < (n : Int))) (.br (ix (i) ((n : Int))) (.br (!decide (rcmp (cx i.toNat) (0 : Rat) = 0)) (.br (decide ((0 : Int) <= i) && decide (i <= (n : Int))) (.br (qh (isLS (LS.mk [.lst 6 (.fn n fun (i : Nat) => .agg [.q (cx i) 40001, .q (cy i) 40001]), .i .i64 0, .i .i64 (if (1 : Int) > r then (1 : Int) else r), .ptr 0 6 0 0 [], .lst 6 (.fn n fun (i : Nat) => .agg [.q (cx i) 40001, .q (cy i) 40001]), .i .i64 (n : Int), .i .i64 i, .lst 6 (.fn i.toNat fun (i : Nat) => .agg [.q (cx i) 40001, .q (cy i) 40001]), .i .i64 i, .i .i64 0] [some (.mk 6 (.vals [.agg [.q (cx i.toNat) 40001, .q (cy i.toNat) 40001]]))]) (LS.mk [.lst 6 (.fn n fun (i : Nat) => .agg [.q (cx i) 40001, .q (cy i) 40001]), .i .i64 0, .i .i64 (if (1 : Int) > r then (1 : Int) else r), .ptr 0 6 0 0 [], .lst 6 (.fn n fun (i : Nat) => .agg [.q (cx i) 40001, .q (cy i) 40001]), .i .i64 (n : Int), .i .i64 i, .lst 6 (.fn (i.toNat - 0) fun (j : Nat) => .agg [.q (cx (j + 0)) 40001, .q (cy (j + 0)) 40001]), .i .i64 (↑(i.toNat - 0) : Int), .i .i64 0] [some (.mk 6 (.vals [.agg [.q (cx i.toNat) 40001, .q (cy i.toNat) 40001]]))]))) (.br (ib (i + 1)) (.ok (.out .normal (LS.mk [.lst 6 (.fn n fun (i : Nat) => .agg [.q (cx i) 40001, .q (cy i) 40001]), .i .i64 0, .i .i64 (F (if (1 : Int) > r then (1 : Int) else r)), .lst 6 (.fn n fun (i : Nat) => .agg [.q (cx i) 40001, .q (cy i) 40001]), .i .i64 (n : Int), .i .i64 (i + 1)] []))) (.no 15002)) (.no 1)) (.no 9003)) (.br (!decide (rcmp (cy i.toNat) (0 : Rat) = 0)) (.br (decide ((0 : Int) <= i) && decide (i <= (n : Int))) (.br (qh (isLS (LS.mk [.lst 6 (.fn n fun (i : Nat) => .agg [.q (cx i) 40001, .q (cy i) 40001]), .i .i64 0, .i .i64 (if (1 : Int) > r then (1 : Int) else r), .ptr 0 6 0 0 [], .lst 6 (.fn n fun (i : Nat) => .agg [.q (cx i) 40001, .q (cy i) 40001]), .i .i64 (n : Int), .i .i64 i, .lst 6 (.fn i.toNat fun (i : Nat) => .agg [.q (cx i) 40001, .q (cy i) 40001]), .i .i64 i, .i .i64 0] [some (.mk 6 (.vals [.agg [.q (cx i.toNat) 40001, .q (cy i.toNat) 40001]]))]) (LS.mk [.lst 6 (.fn n fun (i : Nat) => .agg [.q (cx i) 40001, .q (cy i) 40001]), .i .i64 0, .i .i64 (if (1 : Int) > r then (1 : Int) else r), .ptr 0 6 0 0 [], .lst 6 (.fn n fun (i : Nat) => .agg [.q (cx i) 40001, .q (cy i) 40001]), .i .i64 (n : Int), .i .i64 i, .lst 6 (.fn (i.toNat - 0) fun (j : Nat) => .agg [.q (cx (j + 0)) 40001, .q (cy (j + 0)) 40001]), .i .i64 (↑(i.toNat - 0) : Int), .i .i64 0] [some (.mk 6 (.vals [.agg [.q (cx i.toNat) 40001, .q (cy i.toNat) 40001]]))]))) (.br (ib (i + 1)) (.ok (.out .normal (LS.mk [.lst 6 (.fn n fun (i : Nat) => .agg [.q (cx i) 40001, .q (cy i) 40001]), .i .i64 0, .i .i64 (F (if (1 : Int) > r then (1 : Int) else r)), .lst 6 (.fn n fun (i : Nat) => .agg [.q (cx i) 40001, .q (cy i) 40001]), .i .i64 (n : Int), .i .i64 (i + 1)] []))) (.no 15002)) (.no 1)) (.no 9003)) (.br (decide ((0 : Int) <= i) && decide (i <= (n : Int))) (.br (qh (isLS (LS.mk [.lst 6 (.fn n fun (i : Nat) => .agg [.q (cx i) 40001, .q (cy i) 40001]), .i .i64 0, .i .i64 r, .ptr 0 6 0 0 [], .lst 6 (.fn n fun (i : Nat) => .agg [.q (cx i) 40001, .q (cy i) 40001]), .i .i64 (n : Int), .i .i64 i, .lst 6 (.fn i.toNat fun (i : Nat) => .agg [.q (cx i) 40001, .q (cy i) 40001]), .i .i64 i, .i .i64 0] [some (.mk 6 (.vals [.agg [.q (cx i.toNat) 40001, .q (cy i.toNat) 40001]]))]) (LS.mk [.lst 6 (.fn n fun (i : Nat) => .agg [.q (cx i) 40001, .q (cy i) 40001]), .i .i64 0, .i .i64 r, .ptr 0 6 0 0 [], .lst 6 (.fn n fun (i : Nat) => .agg [.q (cx i) 40001, .q (cy i) 40001]), .i .i64 (n : Int), .i .i64 i, .lst 6 (.fn (i.toNat - 0) fun (j : Nat) => .agg [.q (cx (j + 0)) 40001, .q (cy (j + 0)) 40001]), .i .i64 (↑(i.toNat - 0) : Int), .i .i64 0] [some (.mk 6 (.vals [.agg [.q (cx i.toNat) 40001, .q (cy i.toNat) 40001]]))]))) (.br (ib (i + 1)) (.ok (.out .normal (LS.mk [.lst 6 (.fn n fun (i : Nat) => .agg [.q (cx i) 40001, .q (cy i) 40001]), .i .i64 0, .i .i64 (F r), .lst 6 (.fn n fun (i : Nat) => .agg [.q (cx i) 40001, .q (cy i) 40001]), .i .i64 (n : Int), .i .i64 (i + 1)] []))) (.no 15002)) (.no 1)) (.no 9003)))) (.no 6005)) (.ok (.out (.exit 0) (LS.mk [.lst 6 (.fn n fun (i : Nat) => .agg [.q (cx i) 40001, .q (cy i) 40001]), .i .i64 0, .i .i64 r, .lst 6 (.fn n fun (i : Nat) => .agg [.q (cx i) 40001, .q (cy i) 40001]), .i .i64 (n : Int), .i .i64 i] [])))).run := by kernel_rfl
def ORank (A : Am) (qs : List Rat) (n : Nat) (cx cy : Nat -> Rat) : Orc := [(31, g26), (84, g97), (85, cst [qu A, .lst 3 (.rats 64 qs)] True (.tup [.fr 6 (colC n cx cy), .i .i64 0]))]
theorem eRank (A : Am) (qs : List Rat) (n : Nat) (cx cy : Nat -> Rat) (r : Int) : (evF Tryd.prog (ORank A qs n cx cy) [(4, lcst (oRank n cx cy 0 0) (.exit 0) (oRank n cx cy r n))] polRank Tryd.f42 [qu A, .lst 3 (.rats 64 qs)] [] qm).run =
 (Tr.br (qh (isA [qu A, .lst 3 (.rats 64 qs)] True [qu A, .lst 3 (.rats 64 qs)])) (.br (((0 : Nat) + n).ble n) (.br (qh (isLS (LS.mk [.lst 6 (.fn n fun (i : Nat) => .agg [.q (cx i) 40001, .q (cy i) 40001]), .i .i64 0, .i .i64 0, .lst 6 (.fn n fun (i : Nat) => .agg [.q (cx i) 40001, .q (cy i) 40001]), .i .i64 (n : Int), .i .i64 0] []) (LS.mk [.lst 6 (.fn n fun (j : Nat) => .agg [.q (cx (j + 0)) 40001, .q (cy (j + 0)) 40001]), .i .i64 0, .i .i64 0, .lst 6 (.fn n fun (j : Nat) => .agg [.q (cx (j + 0)) 40001, .q (cy (j + 0)) 40001]), .i .i64 (n : Int), .i .i64 0] []))) (.ok (.ret (.tup [.i .i64 r, .i .i64 0]) [])) (.no 1)) (.no 2006)) (.no 1)).run := by kernel_rfl
def crR (cx cy : Nat -> Rat) (i j : Nat) : Rat := cx i * cy j - cy i * cx j
def rkJ (cx cy : Nat -> Rat) (i : Nat) (r : Int) : Nat -> Int
 | 0 => r
 | j + 1 => if crR cx cy i j = 0 then rkJ cx cy i r j else 2
def rk1 (cx cy : Nat -> Rat) (i : Nat) (r : Int) : Int := if cx i = 0 /\ cy i = 0 then r else if (1 : Int) > r then (1 : Int) else r
def rkI (cx cy : Nat -> Rat) : Nat -> Int
 | 0 => 0
 | i + 1 => rkJ cx cy i (rk1 cx cy i (rkI cx cy i)) i
include hG in
theorem orcRank (hT : qD G) : OrcOK Tryd.prog G RRank := .cons (gk26 hG hT) (.cons (gk97 hG hT) .nil)
include hG in
theorem goesRankI (hT : qD G) (n : Nat) (cx cy : Nat -> Rat) (r : Int) (i : Nat) (hi : i <= 3) :
  Goes (Rnd Tryd.prog G Tryd.f42.ntmps 0 [6, 7, 8, 10, 19, 20, 21, 40, 41, 42] bRankI) (iRank n cx cy (cx i) (cy i) r (i : Nat) 0) (.exit 2) (iRank n cx cy (cx i) (cy i) (rkJ cx cy i r i) (i : Nat) (i : Nat)) := by
 have w := Goes.count (R := Rnd Tryd.prog G Tryd.f42.ntmps 0 [6, 7, 8, 10, 19, 20, 21, 40, 41, 42] bRankI) (fun j => iRank n cx cy (cx i) (cy i) (rkJ cx cy i r j) (i : Nat) ((j : Nat) : Int)) (e := .exit 2) (ls' := iRank n cx cy (cx i) (cy i) (rkJ cx cy i r i) (i : Nat) (i : Nat)) (by simp) i 0
  (fun j _ hj => by
   refine qb hG (orcRank hG hT) mix (L := []) (pol := polRank) (O := RRank) (LpsOK.none (by kernel_rfl)) (by simp [iRank]) ?_
   rw [tRankI, Int.toNat_natCast, Int.toNat_natCast]
   by_cases hc : crR cx cy i j = 0
   ·have hk : rkJ cx cy i r (j + 1) = rkJ cx cy i r j := by
     show (if crR cx cy i j = 0 then _ else _) = _
     rw [if_pos hc]
    have h0 : (!decide (rcmp (cx i * cy j - cy i * cx j) (0 : Rat) = (0 : Int))) = false := by
     rw [Bool.not_eq_false', decide_eq_true_eq]; exact rcmp_eq.2 hc
    rw [hk]
    repeat first | rw [Tr.run_t (by first | (simp only [Bool.and_eq_true, Bool.or_eq_true, decide_eq_true_eq, Nat.ble_eq, Nat.blt_eq, List.length_cons, List.length_nil, Bool.not_eq_true', decide_eq_false_iff_not]; omega) | exact h0 | exact decP_iff.2 ⟨rfl, trivial⟩ | exact decP_iff.2 rfl | exact decide_eq_true rfl | decide)] | rw [Tr.run_f (by first | (simp only [Bool.and_eq_false_iff, Bool.not_eq_false', decide_eq_true_eq, decide_eq_false_iff_not]; omega) | exact h0 | exact congrArg (!·) (decide_eq_true rfl) | decide)]
    rw [Tr.run_ok]
    rfl
   ·have hk : rkJ cx cy i r (j + 1) = 2 := by
     show (if crR cx cy i j = 0 then _ else _) = _
     rw [if_neg hc]
    have h0 : (!decide (rcmp (cx i * cy j - cy i * cx j) (0 : Rat) = (0 : Int))) = true := by
     rw [Bool.not_eq_true', decide_eq_false_iff_not]; exact fun h => hc (rcmp_eq.1 h)
    rw [hk]
    repeat first | rw [Tr.run_t (by first | (simp only [Bool.and_eq_true, Bool.or_eq_true, decide_eq_true_eq, Nat.ble_eq, Nat.blt_eq, List.length_cons, List.length_nil, Bool.not_eq_true', decide_eq_false_iff_not]; omega) | exact h0 | exact decP_iff.2 ⟨rfl, trivial⟩ | exact decP_iff.2 rfl | exact decide_eq_true rfl | decide)] | rw [Tr.run_f (by first | (simp only [Bool.and_eq_false_iff, Bool.not_eq_false', decide_eq_true_eq, decide_eq_false_iff_not]; omega) | exact h0 | exact congrArg (!·) (decide_eq_true rfl) | decide)]
    rw [Tr.run_ok]
    rfl)
  (by
   refine qb hG (orcRank hG hT) mix (L := []) (pol := polRank) (O := RRank) (LpsOK.none (by kernel_rfl)) (by simp [iRank]) ?_
   rw [tRankI, Nat.zero_add, Int.toNat_natCast, Tr.run_f (decide_eq_false (by omega)), Tr.run_ok]
   rfl)
 exact w
include hG in
theorem lRankI_ok (hT : qD G) (n : Nat) (cx cy : Nat -> Rat) (i : Nat) (hi : i <= 3) : qv Tryd.prog G Tryd.f42.ntmps 0 [6, 7, 8, 10, 19, 20, 21, 40, 41, 42] bRankI (lRankI n cx cy (fun r => rkJ cx cy i r i) (i : Nat)) := by
 intro ls K x hm h
 unfold lRankI at h
 split at h
 case h_2 => cases h
 obtain ⟨hc, hr⟩ := Tr.of_br h
 have hl := decP_iff.1 hc
 unfold isLS at hl
 rw [Int.toNat_natCast] at hl hr
 rw [hl]
 exact ⟨_, _, qo (goesRankI hG hT n cx cy _ i hi), hr⟩
include hG in
theorem goesRank (hT : qD G) (n : Nat) (hn : n <= 3) (cx cy : Nat -> Rat) :
  Goes (Rnd Tryd.prog G Tryd.f42.ntmps 0 [6, 7, 8, 19, 20, 21] bRank) (oRank n cx cy 0 0) (.exit 0) (oRank n cx cy (rkI cx cy n) n) := by
 have w := Goes.count (R := Rnd Tryd.prog G Tryd.f42.ntmps 0 [6, 7, 8, 19, 20, 21] bRank) (fun i => oRank n cx cy (rkI cx cy i) ((i : Nat) : Int)) (e := .exit 0) (ls' := oRank n cx cy (rkI cx cy n) n) (by simp) n 0
  (fun i _ hi => by
   refine qb hG (orcRank hG hT) mix (L := [(9, lRankI n cx cy (fun r => rkJ cx cy i r i) (i : Nat))]) (pol := polRank) (O := RRank) (lps1 (b := bRankI) (live := [6, 7, 8, 10, 19, 20, 21, 40, 41, 42]) (by kernel_rfl) (by kernel_rfl) (by kernel_rfl) (lRankI_ok hG hT n cx cy i (by omega))) (by simp [oRank]) ?_
   rw [tRank, Int.toNat_natCast]
   show _ = some (Res.out .normal (oRank n cx cy (rkJ cx cy i (rk1 cx cy i (rkI cx cy i)) i) ((i + 1 : Nat) : Int)))
   by_cases hx : cx i = 0
   ·have h0 : (!decide (rcmp (cx i) (0 : Rat) = (0 : Int))) = false := by
     rw [Bool.not_eq_false', decide_eq_true_eq]; exact rcmp_eq.2 hx
    by_cases hy : cy i = 0
    ·have h1 : (!decide (rcmp (cy i) (0 : Rat) = (0 : Int))) = false := by
      rw [Bool.not_eq_false', decide_eq_true_eq]; exact rcmp_eq.2 hy
     rw [show rk1 cx cy i (rkI cx cy i) = rkI cx cy i by unfold rk1; rw [if_pos ⟨hx, hy⟩]]
     repeat first | rw [Tr.run_t (by first | (simp only [Bool.and_eq_true, Bool.or_eq_true, decide_eq_true_eq, Nat.ble_eq, Nat.blt_eq, List.length_cons, List.length_nil, Bool.not_eq_true', decide_eq_false_iff_not]; omega) | exact h0 | exact h1 | exact decP_iff.2 ⟨rfl, trivial⟩ | exact decP_iff.2 rfl | exact decide_eq_true rfl | decide)] | rw [Tr.run_f (by first | (simp only [Bool.and_eq_false_iff, Bool.not_eq_false', decide_eq_true_eq, decide_eq_false_iff_not]; omega) | exact h0 | exact h1 | exact congrArg (!·) (decide_eq_true rfl) | decide)]
     rw [Tr.run_ok]
     rfl
    ·have h1 : (!decide (rcmp (cy i) (0 : Rat) = (0 : Int))) = true := by
      rw [Bool.not_eq_true', decide_eq_false_iff_not]; exact fun h => hy (rcmp_eq.1 h)
     rw [show rk1 cx cy i (rkI cx cy i) = (if (1 : Int) > rkI cx cy i then (1 : Int) else rkI cx cy i) by unfold rk1; rw [if_neg (fun h => hy h.2)]]
     repeat first | rw [Tr.run_t (by first | (simp only [Bool.and_eq_true, Bool.or_eq_true, decide_eq_true_eq, Nat.ble_eq, Nat.blt_eq, List.length_cons, List.length_nil, Bool.not_eq_true', decide_eq_false_iff_not]; omega) | exact h0 | exact h1 | exact decP_iff.2 ⟨rfl, trivial⟩ | exact decP_iff.2 rfl | exact decide_eq_true rfl | decide)] | rw [Tr.run_f (by first | (simp only [Bool.and_eq_false_iff, Bool.not_eq_false', decide_eq_true_eq, decide_eq_false_iff_not]; omega) | exact h0 | exact h1 | exact congrArg (!·) (decide_eq_true rfl) | decide)]
     rw [Tr.run_ok]
     rfl
   ·have h0 : (!decide (rcmp (cx i) (0 : Rat) = (0 : Int))) = true := by
     rw [Bool.not_eq_true', decide_eq_false_iff_not]; exact fun h => hx (rcmp_eq.1 h)
    rw [show rk1 cx cy i (rkI cx cy i) = (if (1 : Int) > rkI cx cy i then (1 : Int) else rkI cx cy i) by unfold rk1; rw [if_neg (fun h => hx h.1)]]
    repeat first | rw [Tr.run_t (by first | (simp only [Bool.and_eq_true, Bool.or_eq_true, decide_eq_true_eq, Nat.ble_eq, Nat.blt_eq, List.length_cons, List.length_nil, Bool.not_eq_true', decide_eq_false_iff_not]; omega) | exact h0 | exact decP_iff.2 ⟨rfl, trivial⟩ | exact decP_iff.2 rfl | exact decide_eq_true rfl | decide)] | rw [Tr.run_f (by first | (simp only [Bool.and_eq_false_iff, Bool.not_eq_false', decide_eq_true_eq, decide_eq_false_iff_not]; omega) | exact h0 | exact congrArg (!·) (decide_eq_true rfl) | decide)]
    rw [Tr.run_ok]
    rfl)
  (by
   refine qb hG (orcRank hG hT) mix (L := [(9, lRankI n cx cy (fun r => rkJ cx cy n r n) (n : Nat))]) (pol := polRank) (O := RRank) (lps1 (b := bRankI) (live := [6, 7, 8, 10, 19, 20, 21, 40, 41, 42]) (by kernel_rfl) (by kernel_rfl) (by kernel_rfl) (lRankI_ok hG hT n cx cy n hn)) (by simp [oRank]) ?_
   rw [Nat.zero_add, tRank, Tr.run_f (decide_eq_false (by omega)), Tr.run_ok]
   rfl)
 exact w
include hG in
theorem pcRank (hT : qD G) (A : Am) (hA : armB A = true) (qs : List Rat) (hq : qs.length = A.n) :
  PC Tryd.prog G 42 [qu A, .lst 3 (.rats 64 qs)] [] (.tup [.i .i64 (rkI (colX (allF (bsF A) (qf qs) (fun j => (A.lk j).len) A.n) A.n) (colY (allF (bsF A) (qf qs) (fun j => (A.lk j).len) A.n) A.n) A.n), .i .i64 0]) [] := by
 have p := pc102 hG hT A hA qs hq
 have h6 := (armB_c hA).2.2.2.2.2.1
 generalize colX (allF (bsF A) (qf qs) (fun j => (A.lk j).len) A.n) A.n = cx at *
 generalize colY (allF (bsF A) (qf qs) (fun j => (A.lk j).len) A.n) A.n = cy at *
 refine qn hG (.cons (gk26 hG hT) (.cons (gk97 hG hT) (.cons (cst_t p) .nil))) mix enterRank (L := [(4, lcst (oRank A.n cx cy 0 0) (.exit 0) (oRank A.n cx cy (rkI cx cy A.n) A.n))]) (pol := polRank) (lps1n (b := bRank) (b' := bRankI) (live := [6, 7, 8, 19, 20, 21]) (m := 0) (by kernel_rfl) (by kernel_rfl) (by kernel_rfl) (by kernel_rfl) (lcst_ok (goesRank hG hT A.n h6 cx cy))) ?_
 refine (eRank A qs A.n cx cy _).trans ?_
 repeat first | rw [Tr.run_t (by first | (simp only [Bool.and_eq_true, Bool.or_eq_true, decide_eq_true_eq, Nat.ble_eq, Nat.blt_eq, List.length_cons, List.length_nil, Bool.not_eq_true', decide_eq_false_iff_not]; omega) | exact decP_iff.2 ⟨rfl, trivial⟩ | exact decP_iff.2 rfl | exact decide_eq_true rfl | decide)] | rw [Tr.run_f (by first | (simp only [Bool.and_eq_false_iff, Bool.not_eq_false', decide_eq_true_eq, decide_eq_false_iff_not]; omega) | exact congrArg (!·) (decide_eq_true rfl) | decide)]
 rw [Tr.run_ok]
end Go.Proofs.YtnenjkgffapplaaDoor.PE
namespace Go.Proofs.YtnenjkgffapplaaDoor.PE
open Go
set_option maxRecDepth 100000
structure NulP (cx cy : Nat -> Rat) (n : Nat) (ws : List Rat) : Prop where
 len : ws.length = n
 sx : sumR (fun i => cx i * ws.getD i 0) n = 0
 sy : sumR (fun i => cy i * ws.getD i 0) n = 0
 nz : ∃ i, i < n /\ ws.getD i 0 ≠ 0
 rk : rkI cx cy n < n
end Go.Proofs.YtnenjkgffapplaaDoor.PE
namespace Go.Proofs.YtnenjkgffapplaaDoor.PE
open Go
set_option maxRecDepth 100000
variable {G : World -> (Nat -> Prop) -> Prop} (hG : GOk G)
theorem ArgsLe.ofL : ∀ {us vs : List PV}, VLeL us vs -> ArgsLe us vs
 | [], [], _ => .nil
 | [], v :: vs, h => by have := h.1; simp at this
 | u :: us, [], h => by have := h.1; simp at this
 | u :: us, v :: vs, h => .cons (h.2 0 u v rfl rfl) (ArgsLe.ofL ⟨by have := h.1; simpa using this, fun j a b e1 e2 => h.2 (j + 1) a b e1 e2⟩)
theorem VLe.tup {us vs : List PV} (h : VLeL us vs) : VLe (.tup us) (.tup vs) := by
 refine ⟨rfl, fun w S μ => ⟨fun cs hc => (by cases hc), fun x hx => ?_⟩⟩
 cases hx with
 | cell _ _ _ _ hc => cases hc
 | agg _ _ _ hv _ => cases hv
 | tup _ _ xs hl => exact .tup _ _ _ (ArgsLe.ofL h w S μ xs hl)
end Go.Proofs.YtnenjkgffapplaaDoor.PE
namespace Go.Proofs.YtnenjkgffapplaaDoor.PE
open Go
set_option maxRecDepth 100000
variable {G : World -> (Nat -> Prop) -> Prop} (hG : GOk G)
end Go.Proofs.YtnenjkgffapplaaDoor.PE
namespace Go.Proofs.YtnenjkgffapplaaDoor.PE
open Go
set_option maxRecDepth 100000
variable {G : World -> (Nat -> Prop) -> Prop} (hG : GOk G)
end Go.Proofs.YtnenjkgffapplaaDoor.PE
namespace Go.Proofs.YtnenjkgffapplaaDoor.PE
open Go
set_option maxRecDepth 100000
variable {G : World -> (Nat -> Prop) -> Prop} (hG : GOk G)
def i0 : Rat := ((0 : Int) : Rat)
def i1 : Rat := ((1 : Int) : Rat)
end Go.Proofs.YtnenjkgffapplaaDoor.PE
namespace Go.Proofs.YtnenjkgffapplaaDoor.PE
open Go
set_option maxRecDepth 100000
variable {G : World -> (Nat -> Prop) -> Prop} (hG : GOk G)
include hG in
theorem pArm (l : PV) (hl : okW l = true) : PC Tryd.prog G 13 [.w l] [] (armFr (armD l)) [] := by
 obtain ⟨r, hs', p, e⟩ := ok15 hG [.w l] [] (fun r hs' => .ok (.ret r hs')) (.ret (armFr (armD l)) []) (by show (Tr.br _ _ _).run = _; rw [Tr.run_t hl]; rfl)
 cases e
 exact p
include hG in
theorem pConf (A : Am) (hA : armB A = true) (hX : limX A = true) (m : PV) (hm : okW m = true) : PC Tryd.prog G 30 [qu A, .w m] [] (.fr 3 (.rats 64 (cfL A.lk m A.n))) [] := by
 obtain ⟨r, hs', p, e⟩ := ok33 hG [qu A, .w m] [] (fun r hs' => .ok (.ret r hs')) (.ret (.fr 3 (.rats 64 (cfL A.lk m A.n))) []) (by
  show (Tr.br _ _ _).run = _
  rw [Tr.run_t (decP_iff.2 ⟨okA_arm hA, hX, hm⟩)]; rfl)
 cases e
 exact p
end Go.Proofs.YtnenjkgffapplaaDoor.PE
namespace Go.Proofs.YtnenjkgffapplaaDoor.PE
open Go
set_option maxRecDepth 100000
variable {G : World -> (Nat -> Prop) -> Prop} (hG : GOk G)
theorem enCk : Enters Tryd.prog 76 Tryd.f76 (qe Tryd.f76) := ⟨Tryd.func76, by kernel_rfl, rfl⟩
theorem eCk (n : Nat) (f : Nat -> PV) : (evF Tryd.prog [] [] { own := [5] } Tryd.f76 [.lst 16 (.fn n f)] [] qm).run =
 (Tr.br (((0 : Nat) + n).ble 4294967296) (.br (((0 : Nat) + n).ble ((0 : Nat) + n)) (.ok (.ret (.fr 16 (.fn ((0 : Nat) + n) fun (j : Nat) => match (j + 0).blt (0 : Nat) with | true => (Cont.vals (List.take (0 : Nat) (List.drop (0 : Nat) []))).get (j + 0) | false => (Cont.fn n f).get (j + 0 - 0))) [])) (.no 15)) (.no 4002)).run := by kernel_rfl
theorem enTw : Enters Tryd.prog 29 Tryd.f29 (qe Tryd.f29) := ⟨Tryd.func29, by kernel_rfl, rfl⟩
def vAr2 (P : PV -> Prop) (AF : PV -> Am) : Spec := fun args hs K => match args, hs with
 | [.lst 1 (.ints .i64 xs)], [] => .br (qh (P (.lst 1 (.ints .i64 xs)))) (K (armFr (AF (.lst 1 (.ints .i64 xs)))) []) (.no 1)
 | [.nil], [] => .br (qh (P .nil)) (K (armFr (AF .nil)) []) (.no 1)
 | _, _ => .no 1
def vCk : Spec := fun args hs K => match args, hs with
 | [.lst 16 (.fn n f)], [] => .br (Nat.ble 1 n && Nat.ble n 3) (K (.fr 16 (.fn n f)) []) (.no 1)
 | _, _ => .no 1
theorem eTwL (xs : List Int) (P : PV -> Prop) (AF : PV -> Am) : (evF Tryd.prog [(13, vAr2 P AF), (76, vCk)] [] { own := [7, 13] } Tryd.f29 [.lst 1 (.ints .i64 xs)] [] qm).run =
 (Tr.br (qh (P (.lst (1 : Nat) (Cont.ints .i64 xs)))) (.br (((0 : Nat) + (AF (.lst (1 : Nat) (Cont.ints .i64 xs))).n).ble (AF (.lst (1 : Nat) (Cont.ints .i64 xs))).n) (.br (Nat.ble 3 (3 : Nat) && ((3 : Nat) + xs.length).ble 4294967296) (.br (((0 : Nat) + ((3 : Nat) + xs.length)).ble (List.take (3 : Nat) (List.drop (0 : Nat) [(0 : Int), (0 : Int), (2 : Int)]) ++ xs).length) (.br (qh (P (.lst (1 : Nat) (Cont.ints .i64 (List.take ((3 : Nat) + xs.length) (List.drop (0 : Nat) (List.take (3 : Nat) (List.drop (0 : Nat) [(0 : Int), (0 : Int), (2 : Int)]) ++ xs))))))) (.br (((0 : Nat) + (AF (.lst (1 : Nat) (Cont.ints .i64 (List.take ((3 : Nat) + xs.length) (List.drop (0 : Nat) (List.take (3 : Nat) (List.drop (0 : Nat) [(0 : Int), (0 : Int), (2 : Int)]) ++ xs)))))).n).ble (AF (.lst (1 : Nat) (Cont.ints .i64 (List.take ((3 : Nat) + xs.length) (List.drop (0 : Nat) (List.take (3 : Nat) (List.drop (0 : Nat) [(0 : Int), (0 : Int), (2 : Int)]) ++ xs)))))).n) (.br (Nat.ble 1 (AF (.lst (1 : Nat) (Cont.ints .i64 xs))).n && (AF (.lst (1 : Nat) (Cont.ints .i64 xs))).n.ble 3) (.br ((AF (.lst (1 : Nat) (Cont.ints .i64 xs))).n.ble (AF (.lst (1 : Nat) (Cont.ints .i64 xs))).n && ((AF (.lst (1 : Nat) (Cont.ints .i64 xs))).n + (AF (.lst (1 : Nat) (Cont.ints .i64 (List.take ((3 : Nat) + xs.length) (List.drop (0 : Nat) (List.take (3 : Nat) (List.drop (0 : Nat) [(0 : Int), (0 : Int), (2 : Int)]) ++ xs)))))).n).ble 4294967296) (.br (decide ((0 : Int) <= 2) && decide ((2 : Int) <= (↑((AF (.lst (1 : Nat) (Cont.ints .i64 xs))).n + (AF (.lst (1 : Nat) (Cont.ints .i64 (List.take ((3 : Nat) + xs.length) (List.drop (0 : Nat) (List.take (3 : Nat) (List.drop (0 : Nat) [(0 : Int), (0 : Int), (2 : Int)]) ++ xs)))))).n) : Int))) (.br (Nat.ble 2 ((AF (.lst (1 : Nat) (Cont.ints .i64 xs))).n + (AF (.lst (1 : Nat) (Cont.ints .i64 (List.take ((3 : Nat) + xs.length) (List.drop (0 : Nat) (List.take (3 : Nat) (List.drop (0 : Nat) [(0 : Int), (0 : Int), (2 : Int)]) ++ xs)))))).n)) (.ok (.ret (.agg [.s (AF (.lst (1 : Nat) (Cont.ints .i64 xs))).name, .agg [.agg [.q (AF (.lst (1 : Nat) (Cont.ints .i64 xs))).bx 64, .q (AF (.lst (1 : Nat) (Cont.ints .i64 xs))).by_ 64], .agg [.bl false, .q (AF (.lst (1 : Nat) (Cont.ints .i64 xs))).t 64]], .fr 16 (.fn 2 fun (j : Nat) => match (j + 0).blt (Cont.cut (0 : Nat) (Cont.fn (Cont.fn (AF (.lst (1 : Nat) (Cont.ints .i64 xs))).n fun (j : Nat) => lkPV ((AF (.lst (1 : Nat) (Cont.ints .i64 xs))).lk j)).len fun (j : Nat) => lkPV ((AF (.lst (1 : Nat) (Cont.ints .i64 xs))).lk (j + 0))).len (Blk.mk (16 : Nat) (Cont.fn (Cont.fn (AF (.lst (1 : Nat) (Cont.ints .i64 xs))).n fun (j : Nat) => lkPV ((AF (.lst (1 : Nat) (Cont.ints .i64 xs))).lk j)).len fun (j : Nat) => lkPV ((AF (.lst (1 : Nat) (Cont.ints .i64 xs))).lk (j + 0)))).c).len with | true => (Cont.cut (0 : Nat) (Cont.fn (Cont.fn (AF (.lst (1 : Nat) (Cont.ints .i64 xs))).n fun (j : Nat) => lkPV ((AF (.lst (1 : Nat) (Cont.ints .i64 xs))).lk j)).len fun (j : Nat) => lkPV ((AF (.lst (1 : Nat) (Cont.ints .i64 xs))).lk (j + 0))).len (Blk.mk (16 : Nat) (Cont.fn (Cont.fn (AF (.lst (1 : Nat) (Cont.ints .i64 xs))).n fun (j : Nat) => lkPV ((AF (.lst (1 : Nat) (Cont.ints .i64 xs))).lk j)).len fun (j : Nat) => lkPV ((AF (.lst (1 : Nat) (Cont.ints .i64 xs))).lk (j + 0)))).c).get (j + 0) | false => (Cont.cut (0 : Nat) (Cont.fn (AF (.lst (1 : Nat) (Cont.ints .i64 (List.take ((3 : Nat) + (Cont.ints .i64 xs).len) (List.drop (0 : Nat) (List.take (3 : Nat) (List.drop (0 : Nat) [(0 : Int), (0 : Int), (2 : Int)]) ++ xs)))))).n fun (j : Nat) => lkPV ((AF (.lst (1 : Nat) (Cont.ints .i64 (List.take ((3 : Nat) + (Cont.ints .i64 xs).len) (List.drop (0 : Nat) (List.take (3 : Nat) (List.drop (0 : Nat) [(0 : Int), (0 : Int), (2 : Int)]) ++ xs)))))).lk j)).len (Blk.mk (16 : Nat) (Cont.fn (AF (.lst (1 : Nat) (Cont.ints .i64 (List.take ((3 : Nat) + (Cont.ints .i64 xs).len) (List.drop (0 : Nat) (List.take (3 : Nat) (List.drop (0 : Nat) [(0 : Int), (0 : Int), (2 : Int)]) ++ xs)))))).n fun (j : Nat) => lkPV ((AF (.lst (1 : Nat) (Cont.ints .i64 (List.take ((3 : Nat) + (Cont.ints .i64 xs).len) (List.drop (0 : Nat) (List.take (3 : Nat) (List.drop (0 : Nat) [(0 : Int), (0 : Int), (2 : Int)]) ++ xs)))))).lk j))).c).get (j + 0 - (Cont.cut (0 : Nat) (Cont.fn (Cont.fn (AF (.lst (1 : Nat) (Cont.ints .i64 xs))).n fun (j : Nat) => lkPV ((AF (.lst (1 : Nat) (Cont.ints .i64 xs))).lk j)).len fun (j : Nat) => lkPV ((AF (.lst (1 : Nat) (Cont.ints .i64 xs))).lk (j + 0))).len (Blk.mk (16 : Nat) (Cont.fn (Cont.fn (AF (.lst (1 : Nat) (Cont.ints .i64 xs))).n fun (j : Nat) => lkPV ((AF (.lst (1 : Nat) (Cont.ints .i64 xs))).lk j)).len fun (j : Nat) => lkPV ((AF (.lst (1 : Nat) (Cont.ints .i64 xs))).lk (j + 0)))).c).len))]) [])) (.no 15)) (.no 4003)) (.no 4004)) (.no 1)) (.no 3003)) (.no 1)) (.no 3003)) (.no 3004)) (.no 2003)) (.no 1)).run := by kernel_rfl
theorem eTwN (P : PV -> Prop) (AF : PV -> Am) : (evF Tryd.prog [(13, vAr2 P AF), (76, vCk)] [] { own := [7, 13] } Tryd.f29 [.nil] [] qm).run =
 (Tr.br (qh (P .nil)) (.br (((0 : Nat) + (AF .nil).n).ble (AF .nil).n) (.br (qh (P (.lst (1 : Nat) (Cont.ints .i64 (List.take (3 : Nat) (List.drop (0 : Nat) (List.take (3 : Nat) (List.drop (0 : Nat) [(0 : Int), (0 : Int), (2 : Int)])))))))) (.br (((0 : Nat) + (AF (.lst (1 : Nat) (Cont.ints .i64 (List.take (3 : Nat) (List.drop (0 : Nat) (List.take (3 : Nat) (List.drop (0 : Nat) [(0 : Int), (0 : Int), (2 : Int)]))))))).n).ble (AF (.lst (1 : Nat) (Cont.ints .i64 (List.take (3 : Nat) (List.drop (0 : Nat) (List.take (3 : Nat) (List.drop (0 : Nat) [(0 : Int), (0 : Int), (2 : Int)]))))))).n) (.br (Nat.ble 1 (AF .nil).n && (AF .nil).n.ble 3) (.br ((AF .nil).n.ble (AF .nil).n && ((AF .nil).n + (AF (.lst (1 : Nat) (Cont.ints .i64 (List.take (3 : Nat) (List.drop (0 : Nat) (List.take (3 : Nat) (List.drop (0 : Nat) [(0 : Int), (0 : Int), (2 : Int)]))))))).n).ble 4294967296) (.br (decide ((0 : Int) <= 2) && decide ((2 : Int) <= (↑((AF .nil).n + (AF (.lst (1 : Nat) (Cont.ints .i64 (List.take (3 : Nat) (List.drop (0 : Nat) (List.take (3 : Nat) (List.drop (0 : Nat) [(0 : Int), (0 : Int), (2 : Int)]))))))).n) : Int))) (.br (Nat.ble 2 ((AF .nil).n + (AF (.lst (1 : Nat) (Cont.ints .i64 (List.take (3 : Nat) (List.drop (0 : Nat) (List.take (3 : Nat) (List.drop (0 : Nat) [(0 : Int), (0 : Int), (2 : Int)]))))))).n)) (.ok (.ret (.agg [.s (AF .nil).name, .agg [.agg [.q (AF .nil).bx 64, .q (AF .nil).by_ 64], .agg [.bl false, .q (AF .nil).t 64]], .fr 16 (.fn 2 fun (j : Nat) => match (j + 0).blt (Cont.cut (0 : Nat) (Cont.fn (Cont.fn (AF .nil).n fun (j : Nat) => lkPV ((AF .nil).lk j)).len fun (j : Nat) => lkPV ((AF .nil).lk (j + 0))).len (Blk.mk (16 : Nat) (Cont.fn (Cont.fn (AF .nil).n fun (j : Nat) => lkPV ((AF .nil).lk j)).len fun (j : Nat) => lkPV ((AF .nil).lk (j + 0)))).c).len with | true => (Cont.cut (0 : Nat) (Cont.fn (Cont.fn (AF .nil).n fun (j : Nat) => lkPV ((AF .nil).lk j)).len fun (j : Nat) => lkPV ((AF .nil).lk (j + 0))).len (Blk.mk (16 : Nat) (Cont.fn (Cont.fn (AF .nil).n fun (j : Nat) => lkPV ((AF .nil).lk j)).len fun (j : Nat) => lkPV ((AF .nil).lk (j + 0)))).c).get (j + 0) | false => (Cont.cut (0 : Nat) (Cont.fn (AF (.lst (1 : Nat) (Cont.ints .i64 (List.take (3 : Nat) (List.drop (0 : Nat) (List.take (3 : Nat) (List.drop (0 : Nat) [(0 : Int), (0 : Int), (2 : Int)]))))))).n fun (j : Nat) => lkPV ((AF (.lst (1 : Nat) (Cont.ints .i64 (List.take (3 : Nat) (List.drop (0 : Nat) (List.take (3 : Nat) (List.drop (0 : Nat) [(0 : Int), (0 : Int), (2 : Int)]))))))).lk j)).len (Blk.mk (16 : Nat) (Cont.fn (AF (.lst (1 : Nat) (Cont.ints .i64 (List.take (3 : Nat) (List.drop (0 : Nat) (List.take (3 : Nat) (List.drop (0 : Nat) [(0 : Int), (0 : Int), (2 : Int)]))))))).n fun (j : Nat) => lkPV ((AF (.lst (1 : Nat) (Cont.ints .i64 (List.take (3 : Nat) (List.drop (0 : Nat) (List.take (3 : Nat) (List.drop (0 : Nat) [(0 : Int), (0 : Int), (2 : Int)]))))))).lk j))).c).get (j + 0 - (Cont.cut (0 : Nat) (Cont.fn (Cont.fn (AF .nil).n fun (j : Nat) => lkPV ((AF .nil).lk j)).len fun (j : Nat) => lkPV ((AF .nil).lk (j + 0))).len (Blk.mk (16 : Nat) (Cont.fn (Cont.fn (AF .nil).n fun (j : Nat) => lkPV ((AF .nil).lk j)).len fun (j : Nat) => lkPV ((AF .nil).lk (j + 0)))).c).len))]) [])) (.no 15)) (.no 4003)) (.no 4004)) (.no 1)) (.no 3003)) (.no 1)) (.no 2003)) (.no 1)).run := by kernel_rfl
theorem rt3 (xs : List Int) : List.take (3 + xs.length) (List.drop 0 (List.take 3 (List.drop 0 [(0 : Int), 0, 2]) ++ xs)) = [0, 0, 2] ++ xs := by
 rw [List.drop_zero]
 exact List.take_of_length_le (by simp; omega)
def tw2 (A B : Am) : Am := ⟨A.name, A.bx, A.by_, A.t, 2, fun j => if j < A.n then A.lk j else B.lk (j - A.n)⟩
theorem fn_fr {e n : Nat} {f g : Nat -> PV} (h : ∀ i, i < n -> f i = g i) : KLe ⟨e, .fn n f⟩ ⟨e, .fn n g⟩ := by
 intro w S μ a z hb
 obtain ⟨c, T, cs, h1, h2, h3, h4, h5, h6⟩ := hb
 exact ⟨c, T, cs, h1, h2, h3, fun i hi => by have := h4 i hi; have e := h i hi; simp only [Cont.get] at this ⊢; rw [<- e]; exact this, h5, h6⟩
theorem rle_two {nm : ByteArray} {bx by_ t : Rat} {f g : Nat -> PV} (h : ∀ i, i < 2 -> f i = g i) : RLe (.agg [.s nm, .agg [.agg [.q bx 64, .q by_ 64], .agg [.bl false, .q t 64]], .fr 16 (.fn 2 f)]) (.agg [.s nm, .agg [.agg [.q bx 64, .q by_ 64], .agg [.bl false, .q t 64]], .fr 16 (.fn 2 g)]) :=
 ⟨fun m => .refl _, fun m => KsLe.one (fn_fr h)⟩
include hG in
theorem okCk : qc Tryd.prog G 76 vCk := by
 intro args hs K x h
 unfold vCk at h
 split at h
 case h_2 => cases h
 rename_i n f
 obtain ⟨hc, hr⟩ := Tr.of_br h
 simp only [Bool.and_eq_true, Nat.ble_eq] at hc
 refine ⟨_, _, (qn hG .nil mix enCk (pol := { own := [5] }) (L := []) (hs := []) (LpsOK.none (by kernel_rfl)) (hs' := []) ?_).le (r := .fr 16 (.fn n fun j => f (j + 0 - 0))) ?_ (.refl _), hr⟩
 ·refine (eCk n f).trans ?_
  simp only [Nat.zero_add]
  rw [Tr.run_t (by rw [Nat.ble_eq]; omega), Tr.run_t (by rw [Nat.ble_eq]; omega), Tr.run_ok]
  rfl
 ·exact ⟨fun m => .refl _, fun m => KsLe.one (fn_fr fun i _ => by simp)⟩
include hG in
theorem okAr2 {AF : PV -> Am} (hp : ∀ v, okW v = true -> PC Tryd.prog G 13 [.w v] [] (armFr (AF v)) []) : qc Tryd.prog G 13 (vAr2 (fun v => okW v = true) AF) := by
 intro args hs K x h
 unfold vAr2 at h
 split at h
 case h_3 => cases h
 ·rename_i xs
  obtain ⟨hc, hr⟩ := Tr.of_br h
  have hw := decP_iff.1 hc
  exact ⟨_, _, PC.args (.cons (vle_w_in hw) .nil) (hp _ hw), hr⟩
 ·obtain ⟨hc, hr⟩ := Tr.of_br h
  have hw := decP_iff.1 hc
  exact ⟨_, _, PC.args (.cons (vle_w_in hw) .nil) (hp _ hw), hr⟩
theorem tw_lk (A B : Am) (i : Nat) : (match Nat.blt (i + 0) A.n with | true => lkPV (A.lk (i + 0 + 0 + 0)) | false => lkPV (B.lk (i + 0 - A.n + 0))) = lkPV ((tw2 A B).lk i) := by
 unfold tw2
 simp only [Nat.add_zero]
 by_cases h : i < A.n
 ·rw [if_pos h, show Nat.blt i A.n = true by simpa [Nat.blt_eq] using h]
 ·rw [if_neg h, show Nat.blt i A.n = false by
   cases hb : Nat.blt i A.n with
   | false => rfl
   | true => exact absurd (by simpa [Nat.blt_eq] using hb) h]
def u002 (u : PV) : PV := .lst 1 (.ints .i64 ([0, 0, 2] ++ intsW u))
include hG in
theorem pcTwG {AF : PV -> Am} (hp : ∀ v, okW v = true -> PC Tryd.prog G 13 [.w v] [] (armFr (AF v)) []) (hb : ∀ v, 1 <= (AF v).n /\ (AF v).n <= 3) (u : PV) (hu : okW u = true) (hn : 3 + (intsW u).length <= 4294967296) : PC Tryd.prog G 29 [.w u] [] (armFr (tw2 (AF u) (AF (u002 u)))) [] := by
 refine PC.args (.cons (vle_w_out hu) .nil) ?_
 obtain ⟨hA1, hA3⟩ := hb u
 obtain ⟨hB1, hB3⟩ := hb (u002 u)
 rcases okW_cases hu with rfl | ⟨xs, rfl⟩
 ·have hrun : ∀ r, ((Tr.ok (.ret r [])).run : Option Res) = some (.ret r []) := fun _ => rfl
  refine (qn hG (O := [(13, vAr2 (fun v => okW v = true) AF), (76, vCk)]) (.cons (okAr2 hG hp) (.cons (okCk hG) .nil)) mix enTw (pol := { own := [7, 13] }) (L := []) (hs := []) (hs' := []) (LpsOK.none (by kernel_rfl)) (r := .agg [.s (AF .nil).name, .agg [.agg [.q (AF .nil).bx 64, .q (AF .nil).by_ 64], .agg [.bl false, .q (AF .nil).t 64]], .fr 16 (.fn 2 fun j => match Nat.blt (j + 0) (AF .nil).n with | true => lkPV ((AF .nil).lk (j + 0 + 0 + 0)) | false => lkPV ((AF (u002 .nil)).lk (j + 0 - (AF .nil).n + 0)))]) ?_).le (rle_two fun i hi => ?_) (.refl _)
  ·refine (eTwN (fun v => okW v = true) AF).trans ?_
   have e3 : List.take 3 (List.drop 0 (List.take 3 (List.drop 0 [(0 : Int), 0, 2]))) = [0, 0, 2] := rfl
   simp only [e3]
   have b1 : 1 <= (AF (.lst 1 (.ints .i64 [0, 0, 2]))).n := hB1
   have b2 : (AF (.lst 1 (.ints .i64 [0, 0, 2]))).n <= 3 := hB3
   repeat first | rw [Tr.run_t (by first | (simp only [Bool.and_eq_true, Bool.or_eq_true, decide_eq_true_eq, Nat.ble_eq, Nat.blt_eq, List.length_cons, List.length_nil, Bool.not_eq_true', decide_eq_false_iff_not]; omega) | exact decP_iff.2 rfl | exact decP_iff.2 ⟨rfl, trivial⟩ | exact decP_iff.2 rfl | exact decide_eq_true rfl | decide)] | rw [Tr.run_f (by first | (simp only [Bool.and_eq_false_iff, Bool.not_eq_false', decide_eq_true_eq, decide_eq_false_iff_not]; omega) | exact decP_iff.2 rfl | exact congrArg (!·) (decide_eq_true rfl) | decide)]
   rw [Tr.run_ok]
   rfl
  ·exact tw_lk _ _ i
 ·refine (qn hG (O := [(13, vAr2 (fun v => okW v = true) AF), (76, vCk)]) (.cons (okAr2 hG hp) (.cons (okCk hG) .nil)) mix enTw (pol := { own := [7, 13] }) (L := []) (hs := []) (hs' := []) (LpsOK.none (by kernel_rfl)) (r := .agg [.s (AF (.lst 1 (.ints .i64 xs))).name, .agg [.agg [.q (AF (.lst 1 (.ints .i64 xs))).bx 64, .q (AF (.lst 1 (.ints .i64 xs))).by_ 64], .agg [.bl false, .q (AF (.lst 1 (.ints .i64 xs))).t 64]], .fr 16 (.fn 2 fun j => match Nat.blt (j + 0) (AF (.lst 1 (.ints .i64 xs))).n with | true => lkPV ((AF (.lst 1 (.ints .i64 xs))).lk (j + 0 + 0 + 0)) | false => lkPV ((AF (u002 (.lst 1 (.ints .i64 xs)))).lk (j + 0 - (AF (.lst 1 (.ints .i64 xs))).n + 0)))]) ?_).le (rle_two fun i hi => ?_) (.refl _)
  ·refine (eTwL xs (fun v => okW v = true) AF).trans ?_
   have lx : (Cont.ints .i64 xs).len = xs.length := rfl
   simp only [lx, rt3]
   have hn' : 3 + xs.length <= 4294967296 := hn
   have hl : (0 + (3 + xs.length)).ble (List.take 3 (List.drop 0 [(0 : Int), 0, 2]) ++ xs).length = true := by
    rw [Nat.ble_eq]; simp; omega
   have b1 : 1 <= (AF (.lst 1 (.ints .i64 ([0, 0, 2] ++ xs)))).n := hB1
   have b2 : (AF (.lst 1 (.ints .i64 ([0, 0, 2] ++ xs)))).n <= 3 := hB3
   repeat first | rw [Tr.run_t (by first | (simp only [Bool.and_eq_true, Bool.or_eq_true, decide_eq_true_eq, Nat.ble_eq, Nat.blt_eq, List.length_cons, List.length_nil, Bool.not_eq_true', decide_eq_false_iff_not]; omega) | exact decP_iff.2 rfl | exact hl | exact decP_iff.2 ⟨rfl, trivial⟩ | exact decP_iff.2 rfl | exact decide_eq_true rfl | decide)] | rw [Tr.run_f (by first | (simp only [Bool.and_eq_false_iff, Bool.not_eq_false', decide_eq_true_eq, decide_eq_false_iff_not]; omega) | exact decP_iff.2 rfl | exact hl | exact congrArg (!·) (decide_eq_true rfl) | decide)]
   rw [Tr.run_ok]
   rfl
  ·exact tw_lk _ _ i
include hG in
theorem pcTw (u : PV) (hu : okW u = true) (hn : 3 + (intsW u).length <= 4294967296) : PC Tryd.prog G 29 [.w u] [] (armFr (tw2 (armD u) (armD (u002 u)))) [] :=
 pcTwG hG (fun v hv => pArm hG v hv) (fun v => ⟨(armB_c (armB_V v)).2.2.2.2.1, (armB_c (armB_V v)).2.2.2.2.2.1⟩) u hu hn
theorem tw_B {A B : Am} (hA : armB A = true) (hB : armB B = true) (h2 : 2 <= A.n + B.n) : armB (tw2 A B) = true := by
 obtain ⟨a1, a2, a3, a4, a5, a6, a7⟩ := armB_c hA
 obtain ⟨b1, b2, b3, b4, b5, b6, b7⟩ := armB_c hB
 simp only [armB, tw2, Bool.and_eq_true, decide_eq_true_eq, List.all_eq_true, List.mem_range]
 refine ⟨⟨⟨⟨⟨⟨a1, a2⟩, a3⟩, a4⟩, rfl⟩, rfl⟩, fun j hj => ?_⟩
 split
 ·exact a7 j (by assumption)
 ·exact b7 _ (by omega)
theorem tw_X {A B : Am} (hA : limX A = true) (hB : limX B = true) (h2 : 2 <= A.n + B.n) : limX (tw2 A B) = true := by
 simp only [limX, tw2, List.all_eq_true, List.mem_range] at *
 intro j hj
 split
 ·exact hA j (by assumption)
 ·exact hB _ (by omega)
end Go.Proofs.YtnenjkgffapplaaDoor.PE
namespace Go.Proofs.YtnenjkgffapplaaDoor.PE
open Go
set_option maxRecDepth 100000
theorem cross_law (b : Fr) (q L : Nat -> Rat) : crR (colX (allF b q L 2) 2) (colY (allF b q L 2) 2) 1 0 = -(L 0 * L 1 * sinR false (q 1)) := by
 have a0 := all_at (b := b) (q := q) (L := L) (n := 2) (i := 0) (by omega)
 have a1 := all_at (b := b) (q := q) (L := L) (n := 2) (i := 1) (by omega)
 have a2 := all_at (b := b) (q := q) (L := L) (n := 2) (i := 2) (by omega)
 have e0 := end_step (b := b) (q := q) (L := L) 0
 have e1 := end_step (b := b) (q := q) (L := L) 1
 have cs := cos_sin (frmF b q L 0).h (frmF b q L 0).t
 have hE : ftT (frmF b q L 0).h (frmF b q L 0).t = (frmF b q L 0).t := ft_of (th_norm _ _ _ _)
 have tc := then_cs (frmF b q L 0).h (ftT (frmF b q L 0).h (frmF b q L 0).t) false (q 1)
 rw [hE] at tc
 have f1 : cosR (frmF b q L 1).h (frmF b q L 1).t = cosR (thH (frmF b q L 0).h (ftT (frmF b q L 0).h (frmF b q L 0).t) false (q 1)) (thT (frmF b q L 0).h (ftT (frmF b q L 0).h (frmF b q L 0).t) false (q 1)) := rfl
 have f2 : sinR (frmF b q L 1).h (frmF b q L 1).t = sinR (thH (frmF b q L 0).h (ftT (frmF b q L 0).h (frmF b q L 0).t) false (q 1)) (thT (frmF b q L 0).h (ftT (frmF b q L 0).h (frmF b q L 0).t) false (q 1)) := rfl
 rw [hE] at f1 f2
 unfold crR colX colY
 rw [a0.1, a0.2, a1.1, a1.2, a2.1, a2.2, e1.1, e1.2, f1, f2, tc.1, tc.2]
 rw [show (1 : Nat) = 0 + 1 from rfl] at e0
 rw [e0.1, e0.2]
 generalize cosR (frmF b q L 0).h (frmF b q L 0).t = c at *
 generalize sinR (frmF b q L 0).h (frmF b q L 0).t = s at *
 generalize cosR false (q 1) = cq
 generalize sinR false (q 1) = sq
 generalize (endR b q L 0).x = x
 generalize (endR b q L 0).y = y
 have e : -(L 0 * L 1 * sq) = -(L 0 * L 1 * sq) * (c * c + s * s) := by rw [cs]; grind
 rw [e]
 grind
theorem sin_zero (t : Rat) : sinR false t = 0 ↔ t = 0 := by
 rw [sinR, qd]
 simp only [Bool.false_eq_true, if_false]
 have h0 := sq_pos1 t
 constructor
 ·intro h
  rw [Rat.div_def] at h
  rcases Rat.mul_eq_zero.1 h with g | g
  ·grind
  ·exact absurd (Rat.mul_inv_cancel _ h0) (by rw [g, Rat.mul_zero]; decide)
 ·rintro rfl
  rw [Rat.div_def]
  grind
theorem rk_one (cx cy : Nat -> Rat) : rkI cx cy 1 < 2 := by
 show rk1 cx cy 0 0 < 2
 unfold rk1
 split
 ·omega
 ·split <;> omega
theorem rk_two (cx cy : Nat -> Rat) : rkI cx cy 2 < 2 ↔ crR cx cy 1 0 = 0 := by
 have h1 := rk_one cx cy
 have e : rkI cx cy 2 = if crR cx cy 1 0 = 0 then rk1 cx cy 1 (rkI cx cy 1) else 2 := rfl
 rw [e]
 split
 ·rename_i h
  refine ⟨fun _ => h, fun _ => ?_⟩
  unfold rk1
  split
  ·exact h1
  ·split <;> omega
 ·rename_i h
  exact ⟨fun g => by omega, fun g => absurd g h⟩
end Go.Proofs.YtnenjkgffapplaaDoor.PE
namespace Go.Proofs.YtnenjkgffapplaaDoor.PE
open Go
set_option maxRecDepth 100000
variable {G : World -> (Nat -> Prop) -> Prop} (hG : GOk G)
def Asam (l : List Int) : Am := ⟨⟨#[111, 110, 101]⟩, mkRat 0 1, mkRat 0 1, mkRat 0 1, l.length, fun j => smL (l.getD j 0)⟩
include hG in
theorem sam_ok (l : List Int) (h : (evF Tryd.prog O32 [(3, l32)] pol32 Tryd.f27 [.lst 1 (.ints .i64 l)] [] qm).run = some (.ret (frA ⟨#[111, 110, 101]⟩ (mkRat 0 1) (mkRat 0 1) (mkRat 0 1) (.fr 16 (.vals (l.map smV)))) [])) : PC Tryd.prog G 27 [.lst 1 (.ints .i64 l)] [] (armFr (Asam l)) [] := by
 refine (qn hG (.cons (ok23 hG) (.cons (ok84 hG) .nil)) mix enter32 (O := O32) (L := [(3, l32)]) (pol := pol32) (lps1 (b := b32) (live := [2, 3, 11, 12, 13]) (sp := l32) (m := 0) (by kernel_rfl) (by kernel_rfl) (by kernel_rfl) (unr_ok hG (.cons (ok23 hG) (.cons (ok84 hG) .nil)) mix (LpsOK.none (by kernel_rfl)) 3)) h).le ?_ (.refl _)
 refine rle_arm _ _ _ _ _ _ _ (by rw [List.length_map]; rfl) fun i u hu => ?_
 rw [List.getElem?_map] at hu
 cases hx : l[i]? with
 | none => rw [hx] at hu; cases hu
 | some x =>
  rw [hx] at hu
  obtain rfl := Option.some.inj hu
  refine ⟨rfl, ?_⟩
  show VLe _ (lkPV (smL (l.getD i 0)))
  rw [List.getD_eq_getElem?_getD, hx]
  exact smV_le x
include hG in
theorem sam3 : PC Tryd.prog G 27 [.lst 1 (.ints .i64 [3])] [] (armFr (Asam [3])) [] := sam_ok hG [3] (by kernel_rfl)
theorem armB_3 : armB (Asam [3]) = true := by kernel_rfl
end Go.Proofs.YtnenjkgffapplaaDoor.PE
namespace Go.Proofs.YtnenjkgffapplaaDoor.PE
open Go
set_option maxRecDepth 100000
variable {G : World -> (Nat -> Prop) -> Prop} (hG : GOk G)
theorem enIs : Enters Tryd.prog 26 Tryd.f26 (qe Tryd.f26) := ⟨Tryd.func26, by kernel_rfl, rfl⟩
theorem eIs (A : Am) (qs : List Rat) (r : Int) : (evF Tryd.prog [(42, cst [qu A, .lst 3 (.rats 64 qs)] True (.tup [.i .i64 r, .i .i64 0]))] [] {} Tryd.f26 [qu A, .lst 3 (.rats 64 qs)] [] qm).run =
 (Tr.br (qh (isA [qu A, .lst 3 (.rats 64 qs)] True [qu A, .lst 3 (.rats 64 qs)])) (.ok (.ret (.tup [.b (decide (r < 2)), .i .i64 0]) [])) (.no 1)).run := by kernel_rfl
theorem enS2 : Enters Tryd.prog 6 Tryd.f6 (qe Tryd.f6) := ⟨Tryd.func6, by kernel_rfl, rfl⟩
def apQ (P : PV -> List Rat -> Prop) (a : PV) (q : List Rat) : Prop := P a q
def vIs (P : PV -> List Rat -> Prop) (R : PV -> List Rat -> Bool) : Spec := fun args hs K => match args, hs with
 | [a, .lst 3 (.rats 64 q)], [] => .br (qh (apQ P a q)) (K (.tup [.b (R a q), .i .i64 0]) []) (.no 1)
 | _, _ => .no 1
def OS2 (l m : PV) (A S : Am) (qs : List Rat) (P : PV -> List Rat -> Prop) (R : PV -> List Rat -> Bool) : Orc :=
 [(26, vIs P R), (27, cst [.lst 1 (.ints .i64 [3])] True (armFr S)), (28, s23), (29, cst [.w l] True (armFr A)), (30, cst [qu A, .w m] True (.fr 3 (.rats 64 qs))), (31, g26)]
theorem eS2 (l m : PV) (A S : Am) (qs : List Rat) (P : PV -> List Rat -> Prop) (R : PV -> List Rat -> Bool) : (evF Tryd.prog (OS2 l m A S qs P R) [] {} Tryd.f6 [.w l, .w m] [] qm).run =
 (Tr.br (qh (isA [.lst 1 (.ints .i64 [(3 : Int)])] True [.lst 1 (.ints .i64 [(3 : Int)])])) (.br (((0 : Nat) + S.n).ble S.n) (.br (qh (apQ P (qu S) [mkRat (1 : Int) (1 : Nat)])) (.br (!R (qu S) [mkRat (1 : Int) (1 : Nat)]) (.ok (.ret (.bl false) [])) (.br (qh (isA [l.w] True [l.w])) (.br (((0 : Nat) + A.n).ble A.n) (.br (qh (isA [qu A, m.w] True [qu A, m.w])) (.br (((0 : Nat) + qs.length).ble qs.length) (.br (qh (apQ P (qu A) (List.take qs.length (List.drop (0 : Nat) qs)))) (.br (ix ((1 : Int)) ((↑(List.take qs.length (List.drop (0 : Nat) qs)).length : Int))) (.ok (.ret (.b (R (qu A) (List.take qs.length (List.drop (0 : Nat) qs)) == decide (rcmp ((List.take qs.length (List.drop (0 : Nat) qs)).getD (1 : Nat) (0 : Rat)) (0 : Rat) = 0))) [])) (.no 8007)) (.no 1)) (.no 6002)) (.no 1)) (.no 5003)) (.no 1))) (.no 1)) (.no 2009)) (.no 1)).run := by kernel_rfl
def qOne : List Rat := [mkRat 1 1]
include hG in
theorem pcIs (hT : qD G) (A : Am) (hA : armB A = true) (qs : List Rat) (hq : qs.length = A.n) :
  PC Tryd.prog G 26 [qu A, .lst 3 (.rats 64 qs)] [] (.tup [.b (decide (rkI (colX (allF (bsF A) (qf qs) (fun j => (A.lk j).len) A.n) A.n) (colY (allF (bsF A) (qf qs) (fun j => (A.lk j).len) A.n) A.n) A.n < 2)), .i .i64 0]) [] := by
 refine qn hG (.cons (cst_t (pcRank hG hT A hA qs hq)) .nil) mix enIs (hs := []) (pol := {}) (L := []) (LpsOK.none (by kernel_rfl)) ?_
 refine (eIs A qs _).trans ?_
 rw [Tr.run_t (isA_t trivial), Tr.run_ok]
def okIs (a : PV) (q : List Rat) : Prop := ∃ A : Am, a = qu A /\ armB A = true /\ q.length = A.n
def isR (a : PV) (q : List Rat) : Bool := decide (rkI (colX (allF (bsF (dArm a)) (qf q) (fun j => ((dArm a).lk j).len) (dArm a).n) (dArm a).n) (colY (allF (bsF (dArm a)) (qf q) (fun j => ((dArm a).lk j).len) (dArm a).n) (dArm a).n) (dArm a).n < 2)
include hG in
theorem vIs_ok (hT : qD G) : qc Tryd.prog G 26 (vIs okIs isR) := by
 intro args hs K x h
 unfold vIs at h
 split at h
 case h_2 => cases h
 rename_i a q
 obtain ⟨hc, hr⟩ := Tr.of_br h
 obtain ⟨A, rfl, hA, hq⟩ := decP_iff.1 hc
 exact ⟨_, _, pcIs hG hT A hA q hq, hr⟩
theorem len_ne {A : Am} (hA : armB A = true) {j : Nat} (hj : j < A.n) : ¬ (A.lk j).len = 0 := by
 have h := (armB_c hA).2.2.2.2.2.2 j hj
 simp only [lkB, Bool.and_eq_true, decide_eq_true_eq] at h
 have h0 := h.1.1.1.1.2
 intro e
 rw [e] at h0
 exact absurd h0 (by decide)
include hG in
theorem lawS2 (hT : qD G) (l m : PV) (hl : okW l = true) (hm : okW m = true) (hn : 3 + (intsW l).length <= 4294967296) : PC Tryd.prog G 6 [.w l, .w m] [] (.bl true) [] := by
 have p29 := pcTw hG l hl hn
 have hA0 := armB_V l
 have hB0 := armB_V (u002 l)
 have hA := tw_B hA0 hB0 (by have := (armB_c hA0).2.2.2.2.1; have := (armB_c hB0).2.2.2.2.1; omega)
 have hX := tw_X (limX_V l) (limX_V (u002 l)) (by have := (armB_c hA0).2.2.2.2.1; have := (armB_c hB0).2.2.2.2.1; omega)
 have hn2 : (tw2 (armD l) (armD (u002 l))).n = 2 := rfl
 generalize tw2 (armD l) (armD (u002 l)) = A at *
 have p30 := pConf hG A hA hX m hm
 have hq : (cfL A.lk m A.n).length = A.n := cfL_len _ _ _
 generalize cfL A.lk m A.n = qs at *
 have hS : isR (qu (Asam [3])) qOne = true := decide_eq_true (rk_one _ _)
 have e1 : isR (qu A) qs = decide (qs.getD 1 0 = 0) := by
  unfold isR
  rw [dArm_arm, hn2]
  have h := cross_law (b := bsF A) (q := qf qs) (L := fun j => (A.lk j).len)
  have l0 := len_ne hA (j := 0) (by omega)
  have l1 := len_ne hA (j := 1) (by omega)
  refine decide_eq_decide.2 ?_
  rw [rk_two, h, <- sin_zero (qs.getD 1 0)]
  show -((A.lk 0).len * (A.lk 1).len * sinR false (qf qs 1)) = 0 ↔ sinR false (qs.getD 1 0) = 0
  show -((A.lk 0).len * (A.lk 1).len * sinR false (qs.getD 1 0)) = 0 ↔ sinR false (qs.getD 1 0) = 0
  generalize sinR false (qs.getD 1 0) = s
  constructor
  ·intro h
   have h2 : (A.lk 0).len * (A.lk 1).len * s = 0 := by grind
   rcases Rat.mul_eq_zero.1 h2 with h3 | h3
   ·rcases Rat.mul_eq_zero.1 h3 with h4 | h4
    ·exact absurd h4 l0
    ·exact absurd h4 l1
   ·exact h3
  ·intro h; rw [h]; grind
 have cS : apQ okIs (qu (Asam [3])) [mkRat (1 : Int) 1] := ⟨Asam [3], rfl, armB_3, rfl⟩
 have cA : apQ okIs (qu A) qs := ⟨A, rfl, hA, hq⟩
 have hS' : (!isR (qu (Asam [3])) [mkRat (1 : Int) 1]) = false := by
  rw [show isR (qu (Asam [3])) [mkRat (1 : Int) 1] = true from hS]; rfl
 refine (qn hG (O := OS2 l m A (Asam [3]) qs okIs isR) (.cons (vIs_ok hG hT) (.cons (cst_t (sam3 hG)) (.cons (ok23 hG) (.cons (cst_t p29) (.cons (cst_t p30) (.cons (gk26 hG hT) .nil)))))) mix enS2 (hs := []) (pol := {}) (L := []) (LpsOK.none (by kernel_rfl)) (r := .b true) (hs' := []) ?_).le (rle_b rfl) (.refl _)
 refine (eS2 l m A (Asam [3]) qs okIs isR).trans ?_
 simp only [List.drop_zero, List.take_length, Nat.zero_add]
 have e2 : (isR (qu A) qs == decide (rcmp (qs.getD 1 0) (0 : Rat) = (0 : Int))) = true := by
  rw [e1, beq_iff_eq]
  exact decide_eq_decide.2 rcmp_eq.symm
 rw [Tr.run_t (isA_t trivial), Tr.run_t (by rw [Nat.ble_eq]; omega), Tr.run_t (decP_iff.2 cS), Tr.run_f hS', Tr.run_t (isA_t trivial), Tr.run_t (by rw [Nat.ble_eq]; omega), Tr.run_t (isA_t trivial), Tr.run_t (by rw [Nat.ble_eq]; omega), Tr.run_t (decP_iff.2 cA), Tr.run_t (by simp only [Bool.and_eq_true, decide_eq_true_eq]; omega), Tr.run_ok, e2]
end Go.Proofs.YtnenjkgffapplaaDoor.PE
namespace Go.Proofs.YtnenjkgffapplaaDoor.PE
open Go
theorem calls_of_does {P : Program} {g : Nat} {fn : Func} {c : Code} (hg : Enters P g fn c) {vs : Array Value} {w : World} {R : Value -> World -> Prop} (h : Does P g vs w R) : Calls P g vs w fun e w' => ∃ v, e = .returned v /\ R v w' := by
 have h1 := h { dst := some 0, op := .move (.const undef), type := 0, pos := "", after := #[], guard := none } ⟨#[undef], []⟩ (fun a w' => ∃ v, a.tmps[0]? = some v /\ R v w') (fun _ _ _ => False) (fun v w' hv => ⟨v, by simp [Act.put], hv⟩)
 have : (callFunc g vs).run P w = .ok (.enter g vs) w := by
  have hname : fn.name ≠ "runtime.NumGoroutine" := by simpa using hg.name
  simp [callFunc, hg.at_, hname, hg.body]
 rw [this, Oper.upon_enter] at h1
 refine h1.mono fun e w' he => ?_
 cases e with
 | returned v =>
  obtain ⟨v', hv, hr⟩ := he
  simp [Act.put] at hv
  subst hv
  exact ⟨v, rfl, hr⟩
 | panicked chain => exact absurd he (by simp)
 | outgrown => exact absurd he (by simp [LetsOut])
theorem HRel.none (w : World) : HRel w (fun _ => False) qE (hget (([] : List Blk).map some)) :=
 ⟨fun b k h => by simp [hget] at h, fun b k a z h => by simp [hget] at h, fun b b' k k' a z z' h => by simp [hget] at h, fun a h => h.elim⟩
theorem keptBut_of_old {w w' : World} (h1 : w'.os = w.os) (h2 : w'.output = w.output) (h3 : ∀ n, n < w.heap.size -> w'.heap[n]? = w.heap[n]?) (may : MemPlace -> Prop) : w.keptBut w' may := by
 refine ⟨h1, h2, fun i hi => ?_⟩
 rw [h3 i hi]
 split
 ·rename_i e1 e2
  rw [e1] at e2
  cases e2
  exact ⟨rfl, rfl, rfl, fun _ _ => rfl⟩
 ·rename_i e1 e2
  rw [e1] at e2
  cases e2
  exact .inr ⟨rfl, rfl⟩
 ·rfl
end Go.Proofs.YtnenjkgffapplaaDoor.PE
namespace Go.Proofs.YtnenjkgffapplaaDoor.PE
open Go Go.ChangeShapes Go.WideShapes
set_option maxRecDepth 100000
def blkOf : Value -> Nat -> Prop
 | .slice (some a) _ _, b => b = a.block
 | _, _ => False
section
variable {H : Type} {enc : TypeId × Value -> H} {P : Program} {w : World} {t e : TypeId} {base : Nat} {v : Value} {d : DataW H} {p : List MemPlace}
theorem arg_ints (ht : P.underlying t = some (.slice e)) (he : P.underlying e = some (.int .i64)) (hc : P.cellsOf e = 1)
  (hval : Value.okWide P w .any base t v) (h : DataW.Trod enc P w 0 (fun _ => true) true t v d p) :
  ∃ u : PV, okW u = true /\ (∀ n ∈ intsW u, -9223372036854775808 <= n /\ n <= 9223372036854775807) /\ (∀ b, blkOf v b -> b < w.heap.size) /\ (∀ S : Nat -> Prop, (∀ b, blkOf v b -> S b) -> RepV w S qE (.w u) v) /\
   (∀ w' : World, (∀ n, n < w.heap.size -> w'.heap[n]? = w.heap[n]?) -> ∃ p', DataW.Trod enc P w' 0 (fun b => decide (b < w.heap.size)) true t v d p') /\
   ((intsW u = [] /\ d = .nil) \/ ∃ sp, d = .slice (lits .i64 (intsW u)) sp) := by
 have hval' := hval
 obtain ⟨a0, len, cap, rfl⟩ := okWide_slice ht hval
 obtain ⟨fuel, hf⟩ := h
 rcases open_ints ht he hc hf with ⟨hcs, hx⟩ | ⟨a, len', cap', zs, hcs, _, hl, hm, hz, hx, hcell, hwz⟩
 ·simp [Value.cells] at hcs
  obtain ⟨rfl, rfl, rfl⟩ := hcs
  simp only [Prod.mk.injEq] at hx
  obtain ⟨rfl, rfl⟩ := hx
  refine ⟨.nil, rfl, fun n hn => (nomatch hn), fun b hb => hb.elim, fun S _ => .cell _ _ _ rfl (.w _ _ _ (.nil _)), fun w' _ => ⟨[], RowKit.shut_slice_nil ht⟩, .inl ⟨rfl, rfl⟩⟩
 ·simp [Value.cells] at hcs
  obtain ⟨rfl, rfl, rfl⟩ := hcs
  simp only [Prod.mk.injEq] at hx
  obtain ⟨rfl, rfl⟩ := hx
  simp only [if_true] at hz
  unfold Value.okWide at hval'
  rw [ht] at hval'
  simp only [Cell.okWide, Cell.ok, ht] at hval'
  obtain ⟨_, _, _, hsp, row, cells, hsh, _⟩ := hval'
  obtain ⟨b, off, spot⟩ := a
  simp only at hsp
  subst hsp
  have hb : b < w.heap.size := by
   unfold World.shape? at hsh
   split at hsh
   ·rename_i hh; exact (Array.getElem?_eq_some_iff.1 hh).1
   ·cases hsh
  have hcell' : ∀ j, j < zs.length -> w.cell? ⟨b, off + j, none⟩ = some (.int .i64 (zs.getD j 0)) := fun j hj => by rw [<- add_plain]; exact hcell j hj
  have hlen : (zs.take len).length = len := by rw [List.length_take]; omega
  refine ⟨.lst 1 (.ints .i64 (zs.take len)), rfl, fun n hn => bounds_i64 (hwz n (List.mem_of_mem_take hn)), fun c hc => (by rw [show c = b from hc]; exact hb), fun S hS => ?_, fun w' hw' => ?_, .inr ⟨_, rfl⟩⟩
  ·refine .cell _ _ _ rfl (.w _ _ _ ?_)
   have := RepC.lst (w := w) (S := S) qE 1 (.ints .i64 (zs.take len)) b off cap (fun j => [.int .i64 ((zs.take len).getD j 0)]) (by show (zs.take len).length <= cap; omega) (hS b rfl)
    (fun i hi => .i _ _ _) (fun _ _ => rfl) (fun i j hi hj => by
     have hi' : i < len := by rw [<- hlen]; exact hi
     obtain rfl : j = 0 := by omega
     show w.cell? ⟨b, off + (i * 1 + 0), none⟩ = _
     rw [Nat.mul_one, Nat.add_zero, hcell' i (by omega)]
     simp [List.getD_eq_getElem?_getD, hi'])
   rw [show (Cont.ints .i64 (zs.take len)).len = len from hlen] at this
   exact this
  ·have hd : decide (b < w.heap.size) = true := decide_eq_true hb
   exact ⟨_, 2, shut_ints' (enc := enc) (w := w') (base := 0) (spare := fun b => decide (b < w.heap.size)) (held := true) (len := len) (cap := cap) (zs := zs) 0 ht he hc
    (Nat.zero_le b) hl hm (by simp only [hd, if_true]; exact hz) (fun i hi => by rw [cell_block (hw' b hb)]; exact hcell' i hi) hwz⟩
end
end Go.Proofs.YtnenjkgffapplaaDoor.PE
namespace Go.Proofs.YtnenjkgffapplaaDoor.PE
open Go
set_option maxRecDepth 100000
theorem calls_trueG {P : Program} {G : World -> (Nat -> Prop) -> Prop} {g : Nat} {fn : Func} {c : Code} (hg : Enters P g fn c) {args : List PV} (h : PC P G g args [] (.bl true) []) {w : World} {S : Nat -> Prop} {vs : List Value} (hw : G w S) (hS : ∀ a, S a -> a < w.heap.size)
  (hv : RepVL w S qE args vs) (may : MemPlace -> Prop) :
  Calls P g vs.toArray w fun e w' => e = .returned (.bool true) /\ w.keptBut w' may /\ ∀ n, n < w.heap.size -> w'.heap[n]? = w.heap[n]? := by
 refine (calls_of_does hg (h w S qE vs hw hv ⟨fun b k h => by simp [hget] at h, fun b k a z h => by simp [hget] at h, fun b b' k k' a z z' h => by simp [hget] at h, hS⟩ (fun _ _ => rfl))).mono fun e w' he => ?_
 obtain ⟨v, rfl, S', μ', c⟩ := he
 have hr := c.rep
 have : v = .bool true := by
  cases hr with
  | cell _ _ _ _ h => cases h; rfl
  | agg _ _ _ hv h => simp [isAgg, unfr, unfrA, unfr1] at hv
 subst this
 have old : ∀ n, n < w.heap.size -> w'.heap[n]? = w.heap[n]? := fun n hn => c.old n hn (fun b z hb => by simp at hb)
 exact ⟨rfl, keptBut_of_old c.os c.output old may, old⟩
def TG (w : World) (S : Nat -> Prop) : Prop := S 1 /\ Go.Proofs.TabAt 1 Go.Lib.deBruijn64tab w
theorem tg_ok : GOk TG := fun _ _ _ _ m h => ⟨m.sub 1 h.1, fun j hj => (m.cell 1 h.1 j).trans (h.2 j hj)⟩
theorem tg_tab : qD TG := fun _ _ h => h.2
theorem tab_block {w : World} (h : Go.Proofs.TabAt 1 Go.Lib.deBruijn64tab w) : 1 < w.heap.size := by
 have h0 := h 0 (by decide)
 rcases Nat.lt_or_ge 1 w.heap.size with h1 | h1
 ·exact h1
 ·unfold World.cell? at h0
  rw [show w.heap[(⟨1, 0, none⟩ : Addr).block]? = none from Array.getElem?_eq_none h1] at h0
  cases h0
theorem tab_of_laid {laid : List (String × DataW Unit)} {W : World} (hl : laid = [("math/bits.deBruijn64tab", Go.Lib.tabData .u8 (Go.Lib.deBruijn64tab.map fun n : Nat => (n : Int)))]) (h : laidMetH Tryd.prog laid W) : Go.Proofs.TabAt 1 Go.Lib.deBruijn64tab W := by
 subst hl
 have h1 : laidMet Tryd.prog [("math/bits.deBruijn64tab", Go.Lib.tabData .u8 (Go.Lib.deBruijn64tab.map fun n : Nat => (n : Int)))] W := h
 have h2 := Go.Lib.tabIs_of_head (g := 1) (t := 199) (e := 5) (n := 64) (by kernel_rfl) (by kernel_rfl) (by kernel_rfl) (by kernel_rfl) (by kernel_rfl) (by kernel_rfl) h1
 intro j hj
 have h3 := h2.cell (g := 1) (by kernel_rfl) j (by rw [List.length_map]; exact hj)
 rw [h3, List.getD_eq_getElem?_getD, List.getD_eq_getElem?_getD, List.getElem?_map, List.getElem?_eq_getElem hj]
 rfl
end Go.Proofs.YtnenjkgffapplaaDoor.PE
