/-
  Part 5 of the proof: contracts of the program's functions. Conditions: those of the theorems below.
-/
import Derived.Test.YtejfdhcigkgbmaaDoorClamps4
set_option linter.all false
namespace Go.Proofs.YtejfdhcigkgbmaaDoor.PE
open Go
set_option maxRecDepth 100000
variable {G : World → (Nat → Prop) → Prop} (hG : GOk G)

/-! Stream.Next -/
theorem enter45 : Enters Tryd.prog 45 Tryd.f45 (bodyC Tryd.f45) := ⟨Tryd.func45, by kernel_rfl, rfl⟩
theorem e45 (l : List Int) (n : Int) : evF Tryd.prog [(24, s24)] [] {} Tryd.f45 [.ptr 0 1 0 0 [], .i .i64 n] [⟨1, .vals [.agg [.lst 1 (.ints .i64 l)]]⟩] retK =
  Tr.br (decide ((↑l.length : Int) = (0 : Int)))
    (Tr.ok
      (Res.ret (PV.i IntKind.i64 (0 : Int))
        [{ e := 1, c := Cont.vals [PV.agg [PV.lst (1) (Cont.ints IntKind.i64 l)]] }]))
    (Tr.br (decide (n < (1 : Int)))
      (Tr.ok
        (Res.ret (PV.i IntKind.i64 (0 : Int))
          [{ e := 1, c := Cont.vals [PV.agg [PV.lst (1) (Cont.ints IntKind.i64 l)]] }]))
      (Tr.br (decide ((0 : Int) ≤ (0 : Int)) && decide ((0 : Int) < (↑l.length : Int)))
        (Tr.br (decide ((0 : Int) ≤ (1 : Int)) && decide ((1 : Int) ≤ (↑l.length : Int)))
          (Tr.br (decide ((0 : Int) < n) && decide (n ≤ (4294967296 : Int)))
            (Tr.ok
              (Res.ret (PV.i IntKind.i64 (l.getD (Int.toNat (0 : Int)) (0 : Int) % n))
                [{ e := 1,
                    c :=
                      Cont.vals
                        [PV.agg
                            [PV.lst (1)
                                (Cont.ints IntKind.i64
                                  (List.take ((Cont.ints IntKind.i64 l).len - Int.toNat (1 : Int))
                                    (List.drop (Int.toNat (1 : Int)) l)))]] }]))
            (Tr.no (1)))
          (Tr.no (5004)))
        (Tr.no (4003)))) := by kernel_rfl
theorem e45n (n : Int) : evF Tryd.prog [(24, s24)] [] {} Tryd.f45 [.ptr 0 1 0 0 [], .i .i64 n] [⟨1, .vals [.agg [.nil]]⟩] retK =
  Tr.br (decide ((0 : Int) = (0 : Int)))
    (Tr.ok (Res.ret (PV.i IntKind.i64 (0 : Int)) [{ e := 1, c := Cont.vals [PV.agg [PV.nil]] }]))
    (Tr.br (decide (n < (1 : Int)))
      (Tr.ok (Res.ret (PV.i IntKind.i64 (0 : Int)) [{ e := 1, c := Cont.vals [PV.agg [PV.nil]] }]))
      (Tr.no (4003))) := by kernel_rfl
/-- The stream's next number below n, and what is left. -/
def nx (v : PV) (n : Int) : Int := (intsW v).headD 0 % n
def rs (v : PV) : PV := match v with
  | .lst 1 (.ints .i64 xs) => .lst 1 (.ints .i64 xs.tail)
  | v => v
theorem okW_rs {v : PV} (h : okW v = true) : okW (rs v) = true := by
  rcases okW_cases h with rfl | ⟨xs, rfl⟩ <;> rfl
theorem nx_range (v : PV) {n : Int} (h : 0 < n) : 0 ≤ nx v n ∧ nx v n < n := ⟨Int.emod_nonneg _ (by omega), Int.emod_lt_of_pos _ h⟩
def s45 : Spec := fun args hs K => match args, hs with
  | [.ptr 0 1 0 0 [], .i .i64 n], [⟨1, .vals [.agg [.w v]]⟩] => .br (okW v && decide (0 < n) && decide (n ≤ 4294967296)) (K (.i .i64 (nx v n)) [⟨1, .vals [.agg [.w (rs v)]]⟩]) (.no 1)
  | _, _ => .no 1
include hG in
theorem ok45 : SpecOK Tryd.prog G 45 s45 := by
  intro args hs K x h
  unfold s45 at h
  split at h
  case h_2 => cases h
  rename_i n v
  obtain ⟨hc, hr⟩ := Tr.of_br h
  simp only [Bool.and_eq_true, decide_eq_true_eq] at hc
  obtain ⟨⟨hw, h0⟩, h1⟩ := hc
  have ho := KsLe.one (KLe.vals (e := 1) (VLeL.cons (VLe.agg (VLeL.cons (vle_w_out hw) .nil)) .nil))
  have hi := KsLe.one (KLe.vals (e := 1) (VLeL.cons (VLe.agg (VLeL.cons (vle_w_in (okW_rs hw)) .nil)) .nil))
  refine ⟨_, _, PC.blocks ho (PC.le (r := .i .i64 (nx v n)) (hs' := [⟨1, .vals [.agg [rs v]]⟩]) ?_ (.refl _) hi), hr⟩
  rcases okW_cases hw with rfl | ⟨l, rfl⟩
  · refine evF_pc hG (.cons (ok24 hG) .nil) mix enter45 (L := []) (pol := {}) (LpsOK.none (by kernel_rfl)) ?_
    rw [e45n, Tr.run_t (by decide), Tr.run_ok]
    show some (Res.ret (.i .i64 0) _) = some (Res.ret (.i .i64 (0 % n)) _)
    rw [Int.zero_emod]; rfl
  · refine evF_pc hG (.cons (ok24 hG) .nil) mix enter45 (L := []) (pol := {}) (LpsOK.none (by kernel_rfl)) ?_
    rw [e45]
    cases l with
    | nil =>
      rw [Tr.run_t (by decide), Tr.run_ok]
      show some (Res.ret (.i .i64 0) _) = some (Res.ret (.i .i64 (0 % n)) _)
      rw [Int.zero_emod]; rfl
    | cons y ys =>
      have hl : (y :: ys).length = ys.length + 1 := rfl
      rw [Tr.run_f (decide_eq_false (by omega)), Tr.run_f (decide_eq_false (by omega)), Tr.run_t (by simp only [Bool.and_eq_true, decide_eq_true_eq]; omega), Tr.run_t (by simp only [Bool.and_eq_true, decide_eq_true_eq]; omega), Tr.run_t (by simp only [Bool.and_eq_true, decide_eq_true_eq]; omega), Tr.run_ok]
      have ht : List.take ((Cont.ints .i64 (y :: ys)).len - Int.toNat 1) (List.drop (Int.toNat 1) (y :: ys)) = ys := by
        show List.take (ys.length + 1 - 1) ys = ys
        rw [Nat.add_sub_cancel, List.take_length]
      rw [ht]
      rfl
theorem enter104 : Enters Tryd.prog 104 Tryd.f104 (bodyC Tryd.f104) := ⟨Tryd.func104, by kernel_rfl, rfl⟩
theorem e104 (a b : Int) : evF Tryd.prog [(81, s81)] [] {} Tryd.f104 [.i .i64 a, .i .i64 b] [] retK =
  Tr.br
    (decide ((0 : Int) < (4 : Int)) && decide ((4 : Int) < (4611686018427387904 : Int)) &&
        decide ((-4611686018427387904 : Int) < a) &&
      decide (a < (4611686018427387904 : Int)))
    (Tr.br
      (decide ((0 : Int) < (4 : Int)) && decide ((4 : Int) < (4611686018427387904 : Int)) &&
          decide ((-4611686018427387904 : Int) < b) &&
        decide (b < (4611686018427387904 : Int)))
      (Tr.ok
        (Res.ret
          (PV.agg [PV.q (mkRat a (Int.toNat (4 : Int))) (64), PV.q (mkRat b (Int.toNat (4 : Int))) (64)])
          []))
      (Tr.no (1)))
    (Tr.no (1)) := by kernel_rfl
def smI (a : Int) : Bool := decide (-1000000 < a) && decide (a < 1000000)
theorem smI_iff {a : Int} : smI a = true ↔ -1000000 < a ∧ a < 1000000 := by simp [smI]
def pt4 (a b : Int) : PV := .agg [.q (mkRat a 4) 64, .q (mkRat b 4) 64]
def s104 : Spec := fun args hs K => match args, hs with
  | [.i .i64 a, .i .i64 b], [] => .br (smI a && smI b) (K (.agg [.q (mkRat a 4) 64, .q (mkRat b 4) 64]) []) (.no 1)
  | _, _ => .no 1
include hG in
theorem ok104 : SpecOK Tryd.prog G 104 s104 := by
  refine spec_of hG (.cons (ok81 hG) .nil) mix enter104 (L := []) (pol := {}) fun args hs K x h => ?_
  unfold s104 at h
  split at h
  case h_2 => cases h
  rename_i a b
  obtain ⟨hc, hr⟩ := Tr.of_br h
  simp only [Bool.and_eq_true, smI_iff] at hc
  refine ⟨LpsOK.none (by kernel_rfl), _, _, _, ?_, .refl _, hr⟩
  rw [e104]
  repeat rw [Tr.run_t (by simp only [Bool.and_eq_true, decide_eq_true_eq]; omega)]
  rw [Tr.run_ok]
  rfl
theorem enter105 : Enters Tryd.prog 105 Tryd.f105 (bodyC Tryd.f105) := ⟨Tryd.func105, by kernel_rfl, rfl⟩
theorem e105 (a b c d : Int) : evF Tryd.prog [(104, s104)] [] {} Tryd.f105 [.i .i64 a, .i .i64 b, .i .i64 c, .i .i64 d] [] retK =
  Tr.br (smI a && smI b)
    (Tr.br (smI c && smI b)
      (Tr.br (smI c && smI d)
        (Tr.br (smI a && smI d)
          (Tr.ok
            (Res.ret
              (PV.lst (6)
                (Cont.vals
                  [PV.agg [PV.q (mkRat a (4 : Nat)) (64), PV.q (mkRat b (4 : Nat)) (64)],
                    PV.agg [PV.q (mkRat c (4 : Nat)) (64), PV.q (mkRat b (4 : Nat)) (64)],
                    PV.agg [PV.q (mkRat c (4 : Nat)) (64), PV.q (mkRat d (4 : Nat)) (64)],
                    PV.agg [PV.q (mkRat a (4 : Nat)) (64), PV.q (mkRat d (4 : Nat)) (64)]]))
              []))
          (Tr.no (1)))
        (Tr.no (1)))
      (Tr.no (1)))
    (Tr.no (1)) := by kernel_rfl
def rect (a b c d : Int) : Cont := .vals [.agg [.q (mkRat a 4) 64, .q (mkRat b 4) 64], .agg [.q (mkRat c 4) 64, .q (mkRat b 4) 64], .agg [.q (mkRat c 4) 64, .q (mkRat d 4) 64], .agg [.q (mkRat a 4) 64, .q (mkRat d 4) 64]]
def s105 : Spec := fun args hs K => match args, hs with
  | [.i .i64 a, .i .i64 b, .i .i64 c, .i .i64 d], [] => .br (smI a && smI b && smI c && smI d) (K (.lst 6 (.vals [.agg [.q (mkRat a 4) 64, .q (mkRat b 4) 64], .agg [.q (mkRat c 4) 64, .q (mkRat b 4) 64], .agg [.q (mkRat c 4) 64, .q (mkRat d 4) 64], .agg [.q (mkRat a 4) 64, .q (mkRat d 4) 64]])) []) (.no 1)
  | _, _ => .no 1
include hG in
theorem ok105 : SpecOK Tryd.prog G 105 s105 := by
  refine spec_of hG (.cons (ok104 hG) .nil) mix enter105 (L := []) (pol := {}) fun args hs K x h => ?_
  unfold s105 at h
  split at h
  case h_2 => cases h
  rename_i a b c d
  obtain ⟨hc, hr⟩ := Tr.of_br h
  simp only [Bool.and_eq_true] at hc
  obtain ⟨⟨⟨ha, hb⟩, hc⟩, hd⟩ := hc
  refine ⟨LpsOK.none (by kernel_rfl), _, _, _, ?_, .refl _, hr⟩
  rw [e105, Tr.run_t (by rw [ha, hb]; rfl), Tr.run_t (by rw [hc, hb]; rfl), Tr.run_t (by rw [hc, hd]; rfl), Tr.run_t (by rw [ha, hd]; rfl), Tr.run_ok]
/-! gantmake.arm -/
noncomputable def b68 : Code := (loopsOf (bodyC Tryd.f68)).getD 0 .skip
def pol68 : Pol := { live := [(4, [0, 4, 5, 30, 31])], wr := [(45, [0])] }
noncomputable def O68 : Orc := [(45, s45), (81, s81), (104, s104), (105, s105)]
theorem enter68 : Enters Tryd.prog 68 Tryd.f68 (bodyC Tryd.f68) := ⟨Tryd.func68, by kernel_rfl, rfl⟩
def lkC (a b c d e : Rat) (s : Cont) : PV := .agg [.q a 64, .q b 64, .q c 64, .q d 64, .q e 64, .lst 6 s]
def zArm (z1 z2 z3 z4 z5 z6 z7 : ByteArray) : PV := .agg [.s z1, .agg [.agg [.agg [.bl false, .s z2, .s z3], .agg [.bl false, .s z4, .s z5]], .agg [.bl false, .agg [.bl false, .s z6, .s z7]]], .nil]
def frA (nm : ByteArray) (bx by_ t : Rat) (l : PV) : PV := .agg [.s nm, .agg [.agg [.q bx 64, .q by_ 64], .agg [.bl false, .q t 64]], l]
def E : ByteArray := ⟨#[]⟩
def st68 (v : PV) (nm : ByteArray) (bx by_ t : Rat) (l : PV) (bs : List (Option Blk)) (c i : Int) : LS := ⟨[.ptr 0 1 0 0 [], .ptr 1 12 0 0 [], .ptr 2 12 0 0 [], .i .i64 c, .i .i64 i], [some ⟨1, .vals [.agg [.w v]]⟩, some ⟨12, .vals [zArm E E E E E E E]⟩, some ⟨12, .vals [frA nm bx by_ t l]⟩] ++ bs⟩
theorem r68a (v : PV) (nm : ByteArray) (bx by_ t : Rat) (c i : Int) : evRound Tryd.prog O68 [] pol68 Tryd.f68.ntmps 1 [0, 4, 5, 30, 31] b68 (st68 v nm bx by_ t .nil [] c i) =
  Tr.br (decide (i < c))
    (Tr.br (okW v && decide ((0 : Int) < (4 : Int)) && decide ((4 : Int) ≤ (4294967296 : Int)))
      (Tr.br
        (decide ((-9223372036854775808 : Int) ≤ (2 : Int) * nx v (4 : Int)) &&
          decide ((2 : Int) * nx v (4 : Int) ≤ (9223372036854775807 : Int)))
        (Tr.br
          (decide ((-9223372036854775808 : Int) ≤ (4 : Int) + (2 : Int) * nx v (4 : Int)) &&
            decide ((4 : Int) + (2 : Int) * nx v (4 : Int) ≤ (9223372036854775807 : Int)))
          (Tr.br
            (decide ((0 : Int) < (4 : Int)) && decide ((4 : Int) < (4611686018427387904 : Int)) &&
                decide ((-4611686018427387904 : Int) < (4 : Int) + (2 : Int) * nx v (4 : Int)) &&
              decide ((4 : Int) + (2 : Int) * nx v (4 : Int) < (4611686018427387904 : Int)))
            (Tr.br (okW (rs v) && decide ((0 : Int) < (6 : Int)) && decide ((6 : Int) ≤ (4294967296 : Int)))
              (Tr.br
                (decide ((-9223372036854775808 : Int) ≤ (-1 : Int) - nx (rs v) (6 : Int)) &&
                  decide ((-1 : Int) - nx (rs v) (6 : Int) ≤ (9223372036854775807 : Int)))
                (Tr.br
                  (decide ((0 : Int) < (3 : Int)) && decide ((3 : Int) < (4611686018427387904 : Int)) &&
                      decide ((-4611686018427387904 : Int) < (-1 : Int) - nx (rs v) (6 : Int)) &&
                    decide ((-1 : Int) - nx (rs v) (6 : Int) < (4611686018427387904 : Int)))
                  (Tr.br (okW (rs (rs v)) && decide ((0 : Int) < (6 : Int)) && decide ((6 : Int) ≤ (4294967296 : Int)))
                    (Tr.br
                      (decide ((-9223372036854775808 : Int) ≤ (1 : Int) + nx (rs (rs v)) (6 : Int)) &&
                        decide ((1 : Int) + nx (rs (rs v)) (6 : Int) ≤ (9223372036854775807 : Int)))
                      (Tr.br
                        (decide ((0 : Int) < (3 : Int)) && decide ((3 : Int) < (4611686018427387904 : Int)) &&
                            decide ((-4611686018427387904 : Int) < (1 : Int) + nx (rs (rs v)) (6 : Int)) &&
                          decide ((1 : Int) + nx (rs (rs v)) (6 : Int) < (4611686018427387904 : Int)))
                        (Tr.br
                          (okW (rs (rs (rs v))) && decide ((0 : Int) < (8 : Int)) &&
                            decide ((8 : Int) ≤ (4294967296 : Int)))
                          (Tr.br
                            (decide ((-9223372036854775808 : Int) ≤ (4 : Int) + nx (rs (rs (rs v))) (8 : Int)) &&
                              decide ((4 : Int) + nx (rs (rs (rs v))) (8 : Int) ≤ (9223372036854775807 : Int)))
                            (Tr.br
                              (decide ((0 : Int) < (4 : Int) + nx (rs (rs (rs v))) (8 : Int)) &&
                                    decide ((4 : Int) + nx (rs (rs (rs v))) (8 : Int) < (4611686018427387904 : Int)) &&
                                  decide ((-4611686018427387904 : Int) < (1 : Int)) &&
                                decide ((1 : Int) < (4611686018427387904 : Int)))
                              (Tr.br
                                (okW (rs (rs (rs (rs v)))) && decide ((0 : Int) < (20 : Int)) &&
                                  decide ((20 : Int) ≤ (4294967296 : Int)))
                                (Tr.br
                                  (decide
                                      ((-9223372036854775808 : Int) ≤ (10 : Int) + nx (rs (rs (rs (rs v)))) (20 : Int)) &&
                                    decide
                                      ((10 : Int) + nx (rs (rs (rs (rs v)))) (20 : Int) ≤ (9223372036854775807 : Int)))
                                  (Tr.br
                                    (decide ((0 : Int) < (10 : Int) + nx (rs (rs (rs (rs v)))) (20 : Int)) &&
                                          decide
                                            ((10 : Int) + nx (rs (rs (rs (rs v)))) (20 : Int) <
                                              (4611686018427387904 : Int)) &&
                                        decide ((-4611686018427387904 : Int) < (1 : Int)) &&
                                      decide ((1 : Int) < (4611686018427387904 : Int)))
                                    (Tr.br
                                      (decide
                                          ((-9223372036854775808 : Int) ≤
                                            (4 : Int) + (2 : Int) * nx v (4 : Int) + (1 : Int)) &&
                                        decide
                                          ((4 : Int) + (2 : Int) * nx v (4 : Int) + (1 : Int) ≤
                                            (9223372036854775807 : Int)))
                                      (Tr.br
                                        (smI (-1 : Int) && smI (-1 : Int) &&
                                            smI ((4 : Int) + (2 : Int) * nx v (4 : Int) + (1 : Int)) &&
                                          smI (1 : Int))
                                        (Tr.br
                                          (okW (rs (rs (rs (rs (rs v))))) && decide ((0 : Int) < (3 : Int)) &&
                                            decide ((3 : Int) ≤ (4294967296 : Int)))
                                          (Tr.br (decide (nx (rs (rs (rs (rs (rs v))))) (3 : Int) = (2 : Int)))
                                            (Tr.br (smI (-1 : Int) && smI (-1 : Int))
                                              (Tr.br
                                                (decide
                                                    ((-9223372036854775808 : Int) ≤
                                                      (4 : Int) + (2 : Int) * nx v (4 : Int) + (1 : Int)) &&
                                                  decide
                                                    ((4 : Int) + (2 : Int) * nx v (4 : Int) + (1 : Int) ≤
                                                      (9223372036854775807 : Int)))
                                                (Tr.br
                                                  (smI ((4 : Int) + (2 : Int) * nx v (4 : Int) + (1 : Int)) &&
                                                    smI (0 : Int))
                                                  (Tr.br (smI (-1 : Int) && smI (1 : Int))
                                                    (Tr.br
                                                      (Nat.blt (0 : Nat)
                                                          [PV.agg
                                                                [PV.q
                                                                    (mkRat ((4 : Int) + (2 : Int) * nx v (4 : Int))
                                                                      (Int.toNat (4 : Int)))
                                                                    (64),
                                                                  PV.q
                                                                    (mkRat ((-1 : Int) - nx (rs v) (6 : Int))
                                                                      (Int.toNat (3 : Int)))
                                                                    (64),
                                                                  PV.q
                                                                    (mkRat ((1 : Int) + nx (rs (rs v)) (6 : Int))
                                                                      (Int.toNat (3 : Int)))
                                                                    (64),
                                                                  PV.q
                                                                    (mkRat (1 : Int)
                                                                      ((4 : Int) + nx (rs (rs (rs v))) (8 : Int)).toNat)
                                                                    (64),
                                                                  PV.q
                                                                    (mkRat (1 : Int)
                                                                      ((10 : Int) +
                                                                          nx (rs (rs (rs (rs v)))) (20 : Int)).toNat)
                                                                    (64),
                                                                  PV.lst (6)
                                                                    (Cont.vals
                                                                      [PV.agg
                                                                          [PV.q (mkRat (-1 : Int) (4 : Nat)) (64),
                                                                            PV.q (mkRat (-1 : Int) (4 : Nat))
                                                                              (64)],
                                                                        PV.agg
                                                                          [PV.q
                                                                              (mkRat
                                                                                ((4 : Int) + (2 : Int) * nx v (4 : Int) +
                                                                                  (1 : Int))
                                                                                (4 : Nat))
                                                                              (64),
                                                                            PV.q (mkRat (0 : Int) (4 : Nat))
                                                                              (64)],
                                                                        PV.agg
                                                                          [PV.q (mkRat (-1 : Int) (4 : Nat)) (64),
                                                                            PV.q (mkRat (1 : Int) (4 : Nat))
                                                                              (64)]])]].length &&
                                                        [PV.agg
                                                                  [PV.q
                                                                      (mkRat ((4 : Int) + (2 : Int) * nx v (4 : Int))
                                                                        (Int.toNat (4 : Int)))
                                                                      (64),
                                                                    PV.q
                                                                      (mkRat ((-1 : Int) - nx (rs v) (6 : Int))
                                                                        (Int.toNat (3 : Int)))
                                                                      (64),
                                                                    PV.q
                                                                      (mkRat ((1 : Int) + nx (rs (rs v)) (6 : Int))
                                                                        (Int.toNat (3 : Int)))
                                                                      (64),
                                                                    PV.q
                                                                      (mkRat (1 : Int)
                                                                        ((4 : Int) + nx (rs (rs (rs v))) (8 : Int)).toNat)
                                                                      (64),
                                                                    PV.q
                                                                      (mkRat (1 : Int)
                                                                        ((10 : Int) +
                                                                            nx (rs (rs (rs (rs v)))) (20 : Int)).toNat)
                                                                      (64),
                                                                    PV.lst (6)
                                                                      (Cont.vals
                                                                        [PV.agg
                                                                            [PV.q (mkRat (-1 : Int) (4 : Nat))
                                                                                (64),
                                                                              PV.q (mkRat (-1 : Int) (4 : Nat))
                                                                                (64)],
                                                                          PV.agg
                                                                            [PV.q
                                                                                (mkRat
                                                                                  ((4 : Int) +
                                                                                      (2 : Int) * nx v (4 : Int) +
                                                                                    (1 : Int))
                                                                                  (4 : Nat))
                                                                                (64),
                                                                              PV.q (mkRat (0 : Int) (4 : Nat))
                                                                                (64)],
                                                                          PV.agg
                                                                            [PV.q (mkRat (-1 : Int) (4 : Nat))
                                                                                (64),
                                                                              PV.q (mkRat (1 : Int) (4 : Nat))
                                                                                (64)]])]].length.ble
                                                          (4294967296 : Nat))
                                                      (Tr.br
                                                        (decide ((-9223372036854775808 : Int) ≤ i + (1 : Int)) &&
                                                          decide (i + (1 : Int) ≤ (9223372036854775807 : Int)))
                                                        (Tr.ok
                                                          (Res.out Exit.normal
                                                            {
                                                              t :=
                                                                [PV.ptr (0) (1) (0) (0)
                                                                    [],
                                                                  PV.ptr (1) (12) (0) (0)
                                                                    [],
                                                                  PV.ptr (2) (12) (0) (0)
                                                                    [],
                                                                  PV.i IntKind.i64 c, PV.i IntKind.i64 (i + (1 : Int))],
                                                              h :=
                                                                [some
                                                                    { e := 1,
                                                                      c :=
                                                                        Cont.vals
                                                                          [PV.agg [(rs (rs (rs (rs (rs (rs v)))))).w]] },
                                                                  some
                                                                    { e := 12,
                                                                      c :=
                                                                        Cont.vals
                                                                          [PV.agg
                                                                              [PV.s E,
                                                                                PV.agg
                                                                                  [PV.agg
                                                                                      [PV.agg
                                                                                          [PV.bl false, PV.s E, PV.s E],
                                                                                        PV.agg
                                                                                          [PV.bl false, PV.s E, PV.s E]],
                                                                                    PV.agg
                                                                                      [PV.bl false,
                                                                                        PV.agg
                                                                                          [PV.bl false, PV.s E, PV.s E]]],
                                                                                PV.nil]] },
                                                                  some
                                                                    { e := 12,
                                                                      c :=
                                                                        Cont.vals
                                                                          [PV.agg
                                                                              [PV.s nm,
                                                                                PV.agg
                                                                                  [PV.agg
                                                                                      [PV.q bx (64),
                                                                                        PV.q by_ (64)],
                                                                                    PV.agg
                                                                                      [PV.bl false, PV.q t (64)]],
                                                                                PV.sl (3) (16) (0)
                                                                                  (1)]] },
                                                                  some
                                                                    { e := 16,
                                                                      c :=
                                                                        Cont.vals
                                                                          [PV.agg
                                                                              [PV.q
                                                                                  (mkRat
                                                                                    ((4 : Int) +
                                                                                      (2 : Int) * nx v (4 : Int))
                                                                                    (Int.toNat (4 : Int)))
                                                                                  (64),
                                                                                PV.q
                                                                                  (mkRat
                                                                                    ((-1 : Int) - nx (rs v) (6 : Int))
                                                                                    (Int.toNat (3 : Int)))
                                                                                  (64),
                                                                                PV.q
                                                                                  (mkRat
                                                                                    ((1 : Int) + nx (rs (rs v)) (6 : Int))
                                                                                    (Int.toNat (3 : Int)))
                                                                                  (64),
                                                                                PV.q
                                                                                  (mkRat (1 : Int)
                                                                                    ((4 : Int) +
                                                                                        nx (rs (rs (rs v)))
                                                                                          (8 : Int)).toNat)
                                                                                  (64),
                                                                                PV.q
                                                                                  (mkRat (1 : Int)
                                                                                    ((10 : Int) +
                                                                                        nx (rs (rs (rs (rs v))))
                                                                                          (20 : Int)).toNat)
                                                                                  (64),
                                                                                PV.lst (6)
                                                                                  (Cont.vals
                                                                                    [PV.agg
                                                                                        [PV.q (mkRat (-1 : Int) (4 : Nat))
                                                                                            (64),
                                                                                          PV.q
                                                                                            (mkRat (-1 : Int) (4 : Nat))
                                                                                            (64)],
                                                                                      PV.agg
                                                                                        [PV.q
                                                                                            (mkRat
                                                                                              ((4 : Int) +
                                                                                                  (2 : Int) *
                                                                                                    nx v (4 : Int) +
                                                                                                (1 : Int))
                                                                                              (4 : Nat))
                                                                                            (64),
                                                                                          PV.q (mkRat (0 : Int) (4 : Nat))
                                                                                            (64)],
                                                                                      PV.agg
                                                                                        [PV.q (mkRat (-1 : Int) (4 : Nat))
                                                                                            (64),
                                                                                          PV.q (mkRat (1 : Int) (4 : Nat))
                                                                                            (64)]])]] }] }))
                                                        (Tr.no (11002)))
                                                      (Tr.no (10003)))
                                                    (Tr.no (1)))
                                                  (Tr.no (1)))
                                                (Tr.no (9006)))
                                              (Tr.no (1)))
                                            (Tr.br
                                              (Nat.blt (0 : Nat)
                                                  [PV.agg
                                                        [PV.q
                                                            (mkRat ((4 : Int) + (2 : Int) * nx v (4 : Int))
                                                              (Int.toNat (4 : Int)))
                                                            (64),
                                                          PV.q
                                                            (mkRat ((-1 : Int) - nx (rs v) (6 : Int))
                                                              (Int.toNat (3 : Int)))
                                                            (64),
                                                          PV.q
                                                            (mkRat ((1 : Int) + nx (rs (rs v)) (6 : Int))
                                                              (Int.toNat (3 : Int)))
                                                            (64),
                                                          PV.q
                                                            (mkRat (1 : Int)
                                                              ((4 : Int) + nx (rs (rs (rs v))) (8 : Int)).toNat)
                                                            (64),
                                                          PV.q
                                                            (mkRat (1 : Int)
                                                              ((10 : Int) + nx (rs (rs (rs (rs v)))) (20 : Int)).toNat)
                                                            (64),
                                                          PV.lst (6)
                                                            (Cont.vals
                                                              [PV.agg
                                                                  [PV.q (mkRat (-1 : Int) (4 : Nat)) (64),
                                                                    PV.q (mkRat (-1 : Int) (4 : Nat)) (64)],
                                                                PV.agg
                                                                  [PV.q
                                                                      (mkRat
                                                                        ((4 : Int) + (2 : Int) * nx v (4 : Int) +
                                                                          (1 : Int))
                                                                        (4 : Nat))
                                                                      (64),
                                                                    PV.q (mkRat (-1 : Int) (4 : Nat)) (64)],
                                                                PV.agg
                                                                  [PV.q
                                                                      (mkRat
                                                                        ((4 : Int) + (2 : Int) * nx v (4 : Int) +
                                                                          (1 : Int))
                                                                        (4 : Nat))
                                                                      (64),
                                                                    PV.q (mkRat (1 : Int) (4 : Nat)) (64)],
                                                                PV.agg
                                                                  [PV.q (mkRat (-1 : Int) (4 : Nat)) (64),
                                                                    PV.q (mkRat (1 : Int) (4 : Nat))
                                                                      (64)]])]].length &&
                                                [PV.agg
                                                          [PV.q
                                                              (mkRat ((4 : Int) + (2 : Int) * nx v (4 : Int))
                                                                (Int.toNat (4 : Int)))
                                                              (64),
                                                            PV.q
                                                              (mkRat ((-1 : Int) - nx (rs v) (6 : Int))
                                                                (Int.toNat (3 : Int)))
                                                              (64),
                                                            PV.q
                                                              (mkRat ((1 : Int) + nx (rs (rs v)) (6 : Int))
                                                                (Int.toNat (3 : Int)))
                                                              (64),
                                                            PV.q
                                                              (mkRat (1 : Int)
                                                                ((4 : Int) + nx (rs (rs (rs v))) (8 : Int)).toNat)
                                                              (64),
                                                            PV.q
                                                              (mkRat (1 : Int)
                                                                ((10 : Int) + nx (rs (rs (rs (rs v)))) (20 : Int)).toNat)
                                                              (64),
                                                            PV.lst (6)
                                                              (Cont.vals
                                                                [PV.agg
                                                                    [PV.q (mkRat (-1 : Int) (4 : Nat)) (64),
                                                                      PV.q (mkRat (-1 : Int) (4 : Nat)) (64)],
                                                                  PV.agg
                                                                    [PV.q
                                                                        (mkRat
                                                                          ((4 : Int) + (2 : Int) * nx v (4 : Int) +
                                                                            (1 : Int))
                                                                          (4 : Nat))
                                                                        (64),
                                                                      PV.q (mkRat (-1 : Int) (4 : Nat)) (64)],
                                                                  PV.agg
                                                                    [PV.q
                                                                        (mkRat
                                                                          ((4 : Int) + (2 : Int) * nx v (4 : Int) +
                                                                            (1 : Int))
                                                                          (4 : Nat))
                                                                        (64),
                                                                      PV.q (mkRat (1 : Int) (4 : Nat)) (64)],
                                                                  PV.agg
                                                                    [PV.q (mkRat (-1 : Int) (4 : Nat)) (64),
                                                                      PV.q (mkRat (1 : Int) (4 : Nat))
                                                                        (64)]])]].length.ble
                                                  (4294967296 : Nat))
                                              (Tr.br
                                                (decide ((-9223372036854775808 : Int) ≤ i + (1 : Int)) &&
                                                  decide (i + (1 : Int) ≤ (9223372036854775807 : Int)))
                                                (Tr.ok
                                                  (Res.out Exit.normal
                                                    {
                                                      t :=
                                                        [PV.ptr (0) (1) (0) (0) [],
                                                          PV.ptr (1) (12) (0) (0) [],
                                                          PV.ptr (2) (12) (0) (0) [],
                                                          PV.i IntKind.i64 c, PV.i IntKind.i64 (i + (1 : Int))],
                                                      h :=
                                                        [some
                                                            { e := 1,
                                                              c :=
                                                                Cont.vals [PV.agg [(rs (rs (rs (rs (rs (rs v)))))).w]] },
                                                          some
                                                            { e := 12,
                                                              c :=
                                                                Cont.vals
                                                                  [PV.agg
                                                                      [PV.s E,
                                                                        PV.agg
                                                                          [PV.agg
                                                                              [PV.agg [PV.bl false, PV.s E, PV.s E],
                                                                                PV.agg [PV.bl false, PV.s E, PV.s E]],
                                                                            PV.agg
                                                                              [PV.bl false,
                                                                                PV.agg [PV.bl false, PV.s E, PV.s E]]],
                                                                        PV.nil]] },
                                                          some
                                                            { e := 12,
                                                              c :=
                                                                Cont.vals
                                                                  [PV.agg
                                                                      [PV.s nm,
                                                                        PV.agg
                                                                          [PV.agg
                                                                              [PV.q bx (64),
                                                                                PV.q by_ (64)],
                                                                            PV.agg [PV.bl false, PV.q t (64)]],
                                                                        PV.sl (3) (16) (0)
                                                                          (1)]] },
                                                          some
                                                            { e := 16,
                                                              c :=
                                                                Cont.vals
                                                                  [PV.agg
                                                                      [PV.q
                                                                          (mkRat ((4 : Int) + (2 : Int) * nx v (4 : Int))
                                                                            (Int.toNat (4 : Int)))
                                                                          (64),
                                                                        PV.q
                                                                          (mkRat ((-1 : Int) - nx (rs v) (6 : Int))
                                                                            (Int.toNat (3 : Int)))
                                                                          (64),
                                                                        PV.q
                                                                          (mkRat ((1 : Int) + nx (rs (rs v)) (6 : Int))
                                                                            (Int.toNat (3 : Int)))
                                                                          (64),
                                                                        PV.q
                                                                          (mkRat (1 : Int)
                                                                            ((4 : Int) +
                                                                                nx (rs (rs (rs v))) (8 : Int)).toNat)
                                                                          (64),
                                                                        PV.q
                                                                          (mkRat (1 : Int)
                                                                            ((10 : Int) +
                                                                                nx (rs (rs (rs (rs v))))
                                                                                  (20 : Int)).toNat)
                                                                          (64),
                                                                        PV.lst (6)
                                                                          (Cont.vals
                                                                            [PV.agg
                                                                                [PV.q (mkRat (-1 : Int) (4 : Nat))
                                                                                    (64),
                                                                                  PV.q (mkRat (-1 : Int) (4 : Nat))
                                                                                    (64)],
                                                                              PV.agg
                                                                                [PV.q
                                                                                    (mkRat
                                                                                      ((4 : Int) +
                                                                                          (2 : Int) * nx v (4 : Int) +
                                                                                        (1 : Int))
                                                                                      (4 : Nat))
                                                                                    (64),
                                                                                  PV.q (mkRat (-1 : Int) (4 : Nat))
                                                                                    (64)],
                                                                              PV.agg
                                                                                [PV.q
                                                                                    (mkRat
                                                                                      ((4 : Int) +
                                                                                          (2 : Int) * nx v (4 : Int) +
                                                                                        (1 : Int))
                                                                                      (4 : Nat))
                                                                                    (64),
                                                                                  PV.q (mkRat (1 : Int) (4 : Nat))
                                                                                    (64)],
                                                                              PV.agg
                                                                                [PV.q (mkRat (-1 : Int) (4 : Nat))
                                                                                    (64),
                                                                                  PV.q (mkRat (1 : Int) (4 : Nat))
                                                                                    (64)]])]] }] }))
                                                (Tr.no (11002)))
                                              (Tr.no (10003))))
                                          (Tr.no (1)))
                                        (Tr.no (1)))
                                      (Tr.no (7005)))
                                    (Tr.no (1)))
                                  (Tr.no (7008)))
                                (Tr.no (1)))
                              (Tr.no (1)))
                            (Tr.no (7012)))
                          (Tr.no (1)))
                        (Tr.no (1)))
                      (Tr.no (7016)))
                    (Tr.no (1)))
                  (Tr.no (1)))
                (Tr.no (7020)))
              (Tr.no (1)))
            (Tr.no (1)))
          (Tr.no (6002)))
        (Tr.no (6003)))
      (Tr.no (1)))
    (Tr.ok
      (Res.out (Exit.exit (0))
        {
          t :=
            [PV.ptr (0) (1) (0) (0) [],
              PV.ptr (1) (12) (0) (0) [],
              PV.ptr (2) (12) (0) (0) [], PV.i IntKind.i64 c, PV.i IntKind.i64 i],
          h :=
            [some { e := 1, c := Cont.vals [PV.agg [v.w]] },
              some
                { e := 12,
                  c :=
                    Cont.vals
                      [PV.agg
                          [PV.s E,
                            PV.agg
                              [PV.agg [PV.agg [PV.bl false, PV.s E, PV.s E], PV.agg [PV.bl false, PV.s E, PV.s E]],
                                PV.agg [PV.bl false, PV.agg [PV.bl false, PV.s E, PV.s E]]],
                            PV.nil]] },
              some
                { e := 12,
                  c :=
                    Cont.vals
                      [PV.agg
                          [PV.s nm,
                            PV.agg
                              [PV.agg [PV.q bx (64), PV.q by_ (64)],
                                PV.agg [PV.bl false, PV.q t (64)]],
                            PV.nil]] }] })) := by kernel_rfl
theorem r68b (v : PV) (nm : ByteArray) (bx by_ t : Rat) (c i : Int) (a1 b1 c1 d1 e1 : Rat) (s1 : Cont) : evRound Tryd.prog O68 [] pol68 Tryd.f68.ntmps 1 [0, 4, 5, 30, 31] b68 (st68 v nm bx by_ t (.sl 3 16 0 1) [some ⟨16, .vals [lkC a1 b1 c1 d1 e1 s1]⟩] c i) =
  Tr.br (decide (i < c))
    (Tr.br (okW v && decide ((0 : Int) < (4 : Int)) && decide ((4 : Int) ≤ (4294967296 : Int)))
      (Tr.br
        (decide ((-9223372036854775808 : Int) ≤ (2 : Int) * nx v (4 : Int)) &&
          decide ((2 : Int) * nx v (4 : Int) ≤ (9223372036854775807 : Int)))
        (Tr.br
          (decide ((-9223372036854775808 : Int) ≤ (4 : Int) + (2 : Int) * nx v (4 : Int)) &&
            decide ((4 : Int) + (2 : Int) * nx v (4 : Int) ≤ (9223372036854775807 : Int)))
          (Tr.br
            (decide ((0 : Int) < (4 : Int)) && decide ((4 : Int) < (4611686018427387904 : Int)) &&
                decide ((-4611686018427387904 : Int) < (4 : Int) + (2 : Int) * nx v (4 : Int)) &&
              decide ((4 : Int) + (2 : Int) * nx v (4 : Int) < (4611686018427387904 : Int)))
            (Tr.br (okW (rs v) && decide ((0 : Int) < (6 : Int)) && decide ((6 : Int) ≤ (4294967296 : Int)))
              (Tr.br
                (decide ((-9223372036854775808 : Int) ≤ (-1 : Int) - nx (rs v) (6 : Int)) &&
                  decide ((-1 : Int) - nx (rs v) (6 : Int) ≤ (9223372036854775807 : Int)))
                (Tr.br
                  (decide ((0 : Int) < (3 : Int)) && decide ((3 : Int) < (4611686018427387904 : Int)) &&
                      decide ((-4611686018427387904 : Int) < (-1 : Int) - nx (rs v) (6 : Int)) &&
                    decide ((-1 : Int) - nx (rs v) (6 : Int) < (4611686018427387904 : Int)))
                  (Tr.br (okW (rs (rs v)) && decide ((0 : Int) < (6 : Int)) && decide ((6 : Int) ≤ (4294967296 : Int)))
                    (Tr.br
                      (decide ((-9223372036854775808 : Int) ≤ (1 : Int) + nx (rs (rs v)) (6 : Int)) &&
                        decide ((1 : Int) + nx (rs (rs v)) (6 : Int) ≤ (9223372036854775807 : Int)))
                      (Tr.br
                        (decide ((0 : Int) < (3 : Int)) && decide ((3 : Int) < (4611686018427387904 : Int)) &&
                            decide ((-4611686018427387904 : Int) < (1 : Int) + nx (rs (rs v)) (6 : Int)) &&
                          decide ((1 : Int) + nx (rs (rs v)) (6 : Int) < (4611686018427387904 : Int)))
                        (Tr.br
                          (okW (rs (rs (rs v))) && decide ((0 : Int) < (8 : Int)) &&
                            decide ((8 : Int) ≤ (4294967296 : Int)))
                          (Tr.br
                            (decide ((-9223372036854775808 : Int) ≤ (4 : Int) + nx (rs (rs (rs v))) (8 : Int)) &&
                              decide ((4 : Int) + nx (rs (rs (rs v))) (8 : Int) ≤ (9223372036854775807 : Int)))
                            (Tr.br
                              (decide ((0 : Int) < (4 : Int) + nx (rs (rs (rs v))) (8 : Int)) &&
                                    decide ((4 : Int) + nx (rs (rs (rs v))) (8 : Int) < (4611686018427387904 : Int)) &&
                                  decide ((-4611686018427387904 : Int) < (1 : Int)) &&
                                decide ((1 : Int) < (4611686018427387904 : Int)))
                              (Tr.br
                                (okW (rs (rs (rs (rs v)))) && decide ((0 : Int) < (20 : Int)) &&
                                  decide ((20 : Int) ≤ (4294967296 : Int)))
                                (Tr.br
                                  (decide
                                      ((-9223372036854775808 : Int) ≤ (10 : Int) + nx (rs (rs (rs (rs v)))) (20 : Int)) &&
                                    decide
                                      ((10 : Int) + nx (rs (rs (rs (rs v)))) (20 : Int) ≤ (9223372036854775807 : Int)))
                                  (Tr.br
                                    (decide ((0 : Int) < (10 : Int) + nx (rs (rs (rs (rs v)))) (20 : Int)) &&
                                          decide
                                            ((10 : Int) + nx (rs (rs (rs (rs v)))) (20 : Int) <
                                              (4611686018427387904 : Int)) &&
                                        decide ((-4611686018427387904 : Int) < (1 : Int)) &&
                                      decide ((1 : Int) < (4611686018427387904 : Int)))
                                    (Tr.br
                                      (decide
                                          ((-9223372036854775808 : Int) ≤
                                            (4 : Int) + (2 : Int) * nx v (4 : Int) + (1 : Int)) &&
                                        decide
                                          ((4 : Int) + (2 : Int) * nx v (4 : Int) + (1 : Int) ≤
                                            (9223372036854775807 : Int)))
                                      (Tr.br
                                        (smI (-1 : Int) && smI (-1 : Int) &&
                                            smI ((4 : Int) + (2 : Int) * nx v (4 : Int) + (1 : Int)) &&
                                          smI (1 : Int))
                                        (Tr.br
                                          (okW (rs (rs (rs (rs (rs v))))) && decide ((0 : Int) < (3 : Int)) &&
                                            decide ((3 : Int) ≤ (4294967296 : Int)))
                                          (Tr.br (decide (nx (rs (rs (rs (rs (rs v))))) (3 : Int) = (2 : Int)))
                                            (Tr.br (smI (-1 : Int) && smI (-1 : Int))
                                              (Tr.br
                                                (decide
                                                    ((-9223372036854775808 : Int) ≤
                                                      (4 : Int) + (2 : Int) * nx v (4 : Int) + (1 : Int)) &&
                                                  decide
                                                    ((4 : Int) + (2 : Int) * nx v (4 : Int) + (1 : Int) ≤
                                                      (9223372036854775807 : Int)))
                                                (Tr.br
                                                  (smI ((4 : Int) + (2 : Int) * nx v (4 : Int) + (1 : Int)) &&
                                                    smI (0 : Int))
                                                  (Tr.br (smI (-1 : Int) && smI (1 : Int))
                                                    (Tr.br
                                                      (((1 : Nat) +
                                                            [PV.agg
                                                                  [PV.q
                                                                      (mkRat ((4 : Int) + (2 : Int) * nx v (4 : Int))
                                                                        (Int.toNat (4 : Int)))
                                                                      (64),
                                                                    PV.q
                                                                      (mkRat ((-1 : Int) - nx (rs v) (6 : Int))
                                                                        (Int.toNat (3 : Int)))
                                                                      (64),
                                                                    PV.q
                                                                      (mkRat ((1 : Int) + nx (rs (rs v)) (6 : Int))
                                                                        (Int.toNat (3 : Int)))
                                                                      (64),
                                                                    PV.q
                                                                      (mkRat (1 : Int)
                                                                        ((4 : Int) + nx (rs (rs (rs v))) (8 : Int)).toNat)
                                                                      (64),
                                                                    PV.q
                                                                      (mkRat (1 : Int)
                                                                        ((10 : Int) +
                                                                            nx (rs (rs (rs (rs v)))) (20 : Int)).toNat)
                                                                      (64),
                                                                    PV.lst (6)
                                                                      (Cont.vals
                                                                        [PV.agg
                                                                            [PV.q (mkRat (-1 : Int) (4 : Nat))
                                                                                (64),
                                                                              PV.q (mkRat (-1 : Int) (4 : Nat))
                                                                                (64)],
                                                                          PV.agg
                                                                            [PV.q
                                                                                (mkRat
                                                                                  ((4 : Int) +
                                                                                      (2 : Int) * nx v (4 : Int) +
                                                                                    (1 : Int))
                                                                                  (4 : Nat))
                                                                                (64),
                                                                              PV.q (mkRat (0 : Int) (4 : Nat))
                                                                                (64)],
                                                                          PV.agg
                                                                            [PV.q (mkRat (-1 : Int) (4 : Nat))
                                                                                (64),
                                                                              PV.q (mkRat (1 : Int) (4 : Nat))
                                                                                (64)]])]].length).ble
                                                        (4294967296 : Nat))
                                                      (Tr.br
                                                        (decide ((-9223372036854775808 : Int) ≤ i + (1 : Int)) &&
                                                          decide (i + (1 : Int) ≤ (9223372036854775807 : Int)))
                                                        (Tr.ok
                                                          (Res.out Exit.normal
                                                            {
                                                              t :=
                                                                [PV.ptr (0) (1) (0) (0)
                                                                    [],
                                                                  PV.ptr (1) (12) (0) (0)
                                                                    [],
                                                                  PV.ptr (2) (12) (0) (0)
                                                                    [],
                                                                  PV.i IntKind.i64 c, PV.i IntKind.i64 (i + (1 : Int))],
                                                              h :=
                                                                [some
                                                                    { e := 1,
                                                                      c :=
                                                                        Cont.vals
                                                                          [PV.agg [(rs (rs (rs (rs (rs (rs v)))))).w]] },
                                                                  some
                                                                    { e := 12,
                                                                      c :=
                                                                        Cont.vals
                                                                          [PV.agg
                                                                              [PV.s E,
                                                                                PV.agg
                                                                                  [PV.agg
                                                                                      [PV.agg
                                                                                          [PV.bl false, PV.s E, PV.s E],
                                                                                        PV.agg
                                                                                          [PV.bl false, PV.s E, PV.s E]],
                                                                                    PV.agg
                                                                                      [PV.bl false,
                                                                                        PV.agg
                                                                                          [PV.bl false, PV.s E, PV.s E]]],
                                                                                PV.nil]] },
                                                                  some
                                                                    { e := 12,
                                                                      c :=
                                                                        Cont.vals
                                                                          [PV.agg
                                                                              [PV.s nm,
                                                                                PV.agg
                                                                                  [PV.agg
                                                                                      [PV.q bx (64),
                                                                                        PV.q by_ (64)],
                                                                                    PV.agg
                                                                                      [PV.bl false, PV.q t (64)]],
                                                                                PV.sl (3) (16) (0)
                                                                                  (2)]] },
                                                                  some
                                                                    { e := 16,
                                                                      c :=
                                                                        Cont.vals
                                                                          [PV.agg
                                                                              [PV.q a1 (64), PV.q b1 (64),
                                                                                PV.q c1 (64),
                                                                                PV.q d1 (64),
                                                                                PV.q e1 (64),
                                                                                PV.lst (6) s1],
                                                                            PV.agg
                                                                              [PV.q
                                                                                  (mkRat
                                                                                    ((4 : Int) +
                                                                                      (2 : Int) * nx v (4 : Int))
                                                                                    (Int.toNat (4 : Int)))
                                                                                  (64),
                                                                                PV.q
                                                                                  (mkRat
                                                                                    ((-1 : Int) - nx (rs v) (6 : Int))
                                                                                    (Int.toNat (3 : Int)))
                                                                                  (64),
                                                                                PV.q
                                                                                  (mkRat
                                                                                    ((1 : Int) + nx (rs (rs v)) (6 : Int))
                                                                                    (Int.toNat (3 : Int)))
                                                                                  (64),
                                                                                PV.q
                                                                                  (mkRat (1 : Int)
                                                                                    ((4 : Int) +
                                                                                        nx (rs (rs (rs v)))
                                                                                          (8 : Int)).toNat)
                                                                                  (64),
                                                                                PV.q
                                                                                  (mkRat (1 : Int)
                                                                                    ((10 : Int) +
                                                                                        nx (rs (rs (rs (rs v))))
                                                                                          (20 : Int)).toNat)
                                                                                  (64),
                                                                                PV.lst (6)
                                                                                  (Cont.vals
                                                                                    [PV.agg
                                                                                        [PV.q (mkRat (-1 : Int) (4 : Nat))
                                                                                            (64),
                                                                                          PV.q
                                                                                            (mkRat (-1 : Int) (4 : Nat))
                                                                                            (64)],
                                                                                      PV.agg
                                                                                        [PV.q
                                                                                            (mkRat
                                                                                              ((4 : Int) +
                                                                                                  (2 : Int) *
                                                                                                    nx v (4 : Int) +
                                                                                                (1 : Int))
                                                                                              (4 : Nat))
                                                                                            (64),
                                                                                          PV.q (mkRat (0 : Int) (4 : Nat))
                                                                                            (64)],
                                                                                      PV.agg
                                                                                        [PV.q (mkRat (-1 : Int) (4 : Nat))
                                                                                            (64),
                                                                                          PV.q (mkRat (1 : Int) (4 : Nat))
                                                                                            (64)]])]] }] }))
                                                        (Tr.no (11002)))
                                                      (Tr.no (10003)))
                                                    (Tr.no (1)))
                                                  (Tr.no (1)))
                                                (Tr.no (9006)))
                                              (Tr.no (1)))
                                            (Tr.br
                                              (((1 : Nat) +
                                                    [PV.agg
                                                          [PV.q
                                                              (mkRat ((4 : Int) + (2 : Int) * nx v (4 : Int))
                                                                (Int.toNat (4 : Int)))
                                                              (64),
                                                            PV.q
                                                              (mkRat ((-1 : Int) - nx (rs v) (6 : Int))
                                                                (Int.toNat (3 : Int)))
                                                              (64),
                                                            PV.q
                                                              (mkRat ((1 : Int) + nx (rs (rs v)) (6 : Int))
                                                                (Int.toNat (3 : Int)))
                                                              (64),
                                                            PV.q
                                                              (mkRat (1 : Int)
                                                                ((4 : Int) + nx (rs (rs (rs v))) (8 : Int)).toNat)
                                                              (64),
                                                            PV.q
                                                              (mkRat (1 : Int)
                                                                ((10 : Int) + nx (rs (rs (rs (rs v)))) (20 : Int)).toNat)
                                                              (64),
                                                            PV.lst (6)
                                                              (Cont.vals
                                                                [PV.agg
                                                                    [PV.q (mkRat (-1 : Int) (4 : Nat)) (64),
                                                                      PV.q (mkRat (-1 : Int) (4 : Nat)) (64)],
                                                                  PV.agg
                                                                    [PV.q
                                                                        (mkRat
                                                                          ((4 : Int) + (2 : Int) * nx v (4 : Int) +
                                                                            (1 : Int))
                                                                          (4 : Nat))
                                                                        (64),
                                                                      PV.q (mkRat (-1 : Int) (4 : Nat)) (64)],
                                                                  PV.agg
                                                                    [PV.q
                                                                        (mkRat
                                                                          ((4 : Int) + (2 : Int) * nx v (4 : Int) +
                                                                            (1 : Int))
                                                                          (4 : Nat))
                                                                        (64),
                                                                      PV.q (mkRat (1 : Int) (4 : Nat)) (64)],
                                                                  PV.agg
                                                                    [PV.q (mkRat (-1 : Int) (4 : Nat)) (64),
                                                                      PV.q (mkRat (1 : Int) (4 : Nat))
                                                                        (64)]])]].length).ble
                                                (4294967296 : Nat))
                                              (Tr.br
                                                (decide ((-9223372036854775808 : Int) ≤ i + (1 : Int)) &&
                                                  decide (i + (1 : Int) ≤ (9223372036854775807 : Int)))
                                                (Tr.ok
                                                  (Res.out Exit.normal
                                                    {
                                                      t :=
                                                        [PV.ptr (0) (1) (0) (0) [],
                                                          PV.ptr (1) (12) (0) (0) [],
                                                          PV.ptr (2) (12) (0) (0) [],
                                                          PV.i IntKind.i64 c, PV.i IntKind.i64 (i + (1 : Int))],
                                                      h :=
                                                        [some
                                                            { e := 1,
                                                              c :=
                                                                Cont.vals [PV.agg [(rs (rs (rs (rs (rs (rs v)))))).w]] },
                                                          some
                                                            { e := 12,
                                                              c :=
                                                                Cont.vals
                                                                  [PV.agg
                                                                      [PV.s E,
                                                                        PV.agg
                                                                          [PV.agg
                                                                              [PV.agg [PV.bl false, PV.s E, PV.s E],
                                                                                PV.agg [PV.bl false, PV.s E, PV.s E]],
                                                                            PV.agg
                                                                              [PV.bl false,
                                                                                PV.agg [PV.bl false, PV.s E, PV.s E]]],
                                                                        PV.nil]] },
                                                          some
                                                            { e := 12,
                                                              c :=
                                                                Cont.vals
                                                                  [PV.agg
                                                                      [PV.s nm,
                                                                        PV.agg
                                                                          [PV.agg
                                                                              [PV.q bx (64),
                                                                                PV.q by_ (64)],
                                                                            PV.agg [PV.bl false, PV.q t (64)]],
                                                                        PV.sl (3) (16) (0)
                                                                          (2)]] },
                                                          some
                                                            { e := 16,
                                                              c :=
                                                                Cont.vals
                                                                  [PV.agg
                                                                      [PV.q a1 (64), PV.q b1 (64),
                                                                        PV.q c1 (64), PV.q d1 (64),
                                                                        PV.q e1 (64), PV.lst (6) s1],
                                                                    PV.agg
                                                                      [PV.q
                                                                          (mkRat ((4 : Int) + (2 : Int) * nx v (4 : Int))
                                                                            (Int.toNat (4 : Int)))
                                                                          (64),
                                                                        PV.q
                                                                          (mkRat ((-1 : Int) - nx (rs v) (6 : Int))
                                                                            (Int.toNat (3 : Int)))
                                                                          (64),
                                                                        PV.q
                                                                          (mkRat ((1 : Int) + nx (rs (rs v)) (6 : Int))
                                                                            (Int.toNat (3 : Int)))
                                                                          (64),
                                                                        PV.q
                                                                          (mkRat (1 : Int)
                                                                            ((4 : Int) +
                                                                                nx (rs (rs (rs v))) (8 : Int)).toNat)
                                                                          (64),
                                                                        PV.q
                                                                          (mkRat (1 : Int)
                                                                            ((10 : Int) +
                                                                                nx (rs (rs (rs (rs v))))
                                                                                  (20 : Int)).toNat)
                                                                          (64),
                                                                        PV.lst (6)
                                                                          (Cont.vals
                                                                            [PV.agg
                                                                                [PV.q (mkRat (-1 : Int) (4 : Nat))
                                                                                    (64),
                                                                                  PV.q (mkRat (-1 : Int) (4 : Nat))
                                                                                    (64)],
                                                                              PV.agg
                                                                                [PV.q
                                                                                    (mkRat
                                                                                      ((4 : Int) +
                                                                                          (2 : Int) * nx v (4 : Int) +
                                                                                        (1 : Int))
                                                                                      (4 : Nat))
                                                                                    (64),
                                                                                  PV.q (mkRat (-1 : Int) (4 : Nat))
                                                                                    (64)],
                                                                              PV.agg
                                                                                [PV.q
                                                                                    (mkRat
                                                                                      ((4 : Int) +
                                                                                          (2 : Int) * nx v (4 : Int) +
                                                                                        (1 : Int))
                                                                                      (4 : Nat))
                                                                                    (64),
                                                                                  PV.q (mkRat (1 : Int) (4 : Nat))
                                                                                    (64)],
                                                                              PV.agg
                                                                                [PV.q (mkRat (-1 : Int) (4 : Nat))
                                                                                    (64),
                                                                                  PV.q (mkRat (1 : Int) (4 : Nat))
                                                                                    (64)]])]] }] }))
                                                (Tr.no (11002)))
                                              (Tr.no (10003))))
                                          (Tr.no (1)))
                                        (Tr.no (1)))
                                      (Tr.no (7005)))
                                    (Tr.no (1)))
                                  (Tr.no (7008)))
                                (Tr.no (1)))
                              (Tr.no (1)))
                            (Tr.no (7012)))
                          (Tr.no (1)))
                        (Tr.no (1)))
                      (Tr.no (7016)))
                    (Tr.no (1)))
                  (Tr.no (1)))
                (Tr.no (7020)))
              (Tr.no (1)))
            (Tr.no (1)))
          (Tr.no (6002)))
        (Tr.no (6003)))
      (Tr.no (1)))
    (Tr.ok
      (Res.out (Exit.exit (0))
        {
          t :=
            [PV.ptr (0) (1) (0) (0) [],
              PV.ptr (1) (12) (0) (0) [],
              PV.ptr (2) (12) (0) (0) [], PV.i IntKind.i64 c, PV.i IntKind.i64 i],
          h :=
            [some { e := 1, c := Cont.vals [PV.agg [v.w]] },
              some
                { e := 12,
                  c :=
                    Cont.vals
                      [PV.agg
                          [PV.s E,
                            PV.agg
                              [PV.agg [PV.agg [PV.bl false, PV.s E, PV.s E], PV.agg [PV.bl false, PV.s E, PV.s E]],
                                PV.agg [PV.bl false, PV.agg [PV.bl false, PV.s E, PV.s E]]],
                            PV.nil]] },
              some
                { e := 12,
                  c :=
                    Cont.vals
                      [PV.agg
                          [PV.s nm,
                            PV.agg
                              [PV.agg [PV.q bx (64), PV.q by_ (64)],
                                PV.agg [PV.bl false, PV.q t (64)]],
                            PV.sl (3) (16) (0) (1)]] },
              some
                { e := 16,
                  c :=
                    Cont.vals
                      [PV.agg
                          [PV.q a1 (64), PV.q b1 (64), PV.q c1 (64), PV.q d1 (64),
                            PV.q e1 (64), PV.lst (6) s1]] }] })) := by kernel_rfl
theorem r68c (v : PV) (nm : ByteArray) (bx by_ t : Rat) (c i : Int) (a1 b1 c1 d1 e1 a2 b2 c2 d2 e2 : Rat) (s1 s2 : Cont) : evRound Tryd.prog O68 [] pol68 Tryd.f68.ntmps 1 [0, 4, 5, 30, 31] b68 (st68 v nm bx by_ t (.sl 3 16 0 2) [some ⟨16, .vals [lkC a1 b1 c1 d1 e1 s1, lkC a2 b2 c2 d2 e2 s2]⟩] c i) =
  Tr.br (decide (i < c))
    (Tr.br (okW v && decide ((0 : Int) < (4 : Int)) && decide ((4 : Int) ≤ (4294967296 : Int)))
      (Tr.br
        (decide ((-9223372036854775808 : Int) ≤ (2 : Int) * nx v (4 : Int)) &&
          decide ((2 : Int) * nx v (4 : Int) ≤ (9223372036854775807 : Int)))
        (Tr.br
          (decide ((-9223372036854775808 : Int) ≤ (4 : Int) + (2 : Int) * nx v (4 : Int)) &&
            decide ((4 : Int) + (2 : Int) * nx v (4 : Int) ≤ (9223372036854775807 : Int)))
          (Tr.br
            (decide ((0 : Int) < (4 : Int)) && decide ((4 : Int) < (4611686018427387904 : Int)) &&
                decide ((-4611686018427387904 : Int) < (4 : Int) + (2 : Int) * nx v (4 : Int)) &&
              decide ((4 : Int) + (2 : Int) * nx v (4 : Int) < (4611686018427387904 : Int)))
            (Tr.br (okW (rs v) && decide ((0 : Int) < (6 : Int)) && decide ((6 : Int) ≤ (4294967296 : Int)))
              (Tr.br
                (decide ((-9223372036854775808 : Int) ≤ (-1 : Int) - nx (rs v) (6 : Int)) &&
                  decide ((-1 : Int) - nx (rs v) (6 : Int) ≤ (9223372036854775807 : Int)))
                (Tr.br
                  (decide ((0 : Int) < (3 : Int)) && decide ((3 : Int) < (4611686018427387904 : Int)) &&
                      decide ((-4611686018427387904 : Int) < (-1 : Int) - nx (rs v) (6 : Int)) &&
                    decide ((-1 : Int) - nx (rs v) (6 : Int) < (4611686018427387904 : Int)))
                  (Tr.br (okW (rs (rs v)) && decide ((0 : Int) < (6 : Int)) && decide ((6 : Int) ≤ (4294967296 : Int)))
                    (Tr.br
                      (decide ((-9223372036854775808 : Int) ≤ (1 : Int) + nx (rs (rs v)) (6 : Int)) &&
                        decide ((1 : Int) + nx (rs (rs v)) (6 : Int) ≤ (9223372036854775807 : Int)))
                      (Tr.br
                        (decide ((0 : Int) < (3 : Int)) && decide ((3 : Int) < (4611686018427387904 : Int)) &&
                            decide ((-4611686018427387904 : Int) < (1 : Int) + nx (rs (rs v)) (6 : Int)) &&
                          decide ((1 : Int) + nx (rs (rs v)) (6 : Int) < (4611686018427387904 : Int)))
                        (Tr.br
                          (okW (rs (rs (rs v))) && decide ((0 : Int) < (8 : Int)) &&
                            decide ((8 : Int) ≤ (4294967296 : Int)))
                          (Tr.br
                            (decide ((-9223372036854775808 : Int) ≤ (4 : Int) + nx (rs (rs (rs v))) (8 : Int)) &&
                              decide ((4 : Int) + nx (rs (rs (rs v))) (8 : Int) ≤ (9223372036854775807 : Int)))
                            (Tr.br
                              (decide ((0 : Int) < (4 : Int) + nx (rs (rs (rs v))) (8 : Int)) &&
                                    decide ((4 : Int) + nx (rs (rs (rs v))) (8 : Int) < (4611686018427387904 : Int)) &&
                                  decide ((-4611686018427387904 : Int) < (1 : Int)) &&
                                decide ((1 : Int) < (4611686018427387904 : Int)))
                              (Tr.br
                                (okW (rs (rs (rs (rs v)))) && decide ((0 : Int) < (20 : Int)) &&
                                  decide ((20 : Int) ≤ (4294967296 : Int)))
                                (Tr.br
                                  (decide
                                      ((-9223372036854775808 : Int) ≤ (10 : Int) + nx (rs (rs (rs (rs v)))) (20 : Int)) &&
                                    decide
                                      ((10 : Int) + nx (rs (rs (rs (rs v)))) (20 : Int) ≤ (9223372036854775807 : Int)))
                                  (Tr.br
                                    (decide ((0 : Int) < (10 : Int) + nx (rs (rs (rs (rs v)))) (20 : Int)) &&
                                          decide
                                            ((10 : Int) + nx (rs (rs (rs (rs v)))) (20 : Int) <
                                              (4611686018427387904 : Int)) &&
                                        decide ((-4611686018427387904 : Int) < (1 : Int)) &&
                                      decide ((1 : Int) < (4611686018427387904 : Int)))
                                    (Tr.br
                                      (decide
                                          ((-9223372036854775808 : Int) ≤
                                            (4 : Int) + (2 : Int) * nx v (4 : Int) + (1 : Int)) &&
                                        decide
                                          ((4 : Int) + (2 : Int) * nx v (4 : Int) + (1 : Int) ≤
                                            (9223372036854775807 : Int)))
                                      (Tr.br
                                        (smI (-1 : Int) && smI (-1 : Int) &&
                                            smI ((4 : Int) + (2 : Int) * nx v (4 : Int) + (1 : Int)) &&
                                          smI (1 : Int))
                                        (Tr.br
                                          (okW (rs (rs (rs (rs (rs v))))) && decide ((0 : Int) < (3 : Int)) &&
                                            decide ((3 : Int) ≤ (4294967296 : Int)))
                                          (Tr.br (decide (nx (rs (rs (rs (rs (rs v))))) (3 : Int) = (2 : Int)))
                                            (Tr.br (smI (-1 : Int) && smI (-1 : Int))
                                              (Tr.br
                                                (decide
                                                    ((-9223372036854775808 : Int) ≤
                                                      (4 : Int) + (2 : Int) * nx v (4 : Int) + (1 : Int)) &&
                                                  decide
                                                    ((4 : Int) + (2 : Int) * nx v (4 : Int) + (1 : Int) ≤
                                                      (9223372036854775807 : Int)))
                                                (Tr.br
                                                  (smI ((4 : Int) + (2 : Int) * nx v (4 : Int) + (1 : Int)) &&
                                                    smI (0 : Int))
                                                  (Tr.br (smI (-1 : Int) && smI (1 : Int))
                                                    (Tr.br
                                                      (((2 : Nat) +
                                                            [PV.agg
                                                                  [PV.q
                                                                      (mkRat ((4 : Int) + (2 : Int) * nx v (4 : Int))
                                                                        (Int.toNat (4 : Int)))
                                                                      (64),
                                                                    PV.q
                                                                      (mkRat ((-1 : Int) - nx (rs v) (6 : Int))
                                                                        (Int.toNat (3 : Int)))
                                                                      (64),
                                                                    PV.q
                                                                      (mkRat ((1 : Int) + nx (rs (rs v)) (6 : Int))
                                                                        (Int.toNat (3 : Int)))
                                                                      (64),
                                                                    PV.q
                                                                      (mkRat (1 : Int)
                                                                        ((4 : Int) + nx (rs (rs (rs v))) (8 : Int)).toNat)
                                                                      (64),
                                                                    PV.q
                                                                      (mkRat (1 : Int)
                                                                        ((10 : Int) +
                                                                            nx (rs (rs (rs (rs v)))) (20 : Int)).toNat)
                                                                      (64),
                                                                    PV.lst (6)
                                                                      (Cont.vals
                                                                        [PV.agg
                                                                            [PV.q (mkRat (-1 : Int) (4 : Nat))
                                                                                (64),
                                                                              PV.q (mkRat (-1 : Int) (4 : Nat))
                                                                                (64)],
                                                                          PV.agg
                                                                            [PV.q
                                                                                (mkRat
                                                                                  ((4 : Int) +
                                                                                      (2 : Int) * nx v (4 : Int) +
                                                                                    (1 : Int))
                                                                                  (4 : Nat))
                                                                                (64),
                                                                              PV.q (mkRat (0 : Int) (4 : Nat))
                                                                                (64)],
                                                                          PV.agg
                                                                            [PV.q (mkRat (-1 : Int) (4 : Nat))
                                                                                (64),
                                                                              PV.q (mkRat (1 : Int) (4 : Nat))
                                                                                (64)]])]].length).ble
                                                        (4294967296 : Nat))
                                                      (Tr.br
                                                        (decide ((-9223372036854775808 : Int) ≤ i + (1 : Int)) &&
                                                          decide (i + (1 : Int) ≤ (9223372036854775807 : Int)))
                                                        (Tr.ok
                                                          (Res.out Exit.normal
                                                            {
                                                              t :=
                                                                [PV.ptr (0) (1) (0) (0)
                                                                    [],
                                                                  PV.ptr (1) (12) (0) (0)
                                                                    [],
                                                                  PV.ptr (2) (12) (0) (0)
                                                                    [],
                                                                  PV.i IntKind.i64 c, PV.i IntKind.i64 (i + (1 : Int))],
                                                              h :=
                                                                [some
                                                                    { e := 1,
                                                                      c :=
                                                                        Cont.vals
                                                                          [PV.agg [(rs (rs (rs (rs (rs (rs v)))))).w]] },
                                                                  some
                                                                    { e := 12,
                                                                      c :=
                                                                        Cont.vals
                                                                          [PV.agg
                                                                              [PV.s E,
                                                                                PV.agg
                                                                                  [PV.agg
                                                                                      [PV.agg
                                                                                          [PV.bl false, PV.s E, PV.s E],
                                                                                        PV.agg
                                                                                          [PV.bl false, PV.s E, PV.s E]],
                                                                                    PV.agg
                                                                                      [PV.bl false,
                                                                                        PV.agg
                                                                                          [PV.bl false, PV.s E, PV.s E]]],
                                                                                PV.nil]] },
                                                                  some
                                                                    { e := 12,
                                                                      c :=
                                                                        Cont.vals
                                                                          [PV.agg
                                                                              [PV.s nm,
                                                                                PV.agg
                                                                                  [PV.agg
                                                                                      [PV.q bx (64),
                                                                                        PV.q by_ (64)],
                                                                                    PV.agg
                                                                                      [PV.bl false, PV.q t (64)]],
                                                                                PV.sl (3) (16) (0)
                                                                                  (3)]] },
                                                                  some
                                                                    { e := 16,
                                                                      c :=
                                                                        Cont.vals
                                                                          [PV.agg
                                                                              [PV.q a1 (64), PV.q b1 (64),
                                                                                PV.q c1 (64),
                                                                                PV.q d1 (64),
                                                                                PV.q e1 (64),
                                                                                PV.lst (6) s1],
                                                                            PV.agg
                                                                              [PV.q a2 (64), PV.q b2 (64),
                                                                                PV.q c2 (64),
                                                                                PV.q d2 (64),
                                                                                PV.q e2 (64),
                                                                                PV.lst (6) s2],
                                                                            PV.agg
                                                                              [PV.q
                                                                                  (mkRat
                                                                                    ((4 : Int) +
                                                                                      (2 : Int) * nx v (4 : Int))
                                                                                    (Int.toNat (4 : Int)))
                                                                                  (64),
                                                                                PV.q
                                                                                  (mkRat
                                                                                    ((-1 : Int) - nx (rs v) (6 : Int))
                                                                                    (Int.toNat (3 : Int)))
                                                                                  (64),
                                                                                PV.q
                                                                                  (mkRat
                                                                                    ((1 : Int) + nx (rs (rs v)) (6 : Int))
                                                                                    (Int.toNat (3 : Int)))
                                                                                  (64),
                                                                                PV.q
                                                                                  (mkRat (1 : Int)
                                                                                    ((4 : Int) +
                                                                                        nx (rs (rs (rs v)))
                                                                                          (8 : Int)).toNat)
                                                                                  (64),
                                                                                PV.q
                                                                                  (mkRat (1 : Int)
                                                                                    ((10 : Int) +
                                                                                        nx (rs (rs (rs (rs v))))
                                                                                          (20 : Int)).toNat)
                                                                                  (64),
                                                                                PV.lst (6)
                                                                                  (Cont.vals
                                                                                    [PV.agg
                                                                                        [PV.q (mkRat (-1 : Int) (4 : Nat))
                                                                                            (64),
                                                                                          PV.q
                                                                                            (mkRat (-1 : Int) (4 : Nat))
                                                                                            (64)],
                                                                                      PV.agg
                                                                                        [PV.q
                                                                                            (mkRat
                                                                                              ((4 : Int) +
                                                                                                  (2 : Int) *
                                                                                                    nx v (4 : Int) +
                                                                                                (1 : Int))
                                                                                              (4 : Nat))
                                                                                            (64),
                                                                                          PV.q (mkRat (0 : Int) (4 : Nat))
                                                                                            (64)],
                                                                                      PV.agg
                                                                                        [PV.q (mkRat (-1 : Int) (4 : Nat))
                                                                                            (64),
                                                                                          PV.q (mkRat (1 : Int) (4 : Nat))
                                                                                            (64)]])]] }] }))
                                                        (Tr.no (11002)))
                                                      (Tr.no (10003)))
                                                    (Tr.no (1)))
                                                  (Tr.no (1)))
                                                (Tr.no (9006)))
                                              (Tr.no (1)))
                                            (Tr.br
                                              (((2 : Nat) +
                                                    [PV.agg
                                                          [PV.q
                                                              (mkRat ((4 : Int) + (2 : Int) * nx v (4 : Int))
                                                                (Int.toNat (4 : Int)))
                                                              (64),
                                                            PV.q
                                                              (mkRat ((-1 : Int) - nx (rs v) (6 : Int))
                                                                (Int.toNat (3 : Int)))
                                                              (64),
                                                            PV.q
                                                              (mkRat ((1 : Int) + nx (rs (rs v)) (6 : Int))
                                                                (Int.toNat (3 : Int)))
                                                              (64),
                                                            PV.q
                                                              (mkRat (1 : Int)
                                                                ((4 : Int) + nx (rs (rs (rs v))) (8 : Int)).toNat)
                                                              (64),
                                                            PV.q
                                                              (mkRat (1 : Int)
                                                                ((10 : Int) + nx (rs (rs (rs (rs v)))) (20 : Int)).toNat)
                                                              (64),
                                                            PV.lst (6)
                                                              (Cont.vals
                                                                [PV.agg
                                                                    [PV.q (mkRat (-1 : Int) (4 : Nat)) (64),
                                                                      PV.q (mkRat (-1 : Int) (4 : Nat)) (64)],
                                                                  PV.agg
                                                                    [PV.q
                                                                        (mkRat
                                                                          ((4 : Int) + (2 : Int) * nx v (4 : Int) +
                                                                            (1 : Int))
                                                                          (4 : Nat))
                                                                        (64),
                                                                      PV.q (mkRat (-1 : Int) (4 : Nat)) (64)],
                                                                  PV.agg
                                                                    [PV.q
                                                                        (mkRat
                                                                          ((4 : Int) + (2 : Int) * nx v (4 : Int) +
                                                                            (1 : Int))
                                                                          (4 : Nat))
                                                                        (64),
                                                                      PV.q (mkRat (1 : Int) (4 : Nat)) (64)],
                                                                  PV.agg
                                                                    [PV.q (mkRat (-1 : Int) (4 : Nat)) (64),
                                                                      PV.q (mkRat (1 : Int) (4 : Nat))
                                                                        (64)]])]].length).ble
                                                (4294967296 : Nat))
                                              (Tr.br
                                                (decide ((-9223372036854775808 : Int) ≤ i + (1 : Int)) &&
                                                  decide (i + (1 : Int) ≤ (9223372036854775807 : Int)))
                                                (Tr.ok
                                                  (Res.out Exit.normal
                                                    {
                                                      t :=
                                                        [PV.ptr (0) (1) (0) (0) [],
                                                          PV.ptr (1) (12) (0) (0) [],
                                                          PV.ptr (2) (12) (0) (0) [],
                                                          PV.i IntKind.i64 c, PV.i IntKind.i64 (i + (1 : Int))],
                                                      h :=
                                                        [some
                                                            { e := 1,
                                                              c :=
                                                                Cont.vals [PV.agg [(rs (rs (rs (rs (rs (rs v)))))).w]] },
                                                          some
                                                            { e := 12,
                                                              c :=
                                                                Cont.vals
                                                                  [PV.agg
                                                                      [PV.s E,
                                                                        PV.agg
                                                                          [PV.agg
                                                                              [PV.agg [PV.bl false, PV.s E, PV.s E],
                                                                                PV.agg [PV.bl false, PV.s E, PV.s E]],
                                                                            PV.agg
                                                                              [PV.bl false,
                                                                                PV.agg [PV.bl false, PV.s E, PV.s E]]],
                                                                        PV.nil]] },
                                                          some
                                                            { e := 12,
                                                              c :=
                                                                Cont.vals
                                                                  [PV.agg
                                                                      [PV.s nm,
                                                                        PV.agg
                                                                          [PV.agg
                                                                              [PV.q bx (64),
                                                                                PV.q by_ (64)],
                                                                            PV.agg [PV.bl false, PV.q t (64)]],
                                                                        PV.sl (3) (16) (0)
                                                                          (3)]] },
                                                          some
                                                            { e := 16,
                                                              c :=
                                                                Cont.vals
                                                                  [PV.agg
                                                                      [PV.q a1 (64), PV.q b1 (64),
                                                                        PV.q c1 (64), PV.q d1 (64),
                                                                        PV.q e1 (64), PV.lst (6) s1],
                                                                    PV.agg
                                                                      [PV.q a2 (64), PV.q b2 (64),
                                                                        PV.q c2 (64), PV.q d2 (64),
                                                                        PV.q e2 (64), PV.lst (6) s2],
                                                                    PV.agg
                                                                      [PV.q
                                                                          (mkRat ((4 : Int) + (2 : Int) * nx v (4 : Int))
                                                                            (Int.toNat (4 : Int)))
                                                                          (64),
                                                                        PV.q
                                                                          (mkRat ((-1 : Int) - nx (rs v) (6 : Int))
                                                                            (Int.toNat (3 : Int)))
                                                                          (64),
                                                                        PV.q
                                                                          (mkRat ((1 : Int) + nx (rs (rs v)) (6 : Int))
                                                                            (Int.toNat (3 : Int)))
                                                                          (64),
                                                                        PV.q
                                                                          (mkRat (1 : Int)
                                                                            ((4 : Int) +
                                                                                nx (rs (rs (rs v))) (8 : Int)).toNat)
                                                                          (64),
                                                                        PV.q
                                                                          (mkRat (1 : Int)
                                                                            ((10 : Int) +
                                                                                nx (rs (rs (rs (rs v))))
                                                                                  (20 : Int)).toNat)
                                                                          (64),
                                                                        PV.lst (6)
                                                                          (Cont.vals
                                                                            [PV.agg
                                                                                [PV.q (mkRat (-1 : Int) (4 : Nat))
                                                                                    (64),
                                                                                  PV.q (mkRat (-1 : Int) (4 : Nat))
                                                                                    (64)],
                                                                              PV.agg
                                                                                [PV.q
                                                                                    (mkRat
                                                                                      ((4 : Int) +
                                                                                          (2 : Int) * nx v (4 : Int) +
                                                                                        (1 : Int))
                                                                                      (4 : Nat))
                                                                                    (64),
                                                                                  PV.q (mkRat (-1 : Int) (4 : Nat))
                                                                                    (64)],
                                                                              PV.agg
                                                                                [PV.q
                                                                                    (mkRat
                                                                                      ((4 : Int) +
                                                                                          (2 : Int) * nx v (4 : Int) +
                                                                                        (1 : Int))
                                                                                      (4 : Nat))
                                                                                    (64),
                                                                                  PV.q (mkRat (1 : Int) (4 : Nat))
                                                                                    (64)],
                                                                              PV.agg
                                                                                [PV.q (mkRat (-1 : Int) (4 : Nat))
                                                                                    (64),
                                                                                  PV.q (mkRat (1 : Int) (4 : Nat))
                                                                                    (64)]])]] }] }))
                                                (Tr.no (11002)))
                                              (Tr.no (10003))))
                                          (Tr.no (1)))
                                        (Tr.no (1)))
                                      (Tr.no (7005)))
                                    (Tr.no (1)))
                                  (Tr.no (7008)))
                                (Tr.no (1)))
                              (Tr.no (1)))
                            (Tr.no (7012)))
                          (Tr.no (1)))
                        (Tr.no (1)))
                      (Tr.no (7016)))
                    (Tr.no (1)))
                  (Tr.no (1)))
                (Tr.no (7020)))
              (Tr.no (1)))
            (Tr.no (1)))
          (Tr.no (6002)))
        (Tr.no (6003)))
      (Tr.no (1)))
    (Tr.ok
      (Res.out (Exit.exit (0))
        {
          t :=
            [PV.ptr (0) (1) (0) (0) [],
              PV.ptr (1) (12) (0) (0) [],
              PV.ptr (2) (12) (0) (0) [], PV.i IntKind.i64 c, PV.i IntKind.i64 i],
          h :=
            [some { e := 1, c := Cont.vals [PV.agg [v.w]] },
              some
                { e := 12,
                  c :=
                    Cont.vals
                      [PV.agg
                          [PV.s E,
                            PV.agg
                              [PV.agg [PV.agg [PV.bl false, PV.s E, PV.s E], PV.agg [PV.bl false, PV.s E, PV.s E]],
                                PV.agg [PV.bl false, PV.agg [PV.bl false, PV.s E, PV.s E]]],
                            PV.nil]] },
              some
                { e := 12,
                  c :=
                    Cont.vals
                      [PV.agg
                          [PV.s nm,
                            PV.agg
                              [PV.agg [PV.q bx (64), PV.q by_ (64)],
                                PV.agg [PV.bl false, PV.q t (64)]],
                            PV.sl (3) (16) (0) (2)]] },
              some
                { e := 16,
                  c :=
                    Cont.vals
                      [PV.agg
                          [PV.q a1 (64), PV.q b1 (64), PV.q c1 (64), PV.q d1 (64),
                            PV.q e1 (64), PV.lst (6) s1],
                        PV.agg
                          [PV.q a2 (64), PV.q b2 (64), PV.q c2 (64), PV.q d2 (64),
                            PV.q e2 (64), PV.lst (6) s2]] }] })) := by kernel_rfl
theorem r68d (v : PV) (nm : ByteArray) (bx by_ t : Rat) (c i : Int) (a1 b1 c1 d1 e1 a2 b2 c2 d2 e2 a3 b3 c3 d3 e3 : Rat) (s1 s2 s3 : Cont) : evRound Tryd.prog O68 [] pol68 Tryd.f68.ntmps 1 [0, 4, 5, 30, 31] b68 (st68 v nm bx by_ t (.sl 3 16 0 3) [some ⟨16, .vals [lkC a1 b1 c1 d1 e1 s1, lkC a2 b2 c2 d2 e2 s2, lkC a3 b3 c3 d3 e3 s3]⟩] c i) =
  Tr.br (decide (i < c))
    (Tr.br (okW v && decide ((0 : Int) < (4 : Int)) && decide ((4 : Int) ≤ (4294967296 : Int)))
      (Tr.br
        (decide ((-9223372036854775808 : Int) ≤ (2 : Int) * nx v (4 : Int)) &&
          decide ((2 : Int) * nx v (4 : Int) ≤ (9223372036854775807 : Int)))
        (Tr.br
          (decide ((-9223372036854775808 : Int) ≤ (4 : Int) + (2 : Int) * nx v (4 : Int)) &&
            decide ((4 : Int) + (2 : Int) * nx v (4 : Int) ≤ (9223372036854775807 : Int)))
          (Tr.br
            (decide ((0 : Int) < (4 : Int)) && decide ((4 : Int) < (4611686018427387904 : Int)) &&
                decide ((-4611686018427387904 : Int) < (4 : Int) + (2 : Int) * nx v (4 : Int)) &&
              decide ((4 : Int) + (2 : Int) * nx v (4 : Int) < (4611686018427387904 : Int)))
            (Tr.br (okW (rs v) && decide ((0 : Int) < (6 : Int)) && decide ((6 : Int) ≤ (4294967296 : Int)))
              (Tr.br
                (decide ((-9223372036854775808 : Int) ≤ (-1 : Int) - nx (rs v) (6 : Int)) &&
                  decide ((-1 : Int) - nx (rs v) (6 : Int) ≤ (9223372036854775807 : Int)))
                (Tr.br
                  (decide ((0 : Int) < (3 : Int)) && decide ((3 : Int) < (4611686018427387904 : Int)) &&
                      decide ((-4611686018427387904 : Int) < (-1 : Int) - nx (rs v) (6 : Int)) &&
                    decide ((-1 : Int) - nx (rs v) (6 : Int) < (4611686018427387904 : Int)))
                  (Tr.br (okW (rs (rs v)) && decide ((0 : Int) < (6 : Int)) && decide ((6 : Int) ≤ (4294967296 : Int)))
                    (Tr.br
                      (decide ((-9223372036854775808 : Int) ≤ (1 : Int) + nx (rs (rs v)) (6 : Int)) &&
                        decide ((1 : Int) + nx (rs (rs v)) (6 : Int) ≤ (9223372036854775807 : Int)))
                      (Tr.br
                        (decide ((0 : Int) < (3 : Int)) && decide ((3 : Int) < (4611686018427387904 : Int)) &&
                            decide ((-4611686018427387904 : Int) < (1 : Int) + nx (rs (rs v)) (6 : Int)) &&
                          decide ((1 : Int) + nx (rs (rs v)) (6 : Int) < (4611686018427387904 : Int)))
                        (Tr.br
                          (okW (rs (rs (rs v))) && decide ((0 : Int) < (8 : Int)) &&
                            decide ((8 : Int) ≤ (4294967296 : Int)))
                          (Tr.br
                            (decide ((-9223372036854775808 : Int) ≤ (4 : Int) + nx (rs (rs (rs v))) (8 : Int)) &&
                              decide ((4 : Int) + nx (rs (rs (rs v))) (8 : Int) ≤ (9223372036854775807 : Int)))
                            (Tr.br
                              (decide ((0 : Int) < (4 : Int) + nx (rs (rs (rs v))) (8 : Int)) &&
                                    decide ((4 : Int) + nx (rs (rs (rs v))) (8 : Int) < (4611686018427387904 : Int)) &&
                                  decide ((-4611686018427387904 : Int) < (1 : Int)) &&
                                decide ((1 : Int) < (4611686018427387904 : Int)))
                              (Tr.br
                                (okW (rs (rs (rs (rs v)))) && decide ((0 : Int) < (20 : Int)) &&
                                  decide ((20 : Int) ≤ (4294967296 : Int)))
                                (Tr.br
                                  (decide
                                      ((-9223372036854775808 : Int) ≤ (10 : Int) + nx (rs (rs (rs (rs v)))) (20 : Int)) &&
                                    decide
                                      ((10 : Int) + nx (rs (rs (rs (rs v)))) (20 : Int) ≤ (9223372036854775807 : Int)))
                                  (Tr.br
                                    (decide ((0 : Int) < (10 : Int) + nx (rs (rs (rs (rs v)))) (20 : Int)) &&
                                          decide
                                            ((10 : Int) + nx (rs (rs (rs (rs v)))) (20 : Int) <
                                              (4611686018427387904 : Int)) &&
                                        decide ((-4611686018427387904 : Int) < (1 : Int)) &&
                                      decide ((1 : Int) < (4611686018427387904 : Int)))
                                    (Tr.br
                                      (decide
                                          ((-9223372036854775808 : Int) ≤
                                            (4 : Int) + (2 : Int) * nx v (4 : Int) + (1 : Int)) &&
                                        decide
                                          ((4 : Int) + (2 : Int) * nx v (4 : Int) + (1 : Int) ≤
                                            (9223372036854775807 : Int)))
                                      (Tr.br
                                        (smI (-1 : Int) && smI (-1 : Int) &&
                                            smI ((4 : Int) + (2 : Int) * nx v (4 : Int) + (1 : Int)) &&
                                          smI (1 : Int))
                                        (Tr.br
                                          (okW (rs (rs (rs (rs (rs v))))) && decide ((0 : Int) < (3 : Int)) &&
                                            decide ((3 : Int) ≤ (4294967296 : Int)))
                                          (Tr.br (decide (nx (rs (rs (rs (rs (rs v))))) (3 : Int) = (2 : Int)))
                                            (Tr.br (smI (-1 : Int) && smI (-1 : Int))
                                              (Tr.br
                                                (decide
                                                    ((-9223372036854775808 : Int) ≤
                                                      (4 : Int) + (2 : Int) * nx v (4 : Int) + (1 : Int)) &&
                                                  decide
                                                    ((4 : Int) + (2 : Int) * nx v (4 : Int) + (1 : Int) ≤
                                                      (9223372036854775807 : Int)))
                                                (Tr.br
                                                  (smI ((4 : Int) + (2 : Int) * nx v (4 : Int) + (1 : Int)) &&
                                                    smI (0 : Int))
                                                  (Tr.br (smI (-1 : Int) && smI (1 : Int))
                                                    (Tr.br
                                                      (((3 : Nat) +
                                                            [PV.agg
                                                                  [PV.q
                                                                      (mkRat ((4 : Int) + (2 : Int) * nx v (4 : Int))
                                                                        (Int.toNat (4 : Int)))
                                                                      (64),
                                                                    PV.q
                                                                      (mkRat ((-1 : Int) - nx (rs v) (6 : Int))
                                                                        (Int.toNat (3 : Int)))
                                                                      (64),
                                                                    PV.q
                                                                      (mkRat ((1 : Int) + nx (rs (rs v)) (6 : Int))
                                                                        (Int.toNat (3 : Int)))
                                                                      (64),
                                                                    PV.q
                                                                      (mkRat (1 : Int)
                                                                        ((4 : Int) + nx (rs (rs (rs v))) (8 : Int)).toNat)
                                                                      (64),
                                                                    PV.q
                                                                      (mkRat (1 : Int)
                                                                        ((10 : Int) +
                                                                            nx (rs (rs (rs (rs v)))) (20 : Int)).toNat)
                                                                      (64),
                                                                    PV.lst (6)
                                                                      (Cont.vals
                                                                        [PV.agg
                                                                            [PV.q (mkRat (-1 : Int) (4 : Nat))
                                                                                (64),
                                                                              PV.q (mkRat (-1 : Int) (4 : Nat))
                                                                                (64)],
                                                                          PV.agg
                                                                            [PV.q
                                                                                (mkRat
                                                                                  ((4 : Int) +
                                                                                      (2 : Int) * nx v (4 : Int) +
                                                                                    (1 : Int))
                                                                                  (4 : Nat))
                                                                                (64),
                                                                              PV.q (mkRat (0 : Int) (4 : Nat))
                                                                                (64)],
                                                                          PV.agg
                                                                            [PV.q (mkRat (-1 : Int) (4 : Nat))
                                                                                (64),
                                                                              PV.q (mkRat (1 : Int) (4 : Nat))
                                                                                (64)]])]].length).ble
                                                        (4294967296 : Nat))
                                                      (Tr.br
                                                        (decide ((-9223372036854775808 : Int) ≤ i + (1 : Int)) &&
                                                          decide (i + (1 : Int) ≤ (9223372036854775807 : Int)))
                                                        (Tr.ok
                                                          (Res.out Exit.normal
                                                            {
                                                              t :=
                                                                [PV.ptr (0) (1) (0) (0)
                                                                    [],
                                                                  PV.ptr (1) (12) (0) (0)
                                                                    [],
                                                                  PV.ptr (2) (12) (0) (0)
                                                                    [],
                                                                  PV.i IntKind.i64 c, PV.i IntKind.i64 (i + (1 : Int))],
                                                              h :=
                                                                [some
                                                                    { e := 1,
                                                                      c :=
                                                                        Cont.vals
                                                                          [PV.agg [(rs (rs (rs (rs (rs (rs v)))))).w]] },
                                                                  some
                                                                    { e := 12,
                                                                      c :=
                                                                        Cont.vals
                                                                          [PV.agg
                                                                              [PV.s E,
                                                                                PV.agg
                                                                                  [PV.agg
                                                                                      [PV.agg
                                                                                          [PV.bl false, PV.s E, PV.s E],
                                                                                        PV.agg
                                                                                          [PV.bl false, PV.s E, PV.s E]],
                                                                                    PV.agg
                                                                                      [PV.bl false,
                                                                                        PV.agg
                                                                                          [PV.bl false, PV.s E, PV.s E]]],
                                                                                PV.nil]] },
                                                                  some
                                                                    { e := 12,
                                                                      c :=
                                                                        Cont.vals
                                                                          [PV.agg
                                                                              [PV.s nm,
                                                                                PV.agg
                                                                                  [PV.agg
                                                                                      [PV.q bx (64),
                                                                                        PV.q by_ (64)],
                                                                                    PV.agg
                                                                                      [PV.bl false, PV.q t (64)]],
                                                                                PV.sl (3) (16) (0)
                                                                                  (4)]] },
                                                                  some
                                                                    { e := 16,
                                                                      c :=
                                                                        Cont.vals
                                                                          [PV.agg
                                                                              [PV.q a1 (64), PV.q b1 (64),
                                                                                PV.q c1 (64),
                                                                                PV.q d1 (64),
                                                                                PV.q e1 (64),
                                                                                PV.lst (6) s1],
                                                                            PV.agg
                                                                              [PV.q a2 (64), PV.q b2 (64),
                                                                                PV.q c2 (64),
                                                                                PV.q d2 (64),
                                                                                PV.q e2 (64),
                                                                                PV.lst (6) s2],
                                                                            PV.agg
                                                                              [PV.q a3 (64), PV.q b3 (64),
                                                                                PV.q c3 (64),
                                                                                PV.q d3 (64),
                                                                                PV.q e3 (64),
                                                                                PV.lst (6) s3],
                                                                            PV.agg
                                                                              [PV.q
                                                                                  (mkRat
                                                                                    ((4 : Int) +
                                                                                      (2 : Int) * nx v (4 : Int))
                                                                                    (Int.toNat (4 : Int)))
                                                                                  (64),
                                                                                PV.q
                                                                                  (mkRat
                                                                                    ((-1 : Int) - nx (rs v) (6 : Int))
                                                                                    (Int.toNat (3 : Int)))
                                                                                  (64),
                                                                                PV.q
                                                                                  (mkRat
                                                                                    ((1 : Int) + nx (rs (rs v)) (6 : Int))
                                                                                    (Int.toNat (3 : Int)))
                                                                                  (64),
                                                                                PV.q
                                                                                  (mkRat (1 : Int)
                                                                                    ((4 : Int) +
                                                                                        nx (rs (rs (rs v)))
                                                                                          (8 : Int)).toNat)
                                                                                  (64),
                                                                                PV.q
                                                                                  (mkRat (1 : Int)
                                                                                    ((10 : Int) +
                                                                                        nx (rs (rs (rs (rs v))))
                                                                                          (20 : Int)).toNat)
                                                                                  (64),
                                                                                PV.lst (6)
                                                                                  (Cont.vals
                                                                                    [PV.agg
                                                                                        [PV.q (mkRat (-1 : Int) (4 : Nat))
                                                                                            (64),
                                                                                          PV.q
                                                                                            (mkRat (-1 : Int) (4 : Nat))
                                                                                            (64)],
                                                                                      PV.agg
                                                                                        [PV.q
                                                                                            (mkRat
                                                                                              ((4 : Int) +
                                                                                                  (2 : Int) *
                                                                                                    nx v (4 : Int) +
                                                                                                (1 : Int))
                                                                                              (4 : Nat))
                                                                                            (64),
                                                                                          PV.q (mkRat (0 : Int) (4 : Nat))
                                                                                            (64)],
                                                                                      PV.agg
                                                                                        [PV.q (mkRat (-1 : Int) (4 : Nat))
                                                                                            (64),
                                                                                          PV.q (mkRat (1 : Int) (4 : Nat))
                                                                                            (64)]])]] }] }))
                                                        (Tr.no (11002)))
                                                      (Tr.no (10003)))
                                                    (Tr.no (1)))
                                                  (Tr.no (1)))
                                                (Tr.no (9006)))
                                              (Tr.no (1)))
                                            (Tr.br
                                              (((3 : Nat) +
                                                    [PV.agg
                                                          [PV.q
                                                              (mkRat ((4 : Int) + (2 : Int) * nx v (4 : Int))
                                                                (Int.toNat (4 : Int)))
                                                              (64),
                                                            PV.q
                                                              (mkRat ((-1 : Int) - nx (rs v) (6 : Int))
                                                                (Int.toNat (3 : Int)))
                                                              (64),
                                                            PV.q
                                                              (mkRat ((1 : Int) + nx (rs (rs v)) (6 : Int))
                                                                (Int.toNat (3 : Int)))
                                                              (64),
                                                            PV.q
                                                              (mkRat (1 : Int)
                                                                ((4 : Int) + nx (rs (rs (rs v))) (8 : Int)).toNat)
                                                              (64),
                                                            PV.q
                                                              (mkRat (1 : Int)
                                                                ((10 : Int) + nx (rs (rs (rs (rs v)))) (20 : Int)).toNat)
                                                              (64),
                                                            PV.lst (6)
                                                              (Cont.vals
                                                                [PV.agg
                                                                    [PV.q (mkRat (-1 : Int) (4 : Nat)) (64),
                                                                      PV.q (mkRat (-1 : Int) (4 : Nat)) (64)],
                                                                  PV.agg
                                                                    [PV.q
                                                                        (mkRat
                                                                          ((4 : Int) + (2 : Int) * nx v (4 : Int) +
                                                                            (1 : Int))
                                                                          (4 : Nat))
                                                                        (64),
                                                                      PV.q (mkRat (-1 : Int) (4 : Nat)) (64)],
                                                                  PV.agg
                                                                    [PV.q
                                                                        (mkRat
                                                                          ((4 : Int) + (2 : Int) * nx v (4 : Int) +
                                                                            (1 : Int))
                                                                          (4 : Nat))
                                                                        (64),
                                                                      PV.q (mkRat (1 : Int) (4 : Nat)) (64)],
                                                                  PV.agg
                                                                    [PV.q (mkRat (-1 : Int) (4 : Nat)) (64),
                                                                      PV.q (mkRat (1 : Int) (4 : Nat))
                                                                        (64)]])]].length).ble
                                                (4294967296 : Nat))
                                              (Tr.br
                                                (decide ((-9223372036854775808 : Int) ≤ i + (1 : Int)) &&
                                                  decide (i + (1 : Int) ≤ (9223372036854775807 : Int)))
                                                (Tr.ok
                                                  (Res.out Exit.normal
                                                    {
                                                      t :=
                                                        [PV.ptr (0) (1) (0) (0) [],
                                                          PV.ptr (1) (12) (0) (0) [],
                                                          PV.ptr (2) (12) (0) (0) [],
                                                          PV.i IntKind.i64 c, PV.i IntKind.i64 (i + (1 : Int))],
                                                      h :=
                                                        [some
                                                            { e := 1,
                                                              c :=
                                                                Cont.vals [PV.agg [(rs (rs (rs (rs (rs (rs v)))))).w]] },
                                                          some
                                                            { e := 12,
                                                              c :=
                                                                Cont.vals
                                                                  [PV.agg
                                                                      [PV.s E,
                                                                        PV.agg
                                                                          [PV.agg
                                                                              [PV.agg [PV.bl false, PV.s E, PV.s E],
                                                                                PV.agg [PV.bl false, PV.s E, PV.s E]],
                                                                            PV.agg
                                                                              [PV.bl false,
                                                                                PV.agg [PV.bl false, PV.s E, PV.s E]]],
                                                                        PV.nil]] },
                                                          some
                                                            { e := 12,
                                                              c :=
                                                                Cont.vals
                                                                  [PV.agg
                                                                      [PV.s nm,
                                                                        PV.agg
                                                                          [PV.agg
                                                                              [PV.q bx (64),
                                                                                PV.q by_ (64)],
                                                                            PV.agg [PV.bl false, PV.q t (64)]],
                                                                        PV.sl (3) (16) (0)
                                                                          (4)]] },
                                                          some
                                                            { e := 16,
                                                              c :=
                                                                Cont.vals
                                                                  [PV.agg
                                                                      [PV.q a1 (64), PV.q b1 (64),
                                                                        PV.q c1 (64), PV.q d1 (64),
                                                                        PV.q e1 (64), PV.lst (6) s1],
                                                                    PV.agg
                                                                      [PV.q a2 (64), PV.q b2 (64),
                                                                        PV.q c2 (64), PV.q d2 (64),
                                                                        PV.q e2 (64), PV.lst (6) s2],
                                                                    PV.agg
                                                                      [PV.q a3 (64), PV.q b3 (64),
                                                                        PV.q c3 (64), PV.q d3 (64),
                                                                        PV.q e3 (64), PV.lst (6) s3],
                                                                    PV.agg
                                                                      [PV.q
                                                                          (mkRat ((4 : Int) + (2 : Int) * nx v (4 : Int))
                                                                            (Int.toNat (4 : Int)))
                                                                          (64),
                                                                        PV.q
                                                                          (mkRat ((-1 : Int) - nx (rs v) (6 : Int))
                                                                            (Int.toNat (3 : Int)))
                                                                          (64),
                                                                        PV.q
                                                                          (mkRat ((1 : Int) + nx (rs (rs v)) (6 : Int))
                                                                            (Int.toNat (3 : Int)))
                                                                          (64),
                                                                        PV.q
                                                                          (mkRat (1 : Int)
                                                                            ((4 : Int) +
                                                                                nx (rs (rs (rs v))) (8 : Int)).toNat)
                                                                          (64),
                                                                        PV.q
                                                                          (mkRat (1 : Int)
                                                                            ((10 : Int) +
                                                                                nx (rs (rs (rs (rs v))))
                                                                                  (20 : Int)).toNat)
                                                                          (64),
                                                                        PV.lst (6)
                                                                          (Cont.vals
                                                                            [PV.agg
                                                                                [PV.q (mkRat (-1 : Int) (4 : Nat))
                                                                                    (64),
                                                                                  PV.q (mkRat (-1 : Int) (4 : Nat))
                                                                                    (64)],
                                                                              PV.agg
                                                                                [PV.q
                                                                                    (mkRat
                                                                                      ((4 : Int) +
                                                                                          (2 : Int) * nx v (4 : Int) +
                                                                                        (1 : Int))
                                                                                      (4 : Nat))
                                                                                    (64),
                                                                                  PV.q (mkRat (-1 : Int) (4 : Nat))
                                                                                    (64)],
                                                                              PV.agg
                                                                                [PV.q
                                                                                    (mkRat
                                                                                      ((4 : Int) +
                                                                                          (2 : Int) * nx v (4 : Int) +
                                                                                        (1 : Int))
                                                                                      (4 : Nat))
                                                                                    (64),
                                                                                  PV.q (mkRat (1 : Int) (4 : Nat))
                                                                                    (64)],
                                                                              PV.agg
                                                                                [PV.q (mkRat (-1 : Int) (4 : Nat))
                                                                                    (64),
                                                                                  PV.q (mkRat (1 : Int) (4 : Nat))
                                                                                    (64)]])]] }] }))
                                                (Tr.no (11002)))
                                              (Tr.no (10003))))
                                          (Tr.no (1)))
                                        (Tr.no (1)))
                                      (Tr.no (7005)))
                                    (Tr.no (1)))
                                  (Tr.no (7008)))
                                (Tr.no (1)))
                              (Tr.no (1)))
                            (Tr.no (7012)))
                          (Tr.no (1)))
                        (Tr.no (1)))
                      (Tr.no (7016)))
                    (Tr.no (1)))
                  (Tr.no (1)))
                (Tr.no (7020)))
              (Tr.no (1)))
            (Tr.no (1)))
          (Tr.no (6002)))
        (Tr.no (6003)))
      (Tr.no (1)))
    (Tr.ok
      (Res.out (Exit.exit (0))
        {
          t :=
            [PV.ptr (0) (1) (0) (0) [],
              PV.ptr (1) (12) (0) (0) [],
              PV.ptr (2) (12) (0) (0) [], PV.i IntKind.i64 c, PV.i IntKind.i64 i],
          h :=
            [some { e := 1, c := Cont.vals [PV.agg [v.w]] },
              some
                { e := 12,
                  c :=
                    Cont.vals
                      [PV.agg
                          [PV.s E,
                            PV.agg
                              [PV.agg [PV.agg [PV.bl false, PV.s E, PV.s E], PV.agg [PV.bl false, PV.s E, PV.s E]],
                                PV.agg [PV.bl false, PV.agg [PV.bl false, PV.s E, PV.s E]]],
                            PV.nil]] },
              some
                { e := 12,
                  c :=
                    Cont.vals
                      [PV.agg
                          [PV.s nm,
                            PV.agg
                              [PV.agg [PV.q bx (64), PV.q by_ (64)],
                                PV.agg [PV.bl false, PV.q t (64)]],
                            PV.sl (3) (16) (0) (3)]] },
              some
                { e := 16,
                  c :=
                    Cont.vals
                      [PV.agg
                          [PV.q a1 (64), PV.q b1 (64), PV.q c1 (64), PV.q d1 (64),
                            PV.q e1 (64), PV.lst (6) s1],
                        PV.agg
                          [PV.q a2 (64), PV.q b2 (64), PV.q c2 (64), PV.q d2 (64),
                            PV.q e2 (64), PV.lst (6) s2],
                        PV.agg
                          [PV.q a3 (64), PV.q b3 (64), PV.q c3 (64), PV.q d3 (64),
                            PV.q e3 (64), PV.lst (6) s3]] }] })) := by kernel_rfl
end Go.Proofs.YtejfdhcigkgbmaaDoor.PE
namespace Go.Proofs.YtejfdhcigkgbmaaDoor.PE
open Go
set_option maxRecDepth 100000
variable {G : World → (Nat → Prop) → Prop} (hG : GOk G)
def r6 (v : PV) : PV := rs (rs (rs (rs (rs (rs v)))))
/-- The shape that a stream gives. -/
def shV (v : PV) : Cont := if nx (rs (rs (rs (rs (rs v))))) 3 = 2 then
    .vals [.agg [.q (mkRat (-1) 4) 64, .q (mkRat (-1) 4) 64], .agg [.q (mkRat (4 + 2 * nx v 4 + 1) 4) 64, .q (mkRat 0 4) 64], .agg [.q (mkRat (-1) 4) 64, .q (mkRat 1 4) 64]]
  else .vals [.agg [.q (mkRat (-1) 4) 64, .q (mkRat (-1) 4) 64], .agg [.q (mkRat (4 + 2 * nx v 4 + 1) 4) 64, .q (mkRat (-1) 4) 64], .agg [.q (mkRat (4 + 2 * nx v 4 + 1) 4) 64, .q (mkRat 1 4) 64], .agg [.q (mkRat (-1) 4) 64, .q (mkRat 1 4) 64]]
def lenV (v : PV) : Rat := mkRat (4 + 2 * nx v 4) (Int.toNat 4)
def lowV (v : PV) : Rat := mkRat (-1 - nx (rs v) 6) (Int.toNat 3)
def highV (v : PV) : Rat := mkRat (1 + nx (rs (rs v)) 6) (Int.toNat 3)
def spdV (v : PV) : Rat := mkRat 1 (4 + nx (rs (rs (rs v))) 8).toNat
def brkV (v : PV) : Rat := mkRat 1 (10 + nx (rs (rs (rs (rs v)))) 20).toNat
def lkV (v : PV) : PV := lkC (lenV v) (lowV v) (highV v) (spdV v) (brkV v) (shV v)
theorem step68a (v : PV) (hw : okW v = true) (nm : ByteArray) (bx by_ t : Rat) (c : Int) (hc : 0 < c) :
    (evRound Tryd.prog O68 [] pol68 Tryd.f68.ntmps 1 [0, 4, 5, 30, 31] b68 (st68 v nm bx by_ t .nil [] c 0)).run = some (.out .normal (st68 (r6 v) nm bx by_ t (.sl 3 16 0 1) [some ⟨16, .vals [lkV v]⟩] c 1)) := by
  have w1 := okW_rs hw
  have w2 := okW_rs w1
  have w3 := okW_rs w2
  have w4 := okW_rs w3
  have w5 := okW_rs w4
  have g0 := nx_range v (show (0 : Int) < 4 by omega)
  have g1 := nx_range (rs v) (show (0 : Int) < 6 by omega)
  have g2 := nx_range (rs (rs v)) (show (0 : Int) < 6 by omega)
  have g3 := nx_range (rs (rs (rs v))) (show (0 : Int) < 8 by omega)
  have g4 := nx_range (rs (rs (rs (rs v)))) (show (0 : Int) < 20 by omega)
  rw [r68a]
  by_cases hb : nx (rs (rs (rs (rs (rs v))))) 3 = 2
  · have hs : shV v = .vals [.agg [.q (mkRat (-1) 4) 64, .q (mkRat (-1) 4) 64], .agg [.q (mkRat (4 + 2 * nx v 4 + 1) 4) 64, .q (mkRat 0 4) 64], .agg [.q (mkRat (-1) 4) 64, .q (mkRat 1 4) 64]] := if_pos hb
    repeat rw [Tr.run_t (by simp only [hw, w1, w2, w3, w4, w5, Bool.true_and, Bool.and_eq_true, decide_eq_true_eq, smI_iff, Nat.blt_eq, Nat.ble_eq, List.length_cons, List.length_nil]; omega)]
    rw [Tr.run_ok]
    unfold lkV
    rw [hs]
    rfl
  · have hs : shV v = .vals [.agg [.q (mkRat (-1) 4) 64, .q (mkRat (-1) 4) 64], .agg [.q (mkRat (4 + 2 * nx v 4 + 1) 4) 64, .q (mkRat (-1) 4) 64], .agg [.q (mkRat (4 + 2 * nx v 4 + 1) 4) 64, .q (mkRat 1 4) 64], .agg [.q (mkRat (-1) 4) 64, .q (mkRat 1 4) 64]] := if_neg hb
    repeat rw [Tr.run_t (by simp only [hw, w1, w2, w3, w4, w5, Bool.true_and, Bool.and_eq_true, decide_eq_true_eq, smI_iff, Nat.blt_eq, Nat.ble_eq, List.length_cons, List.length_nil]; omega)]
    rw [Tr.run_f (decide_eq_false hb)]
    repeat rw [Tr.run_t (by simp only [hw, w1, w2, w3, w4, w5, Bool.true_and, Bool.and_eq_true, decide_eq_true_eq, smI_iff, Nat.blt_eq, Nat.ble_eq, List.length_cons, List.length_nil]; omega)]
    rw [Tr.run_ok]
    unfold lkV
    rw [hs]
    rfl
theorem step68b (v : PV) (hw : okW v = true) (nm : ByteArray) (bx by_ t : Rat) (c : Int) (a1 b1 c1 d1 e1 : Rat) (s1 : Cont) (hc : 1 < c) :
    (evRound Tryd.prog O68 [] pol68 Tryd.f68.ntmps 1 [0, 4, 5, 30, 31] b68 (st68 v nm bx by_ t (.sl 3 16 0 1) [some ⟨16, .vals [lkC a1 b1 c1 d1 e1 s1]⟩] c 1)).run = some (.out .normal (st68 (r6 v) nm bx by_ t (.sl 3 16 0 2) [some ⟨16, .vals [lkC a1 b1 c1 d1 e1 s1, lkV v]⟩] c 2)) := by
  have w1 := okW_rs hw
  have w2 := okW_rs w1
  have w3 := okW_rs w2
  have w4 := okW_rs w3
  have w5 := okW_rs w4
  have g0 := nx_range v (show (0 : Int) < 4 by omega)
  have g1 := nx_range (rs v) (show (0 : Int) < 6 by omega)
  have g2 := nx_range (rs (rs v)) (show (0 : Int) < 6 by omega)
  have g3 := nx_range (rs (rs (rs v))) (show (0 : Int) < 8 by omega)
  have g4 := nx_range (rs (rs (rs (rs v)))) (show (0 : Int) < 20 by omega)
  rw [r68b]
  by_cases hb : nx (rs (rs (rs (rs (rs v))))) 3 = 2
  · have hs : shV v = .vals [.agg [.q (mkRat (-1) 4) 64, .q (mkRat (-1) 4) 64], .agg [.q (mkRat (4 + 2 * nx v 4 + 1) 4) 64, .q (mkRat 0 4) 64], .agg [.q (mkRat (-1) 4) 64, .q (mkRat 1 4) 64]] := if_pos hb
    repeat rw [Tr.run_t (by simp only [hw, w1, w2, w3, w4, w5, Bool.true_and, Bool.and_eq_true, decide_eq_true_eq, smI_iff, Nat.blt_eq, Nat.ble_eq, List.length_cons, List.length_nil]; omega)]
    rw [Tr.run_ok]
    unfold lkV
    rw [hs]
    rfl
  · have hs : shV v = .vals [.agg [.q (mkRat (-1) 4) 64, .q (mkRat (-1) 4) 64], .agg [.q (mkRat (4 + 2 * nx v 4 + 1) 4) 64, .q (mkRat (-1) 4) 64], .agg [.q (mkRat (4 + 2 * nx v 4 + 1) 4) 64, .q (mkRat 1 4) 64], .agg [.q (mkRat (-1) 4) 64, .q (mkRat 1 4) 64]] := if_neg hb
    repeat rw [Tr.run_t (by simp only [hw, w1, w2, w3, w4, w5, Bool.true_and, Bool.and_eq_true, decide_eq_true_eq, smI_iff, Nat.blt_eq, Nat.ble_eq, List.length_cons, List.length_nil]; omega)]
    rw [Tr.run_f (decide_eq_false hb)]
    repeat rw [Tr.run_t (by simp only [hw, w1, w2, w3, w4, w5, Bool.true_and, Bool.and_eq_true, decide_eq_true_eq, smI_iff, Nat.blt_eq, Nat.ble_eq, List.length_cons, List.length_nil]; omega)]
    rw [Tr.run_ok]
    unfold lkV
    rw [hs]
    rfl
theorem step68c (v : PV) (hw : okW v = true) (nm : ByteArray) (bx by_ t : Rat) (c : Int) (a1 b1 c1 d1 e1 a2 b2 c2 d2 e2 : Rat) (s1 s2 : Cont) (hc : 2 < c) :
    (evRound Tryd.prog O68 [] pol68 Tryd.f68.ntmps 1 [0, 4, 5, 30, 31] b68 (st68 v nm bx by_ t (.sl 3 16 0 2) [some ⟨16, .vals [lkC a1 b1 c1 d1 e1 s1, lkC a2 b2 c2 d2 e2 s2]⟩] c 2)).run = some (.out .normal (st68 (r6 v) nm bx by_ t (.sl 3 16 0 3) [some ⟨16, .vals [lkC a1 b1 c1 d1 e1 s1, lkC a2 b2 c2 d2 e2 s2, lkV v]⟩] c 3)) := by
  have w1 := okW_rs hw
  have w2 := okW_rs w1
  have w3 := okW_rs w2
  have w4 := okW_rs w3
  have w5 := okW_rs w4
  have g0 := nx_range v (show (0 : Int) < 4 by omega)
  have g1 := nx_range (rs v) (show (0 : Int) < 6 by omega)
  have g2 := nx_range (rs (rs v)) (show (0 : Int) < 6 by omega)
  have g3 := nx_range (rs (rs (rs v))) (show (0 : Int) < 8 by omega)
  have g4 := nx_range (rs (rs (rs (rs v)))) (show (0 : Int) < 20 by omega)
  rw [r68c]
  by_cases hb : nx (rs (rs (rs (rs (rs v))))) 3 = 2
  · have hs : shV v = .vals [.agg [.q (mkRat (-1) 4) 64, .q (mkRat (-1) 4) 64], .agg [.q (mkRat (4 + 2 * nx v 4 + 1) 4) 64, .q (mkRat 0 4) 64], .agg [.q (mkRat (-1) 4) 64, .q (mkRat 1 4) 64]] := if_pos hb
    repeat rw [Tr.run_t (by simp only [hw, w1, w2, w3, w4, w5, Bool.true_and, Bool.and_eq_true, decide_eq_true_eq, smI_iff, Nat.blt_eq, Nat.ble_eq, List.length_cons, List.length_nil]; omega)]
    rw [Tr.run_ok]
    unfold lkV
    rw [hs]
    rfl
  · have hs : shV v = .vals [.agg [.q (mkRat (-1) 4) 64, .q (mkRat (-1) 4) 64], .agg [.q (mkRat (4 + 2 * nx v 4 + 1) 4) 64, .q (mkRat (-1) 4) 64], .agg [.q (mkRat (4 + 2 * nx v 4 + 1) 4) 64, .q (mkRat 1 4) 64], .agg [.q (mkRat (-1) 4) 64, .q (mkRat 1 4) 64]] := if_neg hb
    repeat rw [Tr.run_t (by simp only [hw, w1, w2, w3, w4, w5, Bool.true_and, Bool.and_eq_true, decide_eq_true_eq, smI_iff, Nat.blt_eq, Nat.ble_eq, List.length_cons, List.length_nil]; omega)]
    rw [Tr.run_f (decide_eq_false hb)]
    repeat rw [Tr.run_t (by simp only [hw, w1, w2, w3, w4, w5, Bool.true_and, Bool.and_eq_true, decide_eq_true_eq, smI_iff, Nat.blt_eq, Nat.ble_eq, List.length_cons, List.length_nil]; omega)]
    rw [Tr.run_ok]
    unfold lkV
    rw [hs]
    rfl
end Go.Proofs.YtejfdhcigkgbmaaDoor.PE
namespace Go.Proofs.YtejfdhcigkgbmaaDoor.PE
open Go
set_option maxRecDepth 100000
variable {G : World → (Nat → Prop) → Prop} (hG : GOk G)

def Pl68 (v z : PV) (u1 u2 u3 : Nat) (c i : Int) : Prop := okW v = true ∧ i = 0 ∧ 1 ≤ c ∧ c ≤ 3 ∧ z = zArm E E E E E E E ∧ u1 = 64 ∧ u2 = 64 ∧ u3 = 64
noncomputable def l68 : LSpec := fun ls K => match ls with
  | ⟨[.ptr 0 1 0 0 [], .ptr 1 12 0 0 [], .ptr 2 12 0 0 [], .i .i64 c, .i .i64 i], [some ⟨1, .vals [.agg [.w v]]⟩, some ⟨12, .vals [z]⟩, some ⟨12, .vals [.agg [.s nm, .agg [.agg [.q bx u1, .q by_ u2], .agg [.bl false, .q t u3]], .nil]]⟩]⟩ =>
    .br (decP (Pl68 v z u1 u2 u3 c i)) (.br (decide (c = 1)) (K (.exit 0) (st68 (r6 v) nm bx by_ t (.sl 3 16 0 1) [some ⟨16, .vals [lkV v]⟩] c 1))
      (.br (decide (c = 2)) (K (.exit 0) (st68 (r6 (r6 v)) nm bx by_ t (.sl 3 16 0 2) [some ⟨16, .vals [lkV v, lkV (r6 v)]⟩] c 2))
        (K (.exit 0) (st68 (r6 (r6 (r6 v))) nm bx by_ t (.sl 3 16 0 3) [some ⟨16, .vals [lkV v, lkV (r6 v), lkV (r6 (r6 v))]⟩] c 3)))) (.no 1)
  | _ => .no 1
include hG in
theorem orc68 : OrcOK Tryd.prog G O68 := .cons (ok45 hG) (.cons (ok81 hG) (.cons (ok104 hG) (.cons (ok105 hG) .nil)))
include hG in
theorem rnd68 {ls ls' : LS} {e : Exit} (hl : 1 ≤ ls.h.length) (h : (evRound Tryd.prog O68 [] pol68 Tryd.f68.ntmps 1 [0, 4, 5, 30, 31] b68 ls).run = some (.out e ls')) : Rnd Tryd.prog G Tryd.f68.ntmps 1 [0, 4, 5, 30, 31] b68 ls e ls' :=
  round_ok hG (orc68 hG) mix (L := []) (pol := pol68) (O := O68) (LpsOK.none (by kernel_rfl)) hl h
theorem okW_r6 {v : PV} (h : okW v = true) : okW (r6 v) = true := okW_rs (okW_rs (okW_rs (okW_rs (okW_rs (okW_rs h)))))
include hG in
theorem loop68 : LoopOK Tryd.prog G Tryd.f68.ntmps 1 [0, 4, 5, 30, 31] b68 l68 := by
  intro ls K y hm h
  unfold l68 at h
  split at h
  case h_2 => cases h
  rename_i c i v z nm bx u1 by_ u2 t u3
  obtain ⟨hc, hr⟩ := Tr.of_br h
  obtain ⟨hw, rfl, h1, h3, rfl, rfl, rfl, rfl⟩ := decP_iff.1 hc
  have a1 := rnd68 hG (ls := st68 v nm bx by_ t .nil [] c 0) (by simp [st68]) (step68a v hw nm bx by_ t c (by omega))
  have w1 := okW_r6 hw
  by_cases e1 : c = 1
  · subst e1
    rw [Tr.run_t (by decide)] at hr
    have a2 := rnd68 hG (ls := st68 (r6 v) nm bx by_ t (.sl 3 16 0 1) [some ⟨16, .vals [lkV v]⟩] 1 1) (e := .exit 0) (by simp [st68]) ((congrArg Tr.run (r68b (r6 v) nm bx by_ t 1 1 _ _ _ _ _ _)).trans ((Tr.run_f (by decide)).trans rfl))
    exact ⟨_, _, goes_ok (.more _ _ _ _ a1 (.last _ _ _ a2 (by simp))), hr⟩
  · rw [Tr.run_f (decide_eq_false e1)] at hr
    have a2 := rnd68 hG (ls := st68 (r6 v) nm bx by_ t (.sl 3 16 0 1) [some ⟨16, .vals [lkV v]⟩] c 1) (by simp [st68]) (step68b (r6 v) w1 nm bx by_ t c _ _ _ _ _ _ (by omega))
    by_cases e2 : c = 2
    · subst e2
      rw [Tr.run_t (by decide)] at hr
      have a3 := rnd68 hG (ls := st68 (r6 (r6 v)) nm bx by_ t (.sl 3 16 0 2) [some ⟨16, .vals [lkV v, lkV (r6 v)]⟩] 2 2) (e := .exit 0) (by simp [st68]) ((congrArg Tr.run (r68c (r6 (r6 v)) nm bx by_ t 2 2 _ _ _ _ _ _ _ _ _ _ _ _)).trans ((Tr.run_f (by decide)).trans rfl))
      exact ⟨_, _, goes_ok (.more _ _ _ _ a1 (.more _ _ _ _ a2 (.last _ _ _ a3 (by simp)))), hr⟩
    · have e3 : c = 3 := by omega
      subst e3
      rw [Tr.run_f (by decide)] at hr
      have a3 := rnd68 hG (ls := st68 (r6 (r6 v)) nm bx by_ t (.sl 3 16 0 2) [some ⟨16, .vals [lkV v, lkV (r6 v)]⟩] 3 2) (by simp [st68]) (step68c (r6 (r6 v)) (okW_r6 w1) nm bx by_ t 3 _ _ _ _ _ _ _ _ _ _ _ _ (by omega))
      have a4 := rnd68 hG (ls := st68 (r6 (r6 (r6 v))) nm bx by_ t (.sl 3 16 0 3) [some ⟨16, .vals [lkV v, lkV (r6 v), lkV (r6 (r6 v))]⟩] 3 3) (e := .exit 0) (by simp [st68]) ((congrArg Tr.run (r68d (r6 (r6 (r6 v))) nm bx by_ t 3 3 _ _ _ _ _ _ _ _ _ _ _ _ _ _ _ _ _ _)).trans ((Tr.run_f (by decide)).trans rfl))
      exact ⟨_, _, goes_ok (.more _ _ _ _ a1 (.more _ _ _ _ a2 (.more _ _ _ _ a3 (.last _ _ _ a4 (by simp))))), hr⟩
theorem e68 (v : PV) : evF Tryd.prog O68 [(4, l68)] pol68 Tryd.f68 [.ptr 0 1 0 0 [], .i .i64 0] [⟨1, .vals [.agg [.w v]]⟩] retK =
  Tr.br
    (decide ((0 : Int) ≤ (0 : Int)) &&
      decide
        ((0 : Int) <
          (↑[PV.s { data := #[(111 : UInt8), (110 : UInt8), (101 : UInt8)] },
                  PV.s { data := #[(116 : UInt8), (119 : UInt8), (111 : UInt8)] },
                  PV.s { data := #[(116 : UInt8), (104 : UInt8), (114 : UInt8), (101 : UInt8), (101 : UInt8)] },
                  PV.s { data := #[(102 : UInt8), (111 : UInt8), (117 : UInt8), (114 : UInt8)] }].length :
            Int)))
    (Tr.br
      (decide ((-9223372036854775808 : Int) ≤ (40 : Int) * (0 : Int)) &&
        decide ((40 : Int) * (0 : Int) ≤ (9223372036854775807 : Int)))
      (Tr.br (smI ((40 : Int) * (0 : Int)) && smI (0 : Int))
        (Tr.br (okW v && decide ((0 : Int) < (4 : Int)) && decide ((4 : Int) ≤ (4294967296 : Int)))
          (Tr.br
            (decide ((0 : Int) ≤ nx v (4 : Int)) &&
              decide (nx v (4 : Int) < (↑[(0 : Int), (1 : Int), (-1 : Int), (1 : Int)].length : Int)))
            (Tr.br (okW (rs v) && decide ((0 : Int) < (3 : Int)) && decide ((3 : Int) ≤ (4294967296 : Int)))
              (Tr.br
                (decide ((-9223372036854775808 : Int) ≤ (1 : Int) + nx (rs v) (3 : Int)) &&
                  decide ((1 : Int) + nx (rs v) (3 : Int) ≤ (9223372036854775807 : Int)))
                (Tr.br
                  (decide ((0 : Int) < (1 : Int) + nx (rs v) (3 : Int)) &&
                        decide ((1 : Int) + nx (rs v) (3 : Int) < (4611686018427387904 : Int)) &&
                      decide
                        ((-4611686018427387904 : Int) <
                          [(0 : Int), (1 : Int), (-1 : Int), (1 : Int)].getD (nx v (4 : Int)).toNat (0 : Int)) &&
                    decide
                      ([(0 : Int), (1 : Int), (-1 : Int), (1 : Int)].getD (nx v (4 : Int)).toNat (0 : Int) <
                        (4611686018427387904 : Int)))
                  (Tr.br (okW (rs (rs v)) && decide ((0 : Int) < (3 : Int)) && decide ((3 : Int) ≤ (4294967296 : Int)))
                    (Tr.br
                      (decide ((-9223372036854775808 : Int) ≤ (1 : Int) + nx (rs (rs v)) (3 : Int)) &&
                        decide ((1 : Int) + nx (rs (rs v)) (3 : Int) ≤ (9223372036854775807 : Int)))
                      (Tr.br
                        (decP
                          (Pl68 (rs (rs (rs v)))
                            (PV.agg
                              [PV.s { data := #[] },
                                PV.agg
                                  [PV.agg
                                      [PV.agg [PV.bl false, PV.s { data := #[] }, PV.s { data := #[] }],
                                        PV.agg [PV.bl false, PV.s { data := #[] }, PV.s { data := #[] }]],
                                    PV.agg
                                      [PV.bl false, PV.agg [PV.bl false, PV.s { data := #[] }, PV.s { data := #[] }]]],
                                PV.nil])
                            (64 : Nat) (64 : Nat) (64 : Nat) ((1 : Int) + nx (rs (rs v)) (3 : Int)) (0 : Int)))
                        (Tr.br (decide ((1 : Int) + nx (rs (rs v)) (3 : Int) = (1 : Int)))
                          (Tr.ok
                            (Res.ret
                              (PV.agg
                                [PV.s { data := #[(111 : UInt8), (110 : UInt8), (101 : UInt8)] },
                                  PV.agg
                                    [PV.agg
                                        [PV.q (mkRat ((40 : Int) * (0 : Int)) (4 : Nat)) (64),
                                          PV.q (mkRat (0 : Int) (4 : Nat)) (64)],
                                      PV.agg
                                        [PV.bl false,
                                          PV.q
                                            (mkRat
                                              ([(0 : Int), (1 : Int), (-1 : Int), (1 : Int)].getD (nx v (4 : Int)).toNat
                                                (0 : Int))
                                              ((1 : Int) + nx (rs v) (3 : Int)).toNat)
                                            (64)]],
                                  PV.fr (16)
                                    (Cont.vals
                                      [PV.agg
                                          [PV.q (lenV (rs (rs (rs v)))) (64),
                                            PV.q (lowV (rs (rs (rs v)))) (64),
                                            PV.q (highV (rs (rs (rs v)))) (64),
                                            PV.q (spdV (rs (rs (rs v)))) (64),
                                            PV.q (brkV (rs (rs (rs v)))) (64),
                                            PV.lst (6) (shV (rs (rs (rs v))))]])])
                              [{ e := 1, c := Cont.vals [PV.agg [(r6 (rs (rs (rs v)))).w]] }]))
                          (Tr.br (decide ((1 : Int) + nx (rs (rs v)) (3 : Int) = (2 : Int)))
                            (Tr.ok
                              (Res.ret
                                (PV.agg
                                  [PV.s { data := #[(111 : UInt8), (110 : UInt8), (101 : UInt8)] },
                                    PV.agg
                                      [PV.agg
                                          [PV.q (mkRat ((40 : Int) * (0 : Int)) (4 : Nat)) (64),
                                            PV.q (mkRat (0 : Int) (4 : Nat)) (64)],
                                        PV.agg
                                          [PV.bl false,
                                            PV.q
                                              (mkRat
                                                ([(0 : Int), (1 : Int), (-1 : Int), (1 : Int)].getD (nx v (4 : Int)).toNat
                                                  (0 : Int))
                                                ((1 : Int) + nx (rs v) (3 : Int)).toNat)
                                              (64)]],
                                    PV.fr (16)
                                      (Cont.vals
                                        [PV.agg
                                            [PV.q (lenV (rs (rs (rs v)))) (64),
                                              PV.q (lowV (rs (rs (rs v)))) (64),
                                              PV.q (highV (rs (rs (rs v)))) (64),
                                              PV.q (spdV (rs (rs (rs v)))) (64),
                                              PV.q (brkV (rs (rs (rs v)))) (64),
                                              PV.lst (6) (shV (rs (rs (rs v))))],
                                          PV.agg
                                            [PV.q (lenV (r6 (rs (rs (rs v))))) (64),
                                              PV.q (lowV (r6 (rs (rs (rs v))))) (64),
                                              PV.q (highV (r6 (rs (rs (rs v))))) (64),
                                              PV.q (spdV (r6 (rs (rs (rs v))))) (64),
                                              PV.q (brkV (r6 (rs (rs (rs v))))) (64),
                                              PV.lst (6) (shV (r6 (rs (rs (rs v)))))]])])
                                [{ e := 1, c := Cont.vals [PV.agg [(r6 (r6 (rs (rs (rs v))))).w]] }]))
                            (Tr.ok
                              (Res.ret
                                (PV.agg
                                  [PV.s { data := #[(111 : UInt8), (110 : UInt8), (101 : UInt8)] },
                                    PV.agg
                                      [PV.agg
                                          [PV.q (mkRat ((40 : Int) * (0 : Int)) (4 : Nat)) (64),
                                            PV.q (mkRat (0 : Int) (4 : Nat)) (64)],
                                        PV.agg
                                          [PV.bl false,
                                            PV.q
                                              (mkRat
                                                ([(0 : Int), (1 : Int), (-1 : Int), (1 : Int)].getD (nx v (4 : Int)).toNat
                                                  (0 : Int))
                                                ((1 : Int) + nx (rs v) (3 : Int)).toNat)
                                              (64)]],
                                    PV.fr (16)
                                      (Cont.vals
                                        [PV.agg
                                            [PV.q (lenV (rs (rs (rs v)))) (64),
                                              PV.q (lowV (rs (rs (rs v)))) (64),
                                              PV.q (highV (rs (rs (rs v)))) (64),
                                              PV.q (spdV (rs (rs (rs v)))) (64),
                                              PV.q (brkV (rs (rs (rs v)))) (64),
                                              PV.lst (6) (shV (rs (rs (rs v))))],
                                          PV.agg
                                            [PV.q (lenV (r6 (rs (rs (rs v))))) (64),
                                              PV.q (lowV (r6 (rs (rs (rs v))))) (64),
                                              PV.q (highV (r6 (rs (rs (rs v))))) (64),
                                              PV.q (spdV (r6 (rs (rs (rs v))))) (64),
                                              PV.q (brkV (r6 (rs (rs (rs v))))) (64),
                                              PV.lst (6) (shV (r6 (rs (rs (rs v)))))],
                                          PV.agg
                                            [PV.q (lenV (r6 (r6 (rs (rs (rs v)))))) (64),
                                              PV.q (lowV (r6 (r6 (rs (rs (rs v)))))) (64),
                                              PV.q (highV (r6 (r6 (rs (rs (rs v)))))) (64),
                                              PV.q (spdV (r6 (r6 (rs (rs (rs v)))))) (64),
                                              PV.q (brkV (r6 (r6 (rs (rs (rs v)))))) (64),
                                              PV.lst (6) (shV (r6 (r6 (rs (rs (rs v))))))]])])
                                [{ e := 1, c := Cont.vals [PV.agg [(r6 (r6 (r6 (rs (rs (rs v)))))).w]] }]))))
                        (Tr.no (1)))
                      (Tr.no (4002)))
                    (Tr.no (1)))
                  (Tr.no (1)))
                (Tr.no (3006)))
              (Tr.no (1)))
            (Tr.no (3010)))
          (Tr.no (1)))
        (Tr.no (1)))
      (Tr.no (3015)))
    (Tr.no (2005)) := by kernel_rfl
def itR6 : Nat → PV → PV
  | 0, v => v
  | k + 1, v => itR6 k (r6 v)
/-- What a stream gives: a link, an arm. -/
def lkD (v : PV) : Lk := ⟨lenV v, lowV v, highV v, spdV v, brkV v, (shV v).len, fun i => dq (fldV ((shV v).get i) 0), fun i => dq (fldV ((shV v).get i) 1)⟩
def armD (v : PV) : Am := ⟨⟨#[111, 110, 101]⟩, mkRat (40 * 0) 4, mkRat 0 4, mkRat ([(0 : Int), 1, -1, 1].getD (nx v 4).toNat 0) (1 + nx (rs v) 3).toNat, (1 + nx (rs (rs v)) 3).toNat, fun j => lkD (itR6 j (rs (rs (rs v))))⟩
theorem shV_get (v : PV) (i : Nat) (h : i < (shV v).len) : (shV v).get i = .agg [.q (dq (fldV ((shV v).get i) 0)) 64, .q (dq (fldV ((shV v).get i) 1)) 64] := by
  unfold shV at *
  by_cases hb : nx (rs (rs (rs (rs (rs v))))) 3 = 2
  · simp only [hb, if_true, Cont.len, List.length_cons, List.length_nil] at h ⊢
    match i, h with
    | 0, _ => rfl
    | 1, _ => rfl
    | 2, _ => rfl
    | i + 3, h => omega
  · simp only [hb, if_false, Cont.len, List.length_cons, List.length_nil] at h ⊢
    match i, h with
    | 0, _ => rfl
    | 1, _ => rfl
    | 2, _ => rfl
    | 3, _ => rfl
    | i + 4, h => omega
theorem lkV_le (v : PV) : VLe (lkV v) (lkPV (lkD v)) := by
  refine VLe.agg (VLeL.cons (.refl _) (VLeL.cons (.refl _) (VLeL.cons (.refl _) (VLeL.cons (.refl _) (VLeL.cons (.refl _) (VLeL.cons ?_ .nil))))))
  refine VLe.lst rfl fun i hi => ?_
  have := shV_get v i hi
  have e : (Cont.fn (lkD v).np (pv (lkD v).px (lkD v).py)).get i = (shV v).get i := this.symm
  rw [e]
  exact .refl _
theorem rle_arm (nm : ByteArray) (bx by_ t : Rat) (vs : List PV) (n : Nat) (f : Nat → PV) (hl : vs.length = n) (h : ∀ (i : Nat) (v : PV), vs[i]? = some v → noRef 8 v = true ∧ VLe v (f i)) :
    RLe (frA nm bx by_ t (.fr 16 (.vals vs))) (frA nm bx by_ t (.fr 16 (.fn n f))) := by
  subst hl
  exact ⟨fun m => .refl _, fun m => KsLe.one (KLe.fn rfl h)⟩
def armFr (A : Am) : PV := frA A.name A.bx A.by_ A.t (.fr 16 (.fn A.n (fun j => lkPV (A.lk j))))
def s68 : Spec := fun args hs K => match args, hs with
  | [.ptr 0 1 0 0 [], .i .i64 k], [⟨1, .vals [.agg [.w v]]⟩] => .br (okW v && decide (k = 0)) (K (armFr (armD v)) [⟨1, .vals [.agg [.w (itR6 (armD v).n (rs (rs (rs v))))]]⟩]) (.no 1)
  | _, _ => .no 1
include hG in
theorem ok68 : SpecOK Tryd.prog G 68 s68 := by
  refine spec_of hG (orc68 hG) mix enter68 (L := [(4, l68)]) (pol := pol68) fun args hs K x h => ?_
  unfold s68 at h
  split at h
  case h_2 => cases h
  rename_i k v
  obtain ⟨hc, hr⟩ := Tr.of_br h
  simp only [Bool.and_eq_true, decide_eq_true_eq] at hc
  obtain ⟨hw, rfl⟩ := hc
  refine ⟨lps1 (b := b68) (live := [0, 4, 5, 30, 31]) (sp := l68) (m := 1) (by kernel_rfl) (by kernel_rfl) (by kernel_rfl) (loop68 hG), ?_⟩
  have w1 := okW_rs hw
  have w2 := okW_rs w1
  have w3 := okW_rs w2
  have g0 := nx_range v (show (0 : Int) < 4 by omega)
  have g1 := nx_range (rs v) (show (0 : Int) < 3 by omega)
  have g2 := nx_range (rs (rs v)) (show (0 : Int) < 3 by omega)
  have gt : ∀ i : Nat, -2 < [(0 : Int), 1, -1, 1].getD i 0 ∧ [(0 : Int), 1, -1, 1].getD i 0 < 2 := by
    intro i
    match i with
    | 0 => decide
    | 1 => decide
    | 2 => decide
    | 3 => decide
    | i + 4 => exact ⟨by show (-2 : Int) < 0; decide, by show (0 : Int) < 2; decide⟩
  have gt' := gt (nx v 4).toNat
  rw [e68]
  rw [Tr.run_t (by decide), Tr.run_t (by decide), Tr.run_t (by decide), Tr.run_t (by rw [hw]; decide), Tr.run_t (by simp only [Bool.and_eq_true, decide_eq_true_eq, List.length_cons, List.length_nil]; omega), Tr.run_t (by rw [w1]; decide),
    Tr.run_t (by simp only [Bool.and_eq_true, decide_eq_true_eq]; omega), Tr.run_t (by simp only [Bool.and_eq_true, decide_eq_true_eq]; omega), Tr.run_t (by rw [w2]; decide), Tr.run_t (by simp only [Bool.and_eq_true, decide_eq_true_eq]; omega),
    Tr.run_t (decP_iff.2 ⟨w3, rfl, by omega, by omega, rfl, rfl, rfl, rfl⟩)]
  have hn : (armD v).n = (1 + nx (rs (rs v)) 3).toNat := rfl
  have one : ∀ (vs : List PV), vs.length = (armD v).n → (∀ i u, vs[i]? = some u → u = lkV (itR6 i (rs (rs (rs v))))) →
      RLe (frA (armD v).name (armD v).bx (armD v).by_ (armD v).t (.fr 16 (.vals vs))) (armFr (armD v)) := by
    intro vs hl hv
    refine rle_arm _ _ _ _ _ _ _ hl fun i u hu => ?_
    rw [hv i u hu]
    exact ⟨rfl, lkV_le _⟩
  by_cases e1 : 1 + nx (rs (rs v)) 3 = 1
  · have hn1 : (armD v).n = 1 := by omega
    rw [hn1] at hr
    rw [Tr.run_t (decide_eq_true e1)]
    refine ⟨_, _, _, rfl, one [lkV (rs (rs (rs v)))] (by rw [hn1]; rfl) (fun i u hu => ?_), hr⟩
    match i, hu with
    | 0, hu => exact (Option.some.inj hu).symm
    | i + 1, hu => simp at hu
  · rw [Tr.run_f (decide_eq_false e1)]
    by_cases e2 : 1 + nx (rs (rs v)) 3 = 2
    · have hn1 : (armD v).n = 2 := by omega
      rw [hn1] at hr
      rw [Tr.run_t (decide_eq_true e2)]
      refine ⟨_, _, _, rfl, one [lkV (rs (rs (rs v))), lkV (r6 (rs (rs (rs v))))] (by rw [hn1]; rfl) (fun i u hu => ?_), hr⟩
      match i, hu with
      | 0, hu => exact (Option.some.inj hu).symm
      | 1, hu => exact (Option.some.inj hu).symm
      | i + 2, hu => simp at hu
    · have hn1 : (armD v).n = 3 := by omega
      rw [hn1] at hr
      rw [Tr.run_f (decide_eq_false e2)]
      refine ⟨_, _, _, rfl, one [lkV (rs (rs (rs v))), lkV (r6 (rs (rs (rs v)))), lkV (r6 (r6 (rs (rs (rs v)))))] (by rw [hn1]; rfl) (fun i u hu => ?_), hr⟩
      match i, hu with
      | 0, hu => exact (Option.some.inj hu).symm
      | 1, hu => exact (Option.some.inj hu).symm
      | 2, hu => exact (Option.some.inj hu).symm
      | i + 3, hu => simp at hu
/-! gantmake.Arm -/
theorem enter15 : Enters Tryd.prog 15 Tryd.f15 (bodyC Tryd.f15) := ⟨Tryd.func15, by kernel_rfl, rfl⟩
def pol15 : Pol := { own := [6], wr := [(68, [0])] }
theorem e15 (v : PV) : evF Tryd.prog [(68, s68)] [] pol15 Tryd.f15 [.w v] [] retK =
  Tr.br (okW v && decide ((0 : Int) = (0 : Int)))
    (Tr.br ((armD v).n.ble (armD v).n)
      (Tr.ok
        (Res.ret
          (PV.agg
            [PV.s (armD v).name,
              PV.agg
                [PV.agg [PV.q (armD v).bx (64), PV.q (armD v).by_ (64)],
                  PV.agg [PV.bl false, PV.q (armD v).t (64)]],
              PV.fr (16)
                (Cont.fn (armD v).n fun (j : Nat) =>
                  PV.agg
                    [PV.q ((armD v).lk (j + (0 : Nat))).len (64),
                      PV.q ((armD v).lk (j + (0 : Nat))).low (64),
                      PV.q ((armD v).lk (j + (0 : Nat))).high (64),
                      PV.q ((armD v).lk (j + (0 : Nat))).spd (64),
                      PV.q ((armD v).lk (j + (0 : Nat))).brk (64),
                      PV.lst (6)
                        (Cont.fn ((armD v).lk (j + (0 : Nat))).np fun (a : Nat) =>
                          PV.agg
                            [PV.q (((armD v).lk (j + (0 : Nat))).px a) (64),
                              PV.q (((armD v).lk (j + (0 : Nat))).py a) (64)])])])
          []))
      (Tr.no (15)))
    (Tr.no (1)) := by kernel_rfl
def s15 : Spec := fun args hs K => match args, hs with
  | [.w v], [] => .br (okW v) (K (armFr (armD v)) []) (.no 1)
  | _, _ => .no 1
include hG in
theorem ok15 : SpecOK Tryd.prog G 15 s15 := by
  refine spec_of hG (.cons (ok68 hG) .nil) mix enter15 (L := []) (pol := pol15) fun args hs K x h => ?_
  unfold s15 at h
  split at h
  case h_2 => cases h
  rename_i v
  obtain ⟨hc, hr⟩ := Tr.of_br h
  refine ⟨LpsOK.none (by kernel_rfl), _, _, _, ?_, .refl _, hr⟩
  rw [e15, Tr.run_t (by rw [hc]; decide), Tr.run_t (by rw [Nat.ble_eq]; omega), Tr.run_ok]
  rfl

/-! The arms are valid -/
theorem smQ_mk {n : Int} {d : Nat} (hd : d ≠ 0) (hn : n.natAbs ≤ 1000000) (hd2 : d ≤ 1000) : smQ (mkRat n d) = true :=
  smQ_iff.2 ⟨Nat.le_trans (mkRat_num_le n hd) hn, Nat.le_trans (mkRat_den_le n hd) hd2⟩
theorem mk_posI {n : Int} {d : Nat} (hn : 0 < n) (hd : 0 < d) : (0 : Rat) < mkRat n d := by
  rw [show n = ((n.toNat : Nat) : Int) by omega]; exact Prof.mk_pos (by omega) hd
theorem mk_negI {n : Int} {d : Nat} (hn : n < 0) (hd : 0 < d) : mkRat n d < (0 : Rat) := by
  have h := mk_posI (n := -n) (d := d) (by omega) hd
  rw [← Rat.neg_mkRat] at h
  grind
def shF (g : Int) (b : Bool) : Cont := match b with
  | true => .vals [.agg [.q (mkRat (-1) 4) 64, .q (mkRat (-1) 4) 64], .agg [.q (mkRat (4 + 2 * g + 1) 4) 64, .q (mkRat 0 4) 64], .agg [.q (mkRat (-1) 4) 64, .q (mkRat 1 4) 64]]
  | false => .vals [.agg [.q (mkRat (-1) 4) 64, .q (mkRat (-1) 4) 64], .agg [.q (mkRat (4 + 2 * g + 1) 4) 64, .q (mkRat (-1) 4) 64], .agg [.q (mkRat (4 + 2 * g + 1) 4) 64, .q (mkRat 1 4) 64], .agg [.q (mkRat (-1) 4) 64, .q (mkRat 1 4) 64]]
theorem shV_F (v : PV) : shV v = shF (nx v 4) (decide (nx (rs (rs (rs (rs (rs v))))) 3 = 2)) := by
  unfold shV
  by_cases hb : nx (rs (rs (rs (rs (rs v))))) 3 = 2
  · rw [if_pos hb, decide_eq_true hb]; rfl
  · rw [if_neg hb, decide_eq_false hb]; rfl
theorem shF_ok : ∀ (g : Nat) (b : Bool), g < 4 → polyB (shF g b).len (fun i => dq (fldV ((shF g b).get i) 0)) (fun i => dq (fldV ((shF g b).get i) 1)) = true
  | 0, true, _ => by kernel_rfl
  | 1, true, _ => by kernel_rfl
  | 2, true, _ => by kernel_rfl
  | 3, true, _ => by kernel_rfl
  | 0, false, _ => by kernel_rfl
  | 1, false, _ => by kernel_rfl
  | 2, false, _ => by kernel_rfl
  | 3, false, _ => by kernel_rfl
theorem lkB_V (v : PV) : lkB (lkD v) = true := by
  have g0 := nx_range v (show (0 : Int) < 4 by omega)
  have g1 := nx_range (rs v) (show (0 : Int) < 6 by omega)
  have g2 := nx_range (rs (rs v)) (show (0 : Int) < 6 by omega)
  have g3 := nx_range (rs (rs (rs v))) (show (0 : Int) < 8 by omega)
  have g4 := nx_range (rs (rs (rs (rs v)))) (show (0 : Int) < 20 by omega)
  have t3 : Int.toNat 3 = 3 := rfl
  have t4 : Int.toNat 4 = 4 := rfl
  have p := shF_ok (nx v 4).toNat (decide (nx (rs (rs (rs (rs (rs v))))) 3 = 2)) (by omega)
  rw [Int.toNat_of_nonneg g0.1, ← shV_F] at p
  have hlh : lowV v < highV v := by
    have a := mk_negI (n := -1 - nx (rs v) 6) (d := 3) (by omega) (by omega)
    have b := mk_posI (n := 1 + nx (rs (rs v)) 6) (d := 3) (by omega) (by omega)
    unfold lowV highV
    rw [t3]
    grind
  simp only [lkB, Bool.and_eq_true, decide_eq_true_eq]
  refine ⟨⟨⟨⟨⟨⟨⟨⟨⟨?_, ?_⟩, ?_⟩, ?_⟩, ?_⟩, ?_⟩, hlh⟩, ?_⟩, ?_⟩, p⟩
  · exact smQ_mk (by omega) (by omega) (by omega)
  · exact smQ_mk (by omega) (by omega) (by omega)
  · exact smQ_mk (by omega) (by omega) (by omega)
  · exact smQ_mk (by omega) (by omega) (by omega)
  · exact smQ_mk (by omega) (by omega) (by omega)
  · exact mk_posI (by omega) (by omega)
  · exact mk_posI (by omega) (by omega)
  · exact mk_posI (by omega) (by omega)
theorem armB_V (v : PV) : armB (armD v) = true := by
  have g0 := nx_range v (show (0 : Int) < 4 by omega)
  have g1 := nx_range (rs v) (show (0 : Int) < 3 by omega)
  have g2 := nx_range (rs (rs v)) (show (0 : Int) < 3 by omega)
  have hn : (armD v).n = (1 + nx (rs (rs v)) 3).toNat := rfl
  simp only [armB, Bool.and_eq_true, decide_eq_true_eq, List.all_eq_true]
  refine ⟨⟨⟨⟨⟨⟨by kernel_rfl, by kernel_rfl⟩, by kernel_rfl⟩, ?_⟩, by omega⟩, by omega⟩, fun j _ => lkB_V _⟩
  have gt : ∀ i : Nat, ([(0 : Int), 1, -1, 1].getD i 0).natAbs ≤ 1 := by
    intro i
    match i with
    | 0 => decide
    | 1 => decide
    | 2 => decide
    | 3 => decide
    | i + 4 => show (0 : Int).natAbs ≤ 1; decide
  have := gt (nx v 4).toNat
  exact smQ_mk (by omega) (by omega) (by omega)
end Go.Proofs.YtejfdhcigkgbmaaDoor.PE
namespace Go.Proofs.YtejfdhcigkgbmaaDoor.PE
open Go
set_option maxRecDepth 100000
variable {G : World → (Nat → Prop) → Prop} (hG : GOk G)

/-- Two loops, with their specs. -/
theorem lps2 {P : Program} {G : World → (Nat → Prop) → Prop} {pol : Pol} {n m : Nat} {L : Lps} {c b1 b2 : Code} {live1 live2 : List Nat} {sp1 sp2 : LSpec} (hc : loopsOf c = [b1, b2])
    (e1 : assoc (firstReg b1) pol.live = some live1) (e2 : Lps.look (firstReg b1) L = some sp1) (e3 : assoc (firstReg b2) pol.live = some live2) (e4 : Lps.look (firstReg b2) L = some sp2)
    (h1 : LoopOK P G n m live1 b1 sp1) (h2 : LoopOK P G n m live2 b2 sp2) : LpsOK P G pol n m L c := by
  refine LpsOK.of hc fun a ha live' sp' g1 g2 => ?_
  simp at ha
  rcases ha with rfl | rfl
  · rw [e1] at g1; rw [e2] at g2; cases g1; cases g2; exact h1
  · rw [e3] at g1; rw [e4] at g2; cases g1; cases g2; exact h2
/-! gantmake.fraction -/
noncomputable def b106a : Code := (loopsOf (bodyC Tryd.f106)).getD 0 .skip
noncomputable def b106b : Code := (loopsOf (bodyC Tryd.f106)).getD 1 .skip
def pol106 : Pol := { live := [(3, [1, 4, 5, 12, 13, 14]), (8, [1, 4, 5, 26, 27, 28])] }
theorem enter106 : Enters Tryd.prog 106 Tryd.f106 (bodyC Tryd.f106) := ⟨Tryd.func106, by kernel_rfl, rfl⟩
def st106a (x : Rat) (w : Nat) (bl : List UInt8) (i : Nat) : LS := ⟨[.ptr 0 3 0 0 [], .i .i64 (bv (bl.take i) : Nat), .i .i64 0, .lst 1 (.ints .u8 (bl.map fun c => (c.toNat : Int))), .i .i64 (bl.length : Nat), .i .i64 (i : Nat)], [some ⟨3, .vals [.q x w]⟩]⟩
def st106b (x : Rat) (w : Nat) (a : Int) (bl : List UInt8) (i : Nat) : LS := ⟨[.ptr 0 3 0 0 [], .i .i64 a, .i .i64 (bv (bl.take i) : Nat), .lst 1 (.ints .u8 (bl.map fun c => (c.toNat : Int))), .i .i64 (bl.length : Nat), .i .i64 (i : Nat)], [some ⟨3, .vals [.q x w]⟩]⟩
theorem r106a (x : Rat) (w : Nat) (a b n i : Int) (l : List Int) : evRound Tryd.prog [] [] pol106 Tryd.f106.ntmps 0 [1, 4, 5, 12, 13, 14] b106a ⟨[.ptr 0 3 0 0 [], .i .i64 a, .i .i64 b, .lst 1 (.ints .u8 l), .i .i64 n, .i .i64 i], [some ⟨3, .vals [.q x w]⟩]⟩ =
  Tr.br (decide (i < n))
    (Tr.br (decide ((0 : Int) ≤ i) && decide (i < (↑l.length : Int)))
      (Tr.br
        (decide ((-9223372036854775808 : Int) ≤ (256 : Int) * a) &&
          decide ((256 : Int) * a ≤ (9223372036854775807 : Int)))
        (Tr.br
          (decide ((-9223372036854775808 : Int) ≤ (256 : Int) * a + IntKind.i64.wrap (l.getD i.toNat (0 : Int))) &&
            decide ((256 : Int) * a + IntKind.i64.wrap (l.getD i.toNat (0 : Int)) ≤ (9223372036854775807 : Int)))
          (Tr.br
            (decide ((-9223372036854775808 : Int) ≤ i + (1 : Int)) &&
              decide (i + (1 : Int) ≤ (9223372036854775807 : Int)))
            (Tr.ok
              (Res.out Exit.normal
                {
                  t :=
                    [PV.ptr (0) (3) (0) (0) [],
                      PV.i IntKind.i64 ((256 : Int) * a + IntKind.i64.wrap (l.getD i.toNat (0 : Int))),
                      PV.i IntKind.i64 b, PV.lst (1) (Cont.ints IntKind.u8 l), PV.i IntKind.i64 n,
                      PV.i IntKind.i64 (i + (1 : Int))],
                  h := [some { e := 3, c := Cont.vals [PV.q x w] }] }))
            (Tr.no (7002)))
          (Tr.no (6002)))
        (Tr.no (6005)))
      (Tr.no (5003)))
    (Tr.ok
      (Res.out (Exit.exit (0))
        {
          t :=
            [PV.ptr (0) (3) (0) (0) [], PV.i IntKind.i64 a, PV.i IntKind.i64 b,
              PV.lst (1) (Cont.ints IntKind.u8 l), PV.i IntKind.i64 n, PV.i IntKind.i64 i],
          h := [some { e := 3, c := Cont.vals [PV.q x w] }] })) := by kernel_rfl
theorem r106b (x : Rat) (w : Nat) (a b n i : Int) (l : List Int) : evRound Tryd.prog [] [] pol106 Tryd.f106.ntmps 0 [1, 4, 5, 26, 27, 28] b106b ⟨[.ptr 0 3 0 0 [], .i .i64 a, .i .i64 b, .lst 1 (.ints .u8 l), .i .i64 n, .i .i64 i], [some ⟨3, .vals [.q x w]⟩]⟩ =
  Tr.br (decide (i < n))
    (Tr.br (decide ((0 : Int) ≤ i) && decide (i < (↑l.length : Int)))
      (Tr.br
        (decide ((-9223372036854775808 : Int) ≤ (256 : Int) * b) &&
          decide ((256 : Int) * b ≤ (9223372036854775807 : Int)))
        (Tr.br
          (decide ((-9223372036854775808 : Int) ≤ (256 : Int) * b + IntKind.i64.wrap (l.getD i.toNat (0 : Int))) &&
            decide ((256 : Int) * b + IntKind.i64.wrap (l.getD i.toNat (0 : Int)) ≤ (9223372036854775807 : Int)))
          (Tr.br
            (decide ((-9223372036854775808 : Int) ≤ i + (1 : Int)) &&
              decide (i + (1 : Int) ≤ (9223372036854775807 : Int)))
            (Tr.ok
              (Res.out Exit.normal
                {
                  t :=
                    [PV.ptr (0) (3) (0) (0) [], PV.i IntKind.i64 a,
                      PV.i IntKind.i64 ((256 : Int) * b + IntKind.i64.wrap (l.getD i.toNat (0 : Int))),
                      PV.lst (1) (Cont.ints IntKind.u8 l), PV.i IntKind.i64 n, PV.i IntKind.i64 (i + (1 : Int))],
                  h := [some { e := 3, c := Cont.vals [PV.q x w] }] }))
            (Tr.no (12002)))
          (Tr.no (11002)))
        (Tr.no (11005)))
      (Tr.no (10003)))
    (Tr.ok
      (Res.out (Exit.exit (2))
        {
          t :=
            [PV.ptr (0) (3) (0) (0) [], PV.i IntKind.i64 a, PV.i IntKind.i64 b,
              PV.lst (1) (Cont.ints IntKind.u8 l), PV.i IntKind.i64 n, PV.i IntKind.i64 i],
          h := [some { e := 3, c := Cont.vals [PV.q x w] }] })) := by kernel_rfl
def bI (l : List Int) : Int := (bv (l.map fun n => UInt8.ofNat n.toNat) : Nat)
theorem bI_map (bl : List UInt8) : bI (bl.map fun c => (c.toNat : Int)) = (bv bl : Nat) := by
  unfold bI
  rw [List.map_map]
  have : (List.map ((fun n : Int => UInt8.ofNat n.toNat) ∘ fun c : UInt8 => (c.toNat : Int)) bl) = bl := by
    rw [List.map_congr_left (g := id) (fun c _ => by simp), List.map_id]
  rw [this]
def F106 (l : List Int) (n i : Int) : Prop := ∃ bl : List UInt8, l = (bl.map fun c => (c.toNat : Int)) ∧ n = (bl.length : Nat) ∧ i = 0 ∧ bl.length ≤ 2
noncomputable def l106a : LSpec := fun ls K => match ls with
  | ⟨[.ptr 0 3 0 0 [], .i .i64 a, .i .i64 b, .lst 1 (.ints .u8 l), .i .i64 n, .i .i64 i], [some ⟨3, .vals [.q x w]⟩]⟩ => .br (decP (F106 l n i ∧ a = 0 ∧ b = 0)) (K (.exit 0) ⟨[.ptr 0 3 0 0 [], .i .i64 (bI l), .i .i64 b, .lst 1 (.ints .u8 l), .i .i64 n, .i .i64 n], [some ⟨3, .vals [.q x w]⟩]⟩) (.no 1)
  | _ => .no 1
noncomputable def l106b : LSpec := fun ls K => match ls with
  | ⟨[.ptr 0 3 0 0 [], .i .i64 a, .i .i64 b, .lst 1 (.ints .u8 l), .i .i64 n, .i .i64 i], [some ⟨3, .vals [.q x w]⟩]⟩ => .br (decP (F106 l n i ∧ b = 0)) (K (.exit 2) ⟨[.ptr 0 3 0 0 [], .i .i64 a, .i .i64 (bI l), .lst 1 (.ints .u8 l), .i .i64 n, .i .i64 n], [some ⟨3, .vals [.q x w]⟩]⟩) (.no 1)
  | _ => .no 1
theorem bv2_lt (bl : List UInt8) (i : Nat) (h : bl.length ≤ 2) : bv (bl.take i) < 65536 := by
  have h1 := bv_lt (bl.take i)
  have h2 : 256 ^ (bl.take i).length ≤ 256 ^ 2 := Nat.pow_le_pow_right (by omega) (by rw [List.length_take]; omega)
  omega
theorem bv_take_succ (bl : List UInt8) (i : Nat) (h : i < bl.length) : bv (bl.take (i + 1)) = bv (bl.take i) * 256 + (bl.getD i 0).toNat := by
  rw [List.take_add_one, List.getElem?_eq_getElem h, List.getD_eq_getElem?_getD, List.getElem?_eq_getElem h]
  exact bv_snoc _ _
theorem byte_get (bl : List UInt8) (i : Nat) (h : i < bl.length) : IntKind.i64.wrap ((bl.map fun c => (c.toNat : Int)).getD i 0) = ((bl.getD i 0).toNat : Int) := by
  rw [List.getD_eq_getElem?_getD, List.getD_eq_getElem?_getD, List.getElem?_map, List.getElem?_eq_getElem h]
  have := UInt8.toNat_lt (bl[i])
  show IntKind.i64.wrap ((bl[i].toNat : Nat) : Int) = ((bl[i].toNat : Nat) : Int)
  exact wi64 (by omega) (by omega)
include hG in
theorem loop106a : LoopOK Tryd.prog G Tryd.f106.ntmps 0 [1, 4, 5, 12, 13, 14] b106a l106a := by
  intro ls K y hm h
  unfold l106a at h
  split at h
  case h_2 => cases h
  rename_i a b l n i x w
  obtain ⟨hc, hr⟩ := Tr.of_br h
  obtain ⟨⟨bl, rfl, rfl, rfl, hl⟩, rfl, rfl⟩ := decP_iff.1 hc
  have hg := Goes.count (R := Rnd Tryd.prog G Tryd.f106.ntmps 0 [1, 4, 5, 12, 13, 14] b106a) (fun i => st106a x w bl i) (e := .exit 0) (ls' := st106a x w bl bl.length) (by simp) bl.length 0
    (fun i _ hi => round_ok hG .nil mix (L := []) (pol := pol106) (O := []) (LpsOK.none (by kernel_rfl)) (Nat.zero_le _) (by
      have hi' : i < bl.length := by omega
      have b1 := bv2_lt bl i hl
      have b2 := bv2_lt bl (i + 1) hl
      have b3 := bv_take_succ bl i hi'
      have b4 := byte_get bl i hi'
      unfold st106a
      rw [r106a, Int.toNat_natCast, b4, Tr.run_t (decide_eq_true (by omega)), Tr.run_t (by simp only [Bool.and_eq_true, decide_eq_true_eq, List.length_map]; omega), Tr.run_t (by simp only [Bool.and_eq_true, decide_eq_true_eq]; omega), Tr.run_t (by simp only [Bool.and_eq_true, decide_eq_true_eq]; omega), Tr.run_t (by simp only [Bool.and_eq_true, decide_eq_true_eq]; omega), Tr.run_ok]
      have e1 : 256 * ((bv (bl.take i) : Nat) : Int) + ((bl.getD i 0).toNat : Int) = ((bv (bl.take (i + 1)) : Nat) : Int) := by omega
      rw [e1]
      rfl))
    (by
      refine round_ok hG .nil mix (L := []) (pol := pol106) (O := []) (LpsOK.none (by kernel_rfl)) (Nat.zero_le _) ?_
      unfold st106a
      rw [Nat.zero_add, r106a, Tr.run_f (decide_eq_false (by omega)), Tr.run_ok])
  refine ⟨_, _, goes_ok hg, ?_⟩
  unfold st106a
  rw [List.take_length, ← bI_map]
  exact hr
include hG in
theorem loop106b : LoopOK Tryd.prog G Tryd.f106.ntmps 0 [1, 4, 5, 26, 27, 28] b106b l106b := by
  intro ls K y hm h
  unfold l106b at h
  split at h
  case h_2 => cases h
  rename_i a b l n i x w
  obtain ⟨hc, hr⟩ := Tr.of_br h
  obtain ⟨⟨bl, rfl, rfl, rfl, hl⟩, rfl⟩ := decP_iff.1 hc
  have hg := Goes.count (R := Rnd Tryd.prog G Tryd.f106.ntmps 0 [1, 4, 5, 26, 27, 28] b106b) (fun i => st106b x w a bl i) (e := .exit 2) (ls' := st106b x w a bl bl.length) (by simp) bl.length 0
    (fun i _ hi => round_ok hG .nil mix (L := []) (pol := pol106) (O := []) (LpsOK.none (by kernel_rfl)) (Nat.zero_le _) (by
      have hi' : i < bl.length := by omega
      have b1 := bv2_lt bl i hl
      have b2 := bv2_lt bl (i + 1) hl
      have b3 := bv_take_succ bl i hi'
      have b4 := byte_get bl i hi'
      unfold st106b
      rw [r106b, Int.toNat_natCast, b4, Tr.run_t (decide_eq_true (by omega)), Tr.run_t (by simp only [Bool.and_eq_true, decide_eq_true_eq, List.length_map]; omega), Tr.run_t (by simp only [Bool.and_eq_true, decide_eq_true_eq]; omega), Tr.run_t (by simp only [Bool.and_eq_true, decide_eq_true_eq]; omega), Tr.run_t (by simp only [Bool.and_eq_true, decide_eq_true_eq]; omega), Tr.run_ok]
      have e1 : 256 * ((bv (bl.take i) : Nat) : Int) + ((bl.getD i 0).toNat : Int) = ((bv (bl.take (i + 1)) : Nat) : Int) := by omega
      rw [e1]
      rfl))
    (by
      refine round_ok hG .nil mix (L := []) (pol := pol106) (O := []) (LpsOK.none (by kernel_rfl)) (Nat.zero_le _) ?_
      unfold st106b
      rw [Nat.zero_add, r106b, Tr.run_f (decide_eq_false (by omega)), Tr.run_ok])
  refine ⟨_, _, goes_ok hg, ?_⟩
  unfold st106b
  rw [List.take_length, ← bI_map]
  exact hr
theorem e106 (x : Rat) (w : Nat) : evF Tryd.prog [] [(3, l106a), (8, l106b)] pol106 Tryd.f106 [.q x w] [] retK =
  Tr.br
    (decP
      (F106 (List.map (fun (c : UInt8) => (↑c.toNat : Int)) (natBytesL x.num.natAbs x.num.natAbs []).toArray.toList)
          (↑(List.map (fun (c : UInt8) => (↑c.toNat : Int))
                  (natBytesL x.num.natAbs x.num.natAbs []).toArray.toList).length :
            Int)
          (0 : Int) ∧
        (0 : Int) = (0 : Int) ∧ (0 : Int) = (0 : Int)))
    (Tr.br
      (decP
        (F106 (List.map (fun (c : UInt8) => (↑c.toNat : Int)) (natBytesL x.den x.den []).toArray.toList)
            (↑(List.map (fun (c : UInt8) => (↑c.toNat : Int)) (natBytesL x.den x.den []).toArray.toList).length : Int)
            (0 : Int) ∧
          (0 : Int) = (0 : Int)))
      (Tr.br (rneg x)
        (Tr.br
          (decide
              ((-9223372036854775808 : Int) ≤
                (0 : Int) -
                  bI
                    (List.map (fun (c : UInt8) => (↑c.toNat : Int))
                      (natBytesL x.num.natAbs x.num.natAbs []).toArray.toList)) &&
            decide
              ((0 : Int) -
                  bI
                    (List.map (fun (c : UInt8) => (↑c.toNat : Int))
                      (natBytesL x.num.natAbs x.num.natAbs []).toArray.toList) ≤
                (9223372036854775807 : Int)))
          (Tr.ok
            (Res.ret
              (PV.tup
                [PV.i IntKind.i64
                    ((0 : Int) -
                      bI
                        (List.map (fun (c : UInt8) => (↑c.toNat : Int))
                          (natBytesL x.num.natAbs x.num.natAbs []).toArray.toList)),
                  PV.i IntKind.i64
                    (if
                        (1 : Int) >
                          bI
                            (List.map (fun (c : UInt8) => (↑c.toNat : Int))
                              (natBytesL x.den x.den []).toArray.toList) then
                      (1 : Int)
                    else bI (List.map (fun (c : UInt8) => (↑c.toNat : Int)) (natBytesL x.den x.den []).toArray.toList))])
              []))
          (Tr.no (14002)))
        (Tr.ok
          (Res.ret
            (PV.tup
              [PV.i IntKind.i64
                  (bI
                    (List.map (fun (c : UInt8) => (↑c.toNat : Int))
                      (natBytesL x.num.natAbs x.num.natAbs []).toArray.toList)),
                PV.i IntKind.i64
                  (if
                      (1 : Int) >
                        bI (List.map (fun (c : UInt8) => (↑c.toNat : Int)) (natBytesL x.den x.den []).toArray.toList) then
                    (1 : Int)
                  else bI (List.map (fun (c : UInt8) => (↑c.toNat : Int)) (natBytesL x.den x.den []).toArray.toList))])
            [])))
      (Tr.no (1)))
    (Tr.no (1)) := by kernel_rfl
def smX (x : Rat) : Bool := decide (x.num.natAbs < 1000) && decide (x.den < 1000)
def s106 : Spec := fun args hs K => match args, hs with
  | [.q x _], [] => .br (smX x) (K (.tup [.i .i64 x.num, .i .i64 x.den]) []) (.no 1)
  | _, _ => .no 1


theorem bI_nbl (n : Nat) : bI (List.map (fun (c : UInt8) => (c.toNat : Int)) (natBytesL n n []).toArray.toList) = (n : Int) := by
  rw [show (natBytesL n n []).toArray.toList = nbl n from rfl, bI_map, bv_nbl]
theorem F106_nbl {n : Nat} (h : n < 65536) : F106 (List.map (fun (c : UInt8) => (c.toNat : Int)) (natBytesL n n []).toArray.toList) ((List.map (fun (c : UInt8) => (c.toNat : Int)) (natBytesL n n []).toArray.toList).length : Nat) 0 := by
  rw [show (natBytesL n n []).toArray.toList = nbl n from rfl]
  exact ⟨nbl n, rfl, by rw [List.length_map], rfl, nbl_length_le (k := 2) (by omega)⟩
include hG in
theorem ok106 : SpecOK Tryd.prog G 106 s106 := by
  refine spec_of hG .nil mix enter106 (L := [(3, l106a), (8, l106b)]) (pol := pol106) fun args hs K x h => ?_
  unfold s106 at h
  split at h
  case h_2 => cases h
  rename_i x w
  obtain ⟨hc, hr⟩ := Tr.of_br h
  simp only [smX, Bool.and_eq_true, decide_eq_true_eq] at hc
  refine ⟨lps2 (b1 := b106a) (live1 := [1, 4, 5, 12, 13, 14]) (sp1 := l106a) (b2 := b106b) (live2 := [1, 4, 5, 26, 27, 28]) (sp2 := l106b) (m := 0) (by kernel_rfl) (by kernel_rfl) (by kernel_rfl) (by kernel_rfl) (by kernel_rfl) (loop106a hG) (loop106b hG), ?_⟩
  have hd := x.den_pos
  rw [e106, bI_nbl, bI_nbl, Tr.run_t (decP_iff.2 ⟨F106_nbl (by omega), rfl, rfl⟩), Tr.run_t (decP_iff.2 ⟨F106_nbl (by omega), rfl⟩)]
  have e2 : (if (1 : Int) > (x.den : Int) then (1 : Int) else (x.den : Int)) = (x.den : Int) := if_neg (by omega)
  rw [e2]
  cases hn : rneg x with
  | true =>
    have hneg : x.num < 0 := of_decide_eq_true hn
    rw [Tr.run_t rfl, Tr.run_t (by simp only [Bool.and_eq_true, decide_eq_true_eq]; omega), Tr.run_ok, show (0 : Int) - (x.num.natAbs : Int) = x.num by omega]
    exact ⟨_, _, _, rfl, .refl _, hr⟩
  | false =>
    have hneg : ¬ x.num < 0 := of_decide_eq_false hn
    rw [Tr.run_f rfl, Tr.run_ok, show (x.num.natAbs : Int) = x.num by omega]
    exact ⟨_, _, _, rfl, .refl _, hr⟩
end Go.Proofs.YtejfdhcigkgbmaaDoor.PE
