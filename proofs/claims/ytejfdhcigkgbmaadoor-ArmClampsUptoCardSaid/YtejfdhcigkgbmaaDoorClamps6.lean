/-
  Part 6 of the proof: contracts of the program's functions. Conditions: those of the theorems below.
-/
import Derived.Test.YtejfdhcigkgbmaaDoorClamps5
set_option linter.all false
namespace Go.Proofs.YtejfdhcigkgbmaaDoor.PE
open Go
set_option maxRecDepth 100000
variable {G : World → (Nat → Prop) → Prop} (hG : GOk G)

/-! gantmake.conf -/
noncomputable def b69 : Code := (loopsOf (bodyC Tryd.f69)).getD 0 .skip
def pol69 : Pol := { live := [(3, [1, 5, 14, 15, 16])], wr := [(45, [0])] }
theorem enter69 : Enters Tryd.prog 69 Tryd.f69 (bodyC Tryd.f69) := ⟨Tryd.func69, by kernel_rfl, rfl⟩
def O69 : Orc := [(45, s45), (81, s81), (106, s106)]
def n69 (v : PV) (n : Nat) (lk : Nat → Lk) (i : Int) : LS := ⟨[.ptr 0 1 0 0 [], .nil, .lst 16 (.fn n (fun j => lkPV (lk j))), .i .i64 n, .i .i64 i], [some ⟨1, .vals [.agg [.w v]]⟩]⟩
def x69 (v : PV) (n : Nat) (lk : Nat → Lk) (xs : List Rat) (i : Int) : LS := ⟨[.ptr 0 1 0 0 [], .sl 1 3 0 xs.length, .lst 16 (.fn n (fun j => lkPV (lk j))), .i .i64 n, .i .i64 i], [some ⟨1, .vals [.agg [.w v]]⟩, some ⟨3, .rats 64 xs⟩]⟩
theorem r69n (v : PV) (n : Nat) (lk : Nat → Lk) (i : Int) : evRound Tryd.prog O69 [] pol69 Tryd.f69.ntmps 1 [1, 5, 14, 15, 16] b69 (n69 v n lk i) =
  Tr.br (decide (i < (↑n : Int)))
    (Tr.br (decide ((0 : Int) ≤ i) && decide (i < (↑n : Int)))
      (Tr.br (smX (lk i.toNat).low)
        (Tr.br (smX (lk i.toNat).high)
          (Tr.br (okW v && decide ((0 : Int) < (9 : Int)) && decide ((9 : Int) ≤ (4294967296 : Int)))
            (Tr.br
              (decide ((-9223372036854775808 : Int) ≤ (8 : Int) * (lk i.toNat).low.num) &&
                decide ((8 : Int) * (lk i.toNat).low.num ≤ (9223372036854775807 : Int)))
              (Tr.br
                (decide
                    ((-9223372036854775808 : Int) ≤ (8 : Int) * (lk i.toNat).low.num * (↑(lk i.toNat).high.den : Int)) &&
                  decide
                    ((8 : Int) * (lk i.toNat).low.num * (↑(lk i.toNat).high.den : Int) ≤ (9223372036854775807 : Int)))
                (Tr.br
                  (decide ((-9223372036854775808 : Int) ≤ (lk i.toNat).high.num * (↑(lk i.toNat).low.den : Int)) &&
                    decide ((lk i.toNat).high.num * (↑(lk i.toNat).low.den : Int) ≤ (9223372036854775807 : Int)))
                  (Tr.br
                    (decide ((-9223372036854775808 : Int) ≤ (lk i.toNat).low.num * (↑(lk i.toNat).high.den : Int)) &&
                      decide ((lk i.toNat).low.num * (↑(lk i.toNat).high.den : Int) ≤ (9223372036854775807 : Int)))
                    (Tr.br
                      (decide
                          ((-9223372036854775808 : Int) ≤
                            (lk i.toNat).high.num * (↑(lk i.toNat).low.den : Int) -
                              (lk i.toNat).low.num * (↑(lk i.toNat).high.den : Int)) &&
                        decide
                          ((lk i.toNat).high.num * (↑(lk i.toNat).low.den : Int) -
                              (lk i.toNat).low.num * (↑(lk i.toNat).high.den : Int) ≤
                            (9223372036854775807 : Int)))
                      (Tr.br
                        (decide
                            ((-9223372036854775808 : Int) ≤
                              ((lk i.toNat).high.num * (↑(lk i.toNat).low.den : Int) -
                                  (lk i.toNat).low.num * (↑(lk i.toNat).high.den : Int)) *
                                nx v (9 : Int)) &&
                          decide
                            (((lk i.toNat).high.num * (↑(lk i.toNat).low.den : Int) -
                                  (lk i.toNat).low.num * (↑(lk i.toNat).high.den : Int)) *
                                nx v (9 : Int) ≤
                              (9223372036854775807 : Int)))
                        (Tr.br
                          (decide
                              ((-9223372036854775808 : Int) ≤
                                (8 : Int) * (lk i.toNat).low.num * (↑(lk i.toNat).high.den : Int) +
                                  ((lk i.toNat).high.num * (↑(lk i.toNat).low.den : Int) -
                                      (lk i.toNat).low.num * (↑(lk i.toNat).high.den : Int)) *
                                    nx v (9 : Int)) &&
                            decide
                              ((8 : Int) * (lk i.toNat).low.num * (↑(lk i.toNat).high.den : Int) +
                                  ((lk i.toNat).high.num * (↑(lk i.toNat).low.den : Int) -
                                      (lk i.toNat).low.num * (↑(lk i.toNat).high.den : Int)) *
                                    nx v (9 : Int) ≤
                                (9223372036854775807 : Int)))
                          (Tr.br
                            (decide ((-9223372036854775808 : Int) ≤ (8 : Int) * (↑(lk i.toNat).low.den : Int)) &&
                              decide ((8 : Int) * (↑(lk i.toNat).low.den : Int) ≤ (9223372036854775807 : Int)))
                            (Tr.br
                              (decide
                                  ((-9223372036854775808 : Int) ≤
                                    (8 : Int) * (↑(lk i.toNat).low.den : Int) * (↑(lk i.toNat).high.den : Int)) &&
                                decide
                                  ((8 : Int) * (↑(lk i.toNat).low.den : Int) * (↑(lk i.toNat).high.den : Int) ≤
                                    (9223372036854775807 : Int)))
                              (Tr.br
                                (decide
                                        ((0 : Int) <
                                          (8 : Int) * (↑(lk i.toNat).low.den : Int) * (↑(lk i.toNat).high.den : Int)) &&
                                      decide
                                        ((8 : Int) * (↑(lk i.toNat).low.den : Int) * (↑(lk i.toNat).high.den : Int) <
                                          (4611686018427387904 : Int)) &&
                                    decide
                                      ((-4611686018427387904 : Int) <
                                        (8 : Int) * (lk i.toNat).low.num * (↑(lk i.toNat).high.den : Int) +
                                          ((lk i.toNat).high.num * (↑(lk i.toNat).low.den : Int) -
                                              (lk i.toNat).low.num * (↑(lk i.toNat).high.den : Int)) *
                                            nx v (9 : Int)) &&
                                  decide
                                    ((8 : Int) * (lk i.toNat).low.num * (↑(lk i.toNat).high.den : Int) +
                                        ((lk i.toNat).high.num * (↑(lk i.toNat).low.den : Int) -
                                            (lk i.toNat).low.num * (↑(lk i.toNat).high.den : Int)) *
                                          nx v (9 : Int) <
                                      (4611686018427387904 : Int)))
                                (Tr.br
                                  (Nat.blt (0 : Nat)
                                      [mkRat
                                            ((8 : Int) * (lk i.toNat).low.num * (↑(lk i.toNat).high.den : Int) +
                                              ((lk i.toNat).high.num * (↑(lk i.toNat).low.den : Int) -
                                                  (lk i.toNat).low.num * (↑(lk i.toNat).high.den : Int)) *
                                                nx v (9 : Int))
                                            ((8 : Int) * (↑(lk i.toNat).low.den : Int) *
                                                (↑(lk i.toNat).high.den : Int)).toNat].length &&
                                    [mkRat
                                              ((8 : Int) * (lk i.toNat).low.num * (↑(lk i.toNat).high.den : Int) +
                                                ((lk i.toNat).high.num * (↑(lk i.toNat).low.den : Int) -
                                                    (lk i.toNat).low.num * (↑(lk i.toNat).high.den : Int)) *
                                                  nx v (9 : Int))
                                              ((8 : Int) * (↑(lk i.toNat).low.den : Int) *
                                                  (↑(lk i.toNat).high.den : Int)).toNat].length.ble
                                      (4294967296 : Nat))
                                  (Tr.br
                                    (decide ((-9223372036854775808 : Int) ≤ i + (1 : Int)) &&
                                      decide (i + (1 : Int) ≤ (9223372036854775807 : Int)))
                                    (Tr.ok
                                      (Res.out Exit.normal
                                        {
                                          t :=
                                            [PV.ptr (0) (1) (0) (0) [],
                                              PV.sl (1) (3) (0) (1),
                                              PV.lst (16)
                                                (Cont.fn n fun (j : Nat) =>
                                                  PV.agg
                                                    [PV.q (lk j).len (64), PV.q (lk j).low (64),
                                                      PV.q (lk j).high (64), PV.q (lk j).spd (64),
                                                      PV.q (lk j).brk (64),
                                                      PV.lst (6)
                                                        (Cont.fn (lk j).np fun (a : Nat) =>
                                                          PV.agg
                                                            [PV.q ((lk j).px a) (64),
                                                              PV.q ((lk j).py a) (64)])]),
                                              PV.i IntKind.i64 (↑n : Int), PV.i IntKind.i64 (i + (1 : Int))],
                                          h :=
                                            [some { e := 1, c := Cont.vals [PV.agg [(rs v).w]] },
                                              some
                                                { e := 3,
                                                  c :=
                                                    Cont.rats (64)
                                                      [mkRat
                                                          ((8 : Int) * (lk i.toNat).low.num *
                                                              (↑(lk i.toNat).high.den : Int) +
                                                            ((lk i.toNat).high.num * (↑(lk i.toNat).low.den : Int) -
                                                                (lk i.toNat).low.num * (↑(lk i.toNat).high.den : Int)) *
                                                              nx v (9 : Int))
                                                          ((8 : Int) * (↑(lk i.toNat).low.den : Int) *
                                                              (↑(lk i.toNat).high.den : Int)).toNat] }] }))
                                    (Tr.no (10002)))
                                  (Tr.no (9002)))
                                (Tr.no (1)))
                              (Tr.no (9005)))
                            (Tr.no (9007)))
                          (Tr.no (9009)))
                        (Tr.no (9010)))
                      (Tr.no (9012)))
                    (Tr.no (9013)))
                  (Tr.no (9016)))
                (Tr.no (9019)))
              (Tr.no (9021)))
            (Tr.no (1)))
          (Tr.no (1)))
        (Tr.no (1)))
      (Tr.no (5004)))
    (Tr.ok
      (Res.out (Exit.exit (0))
        {
          t :=
            [PV.ptr (0) (1) (0) (0) [], PV.nil,
              PV.lst (16)
                (Cont.fn n fun (j : Nat) =>
                  PV.agg
                    [PV.q (lk j).len (64), PV.q (lk j).low (64), PV.q (lk j).high (64),
                      PV.q (lk j).spd (64), PV.q (lk j).brk (64),
                      PV.lst (6)
                        (Cont.fn (lk j).np fun (a : Nat) =>
                          PV.agg [PV.q ((lk j).px a) (64), PV.q ((lk j).py a) (64)])]),
              PV.i IntKind.i64 (↑n : Int), PV.i IntKind.i64 i],
          h := [some { e := 1, c := Cont.vals [PV.agg [v.w]] }] })) := by kernel_rfl
theorem r69 (v : PV) (n : Nat) (lk : Nat → Lk) (xs : List Rat) (i : Int) : evRound Tryd.prog O69 [] pol69 Tryd.f69.ntmps 1 [1, 5, 14, 15, 16] b69 (x69 v n lk xs i) =
  Tr.br (decide (i < (↑n : Int)))
    (Tr.br (decide ((0 : Int) ≤ i) && decide (i < (↑n : Int)))
      (Tr.br (smX (lk i.toNat).low)
        (Tr.br (smX (lk i.toNat).high)
          (Tr.br (okW v && decide ((0 : Int) < (9 : Int)) && decide ((9 : Int) ≤ (4294967296 : Int)))
            (Tr.br
              (decide ((-9223372036854775808 : Int) ≤ (8 : Int) * (lk i.toNat).low.num) &&
                decide ((8 : Int) * (lk i.toNat).low.num ≤ (9223372036854775807 : Int)))
              (Tr.br
                (decide
                    ((-9223372036854775808 : Int) ≤ (8 : Int) * (lk i.toNat).low.num * (↑(lk i.toNat).high.den : Int)) &&
                  decide
                    ((8 : Int) * (lk i.toNat).low.num * (↑(lk i.toNat).high.den : Int) ≤ (9223372036854775807 : Int)))
                (Tr.br
                  (decide ((-9223372036854775808 : Int) ≤ (lk i.toNat).high.num * (↑(lk i.toNat).low.den : Int)) &&
                    decide ((lk i.toNat).high.num * (↑(lk i.toNat).low.den : Int) ≤ (9223372036854775807 : Int)))
                  (Tr.br
                    (decide ((-9223372036854775808 : Int) ≤ (lk i.toNat).low.num * (↑(lk i.toNat).high.den : Int)) &&
                      decide ((lk i.toNat).low.num * (↑(lk i.toNat).high.den : Int) ≤ (9223372036854775807 : Int)))
                    (Tr.br
                      (decide
                          ((-9223372036854775808 : Int) ≤
                            (lk i.toNat).high.num * (↑(lk i.toNat).low.den : Int) -
                              (lk i.toNat).low.num * (↑(lk i.toNat).high.den : Int)) &&
                        decide
                          ((lk i.toNat).high.num * (↑(lk i.toNat).low.den : Int) -
                              (lk i.toNat).low.num * (↑(lk i.toNat).high.den : Int) ≤
                            (9223372036854775807 : Int)))
                      (Tr.br
                        (decide
                            ((-9223372036854775808 : Int) ≤
                              ((lk i.toNat).high.num * (↑(lk i.toNat).low.den : Int) -
                                  (lk i.toNat).low.num * (↑(lk i.toNat).high.den : Int)) *
                                nx v (9 : Int)) &&
                          decide
                            (((lk i.toNat).high.num * (↑(lk i.toNat).low.den : Int) -
                                  (lk i.toNat).low.num * (↑(lk i.toNat).high.den : Int)) *
                                nx v (9 : Int) ≤
                              (9223372036854775807 : Int)))
                        (Tr.br
                          (decide
                              ((-9223372036854775808 : Int) ≤
                                (8 : Int) * (lk i.toNat).low.num * (↑(lk i.toNat).high.den : Int) +
                                  ((lk i.toNat).high.num * (↑(lk i.toNat).low.den : Int) -
                                      (lk i.toNat).low.num * (↑(lk i.toNat).high.den : Int)) *
                                    nx v (9 : Int)) &&
                            decide
                              ((8 : Int) * (lk i.toNat).low.num * (↑(lk i.toNat).high.den : Int) +
                                  ((lk i.toNat).high.num * (↑(lk i.toNat).low.den : Int) -
                                      (lk i.toNat).low.num * (↑(lk i.toNat).high.den : Int)) *
                                    nx v (9 : Int) ≤
                                (9223372036854775807 : Int)))
                          (Tr.br
                            (decide ((-9223372036854775808 : Int) ≤ (8 : Int) * (↑(lk i.toNat).low.den : Int)) &&
                              decide ((8 : Int) * (↑(lk i.toNat).low.den : Int) ≤ (9223372036854775807 : Int)))
                            (Tr.br
                              (decide
                                  ((-9223372036854775808 : Int) ≤
                                    (8 : Int) * (↑(lk i.toNat).low.den : Int) * (↑(lk i.toNat).high.den : Int)) &&
                                decide
                                  ((8 : Int) * (↑(lk i.toNat).low.den : Int) * (↑(lk i.toNat).high.den : Int) ≤
                                    (9223372036854775807 : Int)))
                              (Tr.br
                                (decide
                                        ((0 : Int) <
                                          (8 : Int) * (↑(lk i.toNat).low.den : Int) * (↑(lk i.toNat).high.den : Int)) &&
                                      decide
                                        ((8 : Int) * (↑(lk i.toNat).low.den : Int) * (↑(lk i.toNat).high.den : Int) <
                                          (4611686018427387904 : Int)) &&
                                    decide
                                      ((-4611686018427387904 : Int) <
                                        (8 : Int) * (lk i.toNat).low.num * (↑(lk i.toNat).high.den : Int) +
                                          ((lk i.toNat).high.num * (↑(lk i.toNat).low.den : Int) -
                                              (lk i.toNat).low.num * (↑(lk i.toNat).high.den : Int)) *
                                            nx v (9 : Int)) &&
                                  decide
                                    ((8 : Int) * (lk i.toNat).low.num * (↑(lk i.toNat).high.den : Int) +
                                        ((lk i.toNat).high.num * (↑(lk i.toNat).low.den : Int) -
                                            (lk i.toNat).low.num * (↑(lk i.toNat).high.den : Int)) *
                                          nx v (9 : Int) <
                                      (4611686018427387904 : Int)))
                                (Tr.br
                                  (xs.length.ble xs.length &&
                                    (xs.length +
                                          [mkRat
                                                ((8 : Int) * (lk i.toNat).low.num * (↑(lk i.toNat).high.den : Int) +
                                                  ((lk i.toNat).high.num * (↑(lk i.toNat).low.den : Int) -
                                                      (lk i.toNat).low.num * (↑(lk i.toNat).high.den : Int)) *
                                                    nx v (9 : Int))
                                                ((8 : Int) * (↑(lk i.toNat).low.den : Int) *
                                                    (↑(lk i.toNat).high.den : Int)).toNat].length).ble
                                      (4294967296 : Nat))
                                  (Tr.br
                                    (decide ((-9223372036854775808 : Int) ≤ i + (1 : Int)) &&
                                      decide (i + (1 : Int) ≤ (9223372036854775807 : Int)))
                                    (Tr.ok
                                      (Res.out Exit.normal
                                        {
                                          t :=
                                            [PV.ptr (0) (1) (0) (0) [],
                                              PV.sl (1) (3) (0)
                                                (xs.length +
                                                  [mkRat
                                                        ((8 : Int) * (lk i.toNat).low.num *
                                                            (↑(lk i.toNat).high.den : Int) +
                                                          ((lk i.toNat).high.num * (↑(lk i.toNat).low.den : Int) -
                                                              (lk i.toNat).low.num * (↑(lk i.toNat).high.den : Int)) *
                                                            nx v (9 : Int))
                                                        ((8 : Int) * (↑(lk i.toNat).low.den : Int) *
                                                            (↑(lk i.toNat).high.den : Int)).toNat].length),
                                              PV.lst (16)
                                                (Cont.fn n fun (j : Nat) =>
                                                  PV.agg
                                                    [PV.q (lk j).len (64), PV.q (lk j).low (64),
                                                      PV.q (lk j).high (64), PV.q (lk j).spd (64),
                                                      PV.q (lk j).brk (64),
                                                      PV.lst (6)
                                                        (Cont.fn (lk j).np fun (a : Nat) =>
                                                          PV.agg
                                                            [PV.q ((lk j).px a) (64),
                                                              PV.q ((lk j).py a) (64)])]),
                                              PV.i IntKind.i64 (↑n : Int), PV.i IntKind.i64 (i + (1 : Int))],
                                          h :=
                                            [some { e := 1, c := Cont.vals [PV.agg [(rs v).w]] },
                                              some
                                                { e := 3,
                                                  c :=
                                                    Cont.rats (64)
                                                      (List.take xs.length (List.drop (0 : Nat) xs) ++
                                                        [mkRat
                                                            ((8 : Int) * (lk i.toNat).low.num *
                                                                (↑(lk i.toNat).high.den : Int) +
                                                              ((lk i.toNat).high.num * (↑(lk i.toNat).low.den : Int) -
                                                                  (lk i.toNat).low.num * (↑(lk i.toNat).high.den : Int)) *
                                                                nx v (9 : Int))
                                                            ((8 : Int) * (↑(lk i.toNat).low.den : Int) *
                                                                (↑(lk i.toNat).high.den : Int)).toNat]) }] }))
                                    (Tr.no (10002)))
                                  (Tr.no (9002)))
                                (Tr.no (1)))
                              (Tr.no (9005)))
                            (Tr.no (9007)))
                          (Tr.no (9009)))
                        (Tr.no (9010)))
                      (Tr.no (9012)))
                    (Tr.no (9013)))
                  (Tr.no (9016)))
                (Tr.no (9019)))
              (Tr.no (9021)))
            (Tr.no (1)))
          (Tr.no (1)))
        (Tr.no (1)))
      (Tr.no (5004)))
    (Tr.ok
      (Res.out (Exit.exit (0))
        {
          t :=
            [PV.ptr (0) (1) (0) (0) [],
              PV.sl (1) (3) (0) xs.length,
              PV.lst (16)
                (Cont.fn n fun (j : Nat) =>
                  PV.agg
                    [PV.q (lk j).len (64), PV.q (lk j).low (64), PV.q (lk j).high (64),
                      PV.q (lk j).spd (64), PV.q (lk j).brk (64),
                      PV.lst (6)
                        (Cont.fn (lk j).np fun (a : Nat) =>
                          PV.agg [PV.q ((lk j).px a) (64), PV.q ((lk j).py a) (64)])]),
              PV.i IntKind.i64 (↑n : Int), PV.i IntKind.i64 i],
          h :=
            [some { e := 1, c := Cont.vals [PV.agg [v.w]] },
              some { e := 3, c := Cont.rats (64) xs }] })) := by kernel_rfl

def itRs : Nat → PV → PV
  | 0, v => v
  | k + 1, v => rs (itRs k v)
theorem okW_itRs {v : PV} (h : okW v = true) : ∀ k, okW (itRs k v) = true
  | 0 => h
  | k + 1 => okW_rs (okW_itRs h k)
/-- A joint value between two limits: k eighths of the way. -/
def cf0 (l h : Rat) (k : Int) : Rat := mkRat ((8 : Int) * l.num * (h.den : Int) + (h.num * (l.den : Int) - l.num * (h.den : Int)) * k) ((8 : Int) * (l.den : Int) * (h.den : Int)).toNat
def cf1 (lk : Nat → Lk) (v : PV) (j : Nat) : Rat := cf0 (lk j).low (lk j).high (nx (itRs j v) 9)
def cfL (lk : Nat → Lk) (v : PV) (n : Nat) : List Rat := (List.range n).map (cf1 lk v)
theorem cfL_succ (lk : Nat → Lk) (v : PV) (n : Nat) : cfL lk v (n + 1) = cfL lk v n ++ [cf1 lk v n] := by simp [cfL, List.range_succ]
theorem cfL_len (lk : Nat → Lk) (v : PV) (n : Nat) : (cfL lk v n).length = n := by simp [cfL]
theorem nabs_mul {a b : Int} {A B : Nat} (ha : a.natAbs ≤ A) (hb : b.natAbs ≤ B) : (a * b).natAbs ≤ A * B := by
  rw [Int.natAbs_mul]; exact Nat.mul_le_mul ha hb
theorem smX_iff {x : Rat} : smX x = true ↔ x.num.natAbs < 1000 ∧ x.den < 1000 := by simp [smX]
def st69 (v : PV) (n : Nat) (lk : Nat → Lk) (xs : List Rat) (i : Int) : LS := match xs with
  | [] => n69 v n lk i
  | xs => x69 v n lk xs i
theorem st69_x {v : PV} {n : Nat} {lk : Nat → Lk} {xs : List Rat} {i : Int} (h : xs ≠ []) : st69 v n lk xs i = x69 v n lk xs i := by
  cases xs with
  | nil => exact absurd rfl h
  | cons x xs => rfl
include hG in
theorem orc69 : OrcOK Tryd.prog G O69 := .cons (ok45 hG) (.cons (ok81 hG) (.cons (ok106 hG) .nil))
theorem step69 (v : PV) (hw : okW v = true) (n : Nat) (lk : Nat → Lk) (xs : List Rat) (j : Nat) (hn : n ≤ 3) (hj : j < n) (hx : xs.length ≤ 1000) (h1 : smX (lk j).low = true) (h2 : smX (lk j).high = true) :
    (evRound Tryd.prog O69 [] pol69 Tryd.f69.ntmps 1 [1, 5, 14, 15, 16] b69 (st69 v n lk xs ((j : Nat) : Int))).run = some (.out .normal (st69 (rs v) n lk (xs ++ [cf0 (lk j).low (lk j).high (nx v 9)]) ((j + 1 : Nat) : Int))) := by
  obtain ⟨a1, a2⟩ := smX_iff.1 h1
  obtain ⟨a3, a4⟩ := smX_iff.1 h2
  have d1 := (lk j).low.den_pos
  have d2 := (lk j).high.den_pos
  have g := nx_range v (show (0 : Int) < 9 by omega)
  have b1 : ((8 : Int) * (lk j).low.num * ((lk j).high.den : Int)).natAbs ≤ 8 * 1000 * 1000 := nabs_mul (nabs_mul (by omega) (by omega)) (by omega)
  have b2 : ((lk j).high.num * ((lk j).low.den : Int)).natAbs ≤ 1000 * 1000 := nabs_mul (by omega) (by omega)
  have b3 : ((lk j).low.num * ((lk j).high.den : Int)).natAbs ≤ 1000 * 1000 := nabs_mul (by omega) (by omega)
  have b4 : (((lk j).high.num * ((lk j).low.den : Int) - (lk j).low.num * ((lk j).high.den : Int)) * nx v 9).natAbs ≤ 2000000 * 9 := nabs_mul (by omega) (by omega)
  have b5 : ((8 : Int) * ((lk j).low.den : Int) * ((lk j).high.den : Int)).natAbs ≤ 8 * 1000 * 1000 := nabs_mul (nabs_mul (by omega) (by omega)) (by omega)
  have b6 : 0 < (8 : Int) * ((lk j).low.den : Int) * ((lk j).high.den : Int) := Int.mul_pos (by omega) (by omega)
  rw [st69_x (xs := xs ++ [cf0 (lk j).low (lk j).high (nx v 9)]) (by simp)]
  cases xs with
  | nil =>
    show (evRound Tryd.prog O69 [] pol69 Tryd.f69.ntmps 1 [1, 5, 14, 15, 16] b69 (n69 v n lk ((j : Nat) : Int))).run = _
    rw [r69n, Int.toNat_natCast, Tr.run_t (decide_eq_true (by omega)), Tr.run_t (by simp only [Bool.and_eq_true, decide_eq_true_eq]; omega), Tr.run_t h1, Tr.run_t h2, Tr.run_t (by rw [hw]; decide)]
    repeat rw [Tr.run_t (by simp only [Bool.and_eq_true, decide_eq_true_eq, Nat.blt_eq, Nat.ble_eq, List.length_cons, List.length_nil]; omega)]
    rw [Tr.run_ok]
    rfl
  | cons y ys =>
    show (evRound Tryd.prog O69 [] pol69 Tryd.f69.ntmps 1 [1, 5, 14, 15, 16] b69 (x69 v n lk (y :: ys) ((j : Nat) : Int))).run = _
    rw [r69, Int.toNat_natCast, Tr.run_t (decide_eq_true (by omega)), Tr.run_t (by simp only [Bool.and_eq_true, decide_eq_true_eq]; omega), Tr.run_t h1, Tr.run_t h2, Tr.run_t (by rw [hw]; decide)]
    simp only [List.length_cons] at hx
    repeat rw [Tr.run_t (by simp only [Bool.and_eq_true, decide_eq_true_eq, Nat.blt_eq, Nat.ble_eq, List.length_cons, List.length_nil]; omega)]
    rw [Tr.run_ok, List.drop_zero, List.take_length]
    have hlen : ((y :: ys) ++ [cf0 (lk j).low (lk j).high (nx v 9)]).length = (y :: ys).length + 1 := by simp
    unfold x69
    rw [hlen]
    rfl
def Pl69 (v : PV) (n : Nat) (f : Nat → PV) (m i : Int) : Prop := ∃ lk : Nat → Lk, f = (fun j => lkPV (lk j)) ∧ m = n ∧ i = 0 ∧ 1 ≤ n ∧ n ≤ 3 ∧ okW v = true ∧ ∀ j, j < n → smX (lk j).low = true ∧ smX (lk j).high = true
def cfF (f : Nat → PV) (v : PV) (n : Nat) : List Rat := cfL (fun j => dLk (f j)) v n
noncomputable def l69 : LSpec := fun ls K => match ls with
  | ⟨[.ptr 0 1 0 0 [], .nil, .lst 16 (.fn n f), .i .i64 m, .i .i64 i], [some ⟨1, .vals [.agg [.w v]]⟩]⟩ => .br (decP (Pl69 v n f m i)) (K (.exit 0) ⟨[.ptr 0 1 0 0 [], .sl 1 3 0 (cfF f v n).length, .lst 16 (.fn n f), .i .i64 m, .i .i64 m], [some ⟨1, .vals [.agg [.w (itRs n v)]]⟩, some ⟨3, .rats 64 (cfF f v n)⟩]⟩) (.no 1)
  | _ => .no 1
include hG in
theorem loop69 : LoopOK Tryd.prog G Tryd.f69.ntmps 1 [1, 5, 14, 15, 16] b69 l69 := by
  intro ls K y hm h
  unfold l69 at h
  split at h
  case h_2 => cases h
  rename_i n f m i v
  obtain ⟨hc, hr⟩ := Tr.of_br h
  obtain ⟨lk, rfl, rfl, rfl, hn1, hn, hw, hp⟩ := decP_iff.1 hc
  have hg := Goes.count (R := Rnd Tryd.prog G Tryd.f69.ntmps 1 [1, 5, 14, 15, 16] b69) (fun i => st69 (itRs i v) n lk (cfL lk v i) ((i : Nat) : Int)) (e := .exit 0) (ls' := st69 (itRs n v) n lk (cfL lk v n) n) (by simp) n 0
    (fun i _ hi => round_ok hG (orc69 hG) mix (L := []) (pol := pol69) (O := O69) (LpsOK.none (by kernel_rfl)) (by cases cfL lk v i <;> simp [st69, n69, x69]) (by
      rw [cfL_succ]
      exact step69 (itRs i v) (okW_itRs hw i) n lk _ i hn (by omega) (by rw [cfL_len]; omega) (hp i (by omega)).1 (hp i (by omega)).2))
    (by
      refine round_ok hG (orc69 hG) mix (L := []) (pol := pol69) (O := O69) (LpsOK.none (by kernel_rfl)) (by cases cfL lk v (0 + n) <;> simp [st69, n69, x69]) ?_
      rw [Nat.zero_add]
      cases hc : cfL lk v n with
      | nil =>
        show (evRound Tryd.prog O69 [] pol69 Tryd.f69.ntmps 1 [1, 5, 14, 15, 16] b69 (n69 (itRs n v) n lk ((n : Nat) : Int))).run = _
        rw [r69n, Tr.run_f (decide_eq_false (by omega)), Tr.run_ok]; rfl
      | cons y ys =>
        show (evRound Tryd.prog O69 [] pol69 Tryd.f69.ntmps 1 [1, 5, 14, 15, 16] b69 (x69 (itRs n v) n lk (y :: ys) ((n : Nat) : Int))).run = _
        rw [r69, Tr.run_f (decide_eq_false (by omega)), Tr.run_ok]; rfl)
  refine ⟨_, _, goes_ok hg, ?_⟩
  rw [st69_x (by intro h0; have := cfL_len lk v n; rw [h0] at this; simp at this; omega)]
  exact hr
theorem e69 (A : Am) (v : PV) : evF Tryd.prog O69 [(3, l69)] pol69 Tryd.f69 [armPV A, .ptr 0 1 0 0 []] [⟨1, .vals [.agg [.w v]]⟩] retK =
  Tr.br (decP (Pl69 v A.n (fun (j : Nat) => lkPV (A.lk j)) (↑A.n : Int) (0 : Int)))
    (Tr.br ((cfF (fun (j : Nat) => lkPV (A.lk j)) v A.n).length.ble (cfF (fun (j : Nat) => lkPV (A.lk j)) v A.n).length)
      (Tr.ok
        (Res.ret
          (PV.fr (3)
            (Cont.rats (64)
              (List.take (cfF (fun (j : Nat) => lkPV (A.lk j)) v A.n).length
                (List.drop (0 : Nat) (cfF (fun (j : Nat) => lkPV (A.lk j)) v A.n)))))
          [{ e := 1, c := Cont.vals [PV.agg [(itRs A.n v).w]] }]))
      (Tr.no (15)))
    (Tr.no (1)) := by kernel_rfl
/-- The limits of an arm's links are small. -/
def limX (A : Am) : Bool := (List.range A.n).all fun j => smX (A.lk j).low && smX (A.lk j).high
def P69 (arm v : PV) : Prop := okA arm ∧ limX (dArm arm) = true ∧ okW v = true
noncomputable def s69 : Spec := fun args hs K => match args, hs with
  | [.agg [.s nm, .agg [.agg [.q bx w1, .q by_ w2], .agg [hf, .q t w3]], .lst 16 c], .ptr 0 1 0 0 []], [⟨1, .vals [.agg [.w v]]⟩] =>
    .br (decP (P69 (.agg [.s nm, .agg [.agg [.q bx w1, .q by_ w2], .agg [hf, .q t w3]], .lst 16 c]) v)) (K (.fr 3 (.rats 64 (cfF c.get v c.len))) [⟨1, .vals [.agg [.w (itRs c.len v)]]⟩]) (.no 1)
  | _, _ => .no 1
include hG in
theorem ok69 : SpecOK Tryd.prog G 69 s69 := by
  intro args hs K x h
  unfold s69 at h
  split at h
  case h_2 => cases h
  rename_i nm bx w1 by_ w2 hf t w3 c v
  obtain ⟨hc, hr⟩ := Tr.of_br h
  obtain ⟨⟨hv, hA⟩, hx, hw⟩ := decP_iff.1 hc
  generalize hA' : dArm (.agg [.s nm, .agg [.agg [.q bx w1, .q by_ w2], .agg [hf, .q t w3]], .lst 16 c]) = A at *
  have ek : cfF c.get v c.len = cfF (fun j => lkPV (A.lk j)) v A.n := by rw [← hA']; rfl
  have en : c.len = A.n := by rw [← hA']; rfl
  obtain ⟨h1, h2, h3, h4, h5, h6, h7⟩ := armB_c hA
  have hlim : ∀ j, j < A.n → smX (A.lk j).low = true ∧ smX (A.lk j).high = true := by
    intro j hj
    have := List.all_eq_true.1 hx j (List.mem_range.2 hj)
    rwa [Bool.and_eq_true] at this
  rw [ek, en] at hr
  refine ⟨_, _, PC.args (.cons hv (.refl _)) (evF_pc hG (orc69 hG) mix enter69 (L := [(3, l69)]) (pol := pol69) (O := O69) (lps1 (b := b69) (live := [1, 5, 14, 15, 16]) (sp := l69) (m := 1) (by kernel_rfl) (by kernel_rfl) (by kernel_rfl) (loop69 hG)) ?_), hr⟩
  rw [e69, Tr.run_t (decP_iff.2 ⟨A.lk, rfl, rfl, rfl, h5, h6, hw, hlim⟩), Tr.run_t (by rw [Nat.ble_eq]; omega), Tr.run_ok, List.drop_zero, List.take_length]
/-! gantmake.Conf -/
def pol33 : Pol := { wr := [(69, [1])], own := [9] }
theorem enter33 : Enters Tryd.prog 33 Tryd.f33 (bodyC Tryd.f33) := ⟨Tryd.func33, by kernel_rfl, rfl⟩
noncomputable def s33 : Spec := fun args hs K => match args, hs with
  | [.agg [.s nm, .agg [.agg [.q bx w1, .q by_ w2], .agg [.bl hf, .q t w3]], .lst 16 c], .w v], [] =>
    .br (decP (P69 (.agg [.s nm, .agg [.agg [.q bx w1, .q by_ w2], .agg [.bl hf, .q t w3]], .lst 16 c]) v)) (K (.fr 3 (.rats 64 (cfF c.get v c.len))) []) (.no 1)
  | _, _ => .no 1
theorem e33 (nm : ByteArray) (bx by_ t : Rat) (w1 w2 w3 : Nat) (hf : Bool) (c : Cont) (v : PV) : evF Tryd.prog [(69, s69)] [] pol33 Tryd.f33 [.agg [.s nm, .agg [.agg [.q bx w1, .q by_ w2], .agg [.bl hf, .q t w3]], .lst 16 c], .w v] [] retK =
  Tr.br
    (decP
      (P69
        (PV.agg [PV.s nm, PV.agg [PV.agg [PV.q bx w1, PV.q by_ w2], PV.agg [PV.bl hf, PV.q t w3]], PV.lst (16) c])
        v))
    (Tr.br
      ((cfF c.get v
              (match c with
              | Cont.ints k xs => xs.length
              | Cont.rats n xs => xs.length
              | Cont.vals vs => vs.length
              | Cont.fn n f => n)).length.ble
        (cfF c.get v
            (match c with
            | Cont.ints k xs => xs.length
            | Cont.rats n xs => xs.length
            | Cont.vals vs => vs.length
            | Cont.fn n f => n)).length)
      (Tr.ok
        (Res.ret
          (PV.fr (3)
            (Cont.rats (64)
              (List.take (Cont.rats (64 : Nat) (cfF c.get v c.len)).len (List.drop (0 : Nat) (cfF c.get v c.len)))))
          []))
      (Tr.no (15)))
    (Tr.no (1)) := by kernel_rfl
include hG in
theorem ok33 : SpecOK Tryd.prog G 33 s33 := by
  refine spec_of hG (.cons (ok69 hG) .nil) mix enter33 (L := []) (pol := pol33) fun args hs K x h => ?_
  unfold s33 at h
  split at h
  case h_2 => cases h
  rename_i nm bx w1 by_ w2 hf t w3 c v
  obtain ⟨hc, hr⟩ := Tr.of_br h
  refine ⟨LpsOK.none (by kernel_rfl), _, _, _, ?_, .refl _, hr⟩
  rw [e33, Tr.run_t hc, Tr.run_t (by rw [Nat.ble_eq]; exact Nat.le_refl _), Tr.run_ok, List.drop_zero]
  show some (Res.ret (.fr 3 (.rats 64 (List.take (cfF c.get v c.len).length (cfF c.get v c.len)))) []) = _
  rw [List.take_length]
end Go.Proofs.YtejfdhcigkgbmaaDoor.PE
namespace Go.Proofs.YtejfdhcigkgbmaaDoor.PE
open Go
set_option maxRecDepth 100000
variable {G : World → (Nat → Prop) → Prop} (hG : GOk G)

/-! gantmake.Rat -/
theorem enter36 : Enters Tryd.prog 36 Tryd.f36 (bodyC Tryd.f36) := ⟨Tryd.func36, by kernel_rfl, rfl⟩
theorem e36 (x : Int) : evF Tryd.prog [(24, s24), (81, s81)] [] {} Tryd.f36 [.i .i64 x] [] retK =
  Tr.br (decide ((0 : Int) < (6 : Int)) && decide ((6 : Int) ≤ (4294967296 : Int)))
    (Tr.br
      (decide ((0 : Int) ≤ x % (6 : Int)) &&
        decide (x % (6 : Int) < (↑[(1 : Int), (2 : Int), (3 : Int), (4 : Int), (5 : Int), (8 : Int)].length : Int)))
      (Tr.br
        (!decide ((6 : Int) = (0 : Int)) &&
          (decide ((-9223372036854775808 : Int) ≤ x.tdiv (6 : Int)) &&
            decide (x.tdiv (6 : Int) ≤ (9223372036854775807 : Int))))
        (Tr.br
          (decide
              ((-9223372036854775808 : Int) ≤
                (16 : Int) *
                  [(1 : Int), (2 : Int), (3 : Int), (4 : Int), (5 : Int), (8 : Int)].getD (x % (6 : Int)).toNat
                    (0 : Int)) &&
            decide
              ((16 : Int) *
                  [(1 : Int), (2 : Int), (3 : Int), (4 : Int), (5 : Int), (8 : Int)].getD (x % (6 : Int)).toNat
                    (0 : Int) ≤
                (9223372036854775807 : Int)))
          (Tr.br
            (decide
                ((-9223372036854775808 : Int) ≤
                  (16 : Int) *
                      [(1 : Int), (2 : Int), (3 : Int), (4 : Int), (5 : Int), (8 : Int)].getD (x % (6 : Int)).toNat
                        (0 : Int) +
                    (1 : Int)) &&
              decide
                ((16 : Int) *
                      [(1 : Int), (2 : Int), (3 : Int), (4 : Int), (5 : Int), (8 : Int)].getD (x % (6 : Int)).toNat
                        (0 : Int) +
                    (1 : Int) ≤
                  (9223372036854775807 : Int)))
            (Tr.br
              (decide
                  ((0 : Int) <
                    (16 : Int) *
                        [(1 : Int), (2 : Int), (3 : Int), (4 : Int), (5 : Int), (8 : Int)].getD (x % (6 : Int)).toNat
                          (0 : Int) +
                      (1 : Int)) &&
                decide
                  ((16 : Int) *
                        [(1 : Int), (2 : Int), (3 : Int), (4 : Int), (5 : Int), (8 : Int)].getD (x % (6 : Int)).toNat
                          (0 : Int) +
                      (1 : Int) ≤
                    (4294967296 : Int)))
              (Tr.br
                (decide
                    ((-9223372036854775808 : Int) ≤
                      (8 : Int) *
                        [(1 : Int), (2 : Int), (3 : Int), (4 : Int), (5 : Int), (8 : Int)].getD (x % (6 : Int)).toNat
                          (0 : Int)) &&
                  decide
                    ((8 : Int) *
                        [(1 : Int), (2 : Int), (3 : Int), (4 : Int), (5 : Int), (8 : Int)].getD (x % (6 : Int)).toNat
                          (0 : Int) ≤
                      (9223372036854775807 : Int)))
                (Tr.br
                  (decide
                      ((-9223372036854775808 : Int) ≤
                        x.tdiv (6 : Int) %
                            ((16 : Int) *
                                [(1 : Int), (2 : Int), (3 : Int), (4 : Int), (5 : Int), (8 : Int)].getD
                                  (x % (6 : Int)).toNat (0 : Int) +
                              (1 : Int)) -
                          (8 : Int) *
                            [(1 : Int), (2 : Int), (3 : Int), (4 : Int), (5 : Int), (8 : Int)].getD (x % (6 : Int)).toNat
                              (0 : Int)) &&
                    decide
                      (x.tdiv (6 : Int) %
                            ((16 : Int) *
                                [(1 : Int), (2 : Int), (3 : Int), (4 : Int), (5 : Int), (8 : Int)].getD
                                  (x % (6 : Int)).toNat (0 : Int) +
                              (1 : Int)) -
                          (8 : Int) *
                            [(1 : Int), (2 : Int), (3 : Int), (4 : Int), (5 : Int), (8 : Int)].getD (x % (6 : Int)).toNat
                              (0 : Int) ≤
                        (9223372036854775807 : Int)))
                  (Tr.br
                    (decide
                            ((0 : Int) <
                              [(1 : Int), (2 : Int), (3 : Int), (4 : Int), (5 : Int), (8 : Int)].getD
                                (x % (6 : Int)).toNat (0 : Int)) &&
                          decide
                            ([(1 : Int), (2 : Int), (3 : Int), (4 : Int), (5 : Int), (8 : Int)].getD (x % (6 : Int)).toNat
                                (0 : Int) <
                              (4611686018427387904 : Int)) &&
                        decide
                          ((-4611686018427387904 : Int) <
                            x.tdiv (6 : Int) %
                                ((16 : Int) *
                                    [(1 : Int), (2 : Int), (3 : Int), (4 : Int), (5 : Int), (8 : Int)].getD
                                      (x % (6 : Int)).toNat (0 : Int) +
                                  (1 : Int)) -
                              (8 : Int) *
                                [(1 : Int), (2 : Int), (3 : Int), (4 : Int), (5 : Int), (8 : Int)].getD
                                  (x % (6 : Int)).toNat (0 : Int)) &&
                      decide
                        (x.tdiv (6 : Int) %
                              ((16 : Int) *
                                  [(1 : Int), (2 : Int), (3 : Int), (4 : Int), (5 : Int), (8 : Int)].getD
                                    (x % (6 : Int)).toNat (0 : Int) +
                                (1 : Int)) -
                            (8 : Int) *
                              [(1 : Int), (2 : Int), (3 : Int), (4 : Int), (5 : Int), (8 : Int)].getD
                                (x % (6 : Int)).toNat (0 : Int) <
                          (4611686018427387904 : Int)))
                    (Tr.ok
                      (Res.ret
                        (PV.q
                          (mkRat
                            (x.tdiv (6 : Int) %
                                ((16 : Int) *
                                    [(1 : Int), (2 : Int), (3 : Int), (4 : Int), (5 : Int), (8 : Int)].getD
                                      (x % (6 : Int)).toNat (0 : Int) +
                                  (1 : Int)) -
                              (8 : Int) *
                                [(1 : Int), (2 : Int), (3 : Int), (4 : Int), (5 : Int), (8 : Int)].getD
                                  (x % (6 : Int)).toNat (0 : Int))
                            ([(1 : Int), (2 : Int), (3 : Int), (4 : Int), (5 : Int), (8 : Int)].getD (x % (6 : Int)).toNat
                                (0 : Int)).toNat)
                          (64))
                        []))
                    (Tr.no (1)))
                  (Tr.no (3004)))
                (Tr.no (3005)))
              (Tr.no (1)))
            (Tr.no (3008)))
          (Tr.no (3009)))
        (Tr.no (3011)))
      (Tr.no (2003)))
    (Tr.no (1)) := by kernel_rfl
def rtD (x : Int) : Int := [(1 : Int), 2, 3, 4, 5, 8].getD (x % 6).toNat 0
/-- The small number that a raw number makes. -/
def rtV (x : Int) : Rat := mkRat (x.tdiv 6 % (16 * rtD x + 1) - 8 * rtD x) (rtD x).toNat
def inI (x : Int) : Bool := decide (-9223372036854775808 ≤ x) && decide (x ≤ 9223372036854775807)
theorem inI_iff {x : Int} : inI x = true ↔ -9223372036854775808 ≤ x ∧ x ≤ 9223372036854775807 := by simp [inI]
theorem rtD_range (x : Int) : 1 ≤ rtD x ∧ rtD x ≤ 8 := by
  have h0 := Int.emod_nonneg x (show (6 : Int) ≠ 0 by omega)
  have h1 := Int.emod_lt_of_pos x (show (0 : Int) < 6 by omega)
  have h2 : (x % 6).toNat < 6 := by omega
  unfold rtD
  generalize (x % 6).toNat = i at h2
  match i, h2 with
  | 0, _ => decide
  | 1, _ => decide
  | 2, _ => decide
  | 3, _ => decide
  | 4, _ => decide
  | 5, _ => decide
  | i + 6, h => omega
def s36 : Spec := fun args hs K => match args, hs with
  | [.i .i64 x], [] => .br (inI x) (K (.q (rtV x) 64) []) (.no 1)
  | _, _ => .no 1
include hG in
theorem ok36 : SpecOK Tryd.prog G 36 s36 := by
  refine spec_of hG (.cons (ok24 hG) (.cons (ok81 hG) .nil)) mix enter36 (L := []) (pol := {}) fun args hs K x h => ?_
  unfold s36 at h
  split at h
  case h_2 => cases h
  rename_i x
  obtain ⟨hc, hr⟩ := Tr.of_br h
  obtain ⟨h1, h2⟩ := inI_iff.1 hc
  refine ⟨LpsOK.none (by kernel_rfl), _, _, _, ?_, .refl _, hr⟩
  have h0 := Int.emod_nonneg x (show (6 : Int) ≠ 0 by omega)
  have h1 := Int.emod_lt_of_pos x (show (0 : Int) < 6 by omega)
  have hd := rtD_range x
  have ht : x.tdiv 6 = if 0 ≤ x then x / 6 else -((-x) / 6) := by
    split
    · rw [Int.tdiv_eq_ediv_of_nonneg (by omega)]
    · rw [show x = -(-x) by omega, Int.neg_tdiv, Int.tdiv_eq_ediv_of_nonneg (by omega)]; simp
  have ht2 : -9223372036854775808 ≤ x.tdiv 6 ∧ x.tdiv 6 ≤ 9223372036854775807 := by rw [ht]; split <;> omega
  have hm0 := Int.emod_nonneg (x.tdiv 6) (show 16 * rtD x + 1 ≠ 0 by omega)
  have hm1 := Int.emod_lt_of_pos (x.tdiv 6) (show 0 < 16 * rtD x + 1 by omega)
  rw [e36]
  rw [show [(1 : Int), (2 : Int), (3 : Int), (4 : Int), (5 : Int), (8 : Int)].getD (x % (6 : Int)).toNat (0 : Int) = rtD x from rfl]
  rw [Tr.run_t (by decide), Tr.run_t (by simp only [Bool.and_eq_true, decide_eq_true_eq, List.length_cons, List.length_nil]; omega), Tr.run_t (by simp only [Bool.and_eq_true, decide_eq_true_eq, Bool.not_eq_true', decide_eq_false_iff_not]; omega)]
  repeat rw [Tr.run_t (by simp only [Bool.and_eq_true, decide_eq_true_eq]; omega)]
  rw [Tr.run_ok]
  rfl
/-! slices.Clone of ints -/
theorem enter37 : Enters Tryd.prog 37 Tryd.f37 (bodyC Tryd.f37) := ⟨Tryd.func37, by kernel_rfl, rfl⟩
def pol37 : Pol := { own := [5] }
theorem e37 (l : List Int) : evF Tryd.prog [] [] pol37 Tryd.f37 [.lst 1 (.ints .i64 l)] [] retK =
  Tr.br false (Tr.ok (Res.ret PV.nil []))
    (Tr.br (Nat.ble (0 : Nat) (0 : Nat) && ((0 : Nat) + l.length).ble (4294967296 : Nat))
      (Tr.br (((0 : Nat) + l.length).ble (List.take (0 : Nat) (List.drop (0 : Nat) []) ++ l).length)
        (Tr.ok
          (Res.ret
            (PV.fr (1)
              (Cont.ints IntKind.i64
                (List.take ((0 : Nat) + (Cont.ints IntKind.i64 l).len)
                  (List.drop (0 : Nat) (List.take (0 : Nat) (List.drop (0 : Nat) []) ++ l)))))
            []))
        (Tr.no (15)))
      (Tr.no (4002))) := by kernel_rfl
theorem t37n : (evF Tryd.prog [] [] pol37 Tryd.f37 [.nil] [] retK).run = some (.ret .nil []) := by kernel_rfl
/-! pt, num, sample -/
theorem enter84 : Enters Tryd.prog 84 Tryd.f84 (bodyC Tryd.f84) := ⟨Tryd.func84, by kernel_rfl, rfl⟩
noncomputable def s84 : Spec := evF Tryd.prog [(23, s23)] [] {} Tryd.f84
include hG in
theorem ok84 : SpecOK Tryd.prog G 84 s84 := spec_ev hG (.cons (ok23 hG) .nil) mix enter84 (fun _ => LpsOK.none (by kernel_rfl))
end Go.Proofs.YtejfdhcigkgbmaaDoor.PE
namespace Go.Proofs.YtejfdhcigkgbmaaDoor.PE
open Go
set_option maxRecDepth 100000
variable {G : World → (Nat → Prop) → Prop} (hG : GOk G)

/-! slices.Clone of a list that was given -/
def nilW : PV → Bool
  | .nil => true
  | _ => false
def s37 : Spec := fun args hs K => match args, hs with
  | [.w v], [] => .br (okW v && decide ((intsW v).length ≤ 4294967295)) (.br (nilW v) (K .nil []) (K (.fr 1 (.ints .i64 (intsW v))) [])) (.no 1)
  | _, _ => .no 1
include hG in
theorem ok37 : SpecOK Tryd.prog G 37 s37 := by
  intro args hs K x h
  unfold s37 at h
  split at h
  case h_2 => cases h
  rename_i v
  obtain ⟨hc, hr⟩ := Tr.of_br h
  rw [Bool.and_eq_true, decide_eq_true_eq] at hc
  obtain ⟨hw, hl⟩ := hc
  have pc : ∀ r, (evF Tryd.prog [] [] pol37 Tryd.f37 [v] [] retK).run = some (.ret r []) → PC Tryd.prog G 37 [.w v] [] r [] := fun r hh =>
    PC.args (.cons (vle_w_out hw) .nil) (evF_pc hG .nil mix enter37 (hs := []) (L := []) (pol := pol37) (O := []) (LpsOK.none (by kernel_rfl)) hh)
  unfold okW at hw
  split at hw
  · exact ⟨_, _, pc _ t37n, hr⟩
  · rename_i l
    refine ⟨_, _, pc (.fr 1 (.ints .i64 l)) ?_, hr⟩
    have hl' : l.length ≤ 4294967295 := hl
    rw [e37, Tr.run_f rfl, Tr.run_t (by simp only [Bool.and_eq_true, Nat.ble_eq]; omega), Tr.run_t (by rw [Nat.ble_eq, Nat.zero_add]; exact Nat.le_refl _), Tr.run_ok, List.drop_zero]
    show some (Res.ret (.fr 1 (.ints .i64 (List.take (0 + l.length) l))) []) = _
    rw [Nat.zero_add, List.take_length]
  · cases hw
/-! sample(3, 2) -/
noncomputable def b32 : Code := (loopsOf (bodyC Tryd.f32)).getD 0 .skip
def pol32 : Pol := { live := [(3, [2, 3, 11, 12, 13])] }
noncomputable def O32 : Orc := [(23, s23), (84, s84)]
theorem enter32 : Enters Tryd.prog 32 Tryd.f32 (bodyC Tryd.f32) := ⟨Tryd.func32, by kernel_rfl, rfl⟩
noncomputable def l32 : LSpec := unr Tryd.prog O32 [] pol32 Tryd.f32.ntmps 0 [2, 3, 11, 12, 13] b32 3
theorem e32 (x : Unit) : evF Tryd.prog O32 [(3, l32)] pol32 Tryd.f32 [.lst 1 (.ints .i64 [3, 2])] [] retK =
  Tr.br
    (decide ((0 : Int) < (1 : Int)) && decide ((1 : Int) < (4611686018427387904 : Int)) &&
        decide ((-4611686018427387904 : Int) < (0 : Int)) &&
      decide ((0 : Int) < (4611686018427387904 : Int)))
    (Tr.br
      (decide ((0 : Int) < (1 : Int)) && decide ((1 : Int) < (4611686018427387904 : Int)) &&
          decide ((-4611686018427387904 : Int) < (0 : Int)) &&
        decide ((0 : Int) < (4611686018427387904 : Int)))
      (Tr.br
        (decide ((0 : Int) < (1 : Int)) && decide ((1 : Int) < (4611686018427387904 : Int)) &&
            decide ((-4611686018427387904 : Int) < (0 : Int)) &&
          decide ((0 : Int) < (4611686018427387904 : Int)))
        (Tr.br (decide ((0 : Int) < (↑[(3 : Int), (2 : Int)].length : Int)))
          (Tr.br (decide ((0 : Int) ≤ (0 : Int)) && decide ((0 : Int) < (↑[(3 : Int), (2 : Int)].length : Int)))
            (Tr.br
              (decide ((0 : Int) < (1 : Int)) && decide ((1 : Int) < (4611686018427387904 : Int)) &&
                  decide ((-4611686018427387904 : Int) < [(3 : Int), (2 : Int)].getD (Int.toNat (0 : Int)) (0 : Int)) &&
                decide ([(3 : Int), (2 : Int)].getD (Int.toNat (0 : Int)) (0 : Int) < (4611686018427387904 : Int)))
              (Tr.br
                (decide ((0 : Int) < (1 : Int)) && decide ((1 : Int) < (4611686018427387904 : Int)) &&
                    decide ((-4611686018427387904 : Int) < (-2 : Int)) &&
                  decide ((-2 : Int) < (4611686018427387904 : Int)))
                (Tr.br
                  (decide ((0 : Int) < (1 : Int)) && decide ((1 : Int) < (4611686018427387904 : Int)) &&
                      decide ((-4611686018427387904 : Int) < (2 : Int)) &&
                    decide ((2 : Int) < (4611686018427387904 : Int)))
                  (Tr.br
                    (decide ((0 : Int) < (4 : Int)) && decide ((4 : Int) < (4611686018427387904 : Int)) &&
                        decide ((-4611686018427387904 : Int) < (1 : Int)) &&
                      decide ((1 : Int) < (4611686018427387904 : Int)))
                    (Tr.br
                      (decide ((0 : Int) < (10 : Int)) && decide ((10 : Int) < (4611686018427387904 : Int)) &&
                          decide ((-4611686018427387904 : Int) < (1 : Int)) &&
                        decide ((1 : Int) < (4611686018427387904 : Int)))
                      (Tr.br
                        (decide ((0 : Int) < (1 : Int)) && decide ((1 : Int) < (4611686018427387904 : Int)) &&
                            decide ((-4611686018427387904 : Int) < (0 : Int)) &&
                          decide ((0 : Int) < (4611686018427387904 : Int)))
                        (Tr.br
                          (decide ((0 : Int) < (1 : Int)) && decide ((1 : Int) < (4611686018427387904 : Int)) &&
                              decide ((-4611686018427387904 : Int) < (-1 : Int)) &&
                            decide ((-1 : Int) < (4611686018427387904 : Int)))
                          (Tr.br
                            (decide ((0 : Int) < (1 : Int)) && decide ((1 : Int) < (4611686018427387904 : Int)) &&
                                decide
                                  ((-4611686018427387904 : Int) <
                                    [(3 : Int), (2 : Int)].getD (Int.toNat (0 : Int)) (0 : Int)) &&
                              decide
                                ([(3 : Int), (2 : Int)].getD (Int.toNat (0 : Int)) (0 : Int) <
                                  (4611686018427387904 : Int)))
                            (Tr.br
                              (decide ((0 : Int) < (1 : Int)) && decide ((1 : Int) < (4611686018427387904 : Int)) &&
                                  decide ((-4611686018427387904 : Int) < (-1 : Int)) &&
                                decide ((-1 : Int) < (4611686018427387904 : Int)))
                              (Tr.br
                                (decide ((0 : Int) < (1 : Int)) && decide ((1 : Int) < (4611686018427387904 : Int)) &&
                                    decide
                                      ((-4611686018427387904 : Int) <
                                        [(3 : Int), (2 : Int)].getD (Int.toNat (0 : Int)) (0 : Int)) &&
                                  decide
                                    ([(3 : Int), (2 : Int)].getD (Int.toNat (0 : Int)) (0 : Int) <
                                      (4611686018427387904 : Int)))
                                (Tr.br
                                  (decide ((0 : Int) < (1 : Int)) && decide ((1 : Int) < (4611686018427387904 : Int)) &&
                                      decide ((-4611686018427387904 : Int) < (1 : Int)) &&
                                    decide ((1 : Int) < (4611686018427387904 : Int)))
                                  (Tr.br
                                    (decide ((0 : Int) < (1 : Int)) && decide ((1 : Int) < (4611686018427387904 : Int)) &&
                                        decide ((-4611686018427387904 : Int) < (0 : Int)) &&
                                      decide ((0 : Int) < (4611686018427387904 : Int)))
                                    (Tr.br
                                      (decide ((0 : Int) < (1 : Int)) &&
                                            decide ((1 : Int) < (4611686018427387904 : Int)) &&
                                          decide ((-4611686018427387904 : Int) < (1 : Int)) &&
                                        decide ((1 : Int) < (4611686018427387904 : Int)))
                                      (Tr.br
                                        (Nat.blt (0 : Nat)
                                            [PV.agg
                                                  [PV.q
                                                      (mkRat ([(3 : Int), (2 : Int)].getD (Int.toNat (0 : Int)) (0 : Int))
                                                        (Int.toNat (1 : Int)))
                                                      (64),
                                                    PV.q (mkRat (-2 : Int) (Int.toNat (1 : Int))) (64),
                                                    PV.q (mkRat (2 : Int) (Int.toNat (1 : Int))) (64),
                                                    PV.q (mkRat (1 : Int) (Int.toNat (4 : Int))) (64),
                                                    PV.q (mkRat (1 : Int) (Int.toNat (10 : Int))) (64),
                                                    PV.lst (6)
                                                      (Cont.vals
                                                        [PV.agg
                                                            [PV.q (mkRat (0 : Int) (Int.toNat (1 : Int))) (64),
                                                              PV.q (mkRat (-1 : Int) (Int.toNat (1 : Int))) (64)],
                                                          PV.agg
                                                            [PV.q
                                                                (mkRat
                                                                  ([(3 : Int), (2 : Int)].getD (Int.toNat (0 : Int))
                                                                    (0 : Int))
                                                                  (Int.toNat (1 : Int)))
                                                                (64),
                                                              PV.q (mkRat (-1 : Int) (Int.toNat (1 : Int))) (64)],
                                                          PV.agg
                                                            [PV.q
                                                                (mkRat
                                                                  ([(3 : Int), (2 : Int)].getD (Int.toNat (0 : Int))
                                                                    (0 : Int))
                                                                  (Int.toNat (1 : Int)))
                                                                (64),
                                                              PV.q (mkRat (1 : Int) (Int.toNat (1 : Int))) (64)],
                                                          PV.agg
                                                            [PV.q (mkRat (0 : Int) (Int.toNat (1 : Int))) (64),
                                                              PV.q (mkRat (1 : Int) (Int.toNat (1 : Int)))
                                                                (64)]])]].length &&
                                          [PV.agg
                                                    [PV.q
                                                        (mkRat
                                                          ([(3 : Int), (2 : Int)].getD (Int.toNat (0 : Int)) (0 : Int))
                                                          (Int.toNat (1 : Int)))
                                                        (64),
                                                      PV.q (mkRat (-2 : Int) (Int.toNat (1 : Int))) (64),
                                                      PV.q (mkRat (2 : Int) (Int.toNat (1 : Int))) (64),
                                                      PV.q (mkRat (1 : Int) (Int.toNat (4 : Int))) (64),
                                                      PV.q (mkRat (1 : Int) (Int.toNat (10 : Int))) (64),
                                                      PV.lst (6)
                                                        (Cont.vals
                                                          [PV.agg
                                                              [PV.q (mkRat (0 : Int) (Int.toNat (1 : Int))) (64),
                                                                PV.q (mkRat (-1 : Int) (Int.toNat (1 : Int)))
                                                                  (64)],
                                                            PV.agg
                                                              [PV.q
                                                                  (mkRat
                                                                    ([(3 : Int), (2 : Int)].getD (Int.toNat (0 : Int))
                                                                      (0 : Int))
                                                                    (Int.toNat (1 : Int)))
                                                                  (64),
                                                                PV.q (mkRat (-1 : Int) (Int.toNat (1 : Int)))
                                                                  (64)],
                                                            PV.agg
                                                              [PV.q
                                                                  (mkRat
                                                                    ([(3 : Int), (2 : Int)].getD (Int.toNat (0 : Int))
                                                                      (0 : Int))
                                                                    (Int.toNat (1 : Int)))
                                                                  (64),
                                                                PV.q (mkRat (1 : Int) (Int.toNat (1 : Int)))
                                                                  (64)],
                                                            PV.agg
                                                              [PV.q (mkRat (0 : Int) (Int.toNat (1 : Int))) (64),
                                                                PV.q (mkRat (1 : Int) (Int.toNat (1 : Int)))
                                                                  (64)]])]].length.ble
                                            (4294967296 : Nat))
                                        (Tr.br
                                          (decide ((-9223372036854775808 : Int) ≤ (0 : Int) + (1 : Int)) &&
                                            decide ((0 : Int) + (1 : Int) ≤ (9223372036854775807 : Int)))
                                          (Tr.br (decide ((0 : Int) + (1 : Int) < (↑[(3 : Int), (2 : Int)].length : Int)))
                                            (Tr.br
                                              (decide ((0 : Int) ≤ (0 : Int) + (1 : Int)) &&
                                                decide ((0 : Int) + (1 : Int) < (↑[(3 : Int), (2 : Int)].length : Int)))
                                              (Tr.br
                                                (decide ((0 : Int) < (1 : Int)) &&
                                                      decide ((1 : Int) < (4611686018427387904 : Int)) &&
                                                    decide
                                                      ((-4611686018427387904 : Int) <
                                                        [(3 : Int), (2 : Int)].getD ((0 : Int) + (1 : Int)).toNat
                                                          (0 : Int)) &&
                                                  decide
                                                    ([(3 : Int), (2 : Int)].getD ((0 : Int) + (1 : Int)).toNat (0 : Int) <
                                                      (4611686018427387904 : Int)))
                                                (Tr.br
                                                  (decide ((0 : Int) < (1 : Int)) &&
                                                        decide ((1 : Int) < (4611686018427387904 : Int)) &&
                                                      decide ((-4611686018427387904 : Int) < (-2 : Int)) &&
                                                    decide ((-2 : Int) < (4611686018427387904 : Int)))
                                                  (Tr.br
                                                    (decide ((0 : Int) < (1 : Int)) &&
                                                          decide ((1 : Int) < (4611686018427387904 : Int)) &&
                                                        decide ((-4611686018427387904 : Int) < (2 : Int)) &&
                                                      decide ((2 : Int) < (4611686018427387904 : Int)))
                                                    (Tr.br
                                                      (decide ((0 : Int) < (4 : Int)) &&
                                                            decide ((4 : Int) < (4611686018427387904 : Int)) &&
                                                          decide ((-4611686018427387904 : Int) < (1 : Int)) &&
                                                        decide ((1 : Int) < (4611686018427387904 : Int)))
                                                      (Tr.br
                                                        (decide ((0 : Int) < (10 : Int)) &&
                                                              decide ((10 : Int) < (4611686018427387904 : Int)) &&
                                                            decide ((-4611686018427387904 : Int) < (1 : Int)) &&
                                                          decide ((1 : Int) < (4611686018427387904 : Int)))
                                                        (Tr.br
                                                          (decide ((0 : Int) < (1 : Int)) &&
                                                                decide ((1 : Int) < (4611686018427387904 : Int)) &&
                                                              decide ((-4611686018427387904 : Int) < (0 : Int)) &&
                                                            decide ((0 : Int) < (4611686018427387904 : Int)))
                                                          (Tr.br
                                                            (decide ((0 : Int) < (1 : Int)) &&
                                                                  decide ((1 : Int) < (4611686018427387904 : Int)) &&
                                                                decide ((-4611686018427387904 : Int) < (-1 : Int)) &&
                                                              decide ((-1 : Int) < (4611686018427387904 : Int)))
                                                            (Tr.br
                                                              (decide ((0 : Int) < (1 : Int)) &&
                                                                    decide ((1 : Int) < (4611686018427387904 : Int)) &&
                                                                  decide
                                                                    ((-4611686018427387904 : Int) <
                                                                      [(3 : Int), (2 : Int)].getD
                                                                        ((0 : Int) + (1 : Int)).toNat (0 : Int)) &&
                                                                decide
                                                                  ([(3 : Int), (2 : Int)].getD
                                                                      ((0 : Int) + (1 : Int)).toNat (0 : Int) <
                                                                    (4611686018427387904 : Int)))
                                                              (Tr.br
                                                                (decide ((0 : Int) < (1 : Int)) &&
                                                                      decide ((1 : Int) < (4611686018427387904 : Int)) &&
                                                                    decide ((-4611686018427387904 : Int) < (-1 : Int)) &&
                                                                  decide ((-1 : Int) < (4611686018427387904 : Int)))
                                                                (Tr.br
                                                                  (decide ((0 : Int) < (1 : Int)) &&
                                                                        decide
                                                                          ((1 : Int) < (4611686018427387904 : Int)) &&
                                                                      decide
                                                                        ((-4611686018427387904 : Int) <
                                                                          [(3 : Int), (2 : Int)].getD
                                                                            ((0 : Int) + (1 : Int)).toNat (0 : Int)) &&
                                                                    decide
                                                                      ([(3 : Int), (2 : Int)].getD
                                                                          ((0 : Int) + (1 : Int)).toNat (0 : Int) <
                                                                        (4611686018427387904 : Int)))
                                                                  (Tr.br
                                                                    (decide ((0 : Int) < (1 : Int)) &&
                                                                          decide
                                                                            ((1 : Int) < (4611686018427387904 : Int)) &&
                                                                        decide
                                                                          ((-4611686018427387904 : Int) < (1 : Int)) &&
                                                                      decide ((1 : Int) < (4611686018427387904 : Int)))
                                                                    (Tr.br
                                                                      (decide ((0 : Int) < (1 : Int)) &&
                                                                            decide
                                                                              ((1 : Int) < (4611686018427387904 : Int)) &&
                                                                          decide
                                                                            ((-4611686018427387904 : Int) < (0 : Int)) &&
                                                                        decide ((0 : Int) < (4611686018427387904 : Int)))
                                                                      (Tr.br
                                                                        (decide ((0 : Int) < (1 : Int)) &&
                                                                              decide
                                                                                ((1 : Int) <
                                                                                  (4611686018427387904 : Int)) &&
                                                                            decide
                                                                              ((-4611686018427387904 : Int) <
                                                                                (1 : Int)) &&
                                                                          decide
                                                                            ((1 : Int) < (4611686018427387904 : Int)))
                                                                        (Tr.br
                                                                          (([PV.agg
                                                                                      [PV.q
                                                                                          (mkRat
                                                                                            ([(3 : Int), (2 : Int)].getD
                                                                                              (Int.toNat (0 : Int))
                                                                                              (0 : Int))
                                                                                            (Int.toNat (1 : Int)))
                                                                                          (64),
                                                                                        PV.q
                                                                                          (mkRat (-2 : Int)
                                                                                            (Int.toNat (1 : Int)))
                                                                                          (64),
                                                                                        PV.q
                                                                                          (mkRat (2 : Int)
                                                                                            (Int.toNat (1 : Int)))
                                                                                          (64),
                                                                                        PV.q
                                                                                          (mkRat (1 : Int)
                                                                                            (Int.toNat (4 : Int)))
                                                                                          (64),
                                                                                        PV.q
                                                                                          (mkRat (1 : Int)
                                                                                            (Int.toNat (10 : Int)))
                                                                                          (64),
                                                                                        PV.lst (6)
                                                                                          (Cont.vals
                                                                                            [PV.agg
                                                                                                [PV.q
                                                                                                    (mkRat (0 : Int)
                                                                                                      (Int.toNat
                                                                                                        (1 : Int)))
                                                                                                    (64),
                                                                                                  PV.q
                                                                                                    (mkRat (-1 : Int)
                                                                                                      (Int.toNat
                                                                                                        (1 : Int)))
                                                                                                    (64)],
                                                                                              PV.agg
                                                                                                [PV.q
                                                                                                    (mkRat
                                                                                                      ([(3 : Int),
                                                                                                            (2 :
                                                                                                              Int)].getD
                                                                                                        (Int.toNat
                                                                                                          (0 : Int))
                                                                                                        (0 : Int))
                                                                                                      (Int.toNat
                                                                                                        (1 : Int)))
                                                                                                    (64),
                                                                                                  PV.q
                                                                                                    (mkRat (-1 : Int)
                                                                                                      (Int.toNat
                                                                                                        (1 : Int)))
                                                                                                    (64)],
                                                                                              PV.agg
                                                                                                [PV.q
                                                                                                    (mkRat
                                                                                                      ([(3 : Int),
                                                                                                            (2 :
                                                                                                              Int)].getD
                                                                                                        (Int.toNat
                                                                                                          (0 : Int))
                                                                                                        (0 : Int))
                                                                                                      (Int.toNat
                                                                                                        (1 : Int)))
                                                                                                    (64),
                                                                                                  PV.q
                                                                                                    (mkRat (1 : Int)
                                                                                                      (Int.toNat
                                                                                                        (1 : Int)))
                                                                                                    (64)],
                                                                                              PV.agg
                                                                                                [PV.q
                                                                                                    (mkRat (0 : Int)
                                                                                                      (Int.toNat
                                                                                                        (1 : Int)))
                                                                                                    (64),
                                                                                                  PV.q
                                                                                                    (mkRat (1 : Int)
                                                                                                      (Int.toNat
                                                                                                        (1 : Int)))
                                                                                                    (nat_lit
                                                                                                      64)]])]].length +
                                                                                [PV.agg
                                                                                      [PV.q
                                                                                          (mkRat
                                                                                            ([(3 : Int), (2 : Int)].getD
                                                                                              ((0 : Int) +
                                                                                                  (1 : Int)).toNat
                                                                                              (0 : Int))
                                                                                            (Int.toNat (1 : Int)))
                                                                                          (64),
                                                                                        PV.q
                                                                                          (mkRat (-2 : Int)
                                                                                            (Int.toNat (1 : Int)))
                                                                                          (64),
                                                                                        PV.q
                                                                                          (mkRat (2 : Int)
                                                                                            (Int.toNat (1 : Int)))
                                                                                          (64),
                                                                                        PV.q
                                                                                          (mkRat (1 : Int)
                                                                                            (Int.toNat (4 : Int)))
                                                                                          (64),
                                                                                        PV.q
                                                                                          (mkRat (1 : Int)
                                                                                            (Int.toNat (10 : Int)))
                                                                                          (64),
                                                                                        PV.lst (6)
                                                                                          (Cont.vals
                                                                                            [PV.agg
                                                                                                [PV.q
                                                                                                    (mkRat (0 : Int)
                                                                                                      (Int.toNat
                                                                                                        (1 : Int)))
                                                                                                    (64),
                                                                                                  PV.q
                                                                                                    (mkRat (-1 : Int)
                                                                                                      (Int.toNat
                                                                                                        (1 : Int)))
                                                                                                    (64)],
                                                                                              PV.agg
                                                                                                [PV.q
                                                                                                    (mkRat
                                                                                                      ([(3 : Int),
                                                                                                            (2 :
                                                                                                              Int)].getD
                                                                                                        ((0 : Int) +
                                                                                                            (1 :
                                                                                                              Int)).toNat
                                                                                                        (0 : Int))
                                                                                                      (Int.toNat
                                                                                                        (1 : Int)))
                                                                                                    (64),
                                                                                                  PV.q
                                                                                                    (mkRat (-1 : Int)
                                                                                                      (Int.toNat
                                                                                                        (1 : Int)))
                                                                                                    (64)],
                                                                                              PV.agg
                                                                                                [PV.q
                                                                                                    (mkRat
                                                                                                      ([(3 : Int),
                                                                                                            (2 :
                                                                                                              Int)].getD
                                                                                                        ((0 : Int) +
                                                                                                            (1 :
                                                                                                              Int)).toNat
                                                                                                        (0 : Int))
                                                                                                      (Int.toNat
                                                                                                        (1 : Int)))
                                                                                                    (64),
                                                                                                  PV.q
                                                                                                    (mkRat (1 : Int)
                                                                                                      (Int.toNat
                                                                                                        (1 : Int)))
                                                                                                    (64)],
                                                                                              PV.agg
                                                                                                [PV.q
                                                                                                    (mkRat (0 : Int)
                                                                                                      (Int.toNat
                                                                                                        (1 : Int)))
                                                                                                    (64),
                                                                                                  PV.q
                                                                                                    (mkRat (1 : Int)
                                                                                                      (Int.toNat
                                                                                                        (1 : Int)))
                                                                                                    (nat_lit
                                                                                                      64)]])]].length).ble
                                                                            (4294967296 : Nat))
                                                                          (Tr.br
                                                                            (decide
                                                                                ((-9223372036854775808 : Int) ≤
                                                                                  (0 : Int) + (1 : Int) + (1 : Int)) &&
                                                                              decide
                                                                                ((0 : Int) + (1 : Int) + (1 : Int) ≤
                                                                                  (9223372036854775807 : Int)))
                                                                            (Tr.br
                                                                              (decide
                                                                                ((0 : Int) + (1 : Int) + (1 : Int) <
                                                                                  (↑[(3 : Int), (2 : Int)].length : Int)))
                                                                              (Tr.br
                                                                                (decide
                                                                                    ((0 : Int) ≤
                                                                                      (0 : Int) + (1 : Int) +
                                                                                        (1 : Int)) &&
                                                                                  decide
                                                                                    ((0 : Int) + (1 : Int) + (1 : Int) <
                                                                                      (↑[(3 : Int), (2 : Int)].length :
                                                                                        Int)))
                                                                                (Tr.br
                                                                                  (decide ((0 : Int) < (1 : Int)) &&
                                                                                        decide
                                                                                          ((1 : Int) <
                                                                                            (4611686018427387904 :
                                                                                              Int)) &&
                                                                                      decide
                                                                                        ((-4611686018427387904 : Int) <
                                                                                          [(3 : Int), (2 : Int)].getD
                                                                                            ((0 : Int) + (1 : Int) +
                                                                                                (1 : Int)).toNat
                                                                                            (0 : Int)) &&
                                                                                    decide
                                                                                      ([(3 : Int), (2 : Int)].getD
                                                                                          ((0 : Int) + (1 : Int) +
                                                                                              (1 : Int)).toNat
                                                                                          (0 : Int) <
                                                                                        (4611686018427387904 : Int)))
                                                                                  (Tr.br
                                                                                    (decide ((0 : Int) < (1 : Int)) &&
                                                                                          decide
                                                                                            ((1 : Int) <
                                                                                              (4611686018427387904 :
                                                                                                Int)) &&
                                                                                        decide
                                                                                          ((-4611686018427387904 : Int) <
                                                                                            (-2 : Int)) &&
                                                                                      decide
                                                                                        ((-2 : Int) <
                                                                                          (4611686018427387904 : Int)))
                                                                                    (Tr.br
                                                                                      (decide ((0 : Int) < (1 : Int)) &&
                                                                                            decide
                                                                                              ((1 : Int) <
                                                                                                (4611686018427387904 :
                                                                                                  Int)) &&
                                                                                          decide
                                                                                            ((-4611686018427387904 :
                                                                                                Int) <
                                                                                              (2 : Int)) &&
                                                                                        decide
                                                                                          ((2 : Int) <
                                                                                            (4611686018427387904 : Int)))
                                                                                      (Tr.br
                                                                                        (decide ((0 : Int) < (4 : Int)) &&
                                                                                              decide
                                                                                                ((4 : Int) <
                                                                                                  (4611686018427387904 :
                                                                                                    Int)) &&
                                                                                            decide
                                                                                              ((-4611686018427387904 :
                                                                                                  Int) <
                                                                                                (1 : Int)) &&
                                                                                          decide
                                                                                            ((1 : Int) <
                                                                                              (4611686018427387904 :
                                                                                                Int)))
                                                                                        (Tr.br
                                                                                          (decide
                                                                                                  ((0 : Int) <
                                                                                                    (10 : Int)) &&
                                                                                                decide
                                                                                                  ((10 : Int) <
                                                                                                    (4611686018427387904 :
                                                                                                      Int)) &&
                                                                                              decide
                                                                                                ((-4611686018427387904 :
                                                                                                    Int) <
                                                                                                  (1 : Int)) &&
                                                                                            decide
                                                                                              ((1 : Int) <
                                                                                                (4611686018427387904 :
                                                                                                  Int)))
                                                                                          (Tr.br
                                                                                            (decide
                                                                                                    ((0 : Int) <
                                                                                                      (1 : Int)) &&
                                                                                                  decide
                                                                                                    ((1 : Int) <
                                                                                                      (4611686018427387904 :
                                                                                                        Int)) &&
                                                                                                decide
                                                                                                  ((-4611686018427387904 :
                                                                                                      Int) <
                                                                                                    (0 : Int)) &&
                                                                                              decide
                                                                                                ((0 : Int) <
                                                                                                  (4611686018427387904 :
                                                                                                    Int)))
                                                                                            (Tr.br
                                                                                              (decide
                                                                                                      ((0 : Int) <
                                                                                                        (1 : Int)) &&
                                                                                                    decide
                                                                                                      ((1 : Int) <
                                                                                                        (4611686018427387904 :
                                                                                                          Int)) &&
                                                                                                  decide
                                                                                                    ((-4611686018427387904 :
                                                                                                        Int) <
                                                                                                      (-1 : Int)) &&
                                                                                                decide
                                                                                                  ((-1 : Int) <
                                                                                                    (4611686018427387904 :
                                                                                                      Int)))
                                                                                              (Tr.br
                                                                                                (decide
                                                                                                        ((0 : Int) <
                                                                                                          (1 : Int)) &&
                                                                                                      decide
                                                                                                        ((1 : Int) <
                                                                                                          (4611686018427387904 :
                                                                                                            Int)) &&
                                                                                                    decide
                                                                                                      ((-4611686018427387904 :
                                                                                                          Int) <
                                                                                                        [(3 : Int),
                                                                                                              (2 :
                                                                                                                Int)].getD
                                                                                                          ((0 : Int) +
                                                                                                                (1 :
                                                                                                                  Int) +
                                                                                                              (1 :
                                                                                                                Int)).toNat
                                                                                                          (0 : Int)) &&
                                                                                                  decide
                                                                                                    ([(3 : Int),
                                                                                                            (2 :
                                                                                                              Int)].getD
                                                                                                        ((0 : Int) +
                                                                                                              (1 : Int) +
                                                                                                            (1 :
                                                                                                              Int)).toNat
                                                                                                        (0 : Int) <
                                                                                                      (4611686018427387904 :
                                                                                                        Int)))
                                                                                                (Tr.br
                                                                                                  (decide
                                                                                                          ((0 : Int) <
                                                                                                            (1 : Int)) &&
                                                                                                        decide
                                                                                                          ((1 : Int) <
                                                                                                            (4611686018427387904 :
                                                                                                              Int)) &&
                                                                                                      decide
                                                                                                        ((-4611686018427387904 :
                                                                                                            Int) <
                                                                                                          (-1 : Int)) &&
                                                                                                    decide
                                                                                                      ((-1 : Int) <
                                                                                                        (4611686018427387904 :
                                                                                                          Int)))
                                                                                                  (Tr.br
                                                                                                    (decide
                                                                                                            ((0 : Int) <
                                                                                                              (1 :
                                                                                                                Int)) &&
                                                                                                          decide
                                                                                                            ((1 : Int) <
                                                                                                              (4611686018427387904 :
                                                                                                                Int)) &&
                                                                                                        decide
                                                                                                          ((-4611686018427387904 :
                                                                                                              Int) <
                                                                                                            [(3 : Int),
                                                                                                                  (2 :
                                                                                                                    Int)].getD
                                                                                                              ((0 : Int) +
                                                                                                                    (1 :
                                                                                                                      Int) +
                                                                                                                  (1 :
                                                                                                                    Int)).toNat
                                                                                                              (0 :
                                                                                                                Int)) &&
                                                                                                      decide
                                                                                                        ([(3 : Int),
                                                                                                                (2 :
                                                                                                                  Int)].getD
                                                                                                            ((0 : Int) +
                                                                                                                  (1 :
                                                                                                                    Int) +
                                                                                                                (1 :
                                                                                                                  Int)).toNat
                                                                                                            (0 : Int) <
                                                                                                          (4611686018427387904 :
                                                                                                            Int)))
                                                                                                    (Tr.br
                                                                                                      (decide
                                                                                                              ((0 : Int) <
                                                                                                                (1 :
                                                                                                                  Int)) &&
                                                                                                            decide
                                                                                                              ((1 : Int) <
                                                                                                                (4611686018427387904 :
                                                                                                                  Int)) &&
                                                                                                          decide
                                                                                                            ((-4611686018427387904 :
                                                                                                                Int) <
                                                                                                              (1 :
                                                                                                                Int)) &&
                                                                                                        decide
                                                                                                          ((1 : Int) <
                                                                                                            (4611686018427387904 :
                                                                                                              Int)))
                                                                                                      (Tr.br
                                                                                                        (decide
                                                                                                                ((0 :
                                                                                                                    Int) <
                                                                                                                  (1 :
                                                                                                                    Int)) &&
                                                                                                              decide
                                                                                                                ((1 :
                                                                                                                    Int) <
                                                                                                                  (4611686018427387904 :
                                                                                                                    Int)) &&
                                                                                                            decide
                                                                                                              ((-4611686018427387904 :
                                                                                                                  Int) <
                                                                                                                (0 :
                                                                                                                  Int)) &&
                                                                                                          decide
                                                                                                            ((0 : Int) <
                                                                                                              (4611686018427387904 :
                                                                                                                Int)))
                                                                                                        (Tr.br
                                                                                                          (decide
                                                                                                                  ((0 :
                                                                                                                      Int) <
                                                                                                                    (1 :
                                                                                                                      Int)) &&
                                                                                                                decide
                                                                                                                  ((1 :
                                                                                                                      Int) <
                                                                                                                    (4611686018427387904 :
                                                                                                                      Int)) &&
                                                                                                              decide
                                                                                                                ((-4611686018427387904 :
                                                                                                                    Int) <
                                                                                                                  (1 :
                                                                                                                    Int)) &&
                                                                                                            decide
                                                                                                              ((1 : Int) <
                                                                                                                (4611686018427387904 :
                                                                                                                  Int)))
                                                                                                          (Tr.br
                                                                                                            (([PV.agg
                                                                                                                          [PV.q
                                                                                                                              (mkRat
                                                                                                                                ([(3 :
                                                                                                                                        Int),
                                                                                                                                      (2 :
                                                                                                                                        Int)].getD
                                                                                                                                  (Int.toNat
                                                                                                                                    (0 :
                                                                                                                                      Int))
                                                                                                                                  (0 :
                                                                                                                                    Int))
                                                                                                                                (Int.toNat
                                                                                                                                  (1 :
                                                                                                                                    Int)))
                                                                                                                              (nat_lit
                                                                                                                                64),
                                                                                                                            PV.q
                                                                                                                              (mkRat
                                                                                                                                (-2 :
                                                                                                                                  Int)
                                                                                                                                (Int.toNat
                                                                                                                                  (1 :
                                                                                                                                    Int)))
                                                                                                                              (nat_lit
                                                                                                                                64),
                                                                                                                            PV.q
                                                                                                                              (mkRat
                                                                                                                                (2 :
                                                                                                                                  Int)
                                                                                                                                (Int.toNat
                                                                                                                                  (1 :
                                                                                                                                    Int)))
                                                                                                                              (nat_lit
                                                                                                                                64),
                                                                                                                            PV.q
                                                                                                                              (mkRat
                                                                                                                                (1 :
                                                                                                                                  Int)
                                                                                                                                (Int.toNat
                                                                                                                                  (4 :
                                                                                                                                    Int)))
                                                                                                                              (nat_lit
                                                                                                                                64),
                                                                                                                            PV.q
                                                                                                                              (mkRat
                                                                                                                                (1 :
                                                                                                                                  Int)
                                                                                                                                (Int.toNat
                                                                                                                                  (10 :
                                                                                                                                    Int)))
                                                                                                                              (nat_lit
                                                                                                                                64),
                                                                                                                            PV.lst
                                                                                                                              (nat_lit
                                                                                                                                6)
                                                                                                                              (Cont.vals
                                                                                                                                [PV.agg
                                                                                                                                    [PV.q
                                                                                                                                        (mkRat
                                                                                                                                          (0 :
                                                                                                                                            Int)
                                                                                                                                          (Int.toNat
                                                                                                                                            (1 :
                                                                                                                                              Int)))
                                                                                                                                        (nat_lit
                                                                                                                                          64),
                                                                                                                                      PV.q
                                                                                                                                        (mkRat
                                                                                                                                          (-1 :
                                                                                                                                            Int)
                                                                                                                                          (Int.toNat
                                                                                                                                            (1 :
                                                                                                                                              Int)))
                                                                                                                                        (nat_lit
                                                                                                                                          64)],
                                                                                                                                  PV.agg
                                                                                                                                    [PV.q
                                                                                                                                        (mkRat
                                                                                                                                          ([(3 :
                                                                                                                                                  Int),
                                                                                                                                                (2 :
                                                                                                                                                  Int)].getD
                                                                                                                                            (Int.toNat
                                                                                                                                              (0 :
                                                                                                                                                Int))
                                                                                                                                            (0 :
                                                                                                                                              Int))
                                                                                                                                          (Int.toNat
                                                                                                                                            (1 :
                                                                                                                                              Int)))
                                                                                                                                        (nat_lit
                                                                                                                                          64),
                                                                                                                                      PV.q
                                                                                                                                        (mkRat
                                                                                                                                          (-1 :
                                                                                                                                            Int)
                                                                                                                                          (Int.toNat
                                                                                                                                            (1 :
                                                                                                                                              Int)))
                                                                                                                                        (nat_lit
                                                                                                                                          64)],
                                                                                                                                  PV.agg
                                                                                                                                    [PV.q
                                                                                                                                        (mkRat
                                                                                                                                          ([(3 :
                                                                                                                                                  Int),
                                                                                                                                                (2 :
                                                                                                                                                  Int)].getD
                                                                                                                                            (Int.toNat
                                                                                                                                              (0 :
                                                                                                                                                Int))
                                                                                                                                            (0 :
                                                                                                                                              Int))
                                                                                                                                          (Int.toNat
                                                                                                                                            (1 :
                                                                                                                                              Int)))
                                                                                                                                        (nat_lit
                                                                                                                                          64),
                                                                                                                                      PV.q
                                                                                                                                        (mkRat
                                                                                                                                          (1 :
                                                                                                                                            Int)
                                                                                                                                          (Int.toNat
                                                                                                                                            (1 :
                                                                                                                                              Int)))
                                                                                                                                        (nat_lit
                                                                                                                                          64)],
                                                                                                                                  PV.agg
                                                                                                                                    [PV.q
                                                                                                                                        (mkRat
                                                                                                                                          (0 :
                                                                                                                                            Int)
                                                                                                                                          (Int.toNat
                                                                                                                                            (1 :
                                                                                                                                              Int)))
                                                                                                                                        (nat_lit
                                                                                                                                          64),
                                                                                                                                      PV.q
                                                                                                                                        (mkRat
                                                                                                                                          (1 :
                                                                                                                                            Int)
                                                                                                                                          (Int.toNat
                                                                                                                                            (1 :
                                                                                                                                              Int)))
                                                                                                                                        (nat_lit
                                                                                                                                          64)]])]].length +
                                                                                                                    [PV.agg
                                                                                                                          [PV.q
                                                                                                                              (mkRat
                                                                                                                                ([(3 :
                                                                                                                                        Int),
                                                                                                                                      (2 :
                                                                                                                                        Int)].getD
                                                                                                                                  ((0 :
                                                                                                                                        Int) +
                                                                                                                                      (1 :
                                                                                                                                        Int)).toNat
                                                                                                                                  (0 :
                                                                                                                                    Int))
                                                                                                                                (Int.toNat
                                                                                                                                  (1 :
                                                                                                                                    Int)))
                                                                                                                              (nat_lit
                                                                                                                                64),
                                                                                                                            PV.q
                                                                                                                              (mkRat
                                                                                                                                (-2 :
                                                                                                                                  Int)
                                                                                                                                (Int.toNat
                                                                                                                                  (1 :
                                                                                                                                    Int)))
                                                                                                                              (nat_lit
                                                                                                                                64),
                                                                                                                            PV.q
                                                                                                                              (mkRat
                                                                                                                                (2 :
                                                                                                                                  Int)
                                                                                                                                (Int.toNat
                                                                                                                                  (1 :
                                                                                                                                    Int)))
                                                                                                                              (nat_lit
                                                                                                                                64),
                                                                                                                            PV.q
                                                                                                                              (mkRat
                                                                                                                                (1 :
                                                                                                                                  Int)
                                                                                                                                (Int.toNat
                                                                                                                                  (4 :
                                                                                                                                    Int)))
                                                                                                                              (nat_lit
                                                                                                                                64),
                                                                                                                            PV.q
                                                                                                                              (mkRat
                                                                                                                                (1 :
                                                                                                                                  Int)
                                                                                                                                (Int.toNat
                                                                                                                                  (10 :
                                                                                                                                    Int)))
                                                                                                                              (nat_lit
                                                                                                                                64),
                                                                                                                            PV.lst
                                                                                                                              (nat_lit
                                                                                                                                6)
                                                                                                                              (Cont.vals
                                                                                                                                [PV.agg
                                                                                                                                    [PV.q
                                                                                                                                        (mkRat
                                                                                                                                          (0 :
                                                                                                                                            Int)
                                                                                                                                          (Int.toNat
                                                                                                                                            (1 :
                                                                                                                                              Int)))
                                                                                                                                        (nat_lit
                                                                                                                                          64),
                                                                                                                                      PV.q
                                                                                                                                        (mkRat
                                                                                                                                          (-1 :
                                                                                                                                            Int)
                                                                                                                                          (Int.toNat
                                                                                                                                            (1 :
                                                                                                                                              Int)))
                                                                                                                                        (nat_lit
                                                                                                                                          64)],
                                                                                                                                  PV.agg
                                                                                                                                    [PV.q
                                                                                                                                        (mkRat
                                                                                                                                          ([(3 :
                                                                                                                                                  Int),
                                                                                                                                                (2 :
                                                                                                                                                  Int)].getD
                                                                                                                                            ((0 :
                                                                                                                                                  Int) +
                                                                                                                                                (1 :
                                                                                                                                                  Int)).toNat
                                                                                                                                            (0 :
                                                                                                                                              Int))
                                                                                                                                          (Int.toNat
                                                                                                                                            (1 :
                                                                                                                                              Int)))
                                                                                                                                        (nat_lit
                                                                                                                                          64),
                                                                                                                                      PV.q
                                                                                                                                        (mkRat
                                                                                                                                          (-1 :
                                                                                                                                            Int)
                                                                                                                                          (Int.toNat
                                                                                                                                            (1 :
                                                                                                                                              Int)))
                                                                                                                                        (nat_lit
                                                                                                                                          64)],
                                                                                                                                  PV.agg
                                                                                                                                    [PV.q
                                                                                                                                        (mkRat
                                                                                                                                          ([(3 :
                                                                                                                                                  Int),
                                                                                                                                                (2 :
                                                                                                                                                  Int)].getD
                                                                                                                                            ((0 :
                                                                                                                                                  Int) +
                                                                                                                                                (1 :
                                                                                                                                                  Int)).toNat
                                                                                                                                            (0 :
                                                                                                                                              Int))
                                                                                                                                          (Int.toNat
                                                                                                                                            (1 :
                                                                                                                                              Int)))
                                                                                                                                        (nat_lit
                                                                                                                                          64),
                                                                                                                                      PV.q
                                                                                                                                        (mkRat
                                                                                                                                          (1 :
                                                                                                                                            Int)
                                                                                                                                          (Int.toNat
                                                                                                                                            (1 :
                                                                                                                                              Int)))
                                                                                                                                        (nat_lit
                                                                                                                                          64)],
                                                                                                                                  PV.agg
                                                                                                                                    [PV.q
                                                                                                                                        (mkRat
                                                                                                                                          (0 :
                                                                                                                                            Int)
                                                                                                                                          (Int.toNat
                                                                                                                                            (1 :
                                                                                                                                              Int)))
                                                                                                                                        (nat_lit
                                                                                                                                          64),
                                                                                                                                      PV.q
                                                                                                                                        (mkRat
                                                                                                                                          (1 :
                                                                                                                                            Int)
                                                                                                                                          (Int.toNat
                                                                                                                                            (1 :
                                                                                                                                              Int)))
                                                                                                                                        (nat_lit
                                                                                                                                          64)]])]].length +
                                                                                                                  [PV.agg
                                                                                                                        [PV.q
                                                                                                                            (mkRat
                                                                                                                              ([(3 :
                                                                                                                                      Int),
                                                                                                                                    (2 :
                                                                                                                                      Int)].getD
                                                                                                                                ((0 :
                                                                                                                                        Int) +
                                                                                                                                      (1 :
                                                                                                                                        Int) +
                                                                                                                                    (1 :
                                                                                                                                      Int)).toNat
                                                                                                                                (0 :
                                                                                                                                  Int))
                                                                                                                              (Int.toNat
                                                                                                                                (1 :
                                                                                                                                  Int)))
                                                                                                                            (nat_lit
                                                                                                                              64),
                                                                                                                          PV.q
                                                                                                                            (mkRat
                                                                                                                              (-2 :
                                                                                                                                Int)
                                                                                                                              (Int.toNat
                                                                                                                                (1 :
                                                                                                                                  Int)))
                                                                                                                            (nat_lit
                                                                                                                              64),
                                                                                                                          PV.q
                                                                                                                            (mkRat
                                                                                                                              (2 :
                                                                                                                                Int)
                                                                                                                              (Int.toNat
                                                                                                                                (1 :
                                                                                                                                  Int)))
                                                                                                                            (nat_lit
                                                                                                                              64),
                                                                                                                          PV.q
                                                                                                                            (mkRat
                                                                                                                              (1 :
                                                                                                                                Int)
                                                                                                                              (Int.toNat
                                                                                                                                (4 :
                                                                                                                                  Int)))
                                                                                                                            (nat_lit
                                                                                                                              64),
                                                                                                                          PV.q
                                                                                                                            (mkRat
                                                                                                                              (1 :
                                                                                                                                Int)
                                                                                                                              (Int.toNat
                                                                                                                                (10 :
                                                                                                                                  Int)))
                                                                                                                            (nat_lit
                                                                                                                              64),
                                                                                                                          PV.lst
                                                                                                                            (nat_lit
                                                                                                                              6)
                                                                                                                            (Cont.vals
                                                                                                                              [PV.agg
                                                                                                                                  [PV.q
                                                                                                                                      (mkRat
                                                                                                                                        (0 :
                                                                                                                                          Int)
                                                                                                                                        (Int.toNat
                                                                                                                                          (1 :
                                                                                                                                            Int)))
                                                                                                                                      (nat_lit
                                                                                                                                        64),
                                                                                                                                    PV.q
                                                                                                                                      (mkRat
                                                                                                                                        (-1 :
                                                                                                                                          Int)
                                                                                                                                        (Int.toNat
                                                                                                                                          (1 :
                                                                                                                                            Int)))
                                                                                                                                      (nat_lit
                                                                                                                                        64)],
                                                                                                                                PV.agg
                                                                                                                                  [PV.q
                                                                                                                                      (mkRat
                                                                                                                                        ([(3 :
                                                                                                                                                Int),
                                                                                                                                              (2 :
                                                                                                                                                Int)].getD
                                                                                                                                          ((0 :
                                                                                                                                                  Int) +
                                                                                                                                                (1 :
                                                                                                                                                  Int) +
                                                                                                                                              (1 :
                                                                                                                                                Int)).toNat
                                                                                                                                          (0 :
                                                                                                                                            Int))
                                                                                                                                        (Int.toNat
                                                                                                                                          (1 :
                                                                                                                                            Int)))
                                                                                                                                      (nat_lit
                                                                                                                                        64),
                                                                                                                                    PV.q
                                                                                                                                      (mkRat
                                                                                                                                        (-1 :
                                                                                                                                          Int)
                                                                                                                                        (Int.toNat
                                                                                                                                          (1 :
                                                                                                                                            Int)))
                                                                                                                                      (nat_lit
                                                                                                                                        64)],
                                                                                                                                PV.agg
                                                                                                                                  [PV.q
                                                                                                                                      (mkRat
                                                                                                                                        ([(3 :
                                                                                                                                                Int),
                                                                                                                                              (2 :
                                                                                                                                                Int)].getD
                                                                                                                                          ((0 :
                                                                                                                                                  Int) +
                                                                                                                                                (1 :
                                                                                                                                                  Int) +
                                                                                                                                              (1 :
                                                                                                                                                Int)).toNat
                                                                                                                                          (0 :
                                                                                                                                            Int))
                                                                                                                                        (Int.toNat
                                                                                                                                          (1 :
                                                                                                                                            Int)))
                                                                                                                                      (nat_lit
                                                                                                                                        64),
                                                                                                                                    PV.q
                                                                                                                                      (mkRat
                                                                                                                                        (1 :
                                                                                                                                          Int)
                                                                                                                                        (Int.toNat
                                                                                                                                          (1 :
                                                                                                                                            Int)))
                                                                                                                                      (nat_lit
                                                                                                                                        64)],
                                                                                                                                PV.agg
                                                                                                                                  [PV.q
                                                                                                                                      (mkRat
                                                                                                                                        (0 :
                                                                                                                                          Int)
                                                                                                                                        (Int.toNat
                                                                                                                                          (1 :
                                                                                                                                            Int)))
                                                                                                                                      (nat_lit
                                                                                                                                        64),
                                                                                                                                    PV.q
                                                                                                                                      (mkRat
                                                                                                                                        (1 :
                                                                                                                                          Int)
                                                                                                                                        (Int.toNat
                                                                                                                                          (1 :
                                                                                                                                            Int)))
                                                                                                                                      (nat_lit
                                                                                                                                        64)]])]].length).ble
                                                                                                              (4294967296 :
                                                                                                                Nat))
                                                                                                            (Tr.br
                                                                                                              (decide
                                                                                                                  ((-9223372036854775808 :
                                                                                                                      Int) ≤
                                                                                                                    (0 :
                                                                                                                            Int) +
                                                                                                                          (1 :
                                                                                                                            Int) +
                                                                                                                        (1 :
                                                                                                                          Int) +
                                                                                                                      (1 :
                                                                                                                        Int)) &&
                                                                                                                decide
                                                                                                                  ((0 :
                                                                                                                            Int) +
                                                                                                                          (1 :
                                                                                                                            Int) +
                                                                                                                        (1 :
                                                                                                                          Int) +
                                                                                                                      (1 :
                                                                                                                        Int) ≤
                                                                                                                    (9223372036854775807 :
                                                                                                                      Int)))
                                                                                                              (Tr.no
                                                                                                                (nat_lit
                                                                                                                  16))
                                                                                                              (Tr.no
                                                                                                                (nat_lit
                                                                                                                  7002)))
                                                                                                            (Tr.no
                                                                                                              (nat_lit
                                                                                                                6003)))
                                                                                                          (Tr.no
                                                                                                            (1)))
                                                                                                        (Tr.no
                                                                                                          (1)))
                                                                                                      (Tr.no (1)))
                                                                                                    (Tr.no (1)))
                                                                                                  (Tr.no (1)))
                                                                                                (Tr.no (1)))
                                                                                              (Tr.no (1)))
                                                                                            (Tr.no (1)))
                                                                                          (Tr.no (1)))
                                                                                        (Tr.no (1)))
                                                                                      (Tr.no (1)))
                                                                                    (Tr.no (1)))
                                                                                  (Tr.no (1)))
                                                                                (Tr.no (5003)))
                                                                              (Tr.ok
                                                                                (Res.ret
                                                                                  (PV.agg
                                                                                    [PV.s
                                                                                        {
                                                                                          data :=
                                                                                            #[(111 : UInt8),
                                                                                              (110 : UInt8),
                                                                                              (101 : UInt8)] },
                                                                                      PV.agg
                                                                                        [PV.agg
                                                                                            [PV.q
                                                                                                (mkRat (0 : Int)
                                                                                                  (Int.toNat (1 : Int)))
                                                                                                (64),
                                                                                              PV.q
                                                                                                (mkRat (0 : Int)
                                                                                                  (Int.toNat (1 : Int)))
                                                                                                (64)],
                                                                                          PV.agg
                                                                                            [PV.bl false,
                                                                                              PV.q
                                                                                                (mkRat (0 : Int)
                                                                                                  (Int.toNat (1 : Int)))
                                                                                                (64)]],
                                                                                      PV.fr (16)
                                                                                        (Cont.vals
                                                                                          [PV.agg
                                                                                              [PV.q
                                                                                                  (mkRat
                                                                                                    ([(3 : Int),
                                                                                                          (2 : Int)].getD
                                                                                                      (Int.toNat
                                                                                                        (0 : Int))
                                                                                                      (0 : Int))
                                                                                                    (Int.toNat (1 : Int)))
                                                                                                  (64),
                                                                                                PV.q
                                                                                                  (mkRat (-2 : Int)
                                                                                                    (Int.toNat (1 : Int)))
                                                                                                  (64),
                                                                                                PV.q
                                                                                                  (mkRat (2 : Int)
                                                                                                    (Int.toNat (1 : Int)))
                                                                                                  (64),
                                                                                                PV.q
                                                                                                  (mkRat (1 : Int)
                                                                                                    (Int.toNat (4 : Int)))
                                                                                                  (64),
                                                                                                PV.q
                                                                                                  (mkRat (1 : Int)
                                                                                                    (Int.toNat
                                                                                                      (10 : Int)))
                                                                                                  (64),
                                                                                                PV.lst (6)
                                                                                                  (Cont.vals
                                                                                                    [PV.agg
                                                                                                        [PV.q
                                                                                                            (mkRat
                                                                                                              (0 : Int)
                                                                                                              (Int.toNat
                                                                                                                (1 :
                                                                                                                  Int)))
                                                                                                            (64),
                                                                                                          PV.q
                                                                                                            (mkRat
                                                                                                              (-1 : Int)
                                                                                                              (Int.toNat
                                                                                                                (1 :
                                                                                                                  Int)))
                                                                                                            (64)],
                                                                                                      PV.agg
                                                                                                        [PV.q
                                                                                                            (mkRat
                                                                                                              ([(3 : Int),
                                                                                                                    (2 :
                                                                                                                      Int)].getD
                                                                                                                (Int.toNat
                                                                                                                  (0 :
                                                                                                                    Int))
                                                                                                                (0 : Int))
                                                                                                              (Int.toNat
                                                                                                                (1 :
                                                                                                                  Int)))
                                                                                                            (64),
                                                                                                          PV.q
                                                                                                            (mkRat
                                                                                                              (-1 : Int)
                                                                                                              (Int.toNat
                                                                                                                (1 :
                                                                                                                  Int)))
                                                                                                            (64)],
                                                                                                      PV.agg
                                                                                                        [PV.q
                                                                                                            (mkRat
                                                                                                              ([(3 : Int),
                                                                                                                    (2 :
                                                                                                                      Int)].getD
                                                                                                                (Int.toNat
                                                                                                                  (0 :
                                                                                                                    Int))
                                                                                                                (0 : Int))
                                                                                                              (Int.toNat
                                                                                                                (1 :
                                                                                                                  Int)))
                                                                                                            (64),
                                                                                                          PV.q
                                                                                                            (mkRat
                                                                                                              (1 : Int)
                                                                                                              (Int.toNat
                                                                                                                (1 :
                                                                                                                  Int)))
                                                                                                            (64)],
                                                                                                      PV.agg
                                                                                                        [PV.q
                                                                                                            (mkRat
                                                                                                              (0 : Int)
                                                                                                              (Int.toNat
                                                                                                                (1 :
                                                                                                                  Int)))
                                                                                                            (64),
                                                                                                          PV.q
                                                                                                            (mkRat
                                                                                                              (1 : Int)
                                                                                                              (Int.toNat
                                                                                                                (1 :
                                                                                                                  Int)))
                                                                                                            (nat_lit
                                                                                                              64)]])],
                                                                                            PV.agg
                                                                                              [PV.q
                                                                                                  (mkRat
                                                                                                    ([(3 : Int),
                                                                                                          (2 : Int)].getD
                                                                                                      ((0 : Int) +
                                                                                                          (1 : Int)).toNat
                                                                                                      (0 : Int))
                                                                                                    (Int.toNat (1 : Int)))
                                                                                                  (64),
                                                                                                PV.q
                                                                                                  (mkRat (-2 : Int)
                                                                                                    (Int.toNat (1 : Int)))
                                                                                                  (64),
                                                                                                PV.q
                                                                                                  (mkRat (2 : Int)
                                                                                                    (Int.toNat (1 : Int)))
                                                                                                  (64),
                                                                                                PV.q
                                                                                                  (mkRat (1 : Int)
                                                                                                    (Int.toNat (4 : Int)))
                                                                                                  (64),
                                                                                                PV.q
                                                                                                  (mkRat (1 : Int)
                                                                                                    (Int.toNat
                                                                                                      (10 : Int)))
                                                                                                  (64),
                                                                                                PV.lst (6)
                                                                                                  (Cont.vals
                                                                                                    [PV.agg
                                                                                                        [PV.q
                                                                                                            (mkRat
                                                                                                              (0 : Int)
                                                                                                              (Int.toNat
                                                                                                                (1 :
                                                                                                                  Int)))
                                                                                                            (64),
                                                                                                          PV.q
                                                                                                            (mkRat
                                                                                                              (-1 : Int)
                                                                                                              (Int.toNat
                                                                                                                (1 :
                                                                                                                  Int)))
                                                                                                            (64)],
                                                                                                      PV.agg
                                                                                                        [PV.q
                                                                                                            (mkRat
                                                                                                              ([(3 : Int),
                                                                                                                    (2 :
                                                                                                                      Int)].getD
                                                                                                                ((0 :
                                                                                                                      Int) +
                                                                                                                    (1 :
                                                                                                                      Int)).toNat
                                                                                                                (0 : Int))
                                                                                                              (Int.toNat
                                                                                                                (1 :
                                                                                                                  Int)))
                                                                                                            (64),
                                                                                                          PV.q
                                                                                                            (mkRat
                                                                                                              (-1 : Int)
                                                                                                              (Int.toNat
                                                                                                                (1 :
                                                                                                                  Int)))
                                                                                                            (64)],
                                                                                                      PV.agg
                                                                                                        [PV.q
                                                                                                            (mkRat
                                                                                                              ([(3 : Int),
                                                                                                                    (2 :
                                                                                                                      Int)].getD
                                                                                                                ((0 :
                                                                                                                      Int) +
                                                                                                                    (1 :
                                                                                                                      Int)).toNat
                                                                                                                (0 : Int))
                                                                                                              (Int.toNat
                                                                                                                (1 :
                                                                                                                  Int)))
                                                                                                            (64),
                                                                                                          PV.q
                                                                                                            (mkRat
                                                                                                              (1 : Int)
                                                                                                              (Int.toNat
                                                                                                                (1 :
                                                                                                                  Int)))
                                                                                                            (64)],
                                                                                                      PV.agg
                                                                                                        [PV.q
                                                                                                            (mkRat
                                                                                                              (0 : Int)
                                                                                                              (Int.toNat
                                                                                                                (1 :
                                                                                                                  Int)))
                                                                                                            (64),
                                                                                                          PV.q
                                                                                                            (mkRat
                                                                                                              (1 : Int)
                                                                                                              (Int.toNat
                                                                                                                (1 :
                                                                                                                  Int)))
                                                                                                            (nat_lit
                                                                                                              64)]])]])])
                                                                                  [])))
                                                                            (Tr.no (7002)))
                                                                          (Tr.no (6003)))
                                                                        (Tr.no (1)))
                                                                      (Tr.no (1)))
                                                                    (Tr.no (1)))
                                                                  (Tr.no (1)))
                                                                (Tr.no (1)))
                                                              (Tr.no (1)))
                                                            (Tr.no (1)))
                                                          (Tr.no (1)))
                                                        (Tr.no (1)))
                                                      (Tr.no (1)))
                                                    (Tr.no (1)))
                                                  (Tr.no (1)))
                                                (Tr.no (1)))
                                              (Tr.no (5003)))
                                            (Tr.ok
                                              (Res.ret
                                                (PV.agg
                                                  [PV.s { data := #[(111 : UInt8), (110 : UInt8), (101 : UInt8)] },
                                                    PV.agg
                                                      [PV.agg
                                                          [PV.q (mkRat (0 : Int) (Int.toNat (1 : Int))) (64),
                                                            PV.q (mkRat (0 : Int) (Int.toNat (1 : Int))) (64)],
                                                        PV.agg
                                                          [PV.bl false,
                                                            PV.q (mkRat (0 : Int) (Int.toNat (1 : Int))) (64)]],
                                                    PV.fr (16)
                                                      (Cont.vals
                                                        [PV.agg
                                                            [PV.q
                                                                (mkRat
                                                                  ([(3 : Int), (2 : Int)].getD (Int.toNat (0 : Int))
                                                                    (0 : Int))
                                                                  (Int.toNat (1 : Int)))
                                                                (64),
                                                              PV.q (mkRat (-2 : Int) (Int.toNat (1 : Int))) (64),
                                                              PV.q (mkRat (2 : Int) (Int.toNat (1 : Int))) (64),
                                                              PV.q (mkRat (1 : Int) (Int.toNat (4 : Int))) (64),
                                                              PV.q (mkRat (1 : Int) (Int.toNat (10 : Int))) (64),
                                                              PV.lst (6)
                                                                (Cont.vals
                                                                  [PV.agg
                                                                      [PV.q (mkRat (0 : Int) (Int.toNat (1 : Int)))
                                                                          (64),
                                                                        PV.q (mkRat (-1 : Int) (Int.toNat (1 : Int)))
                                                                          (64)],
                                                                    PV.agg
                                                                      [PV.q
                                                                          (mkRat
                                                                            ([(3 : Int), (2 : Int)].getD
                                                                              (Int.toNat (0 : Int)) (0 : Int))
                                                                            (Int.toNat (1 : Int)))
                                                                          (64),
                                                                        PV.q (mkRat (-1 : Int) (Int.toNat (1 : Int)))
                                                                          (64)],
                                                                    PV.agg
                                                                      [PV.q
                                                                          (mkRat
                                                                            ([(3 : Int), (2 : Int)].getD
                                                                              (Int.toNat (0 : Int)) (0 : Int))
                                                                            (Int.toNat (1 : Int)))
                                                                          (64),
                                                                        PV.q (mkRat (1 : Int) (Int.toNat (1 : Int)))
                                                                          (64)],
                                                                    PV.agg
                                                                      [PV.q (mkRat (0 : Int) (Int.toNat (1 : Int)))
                                                                          (64),
                                                                        PV.q (mkRat (1 : Int) (Int.toNat (1 : Int)))
                                                                          (64)]])]])])
                                                [])))
                                          (Tr.no (7002)))
                                        (Tr.no (6003)))
                                      (Tr.no (1)))
                                    (Tr.no (1)))
                                  (Tr.no (1)))
                                (Tr.no (1)))
                              (Tr.no (1)))
                            (Tr.no (1)))
                          (Tr.no (1)))
                        (Tr.no (1)))
                      (Tr.no (1)))
                    (Tr.no (1)))
                  (Tr.no (1)))
                (Tr.no (1)))
              (Tr.no (1)))
            (Tr.no (5003)))
          (Tr.ok
            (Res.ret
              (PV.agg
                [PV.s { data := #[(111 : UInt8), (110 : UInt8), (101 : UInt8)] },
                  PV.agg
                    [PV.agg
                        [PV.q (mkRat (0 : Int) (Int.toNat (1 : Int))) (64),
                          PV.q (mkRat (0 : Int) (Int.toNat (1 : Int))) (64)],
                      PV.agg [PV.bl false, PV.q (mkRat (0 : Int) (Int.toNat (1 : Int))) (64)]],
                  PV.nil])
              [])))
        (Tr.no (1)))
      (Tr.no (1)))
    (Tr.no (1)) := by kernel_rfl
def smC (L : Int) : Cont := .vals [.agg [.q (mkRat 0 1) 64, .q (mkRat (-1) 1) 64], .agg [.q (mkRat L 1) 64, .q (mkRat (-1) 1) 64], .agg [.q (mkRat L 1) 64, .q (mkRat 1 1) 64], .agg [.q (mkRat 0 1) 64, .q (mkRat 1 1) 64]]
def smV (L : Int) : PV := lkC (mkRat L 1) (mkRat (-2) 1) (mkRat 2 1) (mkRat 1 4) (mkRat 1 10) (smC L)
def smL (L : Int) : Lk := ⟨mkRat L 1, mkRat (-2) 1, mkRat 2 1, mkRat 1 4, mkRat 1 10, 4, fun i => dq (fldV ((smC L).get i) 0), fun i => dq (fldV ((smC L).get i) 1)⟩
/-- The arm sample(3, 2). -/
def A32 : Am := ⟨⟨#[111, 110, 101]⟩, mkRat 0 1, mkRat 0 1, mkRat 0 1, 2, fun j => smL ([(3 : Int), 2].getD j 0)⟩
theorem t32 : (evF Tryd.prog O32 [(3, l32)] pol32 Tryd.f32 [.lst 1 (.ints .i64 [3, 2])] [] retK).run = some (.ret (frA ⟨#[111, 110, 101]⟩ (mkRat 0 1) (mkRat 0 1) (mkRat 0 1) (.fr 16 (.vals [smV 3, smV 2]))) []) := by
  rw [e32 ()]
  repeat rw [Tr.run_t (by decide)]
  rw [Tr.run_f (by decide)]
  repeat rw [Tr.run_t (by decide)]
  rw [Tr.run_ok]
  rfl
theorem smV_le (L : Int) : VLe (smV L) (lkPV (smL L)) := by
  refine VLe.agg (VLeL.cons (.refl _) (VLeL.cons (.refl _) (VLeL.cons (.refl _) (VLeL.cons (.refl _) (VLeL.cons (.refl _) (VLeL.cons ?_ .nil))))))
  refine VLe.lst rfl fun i hi => ?_
  have hi' : i < 4 := hi
  match i, hi' with
  | 0, _ => exact .refl _
  | 1, _ => exact .refl _
  | 2, _ => exact .refl _
  | 3, _ => exact .refl _
  | i + 4, h => omega
noncomputable def s32s : Spec := fun args hs K => match args, hs with
  | [.lst 1 (.ints .i64 l)], [] => .br (decide (l = [3, 2])) (K (armFr A32) []) (.no 1)
  | _, _ => .no 1
include hG in
theorem ok32s : SpecOK Tryd.prog G 32 s32s := by
  refine spec_of hG (.cons (ok23 hG) (.cons (ok84 hG) .nil)) mix enter32 (O := O32) (L := [(3, l32)]) (pol := pol32) fun args hs K x h => ?_
  unfold s32s at h
  split at h
  case h_2 => cases h
  rename_i l
  obtain ⟨hc, hr⟩ := Tr.of_br h
  obtain rfl := of_decide_eq_true hc
  refine ⟨lps1 (b := b32) (live := [2, 3, 11, 12, 13]) (sp := l32) (m := 0) (by kernel_rfl) (by kernel_rfl) (by kernel_rfl) (unr_ok hG (.cons (ok23 hG) (.cons (ok84 hG) .nil)) mix (LpsOK.none (by kernel_rfl)) 3), _, _, _, t32, ?_, hr⟩
  refine rle_arm _ _ _ _ _ _ _ rfl fun i u hu => ?_
  match i, hu with
  | 0, hu => obtain rfl := Option.some.inj hu; exact ⟨rfl, smV_le 3⟩
  | 1, hu => obtain rfl := Option.some.inj hu; exact ⟨rfl, smV_le 2⟩
  | i + 2, hu => simp at hu
theorem armB_32 : armB A32 = true := by kernel_rfl
end Go.Proofs.YtejfdhcigkgbmaaDoor.PE
