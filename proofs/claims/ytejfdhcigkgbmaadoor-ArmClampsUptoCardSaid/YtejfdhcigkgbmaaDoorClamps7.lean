/-
  Part 7 of the proof: contracts of the program's functions. Conditions: those of the theorems below.
-/
import Derived.Test.YtejfdhcigkgbmaaDoorClamps6
import Derived.Test.YtejfdhcigkgbmaaDoorClamps2
import Derived.RowKit3
import GoSem.ClaimChange
import Derived.Test.YtejfdhcigkgbmaaDoorClamps3
import Derived.ChangeSlices
import Derived.WideShapes
import Derived.OpenShut
set_option linter.all false
namespace Go.Proofs.YtejfdhcigkgbmaaDoor.PE
open Go
set_option maxRecDepth 100000
variable {G : World → (Nat → Prop) → Prop} (hG : GOk G)

def isA (as' : List PV) (C : Prop) (args : List PV) : Prop := args = as' ∧ C
/-- A function at one list of arguments. -/
noncomputable def cst (as' : List PV) (C : Prop) (r : PV) : Spec := fun args hs K => match hs with
  | [] => .br (decP (isA as' C args)) (K r []) (.no 1)
  | _ => .no 1
theorem cst_ok {P : Program} {g : Nat} {as' : List PV} {C : Prop} {r : PV} (h : C → PC P G g as' [] r []) : SpecOK P G g (cst as' C r) := by
  intro args hs K x hh
  unfold cst at hh
  split at hh
  case h_2 => cases hh
  obtain ⟨hc, hr⟩ := Tr.of_br hh
  obtain ⟨rfl, hC⟩ := decP_iff.1 hc
  exact ⟨_, _, h hC, hr⟩
/-! ArmClamps -/
noncomputable def b5 : Code := (loopsOf (bodyC Tryd.f5)).getD 0 .skip
def pol5 : Pol := { live := [(10, [2, 9, 10, 54, 55])], own := [32, 65] }
theorem enter5 : Enters Tryd.prog 5 Tryd.f5 (bodyC Tryd.f5) := ⟨Tryd.func5, by kernel_rfl, rfl⟩
def isF (A : Am) (C : List Rat → Prop) (a : PV) (qs : List Rat) : Prop := a = armPV A ∧ C qs
/-- A function of an arm and joint values that gives joint values. -/
noncomputable def famF (A : Am) (C : List Rat → Prop) (F : List Rat → List Rat) : Spec := fun args hs K => match args, hs with
  | [a, .lst 3 (.rats 64 qs)], [] => .br (decP (isF A C a qs)) (K (.tup [.fr 3 (.rats 64 (F qs)), .i .i64 0]) []) (.no 1)
  | _, _ => .no 1
noncomputable def famB (A : Am) (C : List Rat → Prop) (F : List Rat → Bool) : Spec := fun args hs K => match args, hs with
  | [a, .lst 3 (.rats 64 qs)], [] => .br (decP (isF A C a qs)) (.br (F qs) (K (.i .i64 0) []) (K (.i .i64 17) [])) (.no 1)
  | _, _ => .no 1
def st5 (k : PV) (A : Am) (xs : List Rat) (n i : Int) : LS := ⟨[.w k, .ptr 0 12 0 0 [], .sl 1 3 0 xs.length, .i .i64 n, .i .i64 i], [some ⟨12, .vals [armPV A]⟩, some ⟨3, .rats 64 xs⟩]⟩
theorem r5 (k : PV) (A : Am) (xs : List Rat) (n i : Int) : evRound Tryd.prog [(21, s21), (36, s36), (37, s37)] [] pol5 Tryd.f5.ntmps 0 [2, 9, 10, 54, 55] b5 (st5 k A xs n i) =
  Tr.br (decide (i < n))
    (Tr.br (decide ((0 : Int) ≤ i) && decide (i < (↑xs.length : Int)))
      (Tr.br (((0 : Nat) + i.toNat + (1 : Nat)).ble xs.length)
        (Tr.br (okW k && decide ((intsW k).length ≤ (4294967295 : Nat)))
          (Tr.br (nilW k)
            (Tr.br (Nat.blt (0 : Nat) [(0 : Int)].length && [(0 : Int)].length.ble (4294967296 : Nat))
              (Tr.br (okW k)
                (Tr.br
                  (decide ((0 : Int) ≤ if (↑(intsW k).length : Int) < i then (↑(intsW k).length : Int) else i) &&
                    decide
                      ((if (↑(intsW k).length : Int) < i then (↑(intsW k).length : Int) else i) <
                        (↑[(0 : Int)].length : Int)))
                  (Tr.br
                    (((0 : Nat) + (if (↑(intsW k).length : Int) < i then (↑(intsW k).length : Int) else i).toNat +
                          (1 : Nat)).ble
                      [(0 : Int)].length)
                    (Tr.br
                      (inI
                        ([(0 : Int)].getD
                          ((0 : Nat) + (if (↑(intsW k).length : Int) < i then (↑(intsW k).length : Int) else i).toNat)
                          (0 : Int)))
                      (Tr.br
                        (s32 (xs.getD ((0 : Nat) + i.toNat) (0 : Rat)) &&
                              s32
                                (rtV
                                  ([(0 : Int)].getD
                                    ((0 : Nat) +
                                      (if (↑(intsW k).length : Int) < i then (↑(intsW k).length : Int) else i).toNat)
                                    (0 : Int))) &&
                            decide
                              ((xs.getD ((0 : Nat) + i.toNat) (0 : Rat)).num.natAbs *
                                  (rtV
                                      ([(0 : Int)].getD
                                        ((0 : Nat) +
                                          (if (↑(intsW k).length : Int) < i then (↑(intsW k).length : Int) else i).toNat)
                                        (0 : Int))).den <
                                (72057594037927936 : Nat)) &&
                          decide
                            ((rtV
                                      ([(0 : Int)].getD
                                        ((0 : Nat) +
                                          (if (↑(intsW k).length : Int) < i then (↑(intsW k).length : Int) else i).toNat)
                                        (0 : Int))).num.natAbs *
                                (xs.getD ((0 : Nat) + i.toNat) (0 : Rat)).den <
                              (72057594037927936 : Nat)))
                        (Tr.br (decide ((0 : Int) ≤ i) && decide (i < (↑xs.length : Int)))
                          (Tr.br (((0 : Nat) + i.toNat + (1 : Nat)).ble xs.length)
                            (Tr.br
                              (decide ((-9223372036854775808 : Int) ≤ i + (1 : Int)) &&
                                decide (i + (1 : Int) ≤ (9223372036854775807 : Int)))
                              (Tr.ok
                                (Res.out Exit.normal
                                  {
                                    t :=
                                      [k.w, PV.ptr (0) (12) (0) (0) [],
                                        PV.sl (1) (3) (0) xs.length, PV.i IntKind.i64 n,
                                        PV.i IntKind.i64 (i + (1 : Int))],
                                    h :=
                                      [some
                                          { e := 12,
                                            c :=
                                              Cont.vals
                                                [PV.agg
                                                    [PV.s A.name,
                                                      PV.agg
                                                        [PV.agg [PV.q A.bx (64), PV.q A.by_ (64)],
                                                          PV.agg [PV.bl false, PV.q A.t (64)]],
                                                      PV.lst (16)
                                                        (Cont.fn A.n fun (j : Nat) =>
                                                          PV.agg
                                                            [PV.q (A.lk j).len (64),
                                                              PV.q (A.lk j).low (64),
                                                              PV.q (A.lk j).high (64),
                                                              PV.q (A.lk j).spd (64),
                                                              PV.q (A.lk j).brk (64),
                                                              PV.lst (6)
                                                                (Cont.fn (A.lk j).np fun (a : Nat) =>
                                                                  PV.agg
                                                                    [PV.q ((A.lk j).px a) (64),
                                                                      PV.q ((A.lk j).py a) (64)])])]] },
                                        some
                                          { e := 3,
                                            c :=
                                              Cont.rats (64)
                                                (xs.set ((0 : Nat) + i.toNat)
                                                  (xs.getD ((0 : Nat) + i.toNat) (0 : Rat) +
                                                    rtV
                                                      ([(0 : Int)].getD
                                                        ((0 : Nat) +
                                                          (if (↑(intsW k).length : Int) < i then (↑(intsW k).length : Int)
                                                            else i).toNat)
                                                        (0 : Int)))) }] }))
                              (Tr.no (14002)))
                            (Tr.no (13001)))
                          (Tr.no (13002)))
                        (Tr.no (1)))
                      (Tr.no (1)))
                    (Tr.no (13005)))
                  (Tr.no (13006)))
                (Tr.no (13008)))
              (Tr.no (13011)))
            (Tr.br
              ((intsW k).length.ble (intsW k).length && ((intsW k).length + [(0 : Int)].length).ble (4294967296 : Nat))
              (Tr.br (okW k)
                (Tr.br
                  (decide ((0 : Int) ≤ if (↑(intsW k).length : Int) < i then (↑(intsW k).length : Int) else i) &&
                    decide
                      ((if (↑(intsW k).length : Int) < i then (↑(intsW k).length : Int) else i) <
                        (↑((intsW k).length + [(0 : Int)].length) : Int)))
                  (Tr.br
                    (((0 : Nat) + (if (↑(intsW k).length : Int) < i then (↑(intsW k).length : Int) else i).toNat +
                          (1 : Nat)).ble
                      (List.take (intsW k).length (List.drop (0 : Nat) (intsW k)) ++ [(0 : Int)]).length)
                    (Tr.br
                      (inI
                        ((List.take (intsW k).length (List.drop (0 : Nat) (intsW k)) ++ [(0 : Int)]).getD
                          ((0 : Nat) + (if (↑(intsW k).length : Int) < i then (↑(intsW k).length : Int) else i).toNat)
                          (0 : Int)))
                      (Tr.br
                        (s32 (xs.getD ((0 : Nat) + i.toNat) (0 : Rat)) &&
                              s32
                                (rtV
                                  ((List.take (intsW k).length (List.drop (0 : Nat) (intsW k)) ++ [(0 : Int)]).getD
                                    ((0 : Nat) +
                                      (if (↑(intsW k).length : Int) < i then (↑(intsW k).length : Int) else i).toNat)
                                    (0 : Int))) &&
                            decide
                              ((xs.getD ((0 : Nat) + i.toNat) (0 : Rat)).num.natAbs *
                                  (rtV
                                      ((List.take (intsW k).length (List.drop (0 : Nat) (intsW k)) ++ [(0 : Int)]).getD
                                        ((0 : Nat) +
                                          (if (↑(intsW k).length : Int) < i then (↑(intsW k).length : Int) else i).toNat)
                                        (0 : Int))).den <
                                (72057594037927936 : Nat)) &&
                          decide
                            ((rtV
                                      ((List.take (intsW k).length (List.drop (0 : Nat) (intsW k)) ++ [(0 : Int)]).getD
                                        ((0 : Nat) +
                                          (if (↑(intsW k).length : Int) < i then (↑(intsW k).length : Int) else i).toNat)
                                        (0 : Int))).num.natAbs *
                                (xs.getD ((0 : Nat) + i.toNat) (0 : Rat)).den <
                              (72057594037927936 : Nat)))
                        (Tr.br (decide ((0 : Int) ≤ i) && decide (i < (↑xs.length : Int)))
                          (Tr.br (((0 : Nat) + i.toNat + (1 : Nat)).ble xs.length)
                            (Tr.br
                              (decide ((-9223372036854775808 : Int) ≤ i + (1 : Int)) &&
                                decide (i + (1 : Int) ≤ (9223372036854775807 : Int)))
                              (Tr.ok
                                (Res.out Exit.normal
                                  {
                                    t :=
                                      [k.w, PV.ptr (0) (12) (0) (0) [],
                                        PV.sl (1) (3) (0) xs.length, PV.i IntKind.i64 n,
                                        PV.i IntKind.i64 (i + (1 : Int))],
                                    h :=
                                      [some
                                          { e := 12,
                                            c :=
                                              Cont.vals
                                                [PV.agg
                                                    [PV.s A.name,
                                                      PV.agg
                                                        [PV.agg [PV.q A.bx (64), PV.q A.by_ (64)],
                                                          PV.agg [PV.bl false, PV.q A.t (64)]],
                                                      PV.lst (16)
                                                        (Cont.fn A.n fun (j : Nat) =>
                                                          PV.agg
                                                            [PV.q (A.lk j).len (64),
                                                              PV.q (A.lk j).low (64),
                                                              PV.q (A.lk j).high (64),
                                                              PV.q (A.lk j).spd (64),
                                                              PV.q (A.lk j).brk (64),
                                                              PV.lst (6)
                                                                (Cont.fn (A.lk j).np fun (a : Nat) =>
                                                                  PV.agg
                                                                    [PV.q ((A.lk j).px a) (64),
                                                                      PV.q ((A.lk j).py a) (64)])])]] },
                                        some
                                          { e := 3,
                                            c :=
                                              Cont.rats (64)
                                                (xs.set ((0 : Nat) + i.toNat)
                                                  (xs.getD ((0 : Nat) + i.toNat) (0 : Rat) +
                                                    rtV
                                                      ((List.take (Cont.ints IntKind.i64 (intsW k)).len
                                                              (List.drop (0 : Nat) (intsW k)) ++
                                                            [(0 : Int)]).getD
                                                        ((0 : Nat) +
                                                          (if (↑(intsW k).length : Int) < i then (↑(intsW k).length : Int)
                                                            else i).toNat)
                                                        (0 : Int)))) }] }))
                              (Tr.no (14002)))
                            (Tr.no (13001)))
                          (Tr.no (13002)))
                        (Tr.no (1)))
                      (Tr.no (1)))
                    (Tr.no (13005)))
                  (Tr.no (13006)))
                (Tr.no (13008)))
              (Tr.no (13011))))
          (Tr.no (1)))
        (Tr.no (13015)))
      (Tr.no (13016)))
    (Tr.ok
      (Res.out (Exit.exit (0))
        {
          t :=
            [k.w, PV.ptr (0) (12) (0) (0) [],
              PV.sl (1) (3) (0) xs.length, PV.i IntKind.i64 n, PV.i IntKind.i64 i],
          h :=
            [some
                { e := 12,
                  c :=
                    Cont.vals
                      [PV.agg
                          [PV.s A.name,
                            PV.agg
                              [PV.agg [PV.q A.bx (64), PV.q A.by_ (64)],
                                PV.agg [PV.bl false, PV.q A.t (64)]],
                            PV.lst (16)
                              (Cont.fn A.n fun (j : Nat) =>
                                PV.agg
                                  [PV.q (A.lk j).len (64), PV.q (A.lk j).low (64),
                                    PV.q (A.lk j).high (64), PV.q (A.lk j).spd (64),
                                    PV.q (A.lk j).brk (64),
                                    PV.lst (6)
                                      (Cont.fn (A.lk j).np fun (a : Nat) =>
                                        PV.agg
                                          [PV.q ((A.lk j).px a) (64), PV.q ((A.lk j).py a) (64)])])]] },
              some { e := 3, c := Cont.rats (64) xs }] })) := by kernel_rfl
/-- The number that is added to a joint value. -/
def kx (k : PV) (j : Nat) : Int := (intsW k ++ [0]).getD (if ((intsW k).length : Int) < (j : Int) then ((intsW k).length : Int) else (j : Int)).toNat 0
def updL (k : PV) (qs : List Rat) : Nat → List Rat
  | 0 => qs
  | j + 1 => (updL k qs j).set j ((updL k qs j).getD j 0 + rtV (kx k j))
theorem updL_len (k : PV) (qs : List Rat) : ∀ j, (updL k qs j).length = qs.length
  | 0 => rfl
  | j + 1 => by rw [updL, List.length_set, updL_len k qs j]
theorem updL_get (k : PV) (qs : List Rat) : ∀ j i, i < qs.length → (updL k qs j).getD i 0 = if i < j then qs.getD i 0 + rtV (kx k i) else qs.getD i 0
  | 0, i, h => by rw [if_neg (by omega)]; rfl
  | j + 1, i, h => by
    rw [updL, List.getD_eq_getElem?_getD, List.getElem?_set]
    by_cases hj : j = i
    · subst hj
      rw [if_pos rfl, if_pos (by rw [updL_len]; exact h), if_pos (by omega), updL_get k qs j j h, if_neg (by omega)]
      rfl
    · rw [if_neg hj, ← List.getD_eq_getElem?_getD, updL_get k qs j i h]
      by_cases h2 : i < j
      · rw [if_pos h2, if_pos (by omega)]
      · rw [if_neg h2, if_neg (by omega)]
theorem rtV_bd (x : Int) : Prof.Bd (rtV x) 64 8 := by
  have hd := rtD_range x
  have hm0 := Int.emod_nonneg (x.tdiv 6) (show 16 * rtD x + 1 ≠ 0 by omega)
  have hm1 := Int.emod_lt_of_pos (x.tdiv 6) (show 0 < 16 * rtD x + 1 by omega)
  exact ⟨Nat.le_trans (mkRat_num_le _ (by omega)) (by omega), Nat.le_trans (mkRat_den_le _ (by omega)) (by omega)⟩
theorem kx_inI {k : PV} (h : (intsW k).all inI = true) (j : Nat) : inI (kx k j) = true := by
  unfold kx
  generalize (if ((intsW k).length : Int) < (j : Int) then ((intsW k).length : Int) else (j : Int)).toNat = i
  rw [List.getD_eq_getElem?_getD, List.getElem?_append]
  by_cases hi : i < (intsW k).length
  · rw [if_pos hi, List.getElem?_eq_getElem hi]
    exact List.all_eq_true.1 h _ (List.getElem_mem _)
  · rw [if_neg hi]
    match i - (intsW k).length with
    | 0 => decide
    | n + 1 => rfl
theorem step5 (k : PV) (A : Am) (xs : List Rat) (j : Nat) (hw : okW k = true) (hl : (intsW k).length ≤ 4294967295) (hk : (intsW k).all inI = true) (hx : xs.length ≤ 3) (hj : j < xs.length) (hb : Prof.Bd (xs.getD j 0) 30000000 8000000) :
    (evRound Tryd.prog [(21, s21), (36, s36), (37, s37)] [] pol5 Tryd.f5.ntmps 0 [2, 9, 10, 54, 55] b5 (st5 k A xs (xs.length : Nat) (j : Nat))).run =
      some (.out .normal (st5 k A (xs.set j (xs.getD j 0 + rtV (kx k j))) ((xs.set j (xs.getD j 0 + rtV (kx k j))).length : Nat) ((j + 1 : Nat) : Int))) := by
  have hkx := kx_inI hk j
  have hr := rtV_bd (kx k j)
  have c1 : (s32 (xs.getD j 0) && s32 (rtV (kx k j)) && decide ((xs.getD j 0).num.natAbs * (rtV (kx k j)).den < 72057594037927936) && decide ((rtV (kx k j)).num.natAbs * (xs.getD j 0).den < 72057594037927936)) = true := by
    have m1 := Nat.mul_le_mul hb.1 hr.2
    have m2 := Nat.mul_le_mul hr.1 hb.2
    rw [Bd32' hb (by omega) (by omega), Bd32' hr (by omega) (by omega)]
    simp only [Bool.true_and, Bool.and_eq_true, decide_eq_true_eq]
    exact ⟨by omega, by omega⟩
  have ej : 0 + ((j : Nat) : Int).toNat = j := by omega
  rw [r5, Int.toNat_natCast, Nat.zero_add, List.length_set]
  rw [Tr.run_t (decide_eq_true (by omega)), Tr.run_t (by simp only [Bool.and_eq_true, decide_eq_true_eq]; omega), Tr.run_t (by rw [Nat.ble_eq]; omega), Tr.run_t (by rw [hw, decide_eq_true hl]; rfl)]
  cases hn : nilW k with
  | true =>
    have hk0 : intsW k = [] := by
      unfold nilW at hn
      split at hn
      · rfl
      · cases hn
    have ek : kx k j = [(0 : Int)].getD (0 + (if ((intsW k).length : Int) < (j : Int) then ((intsW k).length : Int) else (j : Int)).toNat) 0 := by
      unfold kx
      rw [hk0, Nat.zero_add]
      rfl
    rw [Tr.run_t rfl, ← ek]
    rw [Tr.run_t (by rfl), Tr.run_t hw, Tr.run_t (by rw [hk0]; simp only [Bool.and_eq_true, decide_eq_true_eq, List.length_nil, List.length_cons]; split <;> omega),
      Tr.run_t (by rw [hk0]; simp only [Nat.ble_eq, List.length_nil, List.length_cons]; split <;> omega), Tr.run_t hkx, Tr.run_t c1,
      Tr.run_t (by simp only [Bool.and_eq_true, decide_eq_true_eq]; omega), Tr.run_t (by rw [Nat.ble_eq]; omega), Tr.run_t (by simp only [Bool.and_eq_true, decide_eq_true_eq]; omega), Tr.run_ok]
    unfold st5
    rw [List.length_set]
    rfl
  | false =>
    have ek : kx k j = (List.take (intsW k).length (List.drop 0 (intsW k)) ++ [(0 : Int)]).getD (0 + (if ((intsW k).length : Int) < (j : Int) then ((intsW k).length : Int) else (j : Int)).toNat) 0 := by
      unfold kx
      rw [Nat.zero_add, List.drop_zero, List.take_length]
    rw [Tr.run_f rfl, ← ek]
    rw [Tr.run_t (by simp only [Bool.and_eq_true, Nat.ble_eq, List.length_nil, List.length_cons]; omega), Tr.run_t hw, Tr.run_t (by simp only [Bool.and_eq_true, decide_eq_true_eq, List.length_nil, List.length_cons]; split <;> omega),
      Tr.run_t (by simp only [Nat.ble_eq, List.length_append, List.drop_zero, List.take_length, List.length_nil, List.length_cons]; split <;> omega), Tr.run_t hkx, Tr.run_t c1,
      Tr.run_t (by simp only [Bool.and_eq_true, decide_eq_true_eq]; omega), Tr.run_t (by rw [Nat.ble_eq]; omega), Tr.run_t (by simp only [Bool.and_eq_true, decide_eq_true_eq]; omega), Tr.run_ok]
    unfold st5
    rw [List.length_set, show (Cont.ints IntKind.i64 (intsW k)).len = (intsW k).length from rfl, ← ek]
    rfl
/-- What the loop needs. -/
def Pl5 (k : PV) (A : Am) (qs q2 : List Rat) (z : PV) (m : Nat) (xs : List Rat) (n i : Int) : Prop :=
  okW k = true ∧ (intsW k).length ≤ 4294967295 ∧ (intsW k).all inI = true ∧ z = armPV A ∧ xs = qs ∧ m = qs.length ∧ n = qs.length ∧ i = 0 ∧ qs.length ≤ 3 ∧ (∀ j, j < qs.length → Prof.Bd (qs.getD j 0) 30000000 8000000) ∧ q2 = updL k qs qs.length
noncomputable def l5 (A : Am) (qs q2 : List Rat) : LSpec := fun ls K => match ls with
  | ⟨[.w k, .ptr 0 12 0 0 [], .sl 1 3 0 m, .i .i64 n, .i .i64 i], [some ⟨12, .vals [z]⟩, some ⟨3, .rats 64 xs⟩]⟩ =>
    .br (decP (Pl5 k A qs q2 z m xs n i)) (K (.exit 0) (st5 k A q2 n n)) (.no 1)
  | _ => .no 1
include hG in
theorem loop5 (A : Am) (qs q2 : List Rat) : LoopOK Tryd.prog G Tryd.f5.ntmps 0 [2, 9, 10, 54, 55] b5 (l5 A qs q2) := by
  intro ls K y hm h
  unfold l5 at h
  split at h
  case h_2 => cases h
  rename_i k m n i z xs
  obtain ⟨hc, hr⟩ := Tr.of_br h
  obtain ⟨hw, hl, hk, rfl, rfl, rfl, rfl, rfl, hn, hb, rfl⟩ := decP_iff.1 hc
  have hg := Goes.count (R := Rnd Tryd.prog G Tryd.f5.ntmps 0 [2, 9, 10, 54, 55] b5) (fun i => st5 k A (updL k xs i) ((updL k xs i).length : Nat) ((i : Nat) : Int)) (e := .exit 0) (ls' := st5 k A (updL k xs xs.length) ((updL k xs xs.length).length : Nat) (xs.length : Nat)) (by simp) xs.length 0
    (fun i _ hi => round_ok hG (.cons (ok21 hG) (.cons (ok36 hG) (.cons (ok37 hG) .nil))) mix (L := []) (pol := pol5) (O := [(21, s21), (36, s36), (37, s37)]) (LpsOK.none (by kernel_rfl)) (Nat.zero_le _) (by
      refine step5 k A (updL k xs i) i hw hl hk (by rw [updL_len]; exact hn) (by rw [updL_len]; omega) ?_
      rw [updL_get k xs i i (by omega), if_neg (by omega)]
      exact hb i (by omega)))
    (by
      refine round_ok hG (.cons (ok21 hG) (.cons (ok36 hG) (.cons (ok37 hG) .nil))) mix (L := []) (pol := pol5) (O := [(21, s21), (36, s36), (37, s37)]) (LpsOK.none (by kernel_rfl)) (Nat.zero_le _) ?_
      rw [Nat.zero_add, r5, Tr.run_f (decide_eq_false (by rw [updL_len]; omega)), Tr.run_ok]
      rfl)
  refine ⟨_, _, goes_ok hg, ?_⟩
  rw [updL_len]
  exact hr
noncomputable def O5 (l m : PV) (S A : Am) (five : Rat) (C1 C2 C3 C4 : Prop) (qs : List Rat) (C : List Rat → Prop) (F : List Rat → List Rat) (B : List Rat → Bool) : Orc :=
  [(15, cst [.w l] C1 (armFr A)), (19, s19), (23, s23), (31, cst [armPV S] C2 (.tup [.q five 64, .i .i64 0])), (32, cst [.lst 1 (.ints .i64 [3, 2])] C3 (armFr S)), (33, cst [armPV A, .w m] C4 (.fr 3 (.rats 64 qs))), (34, famF A C F), (35, famB A C B)]
theorem e5 (l m k : PV) (S A : Am) (five : Rat) (C1 C2 C3 C4 : Prop) (qs q2 : List Rat) (C : List Rat → Prop) (F : List Rat → List Rat) (B : List Rat → Bool) : evF Tryd.prog (O5 l m S A five C1 C2 C3 C4 qs C F B) [(10, l5 A qs q2)] pol5 Tryd.f5 [.w l, .w m, .w k] [] retK =
  Tr.br
    (decP
      (isA [PV.lst (1) (Cont.ints IntKind.i64 [(3 : Int), (2 : Int)])] C3
        [PV.lst (1) (Cont.ints IntKind.i64 [(3 : Int), (2 : Int)])]))
    (Tr.br (((0 : Nat) + S.n).ble S.n)
      (Tr.br
        (decP
          (isA
            [PV.agg
                [PV.s S.name,
                  PV.agg
                    [PV.agg [PV.q S.bx (64), PV.q S.by_ (64)],
                      PV.agg [PV.bl false, PV.q S.t (64)]],
                  PV.lst (16)
                    (Cont.fn S.n fun (j : Nat) =>
                      PV.agg
                        [PV.q (S.lk j).len (64), PV.q (S.lk j).low (64), PV.q (S.lk j).high (64),
                          PV.q (S.lk j).spd (64), PV.q (S.lk j).brk (64),
                          PV.lst (6)
                            (Cont.fn (S.lk j).np fun (a : Nat) =>
                              PV.agg [PV.q ((S.lk j).px a) (64), PV.q ((S.lk j).py a) (64)])])]]
            C2
            [PV.agg
                [PV.s S.name,
                  PV.agg
                    [PV.agg [PV.q S.bx (64), PV.q S.by_ (64)],
                      PV.agg [PV.bl false, PV.q S.t (64)]],
                  PV.lst (16)
                    (Cont.fn S.n fun (j : Nat) =>
                      PV.agg
                        [PV.q (S.lk (j + (0 : Nat))).len (64), PV.q (S.lk (j + (0 : Nat))).low (64),
                          PV.q (S.lk (j + (0 : Nat))).high (64), PV.q (S.lk (j + (0 : Nat))).spd (64),
                          PV.q (S.lk (j + (0 : Nat))).brk (64),
                          PV.lst (6)
                            (Cont.fn (S.lk (j + (0 : Nat))).np fun (a : Nat) =>
                              PV.agg
                                [PV.q ((S.lk (j + (0 : Nat))).px a) (64),
                                  PV.q ((S.lk (j + (0 : Nat))).py a) (64)])])]]))
        (Tr.br (!decide ((0 : Int) = (0 : Int))) (Tr.ok (Res.ret (PV.bl false) []))
          (Tr.br
            (decide ((0 : Int) < (1 : Int)) && decide ((1 : Int) < (4611686018427387904 : Int)) &&
                decide ((-4611686018427387904 : Int) < (5 : Int)) &&
              decide ((5 : Int) < (4611686018427387904 : Int)))
            (Tr.br (!decide (five = mkRat (5 : Int) (Int.toNat (1 : Int)))) (Tr.ok (Res.ret (PV.bl false) []))
              (Tr.br (decP (isA [l.w] C1 [l.w]))
                (Tr.br (((0 : Nat) + A.n).ble A.n)
                  (Tr.br
                    (decP
                      (isA
                        [PV.agg
                            [PV.s A.name,
                              PV.agg
                                [PV.agg [PV.q A.bx (64), PV.q A.by_ (64)],
                                  PV.agg [PV.bl false, PV.q A.t (64)]],
                              PV.lst (16)
                                (Cont.fn A.n fun (j : Nat) =>
                                  PV.agg
                                    [PV.q (A.lk j).len (64), PV.q (A.lk j).low (64),
                                      PV.q (A.lk j).high (64), PV.q (A.lk j).spd (64),
                                      PV.q (A.lk j).brk (64),
                                      PV.lst (6)
                                        (Cont.fn (A.lk j).np fun (a : Nat) =>
                                          PV.agg
                                            [PV.q ((A.lk j).px a) (64), PV.q ((A.lk j).py a) (64)])])],
                          m.w]
                        C4
                        [PV.agg
                            [PV.s A.name,
                              PV.agg
                                [PV.agg [PV.q A.bx (64), PV.q A.by_ (64)],
                                  PV.agg [PV.bl false, PV.q A.t (64)]],
                              PV.lst (16)
                                (Cont.fn A.n fun (j : Nat) =>
                                  PV.agg
                                    [PV.q (A.lk (j + (0 : Nat))).len (64),
                                      PV.q (A.lk (j + (0 : Nat))).low (64),
                                      PV.q (A.lk (j + (0 : Nat))).high (64),
                                      PV.q (A.lk (j + (0 : Nat))).spd (64),
                                      PV.q (A.lk (j + (0 : Nat))).brk (64),
                                      PV.lst (6)
                                        (Cont.fn (A.lk (j + (0 : Nat))).np fun (a : Nat) =>
                                          PV.agg
                                            [PV.q ((A.lk (j + (0 : Nat))).px a) (64),
                                              PV.q ((A.lk (j + (0 : Nat))).py a) (64)])])],
                          m.w]))
                    (Tr.br (((0 : Nat) + qs.length).ble qs.length)
                      (Tr.br
                        (decP
                          (isF A C
                            (PV.agg
                              [PV.s A.name,
                                PV.agg
                                  [PV.agg [PV.q A.bx (64), PV.q A.by_ (64)],
                                    PV.agg [PV.bl false, PV.q A.t (64)]],
                                PV.lst (16)
                                  (Cont.fn A.n fun (j : Nat) =>
                                    PV.agg
                                      [PV.q (A.lk (j + (0 : Nat))).len (64),
                                        PV.q (A.lk (j + (0 : Nat))).low (64),
                                        PV.q (A.lk (j + (0 : Nat))).high (64),
                                        PV.q (A.lk (j + (0 : Nat))).spd (64),
                                        PV.q (A.lk (j + (0 : Nat))).brk (64),
                                        PV.lst (6)
                                          (Cont.fn (A.lk (j + (0 : Nat))).np fun (a : Nat) =>
                                            PV.agg
                                              [PV.q ((A.lk (j + (0 : Nat))).px a) (64),
                                                PV.q ((A.lk (j + (0 : Nat))).py a) (64)])])])
                            (List.take qs.length (List.drop (0 : Nat) qs))))
                        (Tr.br
                          (((0 : Nat) + (F (List.take qs.length (List.drop (0 : Nat) qs))).length).ble
                            (F (List.take qs.length (List.drop (0 : Nat) qs))).length)
                          (Tr.br (!decide ((0 : Int) = (0 : Int))) (Tr.ok (Res.ret (PV.bl false) []))
                            (Tr.br (((0 : Nat) + qs.length).ble qs.length)
                              (Tr.br
                                (decide
                                  ((List.take (F (List.take qs.length (List.drop (0 : Nat) qs))).length
                                        (List.drop (0 : Nat) (F (List.take qs.length (List.drop (0 : Nat) qs))))).length ≤
                                    (1073741824 : Nat)))
                                (Tr.br
                                  (decide
                                    (List.take (F (List.take qs.length (List.drop (0 : Nat) qs))).length
                                        (List.drop (0 : Nat) (F (List.take qs.length (List.drop (0 : Nat) qs)))) =
                                      List.take qs.length (List.drop (0 : Nat) qs)))
                                  (Tr.br (((0 : Nat) + qs.length).ble qs.length)
                                    (Tr.br
                                      (decP
                                        (isF A C
                                          (PV.agg
                                            [PV.s A.name,
                                              PV.agg
                                                [PV.agg [PV.q A.bx (64), PV.q A.by_ (64)],
                                                  PV.agg [PV.bl false, PV.q A.t (64)]],
                                              PV.lst (16)
                                                (Cont.fn A.n fun (j : Nat) =>
                                                  PV.agg
                                                    [PV.q (A.lk (j + (0 : Nat))).len (64),
                                                      PV.q (A.lk (j + (0 : Nat))).low (64),
                                                      PV.q (A.lk (j + (0 : Nat))).high (64),
                                                      PV.q (A.lk (j + (0 : Nat))).spd (64),
                                                      PV.q (A.lk (j + (0 : Nat))).brk (64),
                                                      PV.lst (6)
                                                        (Cont.fn (A.lk (j + (0 : Nat))).np fun (a : Nat) =>
                                                          PV.agg
                                                            [PV.q ((A.lk (j + (0 : Nat))).px a) (64),
                                                              PV.q ((A.lk (j + (0 : Nat))).py a) (64)])])])
                                          (List.take qs.length (List.drop (0 : Nat) qs))))
                                      (Tr.br (B (List.take qs.length (List.drop (0 : Nat) qs)))
                                        (Tr.br (!decide ((0 : Int) = (0 : Int))) (Tr.ok (Res.ret (PV.bl false) []))
                                          (Tr.br
                                            (decP
                                              (Pl5 k A qs q2
                                                (PV.agg
                                                  [PV.s A.name,
                                                    PV.agg
                                                      [PV.agg [PV.q A.bx (64), PV.q A.by_ (64)],
                                                        PV.agg [PV.bl false, PV.q A.t (64)]],
                                                    PV.lst (16)
                                                      (Cont.fn A.n fun (j : Nat) =>
                                                        PV.agg
                                                          [PV.q (A.lk (j + (0 : Nat))).len (64),
                                                            PV.q (A.lk (j + (0 : Nat))).low (64),
                                                            PV.q (A.lk (j + (0 : Nat))).high (64),
                                                            PV.q (A.lk (j + (0 : Nat))).spd (64),
                                                            PV.q (A.lk (j + (0 : Nat))).brk (64),
                                                            PV.lst (6)
                                                              (Cont.fn (A.lk (j + (0 : Nat))).np fun (a : Nat) =>
                                                                PV.agg
                                                                  [PV.q ((A.lk (j + (0 : Nat))).px a) (64),
                                                                    PV.q ((A.lk (j + (0 : Nat))).py a) (64)])])])
                                                qs.length qs (↑qs.length : Int) (0 : Int)))
                                            (Tr.br (((0 : Nat) + q2.length).ble q2.length)
                                              (Tr.br
                                                (decP
                                                  (isF A C
                                                    (PV.agg
                                                      [PV.s A.name,
                                                        PV.agg
                                                          [PV.agg [PV.q A.bx (64), PV.q A.by_ (64)],
                                                            PV.agg [PV.bl false, PV.q A.t (64)]],
                                                        PV.lst (16)
                                                          (Cont.fn A.n fun (j : Nat) =>
                                                            PV.agg
                                                              [PV.q (A.lk j).len (64),
                                                                PV.q (A.lk j).low (64),
                                                                PV.q (A.lk j).high (64),
                                                                PV.q (A.lk j).spd (64),
                                                                PV.q (A.lk j).brk (64),
                                                                PV.lst (6)
                                                                  (Cont.fn (A.lk j).np fun (a : Nat) =>
                                                                    PV.agg
                                                                      [PV.q ((A.lk j).px a) (64),
                                                                        PV.q ((A.lk j).py a) (64)])])])
                                                    (List.take q2.length (List.drop (0 : Nat) q2))))
                                                (Tr.br
                                                  (((0 : Nat) +
                                                        (F (List.take q2.length (List.drop (0 : Nat) q2))).length).ble
                                                    (F (List.take q2.length (List.drop (0 : Nat) q2))).length)
                                                  (Tr.br (decide ((0 : Int) = (0 : Int)))
                                                    (Tr.br
                                                      (decP
                                                        (isF A C
                                                          (PV.agg
                                                            [PV.s A.name,
                                                              PV.agg
                                                                [PV.agg [PV.q A.bx (64), PV.q A.by_ (64)],
                                                                  PV.agg [PV.bl false, PV.q A.t (64)]],
                                                              PV.lst (16)
                                                                (Cont.fn A.n fun (j : Nat) =>
                                                                  PV.agg
                                                                    [PV.q (A.lk j).len (64),
                                                                      PV.q (A.lk j).low (64),
                                                                      PV.q (A.lk j).high (64),
                                                                      PV.q (A.lk j).spd (64),
                                                                      PV.q (A.lk j).brk (64),
                                                                      PV.lst (6)
                                                                        (Cont.fn (A.lk j).np fun (a : Nat) =>
                                                                          PV.agg
                                                                            [PV.q ((A.lk j).px a) (64),
                                                                              PV.q ((A.lk j).py a) (64)])])])
                                                          (List.take
                                                            (F (List.take q2.length (List.drop (0 : Nat) q2))).length
                                                            (List.drop (0 : Nat)
                                                              (F (List.take q2.length (List.drop (0 : Nat) q2)))))))
                                                      (Tr.br
                                                        (B
                                                          (List.take
                                                            (F (List.take q2.length (List.drop (0 : Nat) q2))).length
                                                            (List.drop (0 : Nat)
                                                              (F (List.take q2.length (List.drop (0 : Nat) q2))))))
                                                        (Tr.br (decide ((0 : Int) = (0 : Int)))
                                                          (Tr.br (((0 : Nat) + q2.length).ble q2.length)
                                                            (Tr.br
                                                              (decP
                                                                (isF A C
                                                                  (PV.agg
                                                                    [PV.s A.name,
                                                                      PV.agg
                                                                        [PV.agg
                                                                            [PV.q A.bx (64),
                                                                              PV.q A.by_ (64)],
                                                                          PV.agg [PV.bl false, PV.q A.t (64)]],
                                                                      PV.lst (16)
                                                                        (Cont.fn A.n fun (j : Nat) =>
                                                                          PV.agg
                                                                            [PV.q (A.lk j).len (64),
                                                                              PV.q (A.lk j).low (64),
                                                                              PV.q (A.lk j).high (64),
                                                                              PV.q (A.lk j).spd (64),
                                                                              PV.q (A.lk j).brk (64),
                                                                              PV.lst (6)
                                                                                (Cont.fn (A.lk j).np fun (a : Nat) =>
                                                                                  PV.agg
                                                                                    [PV.q ((A.lk j).px a) (64),
                                                                                      PV.q ((A.lk j).py a)
                                                                                        (64)])])])
                                                                  (List.take q2.length (List.drop (0 : Nat) q2))))
                                                              (Tr.br (B (List.take q2.length (List.drop (0 : Nat) q2)))
                                                                (Tr.br (!decide ((0 : Int) = (0 : Int)))
                                                                  (Tr.ok (Res.ret (PV.bl true) []))
                                                                  (Tr.br (((0 : Nat) + q2.length).ble q2.length)
                                                                    (Tr.br
                                                                      (decide
                                                                        ((List.take
                                                                              (F
                                                                                  (List.take q2.length
                                                                                    (List.drop (0 : Nat) q2))).length
                                                                              (List.drop (0 : Nat)
                                                                                (F
                                                                                  (List.take q2.length
                                                                                    (List.drop (0 : Nat) q2))))).length ≤
                                                                          (1073741824 : Nat)))
                                                                      (Tr.br
                                                                        (decide
                                                                          (List.take
                                                                              (F
                                                                                  (List.take q2.length
                                                                                    (List.drop (0 : Nat) q2))).length
                                                                              (List.drop (0 : Nat)
                                                                                (F
                                                                                  (List.take q2.length
                                                                                    (List.drop (0 : Nat) q2)))) =
                                                                            List.take q2.length (List.drop (0 : Nat) q2)))
                                                                        (Tr.ok (Res.ret (PV.bl true) []))
                                                                        (Tr.ok (Res.ret (PV.bl false) [])))
                                                                      (Tr.no (1)))
                                                                    (Tr.no (16004))))
                                                                (Tr.br (!decide ((17 : Int) = (0 : Int)))
                                                                  (Tr.ok (Res.ret (PV.bl true) []))
                                                                  (Tr.br (((0 : Nat) + q2.length).ble q2.length)
                                                                    (Tr.br
                                                                      (decide
                                                                        ((List.take
                                                                              (F
                                                                                  (List.take q2.length
                                                                                    (List.drop (0 : Nat) q2))).length
                                                                              (List.drop (0 : Nat)
                                                                                (F
                                                                                  (List.take q2.length
                                                                                    (List.drop (0 : Nat) q2))))).length ≤
                                                                          (1073741824 : Nat)))
                                                                      (Tr.br
                                                                        (decide
                                                                          (List.take
                                                                              (F
                                                                                  (List.take q2.length
                                                                                    (List.drop (0 : Nat) q2))).length
                                                                              (List.drop (0 : Nat)
                                                                                (F
                                                                                  (List.take q2.length
                                                                                    (List.drop (0 : Nat) q2)))) =
                                                                            List.take q2.length (List.drop (0 : Nat) q2)))
                                                                        (Tr.ok (Res.ret (PV.bl true) []))
                                                                        (Tr.ok (Res.ret (PV.bl false) [])))
                                                                      (Tr.no (1)))
                                                                    (Tr.no (16004)))))
                                                              (Tr.no (1)))
                                                            (Tr.no (16009)))
                                                          (Tr.ok (Res.ret (PV.bl false) [])))
                                                        (Tr.br (decide ((17 : Int) = (0 : Int)))
                                                          (Tr.br (((0 : Nat) + q2.length).ble q2.length)
                                                            (Tr.br
                                                              (decP
                                                                (isF A C
                                                                  (PV.agg
                                                                    [PV.s A.name,
                                                                      PV.agg
                                                                        [PV.agg
                                                                            [PV.q A.bx (64),
                                                                              PV.q A.by_ (64)],
                                                                          PV.agg [PV.bl false, PV.q A.t (64)]],
                                                                      PV.lst (16)
                                                                        (Cont.fn A.n fun (j : Nat) =>
                                                                          PV.agg
                                                                            [PV.q (A.lk j).len (64),
                                                                              PV.q (A.lk j).low (64),
                                                                              PV.q (A.lk j).high (64),
                                                                              PV.q (A.lk j).spd (64),
                                                                              PV.q (A.lk j).brk (64),
                                                                              PV.lst (6)
                                                                                (Cont.fn (A.lk j).np fun (a : Nat) =>
                                                                                  PV.agg
                                                                                    [PV.q ((A.lk j).px a) (64),
                                                                                      PV.q ((A.lk j).py a)
                                                                                        (64)])])])
                                                                  (List.take q2.length (List.drop (0 : Nat) q2))))
                                                              (Tr.br (B (List.take q2.length (List.drop (0 : Nat) q2)))
                                                                (Tr.br (!decide ((0 : Int) = (0 : Int)))
                                                                  (Tr.ok (Res.ret (PV.bl true) []))
                                                                  (Tr.br (((0 : Nat) + q2.length).ble q2.length)
                                                                    (Tr.br
                                                                      (decide
                                                                        ((List.take
                                                                              (F
                                                                                  (List.take q2.length
                                                                                    (List.drop (0 : Nat) q2))).length
                                                                              (List.drop (0 : Nat)
                                                                                (F
                                                                                  (List.take q2.length
                                                                                    (List.drop (0 : Nat) q2))))).length ≤
                                                                          (1073741824 : Nat)))
                                                                      (Tr.br
                                                                        (decide
                                                                          (List.take
                                                                              (F
                                                                                  (List.take q2.length
                                                                                    (List.drop (0 : Nat) q2))).length
                                                                              (List.drop (0 : Nat)
                                                                                (F
                                                                                  (List.take q2.length
                                                                                    (List.drop (0 : Nat) q2)))) =
                                                                            List.take q2.length (List.drop (0 : Nat) q2)))
                                                                        (Tr.ok (Res.ret (PV.bl true) []))
                                                                        (Tr.ok (Res.ret (PV.bl false) [])))
                                                                      (Tr.no (1)))
                                                                    (Tr.no (16004))))
                                                                (Tr.br (!decide ((17 : Int) = (0 : Int)))
                                                                  (Tr.ok (Res.ret (PV.bl true) []))
                                                                  (Tr.br (((0 : Nat) + q2.length).ble q2.length)
                                                                    (Tr.br
                                                                      (decide
                                                                        ((List.take
                                                                              (F
                                                                                  (List.take q2.length
                                                                                    (List.drop (0 : Nat) q2))).length
                                                                              (List.drop (0 : Nat)
                                                                                (F
                                                                                  (List.take q2.length
                                                                                    (List.drop (0 : Nat) q2))))).length ≤
                                                                          (1073741824 : Nat)))
                                                                      (Tr.br
                                                                        (decide
                                                                          (List.take
                                                                              (F
                                                                                  (List.take q2.length
                                                                                    (List.drop (0 : Nat) q2))).length
                                                                              (List.drop (0 : Nat)
                                                                                (F
                                                                                  (List.take q2.length
                                                                                    (List.drop (0 : Nat) q2)))) =
                                                                            List.take q2.length (List.drop (0 : Nat) q2)))
                                                                        (Tr.ok (Res.ret (PV.bl true) []))
                                                                        (Tr.ok (Res.ret (PV.bl false) [])))
                                                                      (Tr.no (1)))
                                                                    (Tr.no (16004)))))
                                                              (Tr.no (1)))
                                                            (Tr.no (16009)))
                                                          (Tr.ok (Res.ret (PV.bl false) []))))
                                                      (Tr.no (1)))
                                                    (Tr.ok (Res.ret (PV.bl false) [])))
                                                  (Tr.no (15006)))
                                                (Tr.no (1)))
                                              (Tr.no (15006)))
                                            (Tr.no (1))))
                                        (Tr.br (!decide ((17 : Int) = (0 : Int))) (Tr.ok (Res.ret (PV.bl false) []))
                                          (Tr.br
                                            (decP
                                              (Pl5 k A qs q2
                                                (PV.agg
                                                  [PV.s A.name,
                                                    PV.agg
                                                      [PV.agg [PV.q A.bx (64), PV.q A.by_ (64)],
                                                        PV.agg [PV.bl false, PV.q A.t (64)]],
                                                    PV.lst (16)
                                                      (Cont.fn A.n fun (j : Nat) =>
                                                        PV.agg
                                                          [PV.q (A.lk (j + (0 : Nat))).len (64),
                                                            PV.q (A.lk (j + (0 : Nat))).low (64),
                                                            PV.q (A.lk (j + (0 : Nat))).high (64),
                                                            PV.q (A.lk (j + (0 : Nat))).spd (64),
                                                            PV.q (A.lk (j + (0 : Nat))).brk (64),
                                                            PV.lst (6)
                                                              (Cont.fn (A.lk (j + (0 : Nat))).np fun (a : Nat) =>
                                                                PV.agg
                                                                  [PV.q ((A.lk (j + (0 : Nat))).px a) (64),
                                                                    PV.q ((A.lk (j + (0 : Nat))).py a) (64)])])])
                                                qs.length qs (↑qs.length : Int) (0 : Int)))
                                            (Tr.br (((0 : Nat) + q2.length).ble q2.length)
                                              (Tr.br
                                                (decP
                                                  (isF A C
                                                    (PV.agg
                                                      [PV.s A.name,
                                                        PV.agg
                                                          [PV.agg [PV.q A.bx (64), PV.q A.by_ (64)],
                                                            PV.agg [PV.bl false, PV.q A.t (64)]],
                                                        PV.lst (16)
                                                          (Cont.fn A.n fun (j : Nat) =>
                                                            PV.agg
                                                              [PV.q (A.lk j).len (64),
                                                                PV.q (A.lk j).low (64),
                                                                PV.q (A.lk j).high (64),
                                                                PV.q (A.lk j).spd (64),
                                                                PV.q (A.lk j).brk (64),
                                                                PV.lst (6)
                                                                  (Cont.fn (A.lk j).np fun (a : Nat) =>
                                                                    PV.agg
                                                                      [PV.q ((A.lk j).px a) (64),
                                                                        PV.q ((A.lk j).py a) (64)])])])
                                                    (List.take q2.length (List.drop (0 : Nat) q2))))
                                                (Tr.br
                                                  (((0 : Nat) +
                                                        (F (List.take q2.length (List.drop (0 : Nat) q2))).length).ble
                                                    (F (List.take q2.length (List.drop (0 : Nat) q2))).length)
                                                  (Tr.br (decide ((0 : Int) = (0 : Int)))
                                                    (Tr.br
                                                      (decP
                                                        (isF A C
                                                          (PV.agg
                                                            [PV.s A.name,
                                                              PV.agg
                                                                [PV.agg [PV.q A.bx (64), PV.q A.by_ (64)],
                                                                  PV.agg [PV.bl false, PV.q A.t (64)]],
                                                              PV.lst (16)
                                                                (Cont.fn A.n fun (j : Nat) =>
                                                                  PV.agg
                                                                    [PV.q (A.lk j).len (64),
                                                                      PV.q (A.lk j).low (64),
                                                                      PV.q (A.lk j).high (64),
                                                                      PV.q (A.lk j).spd (64),
                                                                      PV.q (A.lk j).brk (64),
                                                                      PV.lst (6)
                                                                        (Cont.fn (A.lk j).np fun (a : Nat) =>
                                                                          PV.agg
                                                                            [PV.q ((A.lk j).px a) (64),
                                                                              PV.q ((A.lk j).py a) (64)])])])
                                                          (List.take
                                                            (F (List.take q2.length (List.drop (0 : Nat) q2))).length
                                                            (List.drop (0 : Nat)
                                                              (F (List.take q2.length (List.drop (0 : Nat) q2)))))))
                                                      (Tr.br
                                                        (B
                                                          (List.take
                                                            (F (List.take q2.length (List.drop (0 : Nat) q2))).length
                                                            (List.drop (0 : Nat)
                                                              (F (List.take q2.length (List.drop (0 : Nat) q2))))))
                                                        (Tr.br (decide ((0 : Int) = (0 : Int)))
                                                          (Tr.br (((0 : Nat) + q2.length).ble q2.length)
                                                            (Tr.br
                                                              (decP
                                                                (isF A C
                                                                  (PV.agg
                                                                    [PV.s A.name,
                                                                      PV.agg
                                                                        [PV.agg
                                                                            [PV.q A.bx (64),
                                                                              PV.q A.by_ (64)],
                                                                          PV.agg [PV.bl false, PV.q A.t (64)]],
                                                                      PV.lst (16)
                                                                        (Cont.fn A.n fun (j : Nat) =>
                                                                          PV.agg
                                                                            [PV.q (A.lk j).len (64),
                                                                              PV.q (A.lk j).low (64),
                                                                              PV.q (A.lk j).high (64),
                                                                              PV.q (A.lk j).spd (64),
                                                                              PV.q (A.lk j).brk (64),
                                                                              PV.lst (6)
                                                                                (Cont.fn (A.lk j).np fun (a : Nat) =>
                                                                                  PV.agg
                                                                                    [PV.q ((A.lk j).px a) (64),
                                                                                      PV.q ((A.lk j).py a)
                                                                                        (64)])])])
                                                                  (List.take q2.length (List.drop (0 : Nat) q2))))
                                                              (Tr.br (B (List.take q2.length (List.drop (0 : Nat) q2)))
                                                                (Tr.br (!decide ((0 : Int) = (0 : Int)))
                                                                  (Tr.ok (Res.ret (PV.bl true) []))
                                                                  (Tr.br (((0 : Nat) + q2.length).ble q2.length)
                                                                    (Tr.br
                                                                      (decide
                                                                        ((List.take
                                                                              (F
                                                                                  (List.take q2.length
                                                                                    (List.drop (0 : Nat) q2))).length
                                                                              (List.drop (0 : Nat)
                                                                                (F
                                                                                  (List.take q2.length
                                                                                    (List.drop (0 : Nat) q2))))).length ≤
                                                                          (1073741824 : Nat)))
                                                                      (Tr.br
                                                                        (decide
                                                                          (List.take
                                                                              (F
                                                                                  (List.take q2.length
                                                                                    (List.drop (0 : Nat) q2))).length
                                                                              (List.drop (0 : Nat)
                                                                                (F
                                                                                  (List.take q2.length
                                                                                    (List.drop (0 : Nat) q2)))) =
                                                                            List.take q2.length (List.drop (0 : Nat) q2)))
                                                                        (Tr.ok (Res.ret (PV.bl true) []))
                                                                        (Tr.ok (Res.ret (PV.bl false) [])))
                                                                      (Tr.no (1)))
                                                                    (Tr.no (16004))))
                                                                (Tr.br (!decide ((17 : Int) = (0 : Int)))
                                                                  (Tr.ok (Res.ret (PV.bl true) []))
                                                                  (Tr.br (((0 : Nat) + q2.length).ble q2.length)
                                                                    (Tr.br
                                                                      (decide
                                                                        ((List.take
                                                                              (F
                                                                                  (List.take q2.length
                                                                                    (List.drop (0 : Nat) q2))).length
                                                                              (List.drop (0 : Nat)
                                                                                (F
                                                                                  (List.take q2.length
                                                                                    (List.drop (0 : Nat) q2))))).length ≤
                                                                          (1073741824 : Nat)))
                                                                      (Tr.br
                                                                        (decide
                                                                          (List.take
                                                                              (F
                                                                                  (List.take q2.length
                                                                                    (List.drop (0 : Nat) q2))).length
                                                                              (List.drop (0 : Nat)
                                                                                (F
                                                                                  (List.take q2.length
                                                                                    (List.drop (0 : Nat) q2)))) =
                                                                            List.take q2.length (List.drop (0 : Nat) q2)))
                                                                        (Tr.ok (Res.ret (PV.bl true) []))
                                                                        (Tr.ok (Res.ret (PV.bl false) [])))
                                                                      (Tr.no (1)))
                                                                    (Tr.no (16004)))))
                                                              (Tr.no (1)))
                                                            (Tr.no (16009)))
                                                          (Tr.ok (Res.ret (PV.bl false) [])))
                                                        (Tr.br (decide ((17 : Int) = (0 : Int)))
                                                          (Tr.br (((0 : Nat) + q2.length).ble q2.length)
                                                            (Tr.br
                                                              (decP
                                                                (isF A C
                                                                  (PV.agg
                                                                    [PV.s A.name,
                                                                      PV.agg
                                                                        [PV.agg
                                                                            [PV.q A.bx (64),
                                                                              PV.q A.by_ (64)],
                                                                          PV.agg [PV.bl false, PV.q A.t (64)]],
                                                                      PV.lst (16)
                                                                        (Cont.fn A.n fun (j : Nat) =>
                                                                          PV.agg
                                                                            [PV.q (A.lk j).len (64),
                                                                              PV.q (A.lk j).low (64),
                                                                              PV.q (A.lk j).high (64),
                                                                              PV.q (A.lk j).spd (64),
                                                                              PV.q (A.lk j).brk (64),
                                                                              PV.lst (6)
                                                                                (Cont.fn (A.lk j).np fun (a : Nat) =>
                                                                                  PV.agg
                                                                                    [PV.q ((A.lk j).px a) (64),
                                                                                      PV.q ((A.lk j).py a)
                                                                                        (64)])])])
                                                                  (List.take q2.length (List.drop (0 : Nat) q2))))
                                                              (Tr.br (B (List.take q2.length (List.drop (0 : Nat) q2)))
                                                                (Tr.br (!decide ((0 : Int) = (0 : Int)))
                                                                  (Tr.ok (Res.ret (PV.bl true) []))
                                                                  (Tr.br (((0 : Nat) + q2.length).ble q2.length)
                                                                    (Tr.br
                                                                      (decide
                                                                        ((List.take
                                                                              (F
                                                                                  (List.take q2.length
                                                                                    (List.drop (0 : Nat) q2))).length
                                                                              (List.drop (0 : Nat)
                                                                                (F
                                                                                  (List.take q2.length
                                                                                    (List.drop (0 : Nat) q2))))).length ≤
                                                                          (1073741824 : Nat)))
                                                                      (Tr.br
                                                                        (decide
                                                                          (List.take
                                                                              (F
                                                                                  (List.take q2.length
                                                                                    (List.drop (0 : Nat) q2))).length
                                                                              (List.drop (0 : Nat)
                                                                                (F
                                                                                  (List.take q2.length
                                                                                    (List.drop (0 : Nat) q2)))) =
                                                                            List.take q2.length (List.drop (0 : Nat) q2)))
                                                                        (Tr.ok (Res.ret (PV.bl true) []))
                                                                        (Tr.ok (Res.ret (PV.bl false) [])))
                                                                      (Tr.no (1)))
                                                                    (Tr.no (16004))))
                                                                (Tr.br (!decide ((17 : Int) = (0 : Int)))
                                                                  (Tr.ok (Res.ret (PV.bl true) []))
                                                                  (Tr.br (((0 : Nat) + q2.length).ble q2.length)
                                                                    (Tr.br
                                                                      (decide
                                                                        ((List.take
                                                                              (F
                                                                                  (List.take q2.length
                                                                                    (List.drop (0 : Nat) q2))).length
                                                                              (List.drop (0 : Nat)
                                                                                (F
                                                                                  (List.take q2.length
                                                                                    (List.drop (0 : Nat) q2))))).length ≤
                                                                          (1073741824 : Nat)))
                                                                      (Tr.br
                                                                        (decide
                                                                          (List.take
                                                                              (F
                                                                                  (List.take q2.length
                                                                                    (List.drop (0 : Nat) q2))).length
                                                                              (List.drop (0 : Nat)
                                                                                (F
                                                                                  (List.take q2.length
                                                                                    (List.drop (0 : Nat) q2)))) =
                                                                            List.take q2.length (List.drop (0 : Nat) q2)))
                                                                        (Tr.ok (Res.ret (PV.bl true) []))
                                                                        (Tr.ok (Res.ret (PV.bl false) [])))
                                                                      (Tr.no (1)))
                                                                    (Tr.no (16004)))))
                                                              (Tr.no (1)))
                                                            (Tr.no (16009)))
                                                          (Tr.ok (Res.ret (PV.bl false) []))))
                                                      (Tr.no (1)))
                                                    (Tr.ok (Res.ret (PV.bl false) [])))
                                                  (Tr.no (15006)))
                                                (Tr.no (1)))
                                              (Tr.no (15006)))
                                            (Tr.no (1)))))
                                      (Tr.no (1)))
                                    (Tr.no (8003)))
                                  (Tr.ok (Res.ret (PV.bl false) [])))
                                (Tr.no (1)))
                              (Tr.no (8009))))
                          (Tr.no (7006)))
                        (Tr.no (1)))
                      (Tr.no (7006)))
                    (Tr.no (1)))
                  (Tr.no (5003)))
                (Tr.no (1))))
            (Tr.no (1))))
        (Tr.no (1)))
      (Tr.no (2008)))
    (Tr.no (1)) := by kernel_rfl
end Go.Proofs.YtejfdhcigkgbmaaDoor.PE
namespace Go.Proofs.YtejfdhcigkgbmaaDoor.PE
open Go
set_option maxRecDepth 100000
variable {G : World → (Nat → Prop) → Prop} (hG : GOk G)

/-! The plain law: joint values between limits, clamped -/
theorem cf0_eq (l h : Rat) (k : Int) : cf0 l h k = l + (h - l) * (k : Rat) / 8 := by
  have d1 : 0 < (l.den : Int) := by have := l.den_pos; omega
  have d2 : 0 < (h.den : Int) := by have := h.den_pos; omega
  have e1 : (((8 : Int) * (l.den : Int) * (h.den : Int)).toNat : Int) = 8 * (l.den : Int) * (h.den : Int) := Int.toNat_of_nonneg (Int.le_of_lt (Int.mul_pos (by omega) d2))
  have r1 : (l.den : Rat) ≠ 0 := by have := l.den_nz; exact_mod_cast this
  have r2 : (h.den : Rat) ≠ 0 := by have := h.den_nz; exact_mod_cast this
  have hl := (Rat.mkRat_eq_div l.num l.den).symm.trans (Rat.mkRat_self l)
  have hh := (Rat.mkRat_eq_div h.num h.den).symm.trans (Rat.mkRat_self h)
  unfold cf0
  rw [Rat.mkRat_eq_div]
  have e2 : ((((8 : Int) * (l.den : Int) * (h.den : Int)).toNat : Nat) : Rat) = 8 * (l.den : Rat) * (h.den : Rat) := by
    have : ((((8 : Int) * (l.den : Int) * (h.den : Int)).toNat : Int) : Rat) = ((8 * (l.den : Int) * (h.den : Int) : Int) : Rat) := by rw [e1]
    push_cast at this
    exact this
  rw [e2]
  push_cast
  generalize (l.num : Rat) = n at *
  generalize (h.num : Rat) = m at *
  generalize (l.den : Rat) = d at *
  generalize (h.den : Rat) = e at *
  rw [← hl, ← hh]
  grind
theorem cf0_in {l h : Rat} {k : Int} (hlh : l ≤ h) (h0 : 0 ≤ k) (h8 : k ≤ 8) : l ≤ cf0 l h k ∧ cf0 l h k ≤ h := by
  have k0 : (0 : Rat) ≤ (k : Rat) := by exact_mod_cast h0
  have k8 : (k : Rat) ≤ 8 := by exact_mod_cast h8
  have p0 : 0 ≤ (h - l) * (k : Rat) := Rat.mul_nonneg (by grind) k0
  have p1 : 0 ≤ (h - l) * (8 - (k : Rat)) := Rat.mul_nonneg (by grind) (by grind)
  have p2 : (h - l) * (8 - (k : Rat)) = 8 * (h - l) - (h - l) * (k : Rat) := by grind
  rw [p2] at p1
  rw [cf0_eq]
  generalize (h - l) * (k : Rat) = p at *
  exact ⟨by grind, by grind⟩
theorem cf0_bd {l h : Rat} {k : Int} (hl : smX l = true) (hh : smX h = true) (h0 : 0 ≤ k) (h8 : k ≤ 8) : Prof.Bd (cf0 l h k) 30000000 8000000 := by
  obtain ⟨a1, a2⟩ := smX_iff.1 hl
  obtain ⟨a3, a4⟩ := smX_iff.1 hh
  have d1 := l.den_pos
  have d2 := h.den_pos
  have b1 : ((8 : Int) * l.num * (h.den : Int)).natAbs ≤ 8 * 1000 * 1000 := nabs_mul (nabs_mul (by omega) (by omega)) (by omega)
  have b2 : (h.num * (l.den : Int)).natAbs ≤ 1000 * 1000 := nabs_mul (by omega) (by omega)
  have b3 : (l.num * (h.den : Int)).natAbs ≤ 1000 * 1000 := nabs_mul (by omega) (by omega)
  have b4 : ((h.num * (l.den : Int) - l.num * (h.den : Int)) * k).natAbs ≤ 2000000 * 8 := nabs_mul (by omega) (by omega)
  have b5 : ((8 : Int) * (l.den : Int) * (h.den : Int)).natAbs ≤ 8 * 1000 * 1000 := nabs_mul (nabs_mul (by omega) (by omega)) (by omega)
  have b6 : 0 < (8 : Int) * (l.den : Int) * (h.den : Int) := Int.mul_pos (by omega) (by omega)
  exact ⟨Nat.le_trans (mkRat_num_le _ (by omega)) (by omega), Nat.le_trans (mkRat_den_le _ (by omega)) (by omega)⟩
theorem getD_map_range (f : Nat → Rat) {n j : Nat} (h : j < n) : ((List.range n).map f).getD j 0 = f j := by
  rw [List.getD_eq_getElem?_getD, List.getElem?_map, List.getElem?_range h]; rfl
theorem fitB_iff {A : Am} {qs : List Rat} : fitB A qs = true ↔ ∀ j, j < A.n → (A.lk j).low ≤ qs.getD j 0 ∧ qs.getD j 0 ≤ (A.lk j).high := by
  simp [fitB, fit1]
theorem cl1_in (lk : Nat → Lk) (qs : List Rat) (j : Nat) (h : (lk j).low < (lk j).high) : (lk j).low ≤ cl1 lk qs j ∧ cl1 lk qs j ≤ (lk j).high := by
  unfold cl1 mx Prof.mn
  grind
theorem cl1_id (lk : Nat → Lk) (qs : List Rat) (j : Nat) (h : (lk j).low ≤ qs.getD j 0) (h' : qs.getD j 0 ≤ (lk j).high) : cl1 lk qs j = qs.getD j 0 := by
  unfold cl1 mx Prof.mn
  grind
theorem clL_id {A : Am} {qs : List Rat} (hl : qs.length = A.n) (h : fitB A qs = true) : clL A.lk qs A.n = qs := by
  apply List.ext_getElem
  · rw [clL_len, hl]
  · intro j h1 h2
    rw [clL_len] at h1
    have := fitB_iff.1 h j h1
    have e := cl1_id A.lk qs j this.1 this.2
    simp only [clL, List.getElem_map, List.getElem_range]
    rw [e, List.getD_eq_getElem?_getD, List.getElem?_eq_getElem h2]
    rfl
theorem clL_fit {A : Am} {qs : List Rat} (h : armB A = true) : fitB A (clL A.lk qs A.n) = true := by
  obtain ⟨-, -, -, -, -, -, h7⟩ := armB_c h
  refine fitB_iff.2 fun j hj => ?_
  unfold clL
  rw [getD_map_range _ hj]
  exact cl1_in _ _ _ (lkB_c (h7 j hj)).2.2.2.2.2.2.1
theorem all_of_getD {p : Rat → Bool} {qs : List Rat} (h : ∀ j, j < qs.length → p (qs.getD j 0) = true) : qs.all p = true := by
  refine List.all_eq_true.2 fun x hx => ?_
  obtain ⟨j, hj, rfl⟩ := List.getElem_of_mem hx
  have := h j hj
  rwa [List.getD_eq_getElem?_getD, List.getElem?_eq_getElem hj] at this
theorem clL_s32 {A : Am} {qs : List Rat} (h : armB A = true) (hl : qs.length = A.n) (hq : qs.all s32 = true) : (clL A.lk qs A.n).all s32 = true := by
  obtain ⟨-, -, -, -, -, -, h7⟩ := armB_c h
  refine all_of_getD fun j hj => ?_
  rw [clL_len] at hj
  unfold clL
  rw [getD_map_range _ hj]
  have k := lkB_c (h7 j hj)
  exact mx_s32 (smQ_s32 k.2.1) (mn_s32 (smQ_s32 k.2.2.1) (all_get hq (by omega)))
theorem cfL_fit {A : Am} {m : PV} (h : armB A = true) : fitB A (cfL A.lk m A.n) = true := by
  obtain ⟨-, -, -, -, -, -, h7⟩ := armB_c h
  refine fitB_iff.2 fun j hj => ?_
  unfold cfL
  rw [getD_map_range _ hj]
  have g := nx_range (itRs j m) (show (0 : Int) < 9 by omega)
  exact cf0_in (Rat.le_of_lt (lkB_c (h7 j hj)).2.2.2.2.2.2.1) g.1 (by omega)
theorem limX_j {A : Am} (h : limX A = true) {j : Nat} (hj : j < A.n) : smX (A.lk j).low = true ∧ smX (A.lk j).high = true := by
  have := List.all_eq_true.1 h j (List.mem_range.2 hj)
  rwa [Bool.and_eq_true] at this
theorem cfL_bd {A : Am} {m : PV} (h : limX A = true) {j : Nat} (hj : j < A.n) : Prof.Bd ((cfL A.lk m A.n).getD j 0) 30000000 8000000 := by
  unfold cfL
  rw [getD_map_range _ hj]
  have g := nx_range (itRs j m) (show (0 : Int) < 9 by omega)
  exact cf0_bd (limX_j h hj).1 (limX_j h hj).2 g.1 (by omega)
theorem cfL_s32 {A : Am} {m : PV} (h : limX A = true) : (cfL A.lk m A.n).all s32 = true := by
  refine all_of_getD fun j hj => ?_
  rw [cfL_len] at hj
  exact Bd32' (cfL_bd h hj) (by omega) (by omega)
theorem updL_s32 {A : Am} {m : PV} (k : PV) (h : limX A = true) : (updL k (cfL A.lk m A.n) (cfL A.lk m A.n).length).all s32 = true := by
  refine all_of_getD fun j hj => ?_
  rw [updL_len] at hj
  rw [updL_get _ _ _ _ hj, if_pos hj]
  rw [cfL_len] at hj
  exact Bd32' ((cfL_bd h hj).add (rtV_bd _)) (by omega) (by omega)
theorem limX_V (v : PV) : limX (armD v) = true := by
  refine List.all_eq_true.2 fun j _ => ?_
  rw [Bool.and_eq_true]
  have small : ∀ (n : Int), n.natAbs < 1000 → smX (mkRat n (Int.toNat 3)) = true := fun n hn => smX_iff.2 ⟨Nat.lt_of_le_of_lt (mkRat_num_le n (by decide)) hn, Nat.lt_of_le_of_lt (mkRat_den_le n (by decide)) (by decide)⟩
  have g1 := nx_range (rs (itR6 j (rs (rs (rs v))))) (show (0 : Int) < 6 by omega)
  have g2 := nx_range (rs (rs (itR6 j (rs (rs (rs v)))))) (show (0 : Int) < 6 by omega)
  exact ⟨small _ (by omega), small _ (by omega)⟩
/-! ArmClamps -/
theorem pc_spec {g : Nat} {sp : Spec} (h : SpecOK Tryd.prog G g sp) {args : List PV} {hs hs' : List Blk} {r : PV} (e : (sp args hs retK).run = some (.ret r hs')) : PC Tryd.prog G g args hs r hs' := by
  obtain ⟨r1, hs1, h1, h2⟩ := h _ _ _ _ e
  simp [retK, Tr.run] at h2
  obtain ⟨rfl, rfl⟩ := h2
  exact h1
theorem famF_ok {g : Nat} {A : Am} {C : List Rat → Prop} {F : List Rat → List Rat} (h : ∀ qs, C qs → PC Tryd.prog G g [armPV A, .lst 3 (.rats 64 qs)] [] (.tup [.fr 3 (.rats 64 (F qs)), .i .i64 0]) []) : SpecOK Tryd.prog G g (famF A C F) := by
  intro args hs K x hh
  unfold famF at hh
  split at hh
  case h_2 => cases hh
  obtain ⟨hc, hr⟩ := Tr.of_br hh
  obtain ⟨rfl, hC⟩ := decP_iff.1 hc
  exact ⟨_, _, h _ hC, hr⟩
theorem famB_ok {g : Nat} {A : Am} {C : List Rat → Prop} {F : List Rat → Bool} (h : ∀ qs, C qs → PC Tryd.prog G g [armPV A, .lst 3 (.rats 64 qs)] [] (if F qs then .i .i64 0 else .i .i64 17) []) : SpecOK Tryd.prog G g (famB A C F) := by
  intro args hs K x hh
  unfold famB at hh
  split at hh
  case h_2 => cases hh
  rename_i a qs
  obtain ⟨hc, hr⟩ := Tr.of_br hh
  obtain ⟨rfl, hC⟩ := decP_iff.1 hc
  have hp := h _ hC
  cases hF : F qs with
  | true => rw [Tr.run_t hF] at hr; rw [if_pos hF] at hp; exact ⟨_, _, hp, hr⟩
  | false => rw [Tr.run_f hF] at hr; rw [if_neg (by simp [hF])] at hp; exact ⟨_, _, hp, hr⟩
def C5 (A : Am) (qs : List Rat) : Prop := qs.length = A.n ∧ qs.all s32 = true
theorem sum32' : decide (sumLen A32.lk A32.n = 5) = true := by kernel_rfl
theorem sum32 : sumLen A32.lk A32.n = 5 := of_decide_eq_true sum32'
theorem len32' : (cB (A32.lk 0).len && cB (A32.lk 1).len) = true := by kernel_rfl
theorem len32 : ∀ j, j < (dArm (armPV A32)).n → cB ((dArm (armPV A32)).lk j).len = true := by
  have h := len32'
  rw [Bool.and_eq_true] at h
  intro j hj
  have hj' : j < 2 := hj
  match j, hj' with
  | 0, _ => exact h.1
  | 1, _ => exact h.2
  | j + 2, h => omega
include hG in
theorem orc5 (l m : PV) : OrcOK Tryd.prog G (O5 l m A32 (armD l) 5 (okW l = true) True True (okW m = true) (cfL (armD l).lk m (armD l).n) (C5 (armD l)) (fun qs => clL (armD l).lk qs (armD l).n) (fitB (armD l))) := by
  have hA := armB_V l
  have hX := limX_V l
  generalize hA' : armD l = A at *
  refine .cons (cst_ok fun h => ?_) (.cons (ok19 hG) (.cons (ok23 hG) (.cons (cst_ok fun _ => ?_) (.cons (cst_ok fun _ => ?_) (.cons (cst_ok fun h => ?_) (.cons (famF_ok fun qs h => ?_) (.cons (famB_ok fun qs h => ?_) .nil)))))))
  · rw [← hA']
    exact pc_spec (ok15 hG) ((Tr.run_t h).trans rfl)
  · have e : (s31 [armPV A32] [] retK).run = some (.ret (.tup [.q (sumLen A32.lk A32.n) 64, .i .i64 0]) []) := (Tr.run_t (decP_iff.2 ⟨_, rfl, okA_arm armB_32, len32⟩)).trans rfl
    rw [sum32] at e
    exact pc_spec (ok31 hG) e
  · exact pc_spec (ok32s hG) ((Tr.run_t (by decide)).trans rfl)
  · exact pc_spec (ok33 hG) ((Tr.run_t (decP_iff.2 ⟨okA_arm hA, hX, h⟩)).trans rfl)
  · exact pc_spec (ok34 hG) ((Tr.run_t (decP_iff.2 ⟨_, _, rfl, okA_arm hA, h.1, h.2⟩)).trans rfl)
  · refine pc_spec (ok35 hG) ((Tr.run_t (decP_iff.2 ⟨_, _, rfl, okA_arm hA, h.1, h.2⟩)).trans ?_)
    show (Tr.br (fitB A qs) _ _).run = _
    cases hF : fitB A qs with
    | true => rw [Tr.run_t rfl, if_pos rfl]; rfl
    | false => rw [Tr.run_f rfl, if_neg (by simp)]; rfl
end Go.Proofs.YtejfdhcigkgbmaaDoor.PE
namespace Go.Proofs.YtejfdhcigkgbmaaDoor.PE
open Go
set_option maxRecDepth 100000
variable {G : World → (Nat → Prop) → Prop} (hG : GOk G)

theorem five' : (!decide ((5 : Rat) = mkRat (5 : Int) (Int.toNat (1 : Int)))) = false := by kernel_rfl
theorem ble0 (n : Nat) : (0 + n).ble n = true := by rw [Nat.ble_eq]; omega
include hG in
/-- ArmClamps answers true. -/
theorem law5 (l m k : PV) (hl : okW l = true) (hm : okW m = true) (hk : okW k = true) (hn : (intsW k).length ≤ 4294967295) (hi : (intsW k).all inI = true) : PC Tryd.prog G 5 [.w l, .w m, .w k] [] (.bl true) [] := by
  refine evF_pc hG (orc5 hG l m) mix enter5 (L := [(10, l5 (armD l) (cfL (armD l).lk m (armD l).n) (updL k (cfL (armD l).lk m (armD l).n) (cfL (armD l).lk m (armD l).n).length))]) (pol := pol5) (lps1 (b := b5) (live := [2, 9, 10, 54, 55]) (m := 0) (by kernel_rfl) (by kernel_rfl) (by kernel_rfl) (loop5 hG (armD l) (cfL (armD l).lk m (armD l).n) (updL k (cfL (armD l).lk m (armD l).n) (cfL (armD l).lk m (armD l).n).length))) ?_
  rw [e5]
  have hA := armB_V l
  have hX := limX_V l
  generalize armD l = A at *
  obtain ⟨h1, h2, h3, h4, h5, h6, h7⟩ := armB_c hA
  have c1 : C5 A (cfL A.lk m A.n) := ⟨cfL_len _ _ _, cfL_s32 hX⟩
  have c2 : C5 A (updL k (cfL A.lk m A.n) (cfL A.lk m A.n).length) := ⟨by rw [updL_len, cfL_len], updL_s32 k hX⟩
  have b1 : fitB A (cfL A.lk m A.n) = true := cfL_fit hA
  have f1 : clL A.lk (cfL A.lk m A.n) A.n = cfL A.lk m A.n := clL_id c1.1 b1
  have p5 : Pl5 k A (cfL A.lk m A.n) (updL k (cfL A.lk m A.n) (cfL A.lk m A.n).length) (armPV A) (cfL A.lk m A.n).length (cfL A.lk m A.n) ((cfL A.lk m A.n).length : Nat) 0 :=
    ⟨hk, hn, hi, rfl, rfl, rfl, rfl, rfl, by rw [cfL_len]; exact h6, fun j hj => cfL_bd hX (by rwa [cfL_len] at hj), rfl⟩
  generalize cfL A.lk m A.n = qs at *
  generalize updL k qs qs.length = q2 at *
  have c3 : C5 A (clL A.lk q2 A.n) := ⟨clL_len _ _ _, clL_s32 hA c2.1 c2.2⟩
  have b3 : fitB A (clL A.lk q2 A.n) = true := clL_fit hA
  simp only [List.drop_zero, List.take_length]
  have l1 : (clL A.lk qs A.n).length ≤ 1073741824 := by rw [clL_len]; omega
  have l2 : (clL A.lk q2 A.n).length ≤ 1073741824 := by rw [clL_len]; omega
  have isq : ∀ q, C5 A q → decP (isF A (C5 A) (armPV A) q) = true := fun q h => decP_iff.2 ⟨rfl, h⟩
  rw [Tr.run_t (decP_iff.2 ⟨rfl, trivial⟩), Tr.run_t (ble0 _), Tr.run_t (decP_iff.2 ⟨rfl, trivial⟩), Tr.run_f (by decide), Tr.run_t (by decide), Tr.run_f five', Tr.run_t (decP_iff.2 ⟨rfl, hl⟩), Tr.run_t (ble0 _), Tr.run_t (decP_iff.2 ⟨rfl, hm⟩), Tr.run_t (ble0 _)]
  rw [Tr.run_t (by exact isq qs c1), Tr.run_t (ble0 _), Tr.run_f (by decide), Tr.run_t (ble0 _), Tr.run_t (decide_eq_true l1), Tr.run_t (decide_eq_true f1), Tr.run_t (ble0 _), Tr.run_t (by exact isq qs c1), Tr.run_t b1, Tr.run_f (by decide), Tr.run_t (by exact decP_iff.2 p5)]
  rw [Tr.run_t (ble0 _), Tr.run_t (by exact isq q2 c2), Tr.run_t (ble0 _), Tr.run_t (by decide), Tr.run_t (by exact isq _ c3), Tr.run_t b3, Tr.run_t (by decide), Tr.run_t (ble0 _), Tr.run_t (by exact isq q2 c2)]
  cases b2 : fitB A q2 with
  | true => rw [Tr.run_t rfl, Tr.run_f (by decide), Tr.run_t (ble0 _), Tr.run_t (decide_eq_true l2), Tr.run_t (decide_eq_true (clL_id c2.1 b2)), Tr.run_ok]
  | false => rw [Tr.run_f rfl, Tr.run_t (by decide), Tr.run_ok]
end Go.Proofs.YtejfdhcigkgbmaaDoor.PE
/-! From what the evaluator shows to a call. -/
namespace Go.Proofs.YtejfdhcigkgbmaaDoor.PE
open Go

theorem calls_of_does {P : Program} {g : Nat} {fn : Func} {c : Code} (hg : Enters P g fn c) {vs : Array Value} {w : World} {R : Value → World → Prop} (h : Does P g vs w R) : Calls P g vs w fun e w' => ∃ v, e = .returned v ∧ R v w' := by
  have h1 := h { dst := some 0, op := .move (.const undef), type := 0, pos := "", after := #[], guard := none } ⟨#[undef], []⟩ (fun a w' => ∃ v, a.tmps[0]? = some v ∧ R v w') (fun _ _ _ => False) (fun v w' hv => ⟨v, by simp [Act.put], hv⟩)
  have : (callFunc g vs).run P w = .ok (.enter g vs) w := by
    have hname : fn.name ≠ "runtime.NumGoroutine" := by simpa using hg.name
    simp [callFunc, hg.at_, hname, hg.body]
  rw [this, Oper.upon_enter] at h1
  refine h1.mono fun e w' he => ?_
  cases e with
  | returned v =>
    obtain ⟨v', hv, hr⟩ := he
    simp [Act.put] at hv
    subst hv
    exact ⟨v, rfl, hr⟩
  | panicked chain => exact absurd he (by simp)
  | outgrown => exact absurd he (by simp [LetsOut])
theorem HRel.none (w : World) : HRel w (fun _ => False) noMu (hget (([] : List Blk).map some)) :=
  ⟨fun b k h => by simp [hget] at h, fun b k a z h => by simp [hget] at h, fun b b' k k' a z z' h => by simp [hget] at h, fun a h => h.elim⟩
theorem keptBut_of_old {w w' : World} (h1 : w'.os = w.os) (h2 : w'.output = w.output) (h3 : ∀ n, n < w.heap.size → w'.heap[n]? = w.heap[n]?) (may : MemPlace → Prop) : w.keptBut w' may := by
  refine ⟨h1, h2, fun i hi => ?_⟩
  rw [h3 i hi]
  split
  · rename_i e1 e2
    rw [e1] at e2
    cases e2
    exact ⟨rfl, rfl, rfl, fun _ _ => rfl⟩
  · rename_i e1 e2
    rw [e1] at e2
    cases e2
    exact .inr ⟨rfl, rfl⟩
  · rfl
/-- A function of plain values that is shown to be true. -/
theorem calls_true {P : Program} {g : Nat} {fn : Func} {c : Code} (hg : Enters P g fn c) {args : List PV} (h : PC P (fun _ _ => True) g args [] (.bl true) []) {w : World} {vs : List Value} (hv : RepVL w (fun _ => False) noMu args vs) (may : MemPlace → Prop) :
    Calls P g vs.toArray w fun e w' => e = .returned (.bool true) ∧ w.keptBut w' may := by
  refine (calls_of_does hg (h w (fun _ => False) noMu vs trivial hv (HRel.none w) (fun _ _ => rfl))).mono fun e w' he => ?_
  obtain ⟨v, rfl, S', μ', c⟩ := he
  have hr := c.rep
  have : v = .bool true := by
    cases hr with
    | cell _ _ _ _ h => cases h; rfl
    | agg _ _ _ hv h => simp [isAgg, unfr, unfrA, unfr1] at hv
  subst this
  exact ⟨rfl, keptBut_of_old c.os c.output (fun n hn => c.old n hn (fun b z hb => by simp at hb)) may⟩
end Go.Proofs.YtejfdhcigkgbmaaDoor.PE
/-! Arguments that are slices of integers: what they read as, before and behind. -/
namespace Go.Proofs.YtejfdhcigkgbmaaDoor.PE
open Go Go.ChangeShapes Go.WideShapes
set_option maxRecDepth 100000

/-- A function whose answer is true, over arguments that lie in memory. -/
theorem calls_true2 {P : Program} {g : Nat} {fn : Func} {c : Code} (hg : Enters P g fn c) {args : List PV} (h : PC P (fun _ _ => True) g args [] (.bl true) []) {w : World} {S : Nat → Prop} {vs : List Value} (hS : ∀ a, S a → a < w.heap.size)
    (hv : RepVL w S noMu args vs) (may : MemPlace → Prop) :
    Calls P g vs.toArray w fun e w' => e = .returned (.bool true) ∧ w.keptBut w' may ∧ ∀ n, n < w.heap.size → w'.heap[n]? = w.heap[n]? := by
  refine (calls_of_does hg (h w S noMu vs trivial hv ⟨fun b k h => by simp [hget] at h, fun b k a z h => by simp [hget] at h, fun b b' k k' a z z' h => by simp [hget] at h, hS⟩ (fun _ _ => rfl))).mono fun e w' he => ?_
  obtain ⟨v, rfl, S', μ', c⟩ := he
  have hr := c.rep
  have : v = .bool true := by
    cases hr with
    | cell _ _ _ _ h => cases h; rfl
    | agg _ _ _ hv h => simp [isAgg, unfr, unfrA, unfr1] at hv
  subst this
  have old : ∀ n, n < w.heap.size → w'.heap[n]? = w.heap[n]? := fun n hn => c.old n hn (fun b z hb => by simp at hb)
  exact ⟨rfl, keptBut_of_old c.os c.output old may, old⟩
/-- The block of a slice. -/
def blkOf : Value → Nat → Prop
  | .slice (some a) _ _, b => b = a.block
  | _, _ => False
section
variable {H : Type} {enc : TypeId × Value → H} {P : Program} {w : World} {t e : TypeId} {base : Nat} {v : Value} {d : DataW H} {p : List MemPlace}
/-- An argument that is a slice of ints. -/
theorem arg_ints (ht : P.underlying t = some (.slice e)) (he : P.underlying e = some (.int .i64)) (hc : P.cellsOf e = 1)
    (hval : Value.okWide P w .any base t v) (h : DataW.Trod enc P w 0 (fun _ => true) true t v d p) :
    ∃ u : PV, okW u = true ∧ (∀ n ∈ intsW u, -9223372036854775808 ≤ n ∧ n ≤ 9223372036854775807) ∧ (∀ b, blkOf v b → b < w.heap.size) ∧ (∀ S : Nat → Prop, (∀ b, blkOf v b → S b) → RepV w S noMu (.w u) v) ∧
      (∀ w' : World, (∀ n, n < w.heap.size → w'.heap[n]? = w.heap[n]?) → ∃ p', DataW.Trod enc P w' 0 (fun b => decide (b < w.heap.size)) true t v d p') ∧
      ((intsW u = [] ∧ d = .nil) ∨ ∃ sp, d = .slice (lits .i64 (intsW u)) sp) := by
  have hval' := hval
  obtain ⟨a0, len, cap, rfl⟩ := okWide_slice ht hval
  obtain ⟨fuel, hf⟩ := h
  rcases open_ints ht he hc hf with ⟨hcs, hx⟩ | ⟨a, len', cap', zs, hcs, _, hl, hm, hz, hx, hcell, hwz⟩
  · simp [Value.cells] at hcs
    obtain ⟨rfl, rfl, rfl⟩ := hcs
    simp only [Prod.mk.injEq] at hx
    obtain ⟨rfl, rfl⟩ := hx
    refine ⟨.nil, rfl, fun n hn => (nomatch hn), fun b hb => hb.elim, fun S _ => .cell _ _ _ rfl (.w _ _ _ (.nil _)), fun w' _ => ⟨[], RowKit.shut_slice_nil ht⟩, .inl ⟨rfl, rfl⟩⟩
  · simp [Value.cells] at hcs
    obtain ⟨rfl, rfl, rfl⟩ := hcs
    simp only [Prod.mk.injEq] at hx
    obtain ⟨rfl, rfl⟩ := hx
    simp only [if_true] at hz
    unfold Value.okWide at hval'
    rw [ht] at hval'
    simp only [Cell.okWide, Cell.ok, ht] at hval'
    obtain ⟨_, _, _, hsp, row, cells, hsh, _⟩ := hval'
    obtain ⟨b, off, spot⟩ := a
    simp only at hsp
    subst hsp
    have hb : b < w.heap.size := by
      unfold World.shape? at hsh
      split at hsh
      · rename_i hh; exact (Array.getElem?_eq_some_iff.1 hh).1
      · cases hsh
    have hcell' : ∀ j, j < zs.length → w.cell? ⟨b, off + j, none⟩ = some (.int .i64 (zs.getD j 0)) := fun j hj => by rw [← add_plain]; exact hcell j hj
    have hlen : (zs.take len).length = len := by rw [List.length_take]; omega
    refine ⟨.lst 1 (.ints .i64 (zs.take len)), rfl, fun n hn => bounds_i64 (hwz n (List.mem_of_mem_take hn)), fun c hc => (by rw [show c = b from hc]; exact hb), fun S hS => ?_, fun w' hw' => ?_, .inr ⟨_, rfl⟩⟩
    · refine .cell _ _ _ rfl (.w _ _ _ ?_)
      have := RepC.lst (w := w) (S := S) noMu 1 (.ints .i64 (zs.take len)) b off cap (fun j => [.int .i64 ((zs.take len).getD j 0)]) (by show (zs.take len).length ≤ cap; omega) (hS b rfl)
        (fun i hi => .i _ _ _) (fun _ _ => rfl) (fun i j hi hj => by
          have hi' : i < len := by rw [← hlen]; exact hi
          obtain rfl : j = 0 := by omega
          show w.cell? ⟨b, off + (i * 1 + 0), none⟩ = _
          rw [Nat.mul_one, Nat.add_zero, hcell' i (by omega)]
          simp [List.getD_eq_getElem?_getD, hi'])
      rw [show (Cont.ints .i64 (zs.take len)).len = len from hlen] at this
      exact this
    · have hd : decide (b < w.heap.size) = true := decide_eq_true hb
      exact ⟨_, 2, shut_ints' (enc := enc) (w := w') (base := 0) (spare := fun b => decide (b < w.heap.size)) (held := true) (len := len) (cap := cap) (zs := zs) 0 ht he hc
        (Nat.zero_le b) hl hm (by simp only [hd, if_true]; exact hz) (fun i hi => by rw [cell_block (hw' b hb)]; exact hcell' i hi) hwz⟩
end
end Go.Proofs.YtejfdhcigkgbmaaDoor.PE
