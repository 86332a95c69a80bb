/-
  Part 4 of the proof: the evaluator and what it is worth. Conditions: those of the theorems below.
-/
import Derived.Test.YtejfdhcigkgbmaaDoorClamps3
set_option linter.all false
namespace Go.Proofs.YtejfdhcigkgbmaaDoor.PE
open Go
set_option maxRecDepth 100000
variable {G : World → (Nat → Prop) → Prop} (hG : GOk G)

theorem enter29 : Enters Tryd.prog 29 Tryd.f29 (bodyC Tryd.f29) := ⟨Tryd.func29, by kernel_rfl, rfl⟩
theorem e29 (x y : Rat) (n m : Nat) : evF Tryd.prog [(21, s21), (83, s83)] [] {} Tryd.f29 [.q x n, .q y m] [] retK =
  Tr.br (s64 y)
    (Tr.br
      (s32 x && s32 (-y) && decide (x.num.natAbs * (-y).den < (72057594037927936 : Nat)) &&
        decide ((-y).num.natAbs * x.den < (72057594037927936 : Nat)))
      (Tr.ok (Res.ret (PV.q (x + -y) (64)) [])) (Tr.no (1)))
    (Tr.no (1)) := by kernel_rfl
def s29 : Spec := fun args hs K => match args, hs with
  | [.q x _, .q y _], [] => .br (s32 x && s32 y && decide (x.num.natAbs * y.den < 72057594037927936) && decide (y.num.natAbs * x.den < 72057594037927936)) (K (.q (x - y) 64) []) (.no 1)
  | _, _ => .no 1
theorem s32_s64 {x : Rat} (h : s32 x = true) : s64 x = true := s32_64 h
include hG in
theorem ok29 : SpecOK Tryd.prog G 29 s29 := by
  refine spec_of hG (.cons (ok21 hG) (.cons (ok83 hG) .nil)) mix enter29 (L := []) (pol := {}) fun args hs K x h => ?_
  unfold s29 at h
  split at h
  case h_2 => cases h
  rename_i x n y m
  obtain ⟨hc, hr⟩ := Tr.of_br h
  refine ⟨LpsOK.none (by kernel_rfl), _, _, _, ?_, .refl _, hr⟩
  have hc' := hc
  simp only [Bool.and_eq_true] at hc'
  rw [e29, Tr.run_t (s32_s64 hc'.1.1.2), Tr.run_t (by rw [s32_neg, neg_natAbs, neg_den]; exact hc), Tr.run_ok, Rat.sub_eq_add_neg]
theorem enter80 : Enters Tryd.prog 80 Tryd.f80 (bodyC Tryd.f80) := ⟨Tryd.func80, by kernel_rfl, rfl⟩
theorem e80 (x y : Rat) (n m : Nat) : evF Tryd.prog [(27, s27), (74, s74)] [] {} Tryd.f80 [.q x n, .q y m] [] retK =
  Tr.br (s32 x && s32 y)
    (Tr.br (decide (rcmp x y ≤ (0 : Int)))
      (Tr.br (decide (x.num.natAbs < (18446744073709551616 : Nat)) && decide (x.den < (18446744073709551616 : Nat)))
        (Tr.ok (Res.ret (PV.q x n) [])) (Tr.no (1)))
      (Tr.br (decide (y.num.natAbs < (18446744073709551616 : Nat)) && decide (y.den < (18446744073709551616 : Nat)))
        (Tr.ok (Res.ret (PV.q y m) [])) (Tr.no (1))))
    (Tr.no (1)) := by kernel_rfl
def s80 : Spec := fun args hs K => match args, hs with
  | [.q x _, .q y _], [] => .br (s32 x && s32 y) (K (.q (Prof.mn x y) 64) []) (.no 1)
  | _, _ => .no 1
include hG in
theorem orc80 : OrcOK Tryd.prog G [(27, s27), (74, s74)] := .cons (ok27 hG) (.cons (ok74 hG) .nil)
include hG in
theorem ok80 : SpecOK Tryd.prog G 80 s80 := by
  refine spec_of hG (orc80 hG) mix enter80 (L := []) (pol := {}) fun args hs K x h => ?_
  unfold s80 at h
  split at h
  case h_2 => cases h
  rename_i x n y m
  obtain ⟨hc, hr⟩ := Tr.of_br h
  refine ⟨LpsOK.none (by kernel_rfl), ?_⟩
  have hc' := hc
  simp only [Bool.and_eq_true] at hc'
  rw [e80, Tr.run_t hc]
  unfold Prof.mn at hr
  by_cases h : x ≤ y
  · rw [if_pos h] at hr
    rw [Tr.run_t (decide_eq_true (rcmp_le.2 h)), Tr.run_t (s32_64 hc'.1)]
    exact ⟨_, _, _, rfl, rle_qq (s64_sz (s32_s64 hc'.1)), hr⟩
  · rw [if_neg h] at hr
    rw [Tr.run_f (decide_eq_false (fun h' => h (rcmp_le.1 h'))), Tr.run_t (s32_64 hc'.2)]
    exact ⟨_, _, _, rfl, rle_qq (s64_sz (s32_s64 hc'.2)), hr⟩
theorem enter86 : Enters Tryd.prog 86 Tryd.f86 (bodyC Tryd.f86) := ⟨Tryd.func86, by kernel_rfl, rfl⟩
theorem e86 (x y : Rat) (n m : Nat) : evF Tryd.prog [(27, s27), (74, s74)] [] {} Tryd.f86 [.q x n, .q y m] [] retK =
  Tr.br (s32 x && s32 y)
    (Tr.br (decide ((0 : Int) ≤ rcmp x y))
      (Tr.br (decide (x.num.natAbs < (18446744073709551616 : Nat)) && decide (x.den < (18446744073709551616 : Nat)))
        (Tr.ok (Res.ret (PV.q x n) [])) (Tr.no (1)))
      (Tr.br (decide (y.num.natAbs < (18446744073709551616 : Nat)) && decide (y.den < (18446744073709551616 : Nat)))
        (Tr.ok (Res.ret (PV.q y m) [])) (Tr.no (1))))
    (Tr.no (1)) := by kernel_rfl
def mx (x y : Rat) : Rat := if y ≤ x then x else y
def s86 : Spec := fun args hs K => match args, hs with
  | [.q x _, .q y _], [] => .br (s32 x && s32 y) (K (.q (mx x y) 64) []) (.no 1)
  | _, _ => .no 1
include hG in
theorem ok86 : SpecOK Tryd.prog G 86 s86 := by
  refine spec_of hG (orc80 hG) mix enter86 (L := []) (pol := {}) fun args hs K x h => ?_
  unfold s86 at h
  split at h
  case h_2 => cases h
  rename_i x n y m
  obtain ⟨hc, hr⟩ := Tr.of_br h
  refine ⟨LpsOK.none (by kernel_rfl), ?_⟩
  have hc' := hc
  simp only [Bool.and_eq_true] at hc'
  rw [e86, Tr.run_t hc]
  unfold mx at hr
  by_cases h : y ≤ x
  · rw [if_pos h] at hr
    rw [Tr.run_t (decide_eq_true (rcmp_ge.2 h)), Tr.run_t (s32_64 hc'.1)]
    exact ⟨_, _, _, rfl, rle_qq (s64_sz (s32_s64 hc'.1)), hr⟩
  · rw [if_neg h] at hr
    rw [Tr.run_f (decide_eq_false (fun h' => h (rcmp_ge.1 h'))), Tr.run_t (s32_64 hc'.2)]
    exact ⟨_, _, _, rfl, rle_qq (s64_sz (s32_s64 hc'.2)), hr⟩
theorem enter24 : Enters Tryd.prog 24 Tryd.f24 (bodyC Tryd.f24) := ⟨Tryd.func24, by kernel_rfl, rfl⟩
theorem e24 (x n : Int) : evF Tryd.prog [] [] {} Tryd.f24 [.i .i64 x, .i .i64 n] [] retK =
  Tr.br (!decide (n = (0 : Int)))
    (Tr.br (decide (x.tmod n < (0 : Int)))
      (Tr.br (decide ((-9223372036854775808 : Int) ≤ x.tmod n + n) && decide (x.tmod n + n ≤ (9223372036854775807 : Int)))
        (Tr.ok (Res.ret (PV.i IntKind.i64 (x.tmod n + n)) [])) (Tr.no (4002)))
      (Tr.ok (Res.ret (PV.i IntKind.i64 (x.tmod n)) [])))
    (Tr.no (2002)) := by kernel_rfl

def s24 : Spec := fun args hs K => match args, hs with
  | [.i .i64 x, .i .i64 n], [] => .br (decide (0 < n) && decide (n ≤ 4294967296)) (K (.i .i64 (x % n)) []) (.no 1)
  | _, _ => .no 1
include hG in
theorem ok24 : SpecOK Tryd.prog G 24 s24 := by
  refine spec_of hG .nil mix enter24 (L := []) (pol := {}) fun args hs K x h => ?_
  unfold s24 at h
  split at h
  case h_2 => cases h
  rename_i x n
  obtain ⟨hc, hr⟩ := Tr.of_br h
  refine ⟨LpsOK.none (by kernel_rfl), _, _, _, ?_, .refl _, hr⟩
  simp only [Bool.and_eq_true, decide_eq_true_eq] at hc
  have h1 := Int.tmod_lt_of_pos x hc.1
  have h2 := Int.emod_nonneg x (show n ≠ 0 by omega)
  have h3 := Int.emod_lt_of_pos x hc.1
  have h4 : x.tmod n = x % n ∨ x.tmod n = x % n - n := by
    rw [Int.tmod_eq_emod]
    split
    · exact .inl (by simp)
    · refine .inr ?_
      rw [Int.natAbs_of_nonneg (by omega)]
  rw [e24, Tr.run_t (by rw [Bool.not_eq_true', decide_eq_false_iff_not]; omega)]
  by_cases h : x.tmod n < 0
  · rw [Tr.run_t (decide_eq_true h), Tr.run_t (by simp only [Bool.and_eq_true, decide_eq_true_eq]; omega), Tr.run_ok, show x.tmod n + n = x % n by omega]
  · rw [Tr.run_f (decide_eq_false h), Tr.run_ok, show x.tmod n = x % n by omega]
end Go.Proofs.YtejfdhcigkgbmaaDoor.PE
/-! Reversing a list in place. -/
namespace Go.Proofs.YtejfdhcigkgbmaaDoor.PE
open Go
theorem getD_mid {α : Type} (d : α) (A B : List α) (a : α) : (A ++ a :: B).getD A.length d = a := by simp [List.getD_eq_getElem?_getD]
theorem set_mid {α : Type} (A B : List α) (a b : α) : (A ++ a :: B).set A.length b = A ++ b :: B := by simp
theorem rev_swap {α : Type} (d : α) (A M B : List α) (a b : α) :
    (A ++ a :: (M ++ b :: B)).getD A.length d = a ∧ (A ++ a :: (M ++ b :: B)).getD (A.length + M.length + 1) d = b ∧
    ((A ++ a :: (M ++ b :: B)).set A.length b).set (A.length + M.length + 1) a = (A ++ [b]) ++ (M ++ (a :: B)) := by
  have e : A ++ a :: (M ++ b :: B) = (A ++ a :: M) ++ b :: B := by simp
  have l : A.length + M.length + 1 = (A ++ a :: M).length := by simp; omega
  have l2 : A.length + M.length + 1 = (A ++ b :: M).length := by simp; omega
  refine ⟨getD_mid d A _ a, ?_, ?_⟩
  · rw [e, l]; exact getD_mid d _ B b
  · rw [set_mid, l2, show A ++ b :: (M ++ b :: B) = (A ++ b :: M) ++ b :: B by simp, set_mid]
    simp
/-- A list has at most one element, or a first and a last one. -/
theorem list_ends {α : Type} (l : List α) : l.length ≤ 1 ∨ ∃ a M b, l = a :: (M ++ [b]) := by
  cases l with
  | nil => exact .inl (by simp)
  | cons a t =>
    rcases List.eq_nil_or_concat t with h | ⟨M, b, h⟩
    · exact .inl (by simp [h])
    · exact .inr ⟨a, M, b, by rw [h]; simp⟩
/-- What holds at the end, out of steps that swap the outer ones of what is left. -/
theorem rev_goes {α : Type} {R : LS → Exit → LS → Prop} (st : List α → Int → Int → LS) (N : Nat)
    (hstep : ∀ (A M B : List α) (a b : α), (A ++ a :: (M ++ b :: B)).length = N → R (st (A ++ a :: (M ++ b :: B)) A.length ((A.length + M.length + 1 : Nat) : Int)) .normal (st ((A ++ [b]) ++ (M ++ (a :: B))) ((A.length + 1 : Nat) : Int) ((A.length + M.length : Nat) : Int)))
    (hend : ∀ (A M B : List α), (A ++ (M ++ B)).length = N → M.length ≤ 1 → ∀ (i j : Int), i = A.length → j = (A.length : Int) + M.length - 1 → R (st (A ++ (M ++ B)) i j) (.exit 0) (st (A ++ (M ++ B)) i j)) :
    ∀ (n : Nat) (A M B : List α) (i j : Int), (A ++ (M ++ B)).length = N → M.length ≤ n → i = A.length → j = (A.length : Int) + M.length - 1 → ∃ i' j', Goes R (st (A ++ (M ++ B)) i j) (.exit 0) (st (A ++ (M.reverse ++ B)) i' j') ∧ i' = (A.length + M.length / 2 : Nat) ∧ j' = (A.length : Int) + M.length - 1 - (M.length / 2 : Nat)
  | n, A, M, B, i, j, hN, hn, hi, hj => by
    rcases list_ends M with h | ⟨a, M', b, rfl⟩
    · have hr : M.reverse = M := by
        cases M with
        | nil => rfl
        | cons a t =>
          have h' : t.length + 1 ≤ 1 := h
          have : t = [] := List.eq_nil_of_length_eq_zero (by omega)
          subst this; rfl
      refine ⟨i, j, ?_, by rw [hi, show M.length / 2 = 0 by omega]; simp, by rw [hj, show M.length / 2 = 0 by omega]; simp⟩
      rw [hr]
      exact .last _ _ _ (hend A M B hN h i j hi hj) (by simp)
    · match n, hn with
      | n + 1, hn =>
        simp only [List.length_cons, List.length_append, List.length_nil] at hn hj
        obtain ⟨i', j', h1, h2, h3⟩ := rev_goes st N hstep hend n (A ++ [b]) M' (a :: B) ((A.length + 1 : Nat) : Int) ((A.length + M'.length : Nat) : Int) (by rw [← hN]; simp) (by omega) (by simp) (by simp; omega)
        refine ⟨i', j', ?_, ?_, ?_⟩
        · have e1 : A ++ (a :: (M' ++ [b]) ++ B) = A ++ a :: (M' ++ b :: B) := by simp
          have e2 : A ++ ((a :: (M' ++ [b])).reverse ++ B) = A ++ [b] ++ (M'.reverse ++ a :: B) := by simp
          rw [e1, e2, hi, show j = ((A.length + M'.length + 1 : Nat) : Int) by omega]
          exact .more _ _ _ _ (hstep A M' B a b (by rw [← e1]; exact hN)) h1
        · rw [h2]; simp; omega
        · rw [h3]; simp; omega
end Go.Proofs.YtejfdhcigkgbmaaDoor.PE
namespace Go.Proofs.YtejfdhcigkgbmaaDoor.PE
open Go
set_option maxRecDepth 100000
variable {G : World → (Nat → Prop) → Prop} (hG : GOk G)
/-! slices.Reverse of bytes, gantmake.digits, Of -/
noncomputable def b131 : Code := (loopsOf (bodyC Tryd.f131)).getD 0 .skip
def pol131 : Pol := { live := [(1, [0, 2, 3])] }
theorem enter131 : Enters Tryd.prog 131 Tryd.f131 (bodyC Tryd.f131) := ⟨Tryd.func131, by kernel_rfl, rfl⟩
theorem r131 (n : Nat) (xs : List Int) (i j : Int) : evRound Tryd.prog [] [] pol131 Tryd.f131.ntmps 1 [0, 2, 3] b131 ⟨[.sl 0 1 0 n, .i .i64 i, .i .i64 j], [some ⟨1, .ints .u8 xs⟩]⟩ =
  Tr.br (decide (i < j))
    (Tr.br (decide ((0 : Int) ≤ j) && decide (j < (↑n : Int)))
      (Tr.br (((0 : Nat) + j.toNat + (1 : Nat)).ble xs.length)
        (Tr.br (decide ((0 : Int) ≤ i) && decide (i < (↑n : Int)))
          (Tr.br (((0 : Nat) + i.toNat + (1 : Nat)).ble xs.length)
            (Tr.br (decide ((0 : Int) ≤ i) && decide (i < (↑n : Int)))
              (Tr.br (((0 : Nat) + i.toNat + (1 : Nat)).ble xs.length)
                (Tr.br (decide ((0 : Int) ≤ j) && decide (j < (↑n : Int)))
                  (Tr.br
                    (((0 : Nat) + j.toNat + (1 : Nat)).ble
                      (xs.set ((0 : Nat) + i.toNat) (xs.getD ((0 : Nat) + j.toNat) (0 : Int))).length)
                    (Tr.br
                      (decide ((-9223372036854775808 : Int) ≤ i + (1 : Int)) &&
                        decide (i + (1 : Int) ≤ (9223372036854775807 : Int)))
                      (Tr.br
                        (decide ((-9223372036854775808 : Int) ≤ j - (1 : Int)) &&
                          decide (j - (1 : Int) ≤ (9223372036854775807 : Int)))
                        (Tr.ok
                          (Res.out Exit.normal
                            {
                              t :=
                                [PV.sl (0) (1) (0) n, PV.i IntKind.i64 (i + (1 : Int)),
                                  PV.i IntKind.i64 (j - (1 : Int))],
                              h :=
                                [some
                                    { e := 1,
                                      c :=
                                        Cont.ints IntKind.u8
                                          ((xs.set ((0 : Nat) + i.toNat) (xs.getD ((0 : Nat) + j.toNat) (0 : Int))).set
                                            ((0 : Nat) + j.toNat) (xs.getD ((0 : Nat) + i.toNat) (0 : Int))) }] }))
                        (Tr.no (3003)))
                      (Tr.no (3005)))
                    (Tr.no (4001)))
                  (Tr.no (4002)))
                (Tr.no (4003)))
              (Tr.no (4004)))
            (Tr.no (4005)))
          (Tr.no (4006)))
        (Tr.no (4009)))
      (Tr.no (4010)))
    (Tr.ok
      (Res.out (Exit.exit (0))
        { t := [PV.sl (0) (1) (0) n, PV.i IntKind.i64 i, PV.i IntKind.i64 j],
          h := [some { e := 1, c := Cont.ints IntKind.u8 xs }] })) := by kernel_rfl
def st131 (xs : List Int) (i j : Int) : LS := ⟨[.sl 0 1 0 xs.length, .i .i64 i, .i .i64 j], [some ⟨1, .ints .u8 xs⟩]⟩
theorem step131 (A M B : List Int) (a b : Int) (hs : (A ++ a :: (M ++ b :: B)).length ≤ 1073741824) :
    (evRound Tryd.prog [] [] pol131 Tryd.f131.ntmps 1 [0, 2, 3] b131 (st131 (A ++ a :: (M ++ b :: B)) A.length ((A.length + M.length + 1 : Nat) : Int))).run =
      some (.out .normal (st131 ((A ++ [b]) ++ (M ++ (a :: B))) ((A.length + 1 : Nat) : Int) ((A.length + M.length : Nat) : Int))) := by
  have hl : (A ++ a :: (M ++ b :: B)).length = A.length + M.length + B.length + 2 := by simp; omega
  have hl2 : ((A ++ [b]) ++ (M ++ (a :: B))).length = A.length + M.length + B.length + 2 := by simp; omega
  obtain ⟨g1, g2, g3⟩ := rev_swap (0 : Int) A M B a b
  have hs3 : ((A ++ a :: (M ++ b :: B)).set A.length b).length = A.length + M.length + B.length + 2 := by rw [List.length_set, hl]
  unfold st131
  rw [r131]
  have e0 : 0 + ((A.length : Nat) : Int).toNat = A.length := by omega
  have e1 : 0 + ((A.length + M.length + 1 : Nat) : Int).toNat = A.length + M.length + 1 := by omega
  rw [e0, e1, g1, g2]
  repeat rw [Tr.run_t (by simp only [Bool.and_eq_true, decide_eq_true_eq, Nat.ble_eq]; omega)]
  rw [Tr.run_ok, g3, hl, hl2, show ((A.length : Nat) : Int) + 1 = ((A.length + 1 : Nat) : Int) by omega, show ((A.length + M.length + 1 : Nat) : Int) - 1 = ((A.length + M.length : Nat) : Int) by omega]
include hG in
theorem goes131 (xs : List Int) (hs : xs.length ≤ 1073741824) (j : Int) (hj : j = (xs.length : Int) - 1) : ∃ i' j', Goes (Rnd Tryd.prog G Tryd.f131.ntmps 1 [0, 2, 3] b131) (st131 xs 0 j) (.exit 0) (st131 xs.reverse i' j') ∧
    i' = (xs.length / 2 : Nat) ∧ j' = (xs.length : Int) - 1 - (xs.length / 2 : Nat) := by
  have h := rev_goes (R := Rnd Tryd.prog G Tryd.f131.ntmps 1 [0, 2, 3] b131) st131 xs.length ?_ ?_ xs.length [] xs [] 0 j (by simp) (Nat.le_refl _) rfl (by simp; omega)
  · obtain ⟨i', j', h1, h2, h3⟩ := h
    simp only [List.nil_append, List.append_nil, List.length_nil] at h1 h2 h3
    exact ⟨i', j', h1, by omega, by omega⟩
  · intro A M B a b hN
    exact round_ok hG OrcOK.nil mix (L := []) (pol := pol131) (O := []) (LpsOK.none (by kernel_rfl)) (Nat.le_refl _) (step131 A M B a b (by omega))
  · intro A M B hN hM i j hi hj
    refine round_ok hG OrcOK.nil mix (L := []) (pol := pol131) (O := []) (LpsOK.none (by kernel_rfl)) (Nat.le_refl _) ?_
    unfold st131
    rw [r131, Tr.run_f (decide_eq_false (by omega)), Tr.run_ok]
def l131 : LSpec := fun ls K => match ls with
  | ⟨[.sl 0 1 0 n, .i .i64 i, .i .i64 j], [some ⟨1, .ints .u8 xs⟩]⟩ => .br (decide (n = xs.length) && decide (i = 0) && decide (j = (xs.length : Int) - 1) && decide (xs.length ≤ 1073741824))
      (K (.exit 0) (st131 xs.reverse (xs.length / 2 : Nat) ((xs.length : Int) - 1 - (xs.length / 2 : Nat)))) (.no 1)
  | _ => .no 1
theorem e131 (n : Nat) (xs : List Int) : evF Tryd.prog [] [(1, l131)] pol131 Tryd.f131 [.sl 0 1 0 n] [⟨1, .ints .u8 xs⟩] retK =
  Tr.br
    (decide ((-9223372036854775808 : Int) ≤ (↑n : Int) - (1 : Int)) &&
      decide ((↑n : Int) - (1 : Int) ≤ (9223372036854775807 : Int)))
    (Tr.br
      (decide (n = xs.length) && decide ((0 : Int) = (0 : Int)) &&
          decide ((↑n : Int) - (1 : Int) = (↑xs.length : Int) - (1 : Int)) &&
        decide (xs.length ≤ (1073741824 : Nat)))
      (Tr.ok (Res.ret (PV.tup []) [{ e := 1, c := Cont.ints IntKind.u8 xs.reverse }])) (Tr.no (1)))
    (Tr.no (1003)) := by kernel_rfl
theorem e131n (x : Unit) : evF Tryd.prog [] [(1, unr Tryd.prog [] [] pol131 Tryd.f131.ntmps 0 [0, 2, 3] b131 1)] pol131 Tryd.f131 [.nil] [] retK =
  Tr.br
    (decide ((-9223372036854775808 : Int) ≤ (0 : Int) - (1 : Int)) &&
      decide ((0 : Int) - (1 : Int) ≤ (9223372036854775807 : Int)))
    (Tr.br (decide ((0 : Int) < (0 : Int) - (1 : Int))) (Tr.no (4010)) (Tr.ok (Res.ret (PV.tup []) [])))
    (Tr.no (1003)) := by kernel_rfl
def s131 : Spec := fun args hs K => match args, hs with
  | [.sl 0 1 0 n], [⟨1, .ints .u8 xs⟩] => .br (decide (n = xs.length) && decide (xs.length ≤ 1073741824)) (K (.tup []) [⟨1, .ints .u8 xs.reverse⟩]) (.no 1)
  | [.nil], [] => K (.tup []) []
  | _, _ => .no 1
include hG in
theorem ok131 : SpecOK Tryd.prog G 131 s131 := by
  intro args hs K x h
  unfold s131 at h
  split at h
  · rename_i n xs
    obtain ⟨hc, hr⟩ := Tr.of_br h
    simp only [Bool.and_eq_true, decide_eq_true_eq] at hc
    obtain ⟨rfl, hs⟩ := hc
    refine ⟨_, _, evF_pc hG OrcOK.nil mix enter131 (hs := [⟨1, .ints .u8 xs⟩]) (L := [(1, l131)]) (pol := pol131) (O := []) (lps1 (b := b131) (live := [0, 2, 3]) (sp := l131) (m := 1) (by kernel_rfl) (by kernel_rfl) (by kernel_rfl) ?_) ?_, hr⟩
    · intro ls K x hm h
      unfold l131 at h
      split at h
      case h_2 => cases h
      rename_i n i j xs
      obtain ⟨hc, hr⟩ := Tr.of_br h
      simp only [Bool.and_eq_true, decide_eq_true_eq] at hc
      obtain ⟨⟨⟨rfl, rfl⟩, rfl⟩, hs⟩ := hc
      obtain ⟨i', j', h1, rfl, rfl⟩ := goes131 hG xs hs _ rfl
      exact ⟨_, _, goes_ok h1, hr⟩
    · rw [e131]
      repeat rw [Tr.run_t (by simp only [Bool.and_eq_true, decide_eq_true_eq, eq_self, true_and, and_true]; omega)]
      rw [Tr.run_ok]
  · refine ⟨_, _, evF_pc hG OrcOK.nil mix enter131 (hs := []) (L := [(1, unr Tryd.prog [] [] pol131 Tryd.f131.ntmps 0 [0, 2, 3] b131 1)]) (pol := pol131) (O := []) (lps1 (b := b131) (live := [0, 2, 3]) (m := 0) (by kernel_rfl) (by kernel_rfl) (by kernel_rfl) (unr_ok (pol := pol131) (L := []) hG OrcOK.nil mix (LpsOK.none (by kernel_rfl)) 1)) ?_, h⟩
    rw [e131n ()]
    rfl
  · cases h
noncomputable def b119 : Code := (loopsOf (bodyC Tryd.f119)).getD 0 .skip
def pol119 : Pol := { live := [(2, [0, 3])], own := [13], wr := [(131, [0])] }
theorem enter119 : Enters Tryd.prog 119 Tryd.f119 (bodyC Tryd.f119) := ⟨Tryd.func119, by kernel_rfl, rfl⟩
theorem r119n (x : Int) : evRound Tryd.prog [] [] pol119 Tryd.f119.ntmps 0 [0, 3] b119 ⟨[.i .i64 x, .nil], []⟩ =
  Tr.br (decide ((0 : Int) < x))
    (Tr.br (!decide ((256 : Int) = (0 : Int)))
      (Tr.br
        (Nat.blt (0 : Nat) [IntKind.u8.wrap (x.tmod (256 : Int))].length &&
          [IntKind.u8.wrap (x.tmod (256 : Int))].length.ble (4294967296 : Nat))
        (Tr.br
          (!decide ((256 : Int) = (0 : Int)) &&
            (decide ((-9223372036854775808 : Int) ≤ x.tdiv (256 : Int)) &&
              decide (x.tdiv (256 : Int) ≤ (9223372036854775807 : Int))))
          (Tr.ok
            (Res.out Exit.normal
              { t := [PV.i IntKind.i64 (x.tdiv (256 : Int)), PV.sl (0) (1) (0) (1)],
                h := [some { e := 1, c := Cont.ints IntKind.u8 [IntKind.u8.wrap (x.tmod (256 : Int))] }] }))
          (Tr.no (4002)))
        (Tr.no (5002)))
      (Tr.no (5005)))
    (Tr.ok (Res.out (Exit.exit (0)) { t := [PV.i IntKind.i64 x, PV.nil], h := [] })) := by kernel_rfl
theorem r119 (n : Nat) (x : Int) (xs : List Int) : evRound Tryd.prog [] [] pol119 Tryd.f119.ntmps 0 [0, 3] b119 ⟨[.i .i64 x, .sl 0 1 0 n], [some ⟨1, .ints .u8 xs⟩]⟩ =
  Tr.br (decide ((0 : Int) < x))
    (Tr.br (!decide ((256 : Int) = (0 : Int)))
      (Tr.br (n.ble xs.length && (n + [IntKind.u8.wrap (x.tmod (256 : Int))].length).ble (4294967296 : Nat))
        (Tr.br
          (!decide ((256 : Int) = (0 : Int)) &&
            (decide ((-9223372036854775808 : Int) ≤ x.tdiv (256 : Int)) &&
              decide (x.tdiv (256 : Int) ≤ (9223372036854775807 : Int))))
          (Tr.ok
            (Res.out Exit.normal
              {
                t :=
                  [PV.i IntKind.i64 (x.tdiv (256 : Int)),
                    PV.sl (0) (1) (0) (n + [IntKind.u8.wrap (x.tmod (256 : Int))].length)],
                h :=
                  [some
                      { e := 1,
                        c :=
                          Cont.ints IntKind.u8
                            (List.take n (List.drop (0 : Nat) xs) ++ [IntKind.u8.wrap (x.tmod (256 : Int))]) }] }))
          (Tr.no (4002)))
        (Tr.no (5002)))
      (Tr.no (5005)))
    (Tr.ok
      (Res.out (Exit.exit (0))
        { t := [PV.i IntKind.i64 x, PV.sl (0) (1) (0) n],
          h := [some { e := 1, c := Cont.ints IntKind.u8 xs }] })) := by kernel_rfl
/-- The digits so far, and what is left. -/
def st119 (x : Int) (xs : List Int) : LS := match xs with
  | [] => ⟨[.i .i64 x, .nil], []⟩
  | xs => ⟨[.i .i64 x, .sl 0 1 0 xs.length], [some ⟨1, .ints .u8 xs⟩]⟩
theorem step119 (n : Nat) (xs : List Int) (hn : n ≠ 0) (h63 : n < 9223372036854775808) (hx : xs.length ≤ 1048576) :
    (evRound Tryd.prog [] [] pol119 Tryd.f119.ntmps 0 [0, 3] b119 (st119 n xs)).run = some (.out .normal (st119 ((n / 256 : Nat) : Int) (xs ++ [((n % 256 : Nat) : Int)]))) := by
  have h1 : (n : Int).tdiv 256 = ((n / 256 : Nat) : Int) := tdiv_nat n 256
  have h2 : (n : Int).tmod 256 = ((n % 256 : Nat) : Int) := tmod_nat n 256
  have h3 : IntKind.u8.wrap ((n % 256 : Nat) : Int) = ((n % 256 : Nat) : Int) := w8 (by omega) (by omega)
  have h4 : n / 256 ≤ n := Nat.div_le_self _ _
  cases xs with
  | nil =>
    show (evRound Tryd.prog [] [] pol119 Tryd.f119.ntmps 0 [0, 3] b119 ⟨[.i .i64 n, .nil], []⟩).run = _
    rw [r119n, h1, h2, h3]
    repeat rw [Tr.run_t (by simp only [Bool.and_eq_true, decide_eq_true_eq, Nat.ble_eq, Nat.blt_eq, Bool.not_eq_true', decide_eq_false_iff_not, List.length_cons, List.length_nil]; omega)]
    rw [Tr.run_ok]
    rfl
  | cons y ys =>
    show (evRound Tryd.prog [] [] pol119 Tryd.f119.ntmps 0 [0, 3] b119 ⟨[.i .i64 n, .sl 0 1 0 (y :: ys).length], [some ⟨1, .ints .u8 (y :: ys)⟩]⟩).run = _
    rw [r119, h1, h2, h3]
    repeat rw [Tr.run_t (by simp only [Bool.and_eq_true, decide_eq_true_eq, Nat.ble_eq, Bool.not_eq_true', decide_eq_false_iff_not, List.length_cons, List.length_nil] at hx ⊢; omega)]
    rw [Tr.run_ok, List.drop_zero, List.take_length]
    show _ = some (Res.out .normal ⟨[.i .i64 ((n / 256 : Nat) : Int), .sl 0 1 0 ((y :: ys) ++ [((n % 256 : Nat) : Int)]).length], [some ⟨1, .ints .u8 ((y :: ys) ++ [((n % 256 : Nat) : Int)])⟩]⟩)
    simp
include hG in
theorem goes119 : ∀ (f n : Nat) (xs : List Int), n < 256 ^ f → n < 9223372036854775808 → xs.length + f ≤ 1048576 → Goes (Rnd Tryd.prog G Tryd.f119.ntmps 0 [0, 3] b119) (st119 n xs) (.exit 0) (st119 0 (xs ++ dg 256 n)) := by
  intro f
  induction f with
  | zero =>
    intro n xs h1 h2 h3
    have : n = 0 := by simpa using h1
    subst this
    rw [dg_zero, List.append_nil]
    refine .last _ _ _ (round_ok hG OrcOK.nil mix (L := []) (pol := pol119) (O := []) (LpsOK.none (by kernel_rfl)) (Nat.zero_le _) ?_) (by simp)
    cases xs with
    | nil => exact (congrArg Tr.run (r119n 0)).trans rfl
    | cons y ys => exact (congrArg Tr.run (r119 (y :: ys).length 0 (y :: ys))).trans rfl
  | succ f ih =>
    intro n xs h1 h2 h3
    by_cases h0 : n = 0
    · subst h0
      rw [dg_zero, List.append_nil]
      refine .last _ _ _ (round_ok hG OrcOK.nil mix (L := []) (pol := pol119) (O := []) (LpsOK.none (by kernel_rfl)) (Nat.zero_le _) ?_) (by simp)
      cases xs with
      | nil => exact (congrArg Tr.run (r119n 0)).trans rfl
      | cons y ys => exact (congrArg Tr.run (r119 (y :: ys).length 0 (y :: ys))).trans rfl
    · refine .more _ _ _ _ (round_ok hG OrcOK.nil mix (L := []) (pol := pol119) (O := []) (LpsOK.none (by kernel_rfl)) (Nat.zero_le _) (step119 n xs h0 h2 (by omega))) ?_
      have h := ih (n / 256) (xs ++ [((n % 256 : Nat) : Int)]) (by rw [Nat.div_lt_iff_lt_mul (by omega)]; rwa [Nat.pow_succ] at h1) (by omega) (by simp; omega)
      rw [dg_pos (by omega) h0]
      simpa using h
def l119 : LSpec := fun ls K => match ls with
  | ⟨[.i .i64 x, .nil], []⟩ => .br (decide (0 < x) && decide (x < 9223372036854775808)) (K (.exit 0) ⟨[.i .i64 0, .sl 0 1 0 (dg 256 x.toNat).length], [some ⟨1, .ints .u8 (dg 256 x.toNat)⟩]⟩)
     (.br (decide (x = 0)) (K (.exit 0) ⟨[.i .i64 0, .nil], []⟩) (.no 1))
  | _ => .no 1
theorem e119 (x : Int) : evF Tryd.prog [(131, s131)] [(2, l119)] pol119 Tryd.f119 [.i .i64 x] [] retK =
  Tr.br (decide ((0 : Int) < x) && decide (x < (9223372036854775808 : Int)))
    (Tr.br
      (decide ((dg (256 : Nat) x.toNat).length = (dg (256 : Nat) x.toNat).length) &&
        decide ((dg (256 : Nat) x.toNat).length ≤ (1073741824 : Nat)))
      (Tr.br (((0 : Nat) + (dg (256 : Nat) x.toNat).length).ble (dg (256 : Nat) x.toNat).reverse.length)
        (Tr.ok
          (Res.ret
            (PV.s
              {
                data :=
                  (List.map (fun (n : Int) => UInt8.ofNat n.toNat)
                      (List.take (dg (256 : Nat) x.toNat).length
                        (List.drop (0 : Nat) (dg (256 : Nat) x.toNat).reverse))).toArray })
            []))
        (Tr.no (7002)))
      (Tr.no (1)))
    (Tr.br (decide (x = (0 : Int))) (Tr.ok (Res.ret (PV.s { data := #[] }) [])) (Tr.no (1))) := by kernel_rfl
theorem dg_nbl (n : Nat) : ((dg 256 n).reverse.map fun x => UInt8.ofNat x.toNat) = nbl n := by
  induction n using Nat.strongRecOn with
  | _ n ih =>
    by_cases h : n = 0
    · subst h; rfl
    · rw [dg_pos (by omega) h, nbl_pos h, List.reverse_cons, List.map_append, ih (n / 256) (by omega)]
      have e : ((n % 256 : Nat) : Int).toNat = n % 256 := Int.toNat_natCast _
      simp only [List.map_cons, List.map_nil, e]
def s119 : Spec := fun args hs K => match args, hs with
  | [.i .i64 x], [] => .br (decide (0 ≤ x) && decide (x < 9223372036854775808)) (K (.s (nb x.toNat)) []) (.no 1)
  | _, _ => .no 1
include hG in
theorem ok119 : SpecOK Tryd.prog G 119 s119 := by
  refine spec_of hG (.cons (ok131 hG) .nil) mix enter119 (L := [(2, l119)]) (pol := pol119) fun args hs K x h => ?_
  unfold s119 at h
  split at h
  case h_2 => cases h
  rename_i n
  obtain ⟨hc, hr⟩ := Tr.of_br h
  simp only [Bool.and_eq_true, decide_eq_true_eq] at hc
  refine ⟨lps1 (b := b119) (live := [0, 3]) (sp := l119) (m := 0) (by kernel_rfl) (by kernel_rfl) (by kernel_rfl) ?_, _, _, _, ?_, .refl _, hr⟩
  · intro ls K x hm h
    unfold l119 at h
    split at h
    case h_2 => cases h
    rename_i n
    by_cases h0 : 0 < n
    · by_cases h1 : n < 9223372036854775808
      · rw [Tr.run_t (by simp only [Bool.and_eq_true, decide_eq_true_eq]; omega)] at h
        obtain ⟨k, rfl⟩ := Int.eq_ofNat_of_zero_le (show 0 ≤ n by omega)
        have hg := goes119 hG 8 k [] (by omega) (by omega) (by simp)
        rw [Int.toNat_natCast] at h
        refine ⟨_, _, goes_ok hg, ?_⟩
        rw [List.nil_append]
        have : st119 0 (dg 256 k) = ⟨[.i .i64 0, .sl 0 1 0 (dg 256 k).length], [some ⟨1, .ints .u8 (dg 256 k)⟩]⟩ := by
          rw [dg_pos (by omega) (show k ≠ 0 by omega)]; rfl
        rw [this]; exact h
      · rw [Tr.run_f (by rw [decide_eq_false h1, Bool.and_false]), Tr.run_f (decide_eq_false (by omega))] at h
        cases h
    · rw [Tr.run_f (by rw [decide_eq_false h0, Bool.false_and])] at h
      obtain ⟨hc, hr⟩ := Tr.of_br h
      have := of_decide_eq_true hc
      subst this
      exact ⟨_, _, goes_ok (goes119 hG 0 0 [] (by omega) (by omega) (by simp)), hr⟩
  · rw [e119]
    by_cases h0 : 0 < n
    · have hl : (dg 256 n.toNat).length ≤ 8 := dg_length_le (by omega) (by omega)
      have hlr : (dg 256 n.toNat).reverse.length = (dg 256 n.toNat).length := List.length_reverse
      have ht : List.take (dg 256 n.toNat).length (List.drop 0 (dg 256 n.toNat).reverse) = (dg 256 n.toNat).reverse := by
        rw [List.drop_zero, List.take_of_length_le (by omega)]
      rw [Tr.run_t (by simp only [Bool.and_eq_true, decide_eq_true_eq]; omega), Tr.run_t (by simp only [Bool.and_eq_true, decide_eq_true_eq, eq_self, true_and]; omega), Tr.run_t (by rw [Nat.ble_eq]; omega), Tr.run_ok, ht, dg_nbl]
      rfl
    · have : n = 0 := by omega
      subst this
      rfl
end Go.Proofs.YtejfdhcigkgbmaaDoor.PE
namespace Go.Proofs.YtejfdhcigkgbmaaDoor.PE
open Go
set_option maxRecDepth 100000
variable {G : World → (Nat → Prop) → Prop} (hG : GOk G)
noncomputable def b81 : Code := (loopsOf (bodyC Tryd.f81)).getD 0 .skip
def pol81 : Pol := { live := [(2, [0, 1, 4, 5, 6])] }
theorem enter81 : Enters Tryd.prog 81 Tryd.f81 (bodyC Tryd.f81) := ⟨Tryd.func81, by kernel_rfl, rfl⟩
theorem r81 (n d a b : Int) (z1 z2 : ByteArray) : evRound Tryd.prog [] [] pol81 Tryd.f81.ntmps 0 [0, 1, 4, 5, 6] b81 ⟨[.i .i64 n, .i .i64 d, .ptr 0 3 0 0 [], .i .i64 a, .i .i64 b], [some ⟨3, .vals [.agg [.bl false, .s z1, .s z2]]⟩]⟩ =
  Tr.br (decide ((0 : Int) < b))
    (Tr.br (!decide (b = (0 : Int)))
      (Tr.ok
        (Res.out Exit.normal
          {
            t :=
              [PV.i IntKind.i64 n, PV.i IntKind.i64 d, PV.ptr (0) (3) (0) (0) [],
                PV.i IntKind.i64 b, PV.i IntKind.i64 (a.tmod b)],
            h := [some { e := 3, c := Cont.vals [PV.agg [PV.bl false, PV.s z1, PV.s z2]] }] }))
      (Tr.no (4003)))
    (Tr.ok
      (Res.out (Exit.exit (0))
        {
          t :=
            [PV.i IntKind.i64 n, PV.i IntKind.i64 d, PV.ptr (0) (3) (0) (0) [],
              PV.i IntKind.i64 a, PV.i IntKind.i64 b],
          h := [some { e := 3, c := Cont.vals [PV.agg [PV.bl false, PV.s z1, PV.s z2]] }] })) := by kernel_rfl

def st81 (n d : Int) (z1 z2 : ByteArray) (a b : Int) : LS := ⟨[.i .i64 n, .i .i64 d, .ptr 0 3 0 0 [], .i .i64 a, .i .i64 b], [some ⟨3, .vals [.agg [.bl false, .s z1, .s z2]]⟩]⟩
include hG in
theorem goes81 (n d : Int) (z1 z2 : ByteArray) : ∀ (y x : Nat), Goes (Rnd Tryd.prog G Tryd.f81.ntmps 0 [0, 1, 4, 5, 6] b81) (st81 n d z1 z2 x y) (.exit 0) (st81 n d z1 z2 (Nat.gcd x y) 0) := by
  intro y
  induction y using Nat.strongRecOn with
  | _ y ih =>
    intro x
    by_cases h : y = 0
    · subst h
      refine .last _ _ _ (round_ok hG OrcOK.nil mix (L := []) (pol := pol81) (O := []) (LpsOK.none (by kernel_rfl)) (Nat.zero_le _) ?_) (by simp)
      unfold st81
      rw [r81, Tr.run_f (by decide), Tr.run_ok, Nat.gcd_zero_right]; rfl
    · refine .more _ (st81 n d z1 z2 y (x % y : Nat)) _ _ (round_ok hG OrcOK.nil mix (L := []) (pol := pol81) (O := []) (LpsOK.none (by kernel_rfl)) (Nat.zero_le _) ?_) ?_
      · unfold st81
        rw [r81, Tr.run_t (decide_eq_true (by omega)), Tr.run_t (by rw [decide_eq_false (by omega)]; rfl), Tr.run_ok, tmod_nat]
      · have := ih (x % y) (Nat.mod_lt _ (by omega)) y
        rwa [Nat.gcd_comm y, ← Nat.gcd_rec, Nat.gcd_comm y] at this
def l81 : LSpec := fun ls K => match ls with
  | ⟨[.i .i64 n, .i .i64 d, .ptr 0 3 0 0 [], .i .i64 a, .i .i64 b], [some ⟨3, .vals [.agg [.bl false, .s z1, .s z2]]⟩]⟩ => .br (decide (0 ≤ a) && decide (0 ≤ b)) (K (.exit 0) (st81 n d z1 z2 (Nat.gcd a.toNat b.toNat) 0)) (.no 1)
  | _ => .no 1
theorem e81 (n d : Int) : evF Tryd.prog [(119, s119)] [(2, l81)] pol81 Tryd.f81 [.i .i64 n, .i .i64 d] [] retK =
  Tr.br (decide ((-9223372036854775808 : Int) ≤ (0 : Int) - n) && decide ((0 : Int) - n ≤ (9223372036854775807 : Int)))
    (Tr.br (decide ((0 : Int) ≤ if (0 : Int) - n > n then (0 : Int) - n else n) && decide ((0 : Int) ≤ d))
      (Tr.br
        (!decide ((↑((if (0 : Int) - n > n then (0 : Int) - n else n).toNat.gcd d.toNat) : Int) = (0 : Int)) &&
          (decide
              ((-9223372036854775808 : Int) ≤
                n.tdiv (↑((if (0 : Int) - n > n then (0 : Int) - n else n).toNat.gcd d.toNat) : Int)) &&
            decide
              (n.tdiv (↑((if (0 : Int) - n > n then (0 : Int) - n else n).toNat.gcd d.toNat) : Int) ≤
                (9223372036854775807 : Int))))
        (Tr.br
          (!decide ((↑((if (0 : Int) - n > n then (0 : Int) - n else n).toNat.gcd d.toNat) : Int) = (0 : Int)) &&
            (decide
                ((-9223372036854775808 : Int) ≤
                  d.tdiv (↑((if (0 : Int) - n > n then (0 : Int) - n else n).toNat.gcd d.toNat) : Int)) &&
              decide
                (d.tdiv (↑((if (0 : Int) - n > n then (0 : Int) - n else n).toNat.gcd d.toNat) : Int) ≤
                  (9223372036854775807 : Int))))
          (Tr.br
            (decide
                ((-9223372036854775808 : Int) ≤
                  (0 : Int) - n.tdiv (↑((if (0 : Int) - n > n then (0 : Int) - n else n).toNat.gcd d.toNat) : Int)) &&
              decide
                ((0 : Int) - n.tdiv (↑((if (0 : Int) - n > n then (0 : Int) - n else n).toNat.gcd d.toNat) : Int) ≤
                  (9223372036854775807 : Int)))
            (Tr.br
              (decide
                  ((0 : Int) ≤
                    if
                        (0 : Int) - n.tdiv (↑((if (0 : Int) - n > n then (0 : Int) - n else n).toNat.gcd d.toNat) : Int) >
                          n.tdiv (↑((if (0 : Int) - n > n then (0 : Int) - n else n).toNat.gcd d.toNat) : Int) then
                      (0 : Int) - n.tdiv (↑((if (0 : Int) - n > n then (0 : Int) - n else n).toNat.gcd d.toNat) : Int)
                    else n.tdiv (↑((if (0 : Int) - n > n then (0 : Int) - n else n).toNat.gcd d.toNat) : Int)) &&
                decide
                  ((if
                        (0 : Int) - n.tdiv (↑((if (0 : Int) - n > n then (0 : Int) - n else n).toNat.gcd d.toNat) : Int) >
                          n.tdiv (↑((if (0 : Int) - n > n then (0 : Int) - n else n).toNat.gcd d.toNat) : Int) then
                      (0 : Int) - n.tdiv (↑((if (0 : Int) - n > n then (0 : Int) - n else n).toNat.gcd d.toNat) : Int)
                    else n.tdiv (↑((if (0 : Int) - n > n then (0 : Int) - n else n).toNat.gcd d.toNat) : Int)) <
                    (9223372036854775808 : Int)))
              (Tr.br
                (decide
                    ((0 : Int) ≤ d.tdiv (↑((if (0 : Int) - n > n then (0 : Int) - n else n).toNat.gcd d.toNat) : Int)) &&
                  decide
                    (d.tdiv (↑((if (0 : Int) - n > n then (0 : Int) - n else n).toNat.gcd d.toNat) : Int) <
                      (9223372036854775808 : Int)))
                (Tr.ok
                  (Res.ret
                    (PV.agg
                      [PV.b
                          (decide
                            (n.tdiv (↑((if (0 : Int) - n > n then (0 : Int) - n else n).toNat.gcd d.toNat) : Int) <
                              (0 : Int))),
                        PV.s
                          (nb
                            (if
                                  (0 : Int) -
                                      n.tdiv
                                        (↑((if (0 : Int) - n > n then (0 : Int) - n else n).toNat.gcd d.toNat) : Int) >
                                    n.tdiv
                                      (↑((if (0 : Int) - n > n then (0 : Int) - n else n).toNat.gcd d.toNat) : Int) then
                                (0 : Int) -
                                  n.tdiv (↑((if (0 : Int) - n > n then (0 : Int) - n else n).toNat.gcd d.toNat) : Int)
                              else
                                n.tdiv
                                  (↑((if (0 : Int) - n > n then (0 : Int) - n else n).toNat.gcd d.toNat) : Int)).toNat),
                        PV.s
                          (nb
                            (d.tdiv
                                (↑((if (0 : Int) - n > n then (0 : Int) - n else n).toNat.gcd d.toNat) : Int)).toNat)])
                    []))
                (Tr.no (1)))
              (Tr.no (1)))
            (Tr.no (6007)))
          (Tr.no (5003)))
        (Tr.no (5006)))
      (Tr.no (1)))
    (Tr.no (2005)) := by kernel_rfl
def s81 : Spec := fun args hs K => match args, hs with
  | [.i .i64 n, .i .i64 d], [] => .br (decide (0 < d) && decide (d < 4611686018427387904) && decide (-4611686018427387904 < n) && decide (n < 4611686018427387904)) (K (.q (mkRat n d.toNat) 64) []) (.no 1)
  | _, _ => .no 1
theorem max_neg (n : Int) : (if (0 : Int) - n > n then (0 : Int) - n else n) = (n.natAbs : Int) := by split <;> omega
theorem mkRat_num_tdiv (n : Int) {k : Nat} (hk : k ≠ 0) : n.tdiv ((Nat.gcd n.natAbs k : Nat) : Int) = (mkRat n k).num := by
  rw [Rat.num_mkRat, if_neg hk, Nat.gcd_comm k]
  refine Int.tdiv_eq_ediv_of_dvd ?_
  rw [← Int.dvd_natAbs]; exact_mod_cast Nat.gcd_dvd_left n.natAbs k
theorem mkRat_den_tdiv (n : Int) {k : Nat} (hk : k ≠ 0) : (k : Int).tdiv ((Nat.gcd n.natAbs k : Nat) : Int) = ((mkRat n k).den : Int) := by
  rw [Rat.den_mkRat, if_neg hk, tdiv_nat, Nat.gcd_comm k]
include hG in
theorem ok81 : SpecOK Tryd.prog G 81 s81 := by
  refine spec_of hG (.cons (ok119 hG) .nil) mix enter81 (L := [(2, l81)]) (pol := pol81) fun args hs K x h => ?_
  unfold s81 at h
  split at h
  case h_2 => cases h
  rename_i n d
  obtain ⟨hc, hr⟩ := Tr.of_br h
  simp only [Bool.and_eq_true, decide_eq_true_eq] at hc
  refine ⟨lps1 (b := b81) (live := [0, 1, 4, 5, 6]) (sp := l81) (m := 0) (by kernel_rfl) (by kernel_rfl) (by kernel_rfl) ?_, ?_⟩
  · intro ls K x hm h
    unfold l81 at h
    split at h
    case h_2 => cases h
    rename_i n d a b z1 z2
    obtain ⟨hc, hr⟩ := Tr.of_br h
    simp only [Bool.and_eq_true, decide_eq_true_eq] at hc
    obtain ⟨a, rfl⟩ := Int.eq_ofNat_of_zero_le hc.1
    obtain ⟨b, rfl⟩ := Int.eq_ofNat_of_zero_le hc.2
    exact ⟨_, _, goes_ok (goes81 hG n d z1 z2 b a), hr⟩
  · obtain ⟨k, rfl⟩ := Int.eq_ofNat_of_zero_le (show 0 ≤ d by omega)
    have hk : k ≠ 0 := by omega
    have hg : 0 < Nat.gcd n.natAbs k := Nat.gcd_pos_of_pos_right _ (by omega)
    rw [e81]
    simp only [max_neg, Int.toNat_natCast, mkRat_num_tdiv n hk, mkRat_den_tdiv n hk]
    have h1 := mkRat_num_le n hk
    have h2 := mkRat_den_le n hk
    have hz : sz (mkRat n k) ≤ 64 := sz_le (by omega) (by omega) (by omega)
    repeat rw [Tr.run_t (by simp only [Bool.and_eq_true, decide_eq_true_eq, Bool.not_eq_true', decide_eq_false_iff_not]; omega)]
    exact ⟨_, _, _, rfl, rle_q rfl hz, hr⟩

/-! num -/
theorem enter23 : Enters Tryd.prog 23 Tryd.f23 (bodyC Tryd.f23) := ⟨Tryd.func23, by kernel_rfl, rfl⟩
noncomputable def s23 : Spec := evF Tryd.prog [(81, s81)] [] {} Tryd.f23
include hG in
theorem ok23 : SpecOK Tryd.prog G 23 s23 := spec_ev hG (.cons (ok81 hG) .nil) mix enter23 (fun _ => LpsOK.none (by kernel_rfl))
theorem e23 (n d : Int) : s23 [.i .i64 n, .i .i64 d] [] retK =
  Tr.br
    (decide ((0 : Int) < d) && decide (d < (4611686018427387904 : Int)) && decide ((-4611686018427387904 : Int) < n) &&
      decide (n < (4611686018427387904 : Int)))
    (Tr.ok (Res.ret (PV.q (mkRat n d.toNat) (64)) [])) (Tr.no (1)) := by kernel_rfl
end Go.Proofs.YtejfdhcigkgbmaaDoor.PE
namespace Go.Proofs.YtejfdhcigkgbmaaDoor.PE
open Go
set_option maxRecDepth 100000
variable {G : World → (Nat → Prop) → Prop} (hG : GOk G)

/-! slices.Clone, slices.Reverse, slices.Equal of rational numbers -/
theorem enter25 : Enters Tryd.prog 25 Tryd.f25 (bodyC Tryd.f25) := ⟨Tryd.func25, by kernel_rfl, rfl⟩
def pol25 : Pol := { own := [5] }
theorem e25 (xs : List Rat) : evF Tryd.prog [] [] pol25 Tryd.f25 [.lst 3 (.rats 64 xs)] [] retK =
  Tr.br false (Tr.ok (Res.ret PV.nil []))
    (Tr.br (((0 : Nat) + xs.length).ble (4294967296 : Nat))
      (Tr.br (((0 : Nat) + xs.length).ble xs.length)
        (Tr.ok
          (Res.ret
            (PV.fr (3)
              (Cont.rats (64) (List.take ((0 : Nat) + (Cont.rats (64 : Nat) xs).len) (List.drop (0 : Nat) xs))))
            []))
        (Tr.no (15)))
      (Tr.no (4002))) := by kernel_rfl
def s25 : Spec := fun args hs K => match args, hs with
  | [.lst 3 (.rats 64 xs)], [] => .br (decide (xs.length ≤ 1073741824)) (K (.fr 3 (.rats 64 xs)) []) (.no 1)
  | _, _ => .no 1
include hG in
theorem ok25 : SpecOK Tryd.prog G 25 s25 := by
  refine spec_of hG .nil mix enter25 (L := []) (pol := pol25) fun args hs K x h => ?_
  unfold s25 at h
  split at h
  case h_2 => cases h
  rename_i xs
  obtain ⟨hc, hr⟩ := Tr.of_br h
  simp only [decide_eq_true_eq] at hc
  refine ⟨LpsOK.none (by kernel_rfl), _, _, _, ?_, .refl _, hr⟩
  have ht : List.take (0 + (Cont.rats 64 xs).len) (List.drop 0 xs) = xs := by
    rw [List.drop_zero, List.take_of_length_le (by simp [Cont.len])]
  rw [e25, Tr.run_f rfl, Tr.run_t (by rw [Nat.ble_eq]; omega), Tr.run_t (by rw [Nat.ble_eq]; omega), Tr.run_ok, ht]
noncomputable def b30 : Code := (loopsOf (bodyC Tryd.f30)).getD 0 .skip
def pol30 : Pol := { live := [(1, [0, 2, 3])] }
theorem enter30 : Enters Tryd.prog 30 Tryd.f30 (bodyC Tryd.f30) := ⟨Tryd.func30, by kernel_rfl, rfl⟩
theorem r30 (n : Nat) (xs : List Rat) (i j : Int) : evRound Tryd.prog [] [] pol30 Tryd.f30.ntmps 1 [0, 2, 3] b30 ⟨[.sl 0 3 0 n, .i .i64 i, .i .i64 j], [some ⟨3, .rats 64 xs⟩]⟩ =
  Tr.br (decide (i < j))
    (Tr.br (decide ((0 : Int) ≤ j) && decide (j < (↑n : Int)))
      (Tr.br (((0 : Nat) + j.toNat + (1 : Nat)).ble xs.length)
        (Tr.br (decide ((0 : Int) ≤ i) && decide (i < (↑n : Int)))
          (Tr.br (((0 : Nat) + i.toNat + (1 : Nat)).ble xs.length)
            (Tr.br (decide ((0 : Int) ≤ i) && decide (i < (↑n : Int)))
              (Tr.br (((0 : Nat) + i.toNat + (1 : Nat)).ble xs.length)
                (Tr.br (decide ((0 : Int) ≤ j) && decide (j < (↑n : Int)))
                  (Tr.br
                    (((0 : Nat) + j.toNat + (1 : Nat)).ble
                      (xs.set ((0 : Nat) + i.toNat) (xs.getD ((0 : Nat) + j.toNat) (0 : Rat))).length)
                    (Tr.br
                      (decide ((-9223372036854775808 : Int) ≤ i + (1 : Int)) &&
                        decide (i + (1 : Int) ≤ (9223372036854775807 : Int)))
                      (Tr.br
                        (decide ((-9223372036854775808 : Int) ≤ j - (1 : Int)) &&
                          decide (j - (1 : Int) ≤ (9223372036854775807 : Int)))
                        (Tr.ok
                          (Res.out Exit.normal
                            {
                              t :=
                                [PV.sl (0) (3) (0) n, PV.i IntKind.i64 (i + (1 : Int)),
                                  PV.i IntKind.i64 (j - (1 : Int))],
                              h :=
                                [some
                                    { e := 3,
                                      c :=
                                        Cont.rats (64)
                                          ((xs.set ((0 : Nat) + i.toNat) (xs.getD ((0 : Nat) + j.toNat) (0 : Rat))).set
                                            ((0 : Nat) + j.toNat) (xs.getD ((0 : Nat) + i.toNat) (0 : Rat))) }] }))
                        (Tr.no (3003)))
                      (Tr.no (3005)))
                    (Tr.no (4001)))
                  (Tr.no (4002)))
                (Tr.no (4003)))
              (Tr.no (4004)))
            (Tr.no (4005)))
          (Tr.no (4006)))
        (Tr.no (4009)))
      (Tr.no (4010)))
    (Tr.ok
      (Res.out (Exit.exit (0))
        { t := [PV.sl (0) (3) (0) n, PV.i IntKind.i64 i, PV.i IntKind.i64 j],
          h := [some { e := 3, c := Cont.rats (64) xs }] })) := by kernel_rfl
def st30 (xs : List Rat) (i j : Int) : LS := ⟨[.sl 0 3 0 xs.length, .i .i64 i, .i .i64 j], [some ⟨3, .rats 64 xs⟩]⟩
theorem step30 (A M B : List Rat) (a b : Rat) (hs : (A ++ a :: (M ++ b :: B)).length ≤ 1073741824) :
    (evRound Tryd.prog [] [] pol30 Tryd.f30.ntmps 1 [0, 2, 3] b30 (st30 (A ++ a :: (M ++ b :: B)) A.length ((A.length + M.length + 1 : Nat) : Int))).run =
      some (.out .normal (st30 ((A ++ [b]) ++ (M ++ (a :: B))) ((A.length + 1 : Nat) : Int) ((A.length + M.length : Nat) : Int))) := by
  have hl : (A ++ a :: (M ++ b :: B)).length = A.length + M.length + B.length + 2 := by simp; omega
  have hl2 : ((A ++ [b]) ++ (M ++ (a :: B))).length = A.length + M.length + B.length + 2 := by simp; omega
  obtain ⟨g1, g2, g3⟩ := rev_swap (0 : Rat) A M B a b
  have hs3 : ((A ++ a :: (M ++ b :: B)).set A.length b).length = A.length + M.length + B.length + 2 := by rw [List.length_set, hl]
  unfold st30
  rw [r30]
  have e0 : 0 + ((A.length : Nat) : Int).toNat = A.length := by omega
  have e1 : 0 + ((A.length + M.length + 1 : Nat) : Int).toNat = A.length + M.length + 1 := by omega
  rw [e0, e1, g1, g2]
  repeat rw [Tr.run_t (by simp only [Bool.and_eq_true, decide_eq_true_eq, Nat.ble_eq]; omega)]
  rw [Tr.run_ok, g3, hl, hl2, show ((A.length : Nat) : Int) + 1 = ((A.length + 1 : Nat) : Int) by omega, show ((A.length + M.length + 1 : Nat) : Int) - 1 = ((A.length + M.length : Nat) : Int) by omega]
include hG in
theorem goes30 (xs : List Rat) (hs : xs.length ≤ 1073741824) (j : Int) (hj : j = (xs.length : Int) - 1) : ∃ i' j', Goes (Rnd Tryd.prog G Tryd.f30.ntmps 1 [0, 2, 3] b30) (st30 xs 0 j) (.exit 0) (st30 xs.reverse i' j') ∧
    i' = (xs.length / 2 : Nat) ∧ j' = (xs.length : Int) - 1 - (xs.length / 2 : Nat) := by
  have h := rev_goes (R := Rnd Tryd.prog G Tryd.f30.ntmps 1 [0, 2, 3] b30) st30 xs.length ?_ ?_ xs.length [] xs [] 0 j (by simp) (Nat.le_refl _) rfl (by simp; omega)
  · obtain ⟨i', j', h1, h2, h3⟩ := h
    simp only [List.nil_append, List.append_nil, List.length_nil] at h1 h2 h3
    exact ⟨i', j', h1, by omega, by omega⟩
  · intro A M B a b hN
    exact round_ok hG OrcOK.nil mix (L := []) (pol := pol30) (O := []) (LpsOK.none (by kernel_rfl)) (Nat.le_refl _) (step30 A M B a b (by omega))
  · intro A M B hN hM i j hi hj
    refine round_ok hG OrcOK.nil mix (L := []) (pol := pol30) (O := []) (LpsOK.none (by kernel_rfl)) (Nat.le_refl _) ?_
    unfold st30
    rw [r30, Tr.run_f (decide_eq_false (by omega)), Tr.run_ok]
def l30 : LSpec := fun ls K => match ls with
  | ⟨[.sl 0 3 0 n, .i .i64 i, .i .i64 j], [some ⟨3, .rats 64 xs⟩]⟩ => .br (decide (n = xs.length) && decide (i = 0) && decide (j = (xs.length : Int) - 1) && decide (xs.length ≤ 1073741824))
      (K (.exit 0) (st30 xs.reverse (xs.length / 2 : Nat) ((xs.length : Int) - 1 - (xs.length / 2 : Nat)))) (.no 1)
  | _ => .no 1
theorem e30 (n : Nat) (xs : List Rat) : evF Tryd.prog [] [(1, l30)] pol30 Tryd.f30 [.sl 0 3 0 n] [⟨3, .rats 64 xs⟩] retK =
  Tr.br
    (decide ((-9223372036854775808 : Int) ≤ (↑n : Int) - (1 : Int)) &&
      decide ((↑n : Int) - (1 : Int) ≤ (9223372036854775807 : Int)))
    (Tr.br
      (decide (n = xs.length) && decide ((0 : Int) = (0 : Int)) &&
          decide ((↑n : Int) - (1 : Int) = (↑xs.length : Int) - (1 : Int)) &&
        decide (xs.length ≤ (1073741824 : Nat)))
      (Tr.ok (Res.ret (PV.tup []) [{ e := 3, c := Cont.rats (64) xs.reverse }])) (Tr.no (1)))
    (Tr.no (1003)) := by kernel_rfl
theorem e30n (x : Unit) : evF Tryd.prog [] [(1, unr Tryd.prog [] [] pol30 Tryd.f30.ntmps 0 [0, 2, 3] b30 1)] pol30 Tryd.f30 [.nil] [] retK =
  Tr.br
    (decide ((-9223372036854775808 : Int) ≤ (0 : Int) - (1 : Int)) &&
      decide ((0 : Int) - (1 : Int) ≤ (9223372036854775807 : Int)))
    (Tr.br (decide ((0 : Int) < (0 : Int) - (1 : Int))) (Tr.no (4010)) (Tr.ok (Res.ret (PV.tup []) [])))
    (Tr.no (1003)) := by kernel_rfl
def s30 : Spec := fun args hs K => match args, hs with
  | [.sl 0 3 0 n], [⟨3, .rats 64 xs⟩] => .br (decide (n = xs.length) && decide (xs.length ≤ 1073741824)) (K (.tup []) [⟨3, .rats 64 xs.reverse⟩]) (.no 1)
  | [.nil], [] => K (.tup []) []
  | _, _ => .no 1
include hG in
theorem ok30 : SpecOK Tryd.prog G 30 s30 := by
  intro args hs K x h
  unfold s30 at h
  split at h
  · rename_i n xs
    obtain ⟨hc, hr⟩ := Tr.of_br h
    simp only [Bool.and_eq_true, decide_eq_true_eq] at hc
    obtain ⟨rfl, hs⟩ := hc
    refine ⟨_, _, evF_pc hG OrcOK.nil mix enter30 (hs := [⟨3, .rats 64 xs⟩]) (L := [(1, l30)]) (pol := pol30) (O := []) (lps1 (b := b30) (live := [0, 2, 3]) (sp := l30) (m := 1) (by kernel_rfl) (by kernel_rfl) (by kernel_rfl) ?_) ?_, hr⟩
    · intro ls K x hm h
      unfold l30 at h
      split at h
      case h_2 => cases h
      rename_i n i j xs
      obtain ⟨hc, hr⟩ := Tr.of_br h
      simp only [Bool.and_eq_true, decide_eq_true_eq] at hc
      obtain ⟨⟨⟨rfl, rfl⟩, rfl⟩, hs⟩ := hc
      obtain ⟨i', j', h1, rfl, rfl⟩ := goes30 hG xs hs _ rfl
      exact ⟨_, _, goes_ok h1, hr⟩
    · rw [e30]
      repeat rw [Tr.run_t (by simp only [Bool.and_eq_true, decide_eq_true_eq, eq_self, true_and, and_true]; omega)]
      rw [Tr.run_ok]
  · refine ⟨_, _, evF_pc hG OrcOK.nil mix enter30 (hs := []) (L := [(1, unr Tryd.prog [] [] pol30 Tryd.f30.ntmps 0 [0, 2, 3] b30 1)]) (pol := pol30) (O := []) (lps1 (b := b30) (live := [0, 2, 3]) (m := 0) (by kernel_rfl) (by kernel_rfl) (by kernel_rfl) (unr_ok (pol := pol30) (L := []) hG OrcOK.nil mix (LpsOK.none (by kernel_rfl)) 1)) ?_, h⟩
    rw [e30n ()]
    rfl
  · cases h
noncomputable def b19 : Code := (loopsOf (bodyC Tryd.f19)).getD 0 .skip
def pol19 : Pol := { live := [(4, [0, 1, 4, 12, 13])] }
theorem enter19 : Enters Tryd.prog 19 Tryd.f19 (bodyC Tryd.f19) := ⟨Tryd.func19, by kernel_rfl, rfl⟩
theorem r19 (xs ys : List Rat) (n i : Int) : evRound Tryd.prog [] [] pol19 Tryd.f19.ntmps 0 [0, 1, 4, 12, 13] b19 ⟨[.lst 3 (.rats 64 xs), .lst 3 (.rats 64 ys), .bl false, .i .i64 n, .i .i64 i], []⟩ =
  Tr.br (decide (i < n))
    (Tr.br (decide ((0 : Int) ≤ i) && decide (i < (↑xs.length : Int)))
      (Tr.br (decide ((0 : Int) ≤ i) && decide (i < (↑ys.length : Int)))
        (Tr.br (!decide (xs.getD i.toNat (0 : Rat) = ys.getD i.toNat (0 : Rat)))
          (Tr.ok
            (Res.out Exit.ret
              {
                t :=
                  [PV.lst (3) (Cont.rats (64) xs), PV.lst (3) (Cont.rats (64) ys),
                    PV.bl false, PV.i IntKind.i64 n, PV.i IntKind.i64 i],
                h := [] }))
          (Tr.br
            (decide ((-9223372036854775808 : Int) ≤ i + (1 : Int)) &&
              decide (i + (1 : Int) ≤ (9223372036854775807 : Int)))
            (Tr.ok
              (Res.out Exit.normal
                {
                  t :=
                    [PV.lst (3) (Cont.rats (64) xs), PV.lst (3) (Cont.rats (64) ys),
                      PV.bl false, PV.i IntKind.i64 n, PV.i IntKind.i64 (i + (1 : Int))],
                  h := [] }))
            (Tr.no (9002))))
        (Tr.no (7003)))
      (Tr.no (7007)))
    (Tr.ok
      (Res.out (Exit.exit (0))
        {
          t :=
            [PV.lst (3) (Cont.rats (64) xs), PV.lst (3) (Cont.rats (64) ys), PV.bl false,
              PV.i IntKind.i64 n, PV.i IntKind.i64 i],
          h := [] })) := by kernel_rfl
def st19 (xs ys : List Rat) (i : Nat) : LS := ⟨[.lst 3 (.rats 64 xs), .lst 3 (.rats 64 ys), .bl false, .i .i64 xs.length, .i .i64 i], []⟩
/-- Where two lists differ first. -/
def fdiff : List Rat → List Rat → Nat
  | x :: xs, y :: ys => if x = y then fdiff xs ys + 1 else 0
  | _, _ => 0
include hG in
theorem goes19 : ∀ (xs ys A B : List Rat), A.length = B.length → xs.length = ys.length → (A ++ xs).length ≤ 1073741824 →
    (xs = ys → Goes (Rnd Tryd.prog G Tryd.f19.ntmps 0 [0, 1, 4, 12, 13] b19) (st19 (A ++ xs) (B ++ ys) A.length) (.exit 0) (st19 (A ++ xs) (B ++ ys) (A ++ xs).length)) ∧
    (xs ≠ ys → Goes (Rnd Tryd.prog G Tryd.f19.ntmps 0 [0, 1, 4, 12, 13] b19) (st19 (A ++ xs) (B ++ ys) A.length) .ret (st19 (A ++ xs) (B ++ ys) (A.length + fdiff xs ys)))
  | [], [], A, B, hAB, _, _ => by
    refine ⟨fun _ => ?_, fun h => absurd rfl h⟩
    refine .last _ _ _ (round_ok hG OrcOK.nil mix (L := []) (pol := pol19) (O := []) (LpsOK.none (by kernel_rfl)) (Nat.zero_le _) ?_) (by simp)
    simp only [List.append_nil]
    unfold st19
    rw [r19, Tr.run_f (decide_eq_false (by omega)), Tr.run_ok]
  | x :: xs, y :: ys, A, B, hAB, hl, hs => by
    have l1 : (A ++ x :: xs).length = A.length + 1 + xs.length := by simp; omega
    have l2 : (B ++ y :: ys).length = A.length + 1 + ys.length := by simp; omega
    have hl' : xs.length = ys.length := by simpa using hl
    have g1 : (A ++ x :: xs).getD ((A.length : Nat) : Int).toNat 0 = x := by rw [Int.toNat_natCast]; exact getD_mid _ _ _ _
    have g2 : (B ++ y :: ys).getD ((A.length : Nat) : Int).toNat 0 = y := by rw [Int.toNat_natCast, hAB]; exact getD_mid _ _ _ _
    by_cases hxy : x = y
    · have hstep : (evRound Tryd.prog [] [] pol19 Tryd.f19.ntmps 0 [0, 1, 4, 12, 13] b19 (st19 (A ++ x :: xs) (B ++ y :: ys) A.length)).run = some (.out .normal (st19 (A ++ x :: xs) (B ++ y :: ys) (A.length + 1))) := by
        unfold st19
        rw [r19, g1, g2]
        rw [Tr.run_t (decide_eq_true (by omega)), Tr.run_t (by simp only [Bool.and_eq_true, decide_eq_true_eq]; omega), Tr.run_t (by simp only [Bool.and_eq_true, decide_eq_true_eq]; omega), Tr.run_f (by rw [decide_eq_true hxy]; rfl), Tr.run_t (by simp only [Bool.and_eq_true, decide_eq_true_eq]; omega), Tr.run_ok]
        rfl
      have hr : Rnd Tryd.prog G Tryd.f19.ntmps 0 [0, 1, 4, 12, 13] b19 (st19 (A ++ x :: xs) (B ++ y :: ys) A.length) .normal (st19 (A ++ x :: xs) (B ++ y :: ys) (A.length + 1)) := round_ok hG OrcOK.nil mix (L := []) (pol := pol19) (O := []) (LpsOK.none (by kernel_rfl)) (Nat.zero_le _) hstep
      obtain ⟨h1, h2⟩ := goes19 xs ys (A ++ [x]) (B ++ [y]) (by simp; omega) hl' (by simpa using hs)
      have e1 : A ++ [x] ++ xs = A ++ x :: xs := by simp
      have e2 : B ++ [y] ++ ys = B ++ y :: ys := by simp
      have e3 : (A ++ [x]).length = A.length + 1 := by simp
      rw [e1, e2, e3] at h1 h2
      refine ⟨fun h => .more _ _ _ _ hr (h1 (by simpa [hxy] using h)), fun h => .more _ _ _ _ hr ?_⟩
      have h3 := h2 (fun h' => h (by rw [hxy, h']))
      have : fdiff (x :: xs) (y :: ys) = fdiff xs ys + 1 := by simp [fdiff, hxy]
      rw [this, show A.length + (fdiff xs ys + 1) = A.length + 1 + fdiff xs ys by omega]
      exact h3
    · refine ⟨fun h => absurd (List.cons.inj h).1 hxy, fun _ => ?_⟩
      have : fdiff (x :: xs) (y :: ys) = 0 := by simp [fdiff, hxy]
      rw [this]
      refine .last _ _ _ (round_ok hG OrcOK.nil mix (L := []) (pol := pol19) (O := []) (LpsOK.none (by kernel_rfl)) (Nat.zero_le _) ?_) (by simp)
      unfold st19
      rw [r19, g1, g2]
      rw [Tr.run_t (decide_eq_true (by omega)), Tr.run_t (by simp only [Bool.and_eq_true, decide_eq_true_eq]; omega), Tr.run_t (by simp only [Bool.and_eq_true, decide_eq_true_eq]; omega), Tr.run_t (by rw [decide_eq_false hxy]; rfl), Tr.run_ok]
      rfl
def l19 : LSpec := fun ls K => match ls with
  | ⟨[.lst 3 (.rats 64 xs), .lst 3 (.rats 64 ys), .bl false, .i .i64 n, .i .i64 i], []⟩ => .br (decide (xs.length = ys.length) && decide (n = xs.length) && decide (i = 0) && decide (xs.length ≤ 1073741824))
      (.br (decide (xs = ys)) (K (.exit 0) (st19 xs ys xs.length)) (K .ret (st19 xs ys (fdiff xs ys)))) (.no 1)
  | _ => .no 1
theorem e19 (xs ys : List Rat) : evF Tryd.prog [] [(4, l19)] pol19 Tryd.f19 [.lst 3 (.rats 64 xs), .lst 3 (.rats 64 ys)] [] retK =
  Tr.br (!decide ((↑xs.length : Int) = (↑ys.length : Int))) (Tr.ok (Res.ret (PV.bl false) []))
    (Tr.br
      (decide (xs.length = ys.length) && decide ((↑xs.length : Int) = (↑xs.length : Int)) &&
          decide ((0 : Int) = (0 : Int)) &&
        decide (xs.length ≤ (1073741824 : Nat)))
      (Tr.br (decide (xs = ys)) (Tr.ok (Res.ret (PV.bl true) [])) (Tr.ok (Res.ret (PV.bl false) []))) (Tr.no (1))) := by kernel_rfl
def s19 : Spec := fun args hs K => match args, hs with
  | [.lst 3 (.rats 64 xs), .lst 3 (.rats 64 ys)], [] => .br (decide (xs.length ≤ 1073741824)) (.br (decide (xs = ys)) (K (.bl true) []) (K (.bl false) [])) (.no 1)
  | _, _ => .no 1
include hG in
theorem ok19 : SpecOK Tryd.prog G 19 s19 := by
  refine spec_of hG .nil mix enter19 (L := [(4, l19)]) (pol := pol19) fun args hs K x h => ?_
  unfold s19 at h
  split at h
  case h_2 => cases h
  rename_i xs ys
  obtain ⟨hc, hr⟩ := Tr.of_br h
  simp only [decide_eq_true_eq] at hc
  refine ⟨lps1 (b := b19) (live := [0, 1, 4, 12, 13]) (sp := l19) (m := 0) (by kernel_rfl) (by kernel_rfl) (by kernel_rfl) ?_, ?_⟩
  · intro ls K x hm h
    unfold l19 at h
    split at h
    case h_2 => cases h
    rename_i xs ys n i
    obtain ⟨hc, hr⟩ := Tr.of_br h
    simp only [Bool.and_eq_true, decide_eq_true_eq] at hc
    obtain ⟨⟨⟨hl, rfl⟩, rfl⟩, hs⟩ := hc
    obtain ⟨h1, h2⟩ := goes19 hG xs ys [] [] rfl hl hs
    by_cases he : xs = ys
    · rw [Tr.run_t (decide_eq_true he)] at hr
      exact ⟨_, _, goes_ok (h1 he), hr⟩
    · rw [Tr.run_f (decide_eq_false he)] at hr
      refine ⟨_, _, goes_ok (h2 he), ?_⟩
      simpa using hr
  · rw [e19]
    by_cases hl : xs.length = ys.length
    · rw [Tr.run_f (by rw [decide_eq_true (show (xs.length : Int) = ys.length by omega)]; rfl), Tr.run_t (by simp only [Bool.and_eq_true, decide_eq_true_eq, eq_self, true_and, and_true]; omega)]
      by_cases he : xs = ys
      · rw [Tr.run_t (decide_eq_true he)] at hr ⊢
        exact ⟨_, _, _, rfl, .refl _, hr⟩
      · rw [Tr.run_f (decide_eq_false he)] at hr ⊢
        exact ⟨_, _, _, rfl, .refl _, hr⟩
    · rw [Tr.run_f (decide_eq_false (fun h => hl (by rw [h])))] at hr
      rw [Tr.run_t (by rw [decide_eq_false (show ¬ (xs.length : Int) = ys.length by omega)]; rfl)]
      exact ⟨_, _, _, rfl, .refl _, hr⟩
end Go.Proofs.YtejfdhcigkgbmaaDoor.PE
namespace Go.Proofs.YtejfdhcigkgbmaaDoor.PE
open Go
set_option maxRecDepth 100000
variable {G : World → (Nat → Prop) → Prop} (hG : GOk G)

/-! rat.Small, arm.small, arm.IsName -/
theorem enter125 : Enters Tryd.prog 125 Tryd.f125 (bodyC Tryd.f125) := ⟨Tryd.func125, by kernel_rfl, rfl⟩
theorem e125 (x : Rat) (n : Nat) : evF Tryd.prog [(82, s82), (107, s107), (109, s109)] [] {} Tryd.f125 [.q x n] [] retK =
  Tr.br (decide ((↑(rnum x).size : Int) ≤ (3 : Int)))
    (Tr.br (decide ((↑(rden x).size : Int) ≤ (2 : Int)))
      (Tr.br (decide (x.num.natAbs < (18446744073709551616 : Nat)) && decide (x.den < (18446744073709551616 : Nat)))
        (Tr.br (decide ((1000000 : Int) ≤ (9223372036854775807 : Int)))
          (Tr.br
            (decide
              (ncmp (bv (natBytesL x.num.natAbs x.num.natAbs []).toArray.toList)
                  (bv (natBytesL (Int.toNat (1000000 : Int)) (Int.toNat (1000000 : Int)) []).toArray.toList) ≤
                (0 : Int)))
            (Tr.br (decide ((1000 : Int) ≤ (9223372036854775807 : Int)))
              (Tr.ok
                (Res.ret
                  (PV.b
                    (decide
                      (ncmp (bv (natBytesL x.den x.den []).toArray.toList)
                          (bv (natBytesL (Int.toNat (1000 : Int)) (Int.toNat (1000 : Int)) []).toArray.toList) ≤
                        (0 : Int))))
                  []))
              (Tr.no (1)))
            (Tr.ok (Res.ret (PV.bl false) [])))
          (Tr.no (1)))
        (Tr.no (1)))
      (Tr.ok (Res.ret (PV.bl false) [])))
    (Tr.ok (Res.ret (PV.bl false) [])) := by kernel_rfl
def smQ (x : Rat) : Bool := decide (x.num.natAbs ≤ 1000000) && decide (x.den ≤ 1000)
theorem smQ_iff {x : Rat} : smQ x = true ↔ x.num.natAbs ≤ 1000000 ∧ x.den ≤ 1000 := by simp [smQ]
def s125 : Spec := fun args hs K => match args, hs with
  | [.q x _], [] => .br (smQ x) (K (.bl true) []) (.no 1)
  | _, _ => .no 1
include hG in
theorem ok125 : SpecOK Tryd.prog G 125 s125 := by
  refine spec_of hG (.cons (ok82 hG) (.cons (ok107 hG) (.cons (ok109 hG) .nil))) mix enter125 (L := []) (pol := {}) fun args hs K x h => ?_
  unfold s125 at h
  split at h
  case h_2 => cases h
  rename_i x n
  obtain ⟨hc, hr⟩ := Tr.of_br h
  have hs := smQ_iff.1 hc
  have a1 : (rnum x).size ≤ 3 := nb_size_le (k := 3) (by omega)
  have a2 : (rden x).size ≤ 2 := nb_size_le (k := 2) (by omega)
  have t1 : Int.toNat (1000000 : Int) = 1000000 := by decide
  have t2 : Int.toNat (1000 : Int) = 1000 := by decide
  have nc : ∀ n m : Nat, n ≤ m → ncmp n m ≤ 0 := by
    intro n m h; unfold ncmp; split
    · omega
    · rw [if_neg (by omega)]; omega
  refine ⟨LpsOK.none (by kernel_rfl), ?_⟩
  rw [e125]
  simp only [bv_nb', bv_nb2]
  rw [Tr.run_t (decide_eq_true (by omega)), Tr.run_t (decide_eq_true (by omega)), Tr.run_t (by simp only [Bool.and_eq_true, decide_eq_true_eq]; omega), Tr.run_t (by decide),
    Tr.run_t (decide_eq_true (nc _ _ (by rw [t1]; omega))), Tr.run_t (by decide)]
  exact ⟨_, _, _, rfl, rle_b (decide_eq_true (nc _ _ (by rw [t2]; omega))), hr⟩
noncomputable def b95 : Code := (loopsOf (bodyC Tryd.f95)).getD 0 .skip
def pol95 : Pol := { live := [(2, [2, 5, 6, 7])] }
theorem enter95 : Enters Tryd.prog 95 Tryd.f95 (bodyC Tryd.f95) := ⟨Tryd.func95, by kernel_rfl, rfl⟩
theorem r95 (xs : List Rat) (n i : Int) : evRound Tryd.prog [(125, s125)] [] pol95 Tryd.f95.ntmps 0 [2, 5, 6, 7] b95 ⟨[.bl false, .lst 3 (.rats 64 xs), .i .i64 n, .i .i64 i], []⟩ =
  Tr.br (decide (i < n))
    (Tr.br (decide ((0 : Int) ≤ i) && decide (i < (↑xs.length : Int)))
      (Tr.br (smQ (xs.getD i.toNat (0 : Rat)))
        (Tr.br
          (decide ((-9223372036854775808 : Int) ≤ i + (1 : Int)) && decide (i + (1 : Int) ≤ (9223372036854775807 : Int)))
          (Tr.ok
            (Res.out Exit.normal
              {
                t :=
                  [PV.bl false, PV.lst (3) (Cont.rats (64) xs), PV.i IntKind.i64 n,
                    PV.i IntKind.i64 (i + (1 : Int))],
                h := [] }))
          (Tr.no (7002)))
        (Tr.no (1)))
      (Tr.no (4004)))
    (Tr.ok
      (Res.out (Exit.exit (0))
        { t := [PV.bl false, PV.lst (3) (Cont.rats (64) xs), PV.i IntKind.i64 n, PV.i IntKind.i64 i],
          h := [] })) := by kernel_rfl
def st95 (xs : List Rat) (i : Nat) : LS := ⟨[.bl false, .lst 3 (.rats 64 xs), .i .i64 xs.length, .i .i64 i], []⟩
def l95 : LSpec := fun ls K => match ls with
  | ⟨[.bl false, .lst 3 (.rats 64 xs), .i .i64 n, .i .i64 i], []⟩ => .br (decide (n = xs.length) && decide (i = 0) && decide (xs.length ≤ 1073741824) && xs.all smQ) (K (.exit 0) (st95 xs xs.length)) (.no 1)
  | _ => .no 1
include hG in
theorem orc95 : OrcOK Tryd.prog G [(125, s125)] := .cons (ok125 hG) .nil
include hG in
theorem loop95 : LoopOK Tryd.prog G Tryd.f95.ntmps 0 [2, 5, 6, 7] b95 l95 := by
  intro ls K y hm h
  unfold l95 at h
  split at h
  case h_2 => cases h
  rename_i xs n i
  obtain ⟨hc, hr⟩ := Tr.of_br h
  simp only [Bool.and_eq_true, decide_eq_true_eq] at hc
  obtain ⟨⟨⟨rfl, rfl⟩, hs⟩, ha⟩ := hc
  refine ⟨_, _, goes_ok (Goes.count (R := Rnd Tryd.prog G Tryd.f95.ntmps 0 [2, 5, 6, 7] b95) (st95 xs) (e := .exit 0) (ls' := st95 xs xs.length) (by simp) xs.length 0 (fun j _ hj => ?_) ?_), hr⟩
  · refine round_ok hG (orc95 hG) mix (L := []) (pol := pol95) (O := [(125, s125)]) (LpsOK.none (by kernel_rfl)) (Nat.zero_le _) ?_
    unfold st95
    rw [r95, Tr.run_t (decide_eq_true (by omega)), Tr.run_t (by simp only [Bool.and_eq_true, decide_eq_true_eq]; omega), Tr.run_t (by
      rw [Int.toNat_natCast, List.getD_eq_getElem?_getD, List.getElem?_eq_getElem (show j < xs.length by omega)]
      exact List.all_eq_true.1 ha _ (List.getElem_mem _)), Tr.run_t (by simp only [Bool.and_eq_true, decide_eq_true_eq]; omega), Tr.run_ok]
    rfl
  · refine round_ok hG (orc95 hG) mix (L := []) (pol := pol95) (O := [(125, s125)]) (LpsOK.none (by kernel_rfl)) (Nat.zero_le _) ?_
    unfold st95
    rw [Nat.zero_add, r95, Tr.run_f (decide_eq_false (by omega)), Tr.run_ok]
theorem e95 (xs : List Rat) : evF Tryd.prog [(125, s125)] [(2, l95)] pol95 Tryd.f95 [.lst 3 (.rats 64 xs)] [] retK =
  Tr.br
    (decide ((↑xs.length : Int) = (↑xs.length : Int)) && decide ((0 : Int) = (0 : Int)) &&
        decide (xs.length ≤ (1073741824 : Nat)) &&
      xs.all smQ)
    (Tr.ok (Res.ret (PV.bl true) [])) (Tr.no (1)) := by kernel_rfl
def s95 : Spec := fun args hs K => match args, hs with
  | [.lst 3 (.rats 64 xs)], [] => .br (decide (xs.length ≤ 1073741824) && xs.all smQ) (K (.bl true) []) (.no 1)
  | _, _ => .no 1
include hG in
theorem ok95 : SpecOK Tryd.prog G 95 s95 := by
  refine spec_of hG (orc95 hG) mix enter95 (L := [(2, l95)]) (pol := pol95) fun args hs K x h => ?_
  unfold s95 at h
  split at h
  case h_2 => cases h
  rename_i xs
  obtain ⟨hc, hr⟩ := Tr.of_br h
  simp only [Bool.and_eq_true, decide_eq_true_eq] at hc
  refine ⟨lps1 (b := b95) (live := [2, 5, 6, 7]) (sp := l95) (m := 0) (by kernel_rfl) (by kernel_rfl) (by kernel_rfl) (loop95 hG), _, _, _, ?_, .refl _, hr⟩
  rw [e95, Tr.run_t (by simp only [Bool.and_eq_true, decide_eq_true_eq]; exact ⟨⟨⟨trivial, trivial⟩, hc.1⟩, hc.2⟩), Tr.run_ok]
noncomputable def b94 : Code := (loopsOf (bodyC Tryd.f94)).getD 0 .skip
def pol94 : Pol := { live := [(2, [0, 2, 5, 6])] }
theorem enter94 : Enters Tryd.prog 94 Tryd.f94 (bodyC Tryd.f94) := ⟨Tryd.func94, by kernel_rfl, rfl⟩
theorem r94 (a : ByteArray) (n i : Int) : evRound Tryd.prog [] [] pol94 Tryd.f94.ntmps 0 [0, 2, 5, 6] b94 ⟨[.s a, .bl false, .i .i64 n, .i .i64 i], []⟩ =
  Tr.br (decide (i < n))
    (Tr.br (decide ((0 : Int) ≤ i) && decide (i < (↑a.size : Int)))
      (Tr.br (decide ((↑(a.1.toList.getD i.toNat (0 : UInt8)).toNat : Int) < (97 : Int)))
        (Tr.ok (Res.out Exit.ret { t := [PV.s a, PV.bl false, PV.i IntKind.i64 n, PV.i IntKind.i64 i], h := [] }))
        (Tr.br (decide ((0 : Int) ≤ i) && decide (i < (↑a.size : Int)))
          (Tr.br (decide ((122 : Int) < (↑(a.1.toList.getD i.toNat (0 : UInt8)).toNat : Int)))
            (Tr.ok (Res.out Exit.ret { t := [PV.s a, PV.bl false, PV.i IntKind.i64 n, PV.i IntKind.i64 i], h := [] }))
            (Tr.br
              (decide ((-9223372036854775808 : Int) ≤ i + (1 : Int)) &&
                decide (i + (1 : Int) ≤ (9223372036854775807 : Int)))
              (Tr.ok
                (Res.out Exit.normal
                  { t := [PV.s a, PV.bl false, PV.i IntKind.i64 n, PV.i IntKind.i64 (i + (1 : Int))], h := [] }))
              (Tr.no (7002))))
          (Tr.no (5003))))
      (Tr.no (5008)))
    (Tr.ok
      (Res.out (Exit.exit (0)) { t := [PV.s a, PV.bl false, PV.i IntKind.i64 n, PV.i IntKind.i64 i], h := [] })) := by kernel_rfl
def st94 (a : ByteArray) (i : Nat) : LS := ⟨[.s a, .bl false, .i .i64 a.size, .i .i64 i], []⟩
def isNm (a : ByteArray) : Bool := a.data.toList.all (fun c => decide (97 ≤ c.toNat) && decide (c.toNat ≤ 122)) && decide (1 ≤ a.size) && decide (a.size ≤ 12)
def l94 : LSpec := fun ls K => match ls with
  | ⟨[.s a, .bl false, .i .i64 n, .i .i64 i], []⟩ => .br (decide (n = a.size) && decide (i = 0) && isNm a) (K (.exit 0) (st94 a a.size)) (.no 1)
  | _ => .no 1
include hG in
theorem loop94 : LoopOK Tryd.prog G Tryd.f94.ntmps 0 [0, 2, 5, 6] b94 l94 := by
  intro ls K y hm h
  unfold l94 at h
  split at h
  case h_2 => cases h
  rename_i a n i
  obtain ⟨hc, hr⟩ := Tr.of_br h
  simp only [Bool.and_eq_true, decide_eq_true_eq, isNm] at hc
  obtain ⟨⟨rfl, rfl⟩, ⟨ha, h1⟩, h2⟩ := hc
  have hl := ba_len a
  refine ⟨_, _, goes_ok (Goes.count (R := Rnd Tryd.prog G Tryd.f94.ntmps 0 [0, 2, 5, 6] b94) (st94 a) (e := .exit 0) (ls' := st94 a a.size) (by simp) a.size 0 (fun j _ hj => ?_) ?_), hr⟩
  · refine round_ok hG .nil mix (L := []) (pol := pol94) (O := []) (LpsOK.none (by kernel_rfl)) (Nat.zero_le _) ?_
    have hb := List.all_eq_true.1 ha (a.data.toList[j]'(by omega)) (List.getElem_mem _)
    simp only [Bool.and_eq_true, decide_eq_true_eq] at hb
    have hg : (a.data.toList.getD ((j : Nat) : Int).toNat 0) = a.data.toList[j]'(by omega) := by
      rw [Int.toNat_natCast, List.getD_eq_getElem?_getD, List.getElem?_eq_getElem (show j < a.data.toList.length by omega)]; rfl
    unfold st94
    rw [r94, hg, Tr.run_t (decide_eq_true (by omega)), Tr.run_t (by simp only [Bool.and_eq_true, decide_eq_true_eq]; omega), Tr.run_f (decide_eq_false (by omega)), Tr.run_t (by simp only [Bool.and_eq_true, decide_eq_true_eq]; omega), Tr.run_f (decide_eq_false (by omega)), Tr.run_t (by simp only [Bool.and_eq_true, decide_eq_true_eq]; omega), Tr.run_ok]
    rfl
  · refine round_ok hG .nil mix (L := []) (pol := pol94) (O := []) (LpsOK.none (by kernel_rfl)) (Nat.zero_le _) ?_
    unfold st94
    rw [Nat.zero_add, r94, Tr.run_f (decide_eq_false (by omega)), Tr.run_ok]
theorem e94 (a : ByteArray) : evF Tryd.prog [] [(2, l94)] pol94 Tryd.f94 [.s a] [] retK =
  Tr.br (decide ((↑a.size : Int) = (↑a.size : Int)) && decide ((0 : Int) = (0 : Int)) && isNm a)
    (Tr.br (decide ((1 : Int) ≤ (↑a.size : Int))) (Tr.ok (Res.ret (PV.b (decide ((↑a.size : Int) ≤ (12 : Int)))) []))
      (Tr.ok (Res.ret (PV.bl false) [])))
    (Tr.no (1)) := by kernel_rfl
def s94 : Spec := fun args hs K => match args, hs with
  | [.s a], [] => .br (isNm a) (K (.bl true) []) (.no 1)
  | _, _ => .no 1
include hG in
theorem ok94 : SpecOK Tryd.prog G 94 s94 := by
  refine spec_of hG .nil mix enter94 (L := [(2, l94)]) (pol := pol94) fun args hs K x h => ?_
  unfold s94 at h
  split at h
  case h_2 => cases h
  rename_i a
  obtain ⟨hc, hr⟩ := Tr.of_br h
  refine ⟨lps1 (b := b94) (live := [0, 2, 5, 6]) (sp := l94) (m := 0) (by kernel_rfl) (by kernel_rfl) (by kernel_rfl) (loop94 hG), ?_⟩
  rw [e94, Tr.run_t (by rw [hc]; simp)]
  unfold isNm at hc
  simp only [Bool.and_eq_true, decide_eq_true_eq] at hc
  rw [Tr.run_t (decide_eq_true (by omega))]
  exact ⟨_, _, _, rfl, rle_b (decide_eq_true (by omega)), hr⟩
end Go.Proofs.YtejfdhcigkgbmaaDoor.PE
/-! Profiles: bounds of numerators and denominators. -/
namespace Go.Proofs.YtejfdhcigkgbmaaDoor.PE
namespace Prof
/-- Speeds in sixths, accelerations in eighths. -/
def pr (s a : Rat) : Prop := ∃ p r : Nat, 1 ≤ p ∧ p ≤ 12 ∧ 1 ≤ r ∧ r ≤ 8 ∧ s = mkRat p 6 ∧ a = mkRat r 8
/-- Distances in quarters. -/
def dist (x : Rat) : Prop := ∃ q : Nat, q < 40 ∧ x = mkRat q 4
/-- A numerator of at most n, a denominator of at most d. -/
def Bd (x : Rat) (n d : Nat) : Prop := x.num.natAbs ≤ n ∧ x.den ≤ d
theorem Bd.mk {x : Rat} {n d : Nat} (hd : d ≠ 0) (h : x = mkRat n d) : Bd x n d := by
  have := rat_small hd h
  exact ⟨by simpa using this.1, this.2⟩
theorem Bd.le {x : Rat} {n d n' d' : Nat} (h : Bd x n d) (h1 : n ≤ n') (h2 : d ≤ d') : Bd x n' d' := ⟨Nat.le_trans h.1 h1, Nat.le_trans h.2 h2⟩
theorem Bd.cross {x y : Rat} {n d n' d' N : Nat} (h : Bd x n d) (h' : Bd y n' d') (hN : n * d' < N) : x.num.natAbs * y.den < N := Nat.lt_of_le_of_lt (Nat.mul_le_mul h.1 h'.2) hN
theorem nat_mk (n : Nat) : ((n : Nat) : Rat) = mkRat n 1 := (Rat.mkRat_self ((n : Nat) : Rat)).symm
theorem mk_mul (a b d e : Nat) : mkRat a d * mkRat b e = mkRat ((a * b : Nat) : Int) (d * e) := by
  rw [Rat.mkRat_mul_mkRat, Int.natCast_mul]
theorem mk_pos {n d : Nat} (hn : 0 < n) (hd : 0 < d) : (0 : Rat) < mkRat n d := by
  rw [Rat.mkRat_eq_div, Rat.div_def]
  exact Rat.mul_pos (Rat.intCast_pos.2 (by omega)) (Rat.inv_pos.2 (Rat.natCast_pos.2 hd))
theorem mk_nonneg {n d : Nat} (hd : 0 < d) : (0 : Rat) ≤ mkRat n d := by
  rcases Nat.eq_zero_or_pos n with h | h
  · subst h; simp
  · exact Rat.le_of_lt (mk_pos h hd)
theorem mk_div (a b d e : Nat) : mkRat a d / mkRat b e = mkRat ((a * e : Nat) : Int) (d * b) := by
  have h1 : (mkRat b e)⁻¹ = mkRat e b := by
    rw [← Rat.divInt_ofNat, Rat.inv_divInt, Rat.divInt_ofNat]
  rw [Rat.div_def, h1, mk_mul]
section
variable {s a : Rat} (h : pr s a)
include h
theorem pr.pos : 0 < s ∧ 0 < a := by
  obtain ⟨p, r, h1, h2, h3, h4, rfl, rfl⟩ := h
  exact ⟨mk_pos (by omega) (by omega), mk_pos (by omega) (by omega)⟩
theorem pr.bs : Bd s 12 6 := by
  obtain ⟨p, r, h1, h2, h3, h4, rfl, rfl⟩ := h
  exact (Bd.mk (by omega) rfl).le (by omega) (Nat.le_refl _)
theorem pr.ba : Bd a 8 8 := by
  obtain ⟨p, r, h1, h2, h3, h4, rfl, rfl⟩ := h
  exact (Bd.mk (by omega) rfl).le (by omega) (Nat.le_refl _)
theorem pr.bai {i : Nat} (hi : i ≤ 50) : Bd (a * (i : Nat)) 400 8 := by
  obtain ⟨p, r, h1, h2, h3, h4, rfl, rfl⟩ := h
  have e : mkRat r 8 * (i : Nat) = mkRat ((r * i : Nat) : Int) (8 * 1) := by rw [nat_mk, mk_mul]
  refine (Bd.mk (by omega) e).le ?_ (by omega)
  have := Nat.mul_le_mul h4 hi
  omega
theorem pr.bcap (n k : Nat) : Bd (cap s a n k) 48 24 := by
  obtain ⟨p, r, h1, h2, h3, h4, rfl, rfl⟩ := h
  have := m24_le p r n k
  exact (Bd.mk (by omega) (cap24 p r n k)).le (by omega) (Nat.le_refl _)
theorem pr.bcov (n : Nat) {k : Nat} (hk : k ≤ 50) : Bd (cov s a n k) 2400 24 := by
  obtain ⟨p, r, h1, h2, h3, h4, rfl, rfl⟩ := h
  have h5 := c24_le p r n k
  have h6 := Nat.mul_le_mul (show 4 * p ≤ 48 by omega) hk
  exact (Bd.mk (by omega) (cov24 p r n k)).le (by omega) (Nat.le_refl _)
end
theorem dist.bx {x : Rat} (h : dist x) : Bd x 39 4 := by
  obtain ⟨q, h1, rfl⟩ := h
  exact (Bd.mk (by omega) rfl).le (by omega) (Nat.le_refl _)
theorem dist.nonneg {x : Rat} (h : dist x) : 0 ≤ x := by
  obtain ⟨q, h1, rfl⟩ := h
  exact mk_nonneg (by omega)
section
variable {x s a : Rat} (hx : dist x) (h : pr s a) {n : Nat} (hn : n ≤ 50) (h1 : 1 ≤ n)
include hx h hn h1
/-- The scale: 6 q over the sum of the caps in parts of 24. -/
theorem scale_eq : ∃ q p r : Nat, q < 40 ∧ s = mkRat p 6 ∧ a = mkRat r 8 ∧ p ≤ 12 ∧ c24 p r n n ≠ 0 ∧ c24 p r n n ≤ 2400 ∧ x / cover s a n = mkRat ((6 * q : Nat) : Int) (c24 p r n n) := by
  have hp := cover_pos (n := n) h.pos.1 h.pos.2 h1
  obtain ⟨p, r, g1, g2, g3, g4, rfl, rfl⟩ := h
  obtain ⟨q, g5, rfl⟩ := hx
  have e := cov24 p r n n
  have hc : c24 p r n n ≠ 0 := by
    intro h0
    unfold cover at hp
    rw [e, h0] at hp
    simp at hp
  have h5 := c24_le p r n n
  have h6 := Nat.mul_le_mul (show 4 * p ≤ 48 by omega) hn
  refine ⟨q, p, r, g5, rfl, rfl, g2, hc, by omega, ?_⟩
  unfold cover
  rw [e, mk_div, ← mk_scale (a := 6 * q) (d := c24 p r n n) (e := 4) (by omega), show q * 24 = 6 * q * 4 by omega, Nat.mul_comm 4]
theorem scale_bd : Bd (x / cover s a n) 234 2400 := by
  obtain ⟨q, p, r, g1, g2, g3, g4, g5, g6, g7⟩ := scale_eq hx h hn h1
  exact (Bd.mk g5 g7).le (by omega) g6
theorem val_bd (k : Nat) : Bd (val (x / cover s a n) s a n k) 11232 57600 := by
  obtain ⟨q, p, r, g1, g2, g3, g4, g5, g6, g7⟩ := scale_eq hx h hn h1
  have e : val (x / cover s a n) s a n k = mkRat ((6 * q * m24 p r n k : Nat) : Int) (c24 p r n n * 24) := by
    unfold val
    rw [g7, g2, g3, cap24, mk_mul]
  have h2 := m24_le p r n k
  have h3 := Nat.mul_le_mul (show 6 * q ≤ 234 by omega) (show m24 p r n k ≤ 48 by omega)
  exact (Bd.mk (by omega) e).le (by omega) (by omega)
theorem sum_bd {k : Nat} (hk : k ≤ 50) : Bd ((x / cover s a n) * cov s a n k) 561600 57600 := by
  obtain ⟨q, p, r, g1, g2, g3, g4, g5, g6, g7⟩ := scale_eq hx h hn h1
  have e : (x / cover s a n) * cov s a n k = mkRat ((6 * q * c24 p r n k : Nat) : Int) (c24 p r n n * 24) := by
    rw [g7, g2, g3, cov24, mk_mul]
  have h2 := c24_le p r n k
  have h3 := Nat.mul_le_mul (show 4 * p ≤ 48 by omega) hk
  have h4 := Nat.mul_le_mul (show 6 * q ≤ 234 by omega) (show c24 p r n k ≤ 2400 by omega)
  exact (Bd.mk (by omega) e).le (by omega) (by omega)
/-- A difference of two changes. -/
theorem diff_bd (k l : Nat) : Bd (val (x / cover s a n) s a n k - val (x / cover s a n) s a n l) 11232 57600 := by
  obtain ⟨q, p, r, g1, g2, g3, g4, g5, g6, g7⟩ := scale_eq hx h hn h1
  have e : ∀ k, val (x / cover s a n) s a n k = mkRat ((6 * q * m24 p r n k : Nat) : Int) (c24 p r n n * 24) := by
    intro k
    unfold val
    rw [g7, g2, g3, cap24, mk_mul]
  have hd : c24 p r n n * 24 ≠ 0 := by omega
  have e2 : val (x / cover s a n) s a n k - val (x / cover s a n) s a n l = mkRat ((6 * q * m24 p r n k : Nat) - (6 * q * m24 p r n l : Nat) : Int) (c24 p r n n * 24) := by
    rw [e, e, Rat.sub_eq_add_neg, Rat.neg_mkRat, Rat.mkRat_add_mkRat _ _ hd hd, ← Int.add_mul, Rat.mkRat_mul_right hd, Int.sub_eq_add_neg]
  have hb := rat_small hd e2
  have h2 := m24_le p r n k
  have h3 := Nat.mul_le_mul (show 6 * q ≤ 234 by omega) (show m24 p r n k ≤ 48 by omega)
  have h4 := m24_le p r n l
  have h5 := Nat.mul_le_mul (show 6 * q ≤ 234 by omega) (show m24 p r n l ≤ 48 by omega)
  exact ⟨by omega, by omega⟩
theorem scale_01 (hle : x ≤ cover s a n) : 0 ≤ x / cover s a n ∧ x / cover s a n ≤ 1 := by
  have hp := cover_pos (n := n) h.pos.1 h.pos.2 h1
  constructor
  · rw [Rat.div_def]
    exact Rat.mul_nonneg hx.nonneg (Rat.le_of_lt (Rat.inv_pos.2 hp))
  · rw [← Rat.not_lt, Rat.lt_div_iff hp, Rat.one_mul, Rat.not_lt]
    exact hle
end
/-- The least number of ticks from n on, f at most; -1 if there is none. -/
def needF (s a x : Rat) : Nat → Nat → Int
  | 0, _ => -1
  | f + 1, n => if x ≤ cover s a n then n else needF s a x f (n + 1)
def need (s a x : Rat) : Int := needF s a x 50 1
theorem needF_spec (s a x : Rat) : ∀ (f n : Nat), needF s a x f n = -1 ∨ ∃ m : Nat, needF s a x f n = m ∧ n ≤ m ∧ m < n + f ∧ x ≤ cover s a m
  | 0, _ => .inl rfl
  | f + 1, n => by
    unfold needF
    split
    · rename_i h; exact .inr ⟨n, rfl, Nat.le_refl _, by omega, h⟩
    · rcases needF_spec s a x f (n + 1) with h | ⟨m, h1, h2, h3, h4⟩
      · exact .inl h
      · exact .inr ⟨m, h1, by omega, by omega, h4⟩
/-- The changes of a profile. -/
def vals (x s a : Rat) (n : Nat) : List Rat := (List.range n).map fun j => val (x / cover s a n) s a n (j + 1)
theorem vals_len (x s a : Rat) (n : Nat) : (vals x s a n).length = n := by simp [vals]
theorem vals_get {x s a : Rat} {n j : Nat} (h : j < n) : (vals x s a n).getD j 0 = val (x / cover s a n) s a n (j + 1) := by
  simp [vals, List.getD_eq_getElem?_getD, h]
theorem vals_rev (x s a : Rat) (n : Nat) : (vals x s a n).reverse = vals x s a n := by
  apply List.ext_getElem
  · simp
  · intro j h1 h2
    rw [vals_len] at h2
    simp only [vals, List.getElem_reverse, List.getElem_map, List.getElem_range, List.length_map, List.length_range]
    rw [← val_sym (k := j + 1) (by omega)]
    congr 1
    omega
end Prof
end Go.Proofs.YtejfdhcigkgbmaaDoor.PE
/-! Bounds of sums and products; polygons. -/
namespace Go.Proofs.YtejfdhcigkgbmaaDoor.PE
open Prof
theorem natAbs_mul_le {a b : Int} {n m : Nat} (h : a.natAbs ≤ n) (h' : b.natAbs ≤ m) : (a * b).natAbs ≤ n * m := by
  rw [Int.natAbs_mul]; exact Nat.mul_le_mul h h'
theorem Prof.Bd.mul {x y : Rat} {n d n' d' : Nat} (h : Bd x n d) (h' : Bd y n' d') : Bd (x * y) (n * n') (d * d') := by
  have hd : x.den * y.den ≠ 0 := Nat.mul_ne_zero x.den_nz y.den_nz
  have := rat_small hd (Rat.mul_def' x y)
  exact ⟨Nat.le_trans this.1 (natAbs_mul_le h.1 h'.1), Nat.le_trans this.2 (Nat.mul_le_mul h.2 h'.2)⟩
theorem Prof.Bd.sub {x y : Rat} {n d n' d' : Nat} (h : Bd x n d) (h' : Bd y n' d') : Bd (x - y) (n * d' + n' * d) (d * d') := by
  have hd : x.den * y.den ≠ 0 := Nat.mul_ne_zero x.den_nz y.den_nz
  have := rat_small hd (Rat.sub_def' x y)
  refine ⟨Nat.le_trans this.1 ?_, Nat.le_trans this.2 (Nat.mul_le_mul h.2 h'.2)⟩
  have h1 := natAbs_mul_le (a := x.num) (b := (y.den : Int)) h.1 (by simpa using h'.2)
  have h2 := natAbs_mul_le (a := y.num) (b := (x.den : Int)) h'.1 (by simpa using h.2)
  omega
theorem Prof.Bd.add {x y : Rat} {n d n' d' : Nat} (h : Bd x n d) (h' : Bd y n' d') : Bd (x + y) (n * d' + n' * d) (d * d') := by
  have hd : x.den * y.den ≠ 0 := Nat.mul_ne_zero x.den_nz y.den_nz
  have := rat_small hd (Rat.add_def' x y)
  refine ⟨Nat.le_trans this.1 ?_, Nat.le_trans this.2 (Nat.mul_le_mul h.2 h'.2)⟩
  have h1 := natAbs_mul_le (a := x.num) (b := (y.den : Int)) h.1 (by simpa using h'.2)
  have h2 := natAbs_mul_le (a := y.num) (b := (x.den : Int)) h'.1 (by simpa using h.2)
  omega
/-- Twice the area of a triangle, with its sign. -/
def tri (ax ay bx by_ cx cy : Rat) : Rat := (bx - ax) * (cy - ay) - (by_ - ay) * (cx - ax)
/-- Coordinates on the short road. -/
def cB (x : Rat) : Bool := decide (x.num.natAbs ≤ 1000) && decide (x.den ≤ 8)
theorem cB_iff {x : Rat} : cB x = true ↔ Bd x 1000 8 := by simp [cB, Bd]
end Go.Proofs.YtejfdhcigkgbmaaDoor.PE
namespace Go.Proofs.YtejfdhcigkgbmaaDoor.PE
open Go
set_option maxRecDepth 100000
variable {G : World → (Nat → Prop) → Prop} (hG : GOk G)

/-! vec.Sub, vec.Cross, poly.left -/
theorem enter41 : Enters Tryd.prog 41 Tryd.f41 (bodyC Tryd.f41) := ⟨Tryd.func41, by kernel_rfl, rfl⟩
noncomputable def s41 : Spec := evF Tryd.prog [(29, s29)] [] {} Tryd.f41
include hG in
theorem ok41 : SpecOK Tryd.prog G 41 s41 := spec_ev hG (.cons (ok29 hG) .nil) mix enter41 (fun _ => LpsOK.none (by kernel_rfl))
theorem enter97 : Enters Tryd.prog 97 Tryd.f97 (bodyC Tryd.f97) := ⟨Tryd.func97, by kernel_rfl, rfl⟩
noncomputable def s97 : Spec := evF Tryd.prog [(29, s29), (43, s43)] [] {} Tryd.f97
include hG in
theorem ok97 : SpecOK Tryd.prog G 97 s97 := spec_ev hG (.cons (ok29 hG) (.cons (ok43 hG) .nil)) mix enter97 (fun _ => LpsOK.none (by kernel_rfl))
theorem enter146 : Enters Tryd.prog 146 Tryd.f146 (bodyC Tryd.f146) := ⟨Tryd.func146, by kernel_rfl, rfl⟩
noncomputable def O146 : Orc := [(26, s26), (41, s41), (97, s97)]
theorem e146 (ax ay bx by_ cx cy : Rat) (w1 w2 w3 w4 w5 w6 : Nat) : evF Tryd.prog O146 [] {} Tryd.f146 [.agg [.q ax w1, .q ay w2], .agg [.q bx w3, .q by_ w4], .agg [.q cx w5, .q cy w6]] [] retK =
  Tr.br
    (s32 bx && s32 ax && decide (bx.num.natAbs * ax.den < (72057594037927936 : Nat)) &&
      decide (ax.num.natAbs * bx.den < (72057594037927936 : Nat)))
    (Tr.br
      (s32 by_ && s32 ay && decide (by_.num.natAbs * ay.den < (72057594037927936 : Nat)) &&
        decide (ay.num.natAbs * by_.den < (72057594037927936 : Nat)))
      (Tr.br
        (s32 cx && s32 ax && decide (cx.num.natAbs * ax.den < (72057594037927936 : Nat)) &&
          decide (ax.num.natAbs * cx.den < (72057594037927936 : Nat)))
        (Tr.br
          (s32 cy && s32 ay && decide (cy.num.natAbs * ay.den < (72057594037927936 : Nat)) &&
            decide (ay.num.natAbs * cy.den < (72057594037927936 : Nat)))
          (Tr.br (s32 (bx - ax) && s32 (cy - ay))
            (Tr.br (s32 (by_ - ay) && s32 (cx - ax))
              (Tr.br
                (s32 ((bx - ax) * (cy - ay)) && s32 ((by_ - ay) * (cx - ax)) &&
                    decide
                      (((bx - ax) * (cy - ay)).num.natAbs * ((by_ - ay) * (cx - ax)).den < (72057594037927936 : Nat)) &&
                  decide (((by_ - ay) * (cx - ax)).num.natAbs * ((bx - ax) * (cy - ay)).den < (72057594037927936 : Nat)))
                (Tr.br (s64 ((bx - ax) * (cy - ay) - (by_ - ay) * (cx - ax)))
                  (Tr.ok
                    (Res.ret (PV.i IntKind.i64 (rcmp ((bx - ax) * (cy - ay) - (by_ - ay) * (cx - ax)) (0 : Rat))) []))
                  (Tr.no (1)))
                (Tr.no (1)))
              (Tr.no (1)))
            (Tr.no (1)))
          (Tr.no (1)))
        (Tr.no (1)))
      (Tr.no (1)))
    (Tr.no (1)) := by kernel_rfl
def s146 : Spec := fun args hs K => match args, hs with
  | [.agg [.q ax _, .q ay _], .agg [.q bx _, .q by_ _], .agg [.q cx _, .q cy _]], [] => .br (cB ax && cB ay && cB bx && cB by_ && cB cx && cB cy) (K (.i .i64 (rcmp (tri ax ay bx by_ cx cy) 0)) []) (.no 1)
  | _, _ => .no 1
theorem Bd32' {x : Rat} {n d : Nat} (h : Prof.Bd x n d) (h1 : n < 4294967296) (h2 : d < 4294967296) : s32 x = true := s32_iff.2 ⟨Nat.lt_of_le_of_lt h.1 h1, Nat.lt_of_le_of_lt h.2 h2⟩
theorem subOk {x y : Rat} {n d n' d' : Nat} (h : Prof.Bd x n d) (h' : Prof.Bd y n' d') (h1 : n < 4294967296) (h2 : d < 4294967296) (h3 : n' < 4294967296) (h4 : d' < 4294967296) (h5 : n * d' < 72057594037927936) (h6 : n' * d < 72057594037927936) :
    (s32 x && s32 y && decide (x.num.natAbs * y.den < 72057594037927936) && decide (y.num.natAbs * x.den < 72057594037927936)) = true := by
  rw [Bd32' h h1 h2, Bd32' h' h3 h4]
  simp only [Bool.true_and, Bool.and_eq_true, decide_eq_true_eq]
  exact ⟨h.cross h' h5, h'.cross h h6⟩
theorem Bd64 {x : Rat} {n d : Nat} (h : Prof.Bd x n d) (h1 : n < 18446744073709551616) (h2 : d < 18446744073709551616) : s64 x = true := by
  simp only [s64, Bool.and_eq_true, decide_eq_true_eq]
  exact ⟨Nat.lt_of_le_of_lt h.1 h1, Nat.lt_of_le_of_lt h.2 h2⟩
include hG in
theorem orc146 : OrcOK Tryd.prog G O146 := .cons (ok26 hG) (.cons (ok41 hG) (.cons (ok97 hG) .nil))
include hG in
theorem ok146 : SpecOK Tryd.prog G 146 s146 := by
  refine spec_of hG (orc146 hG) mix enter146 (L := []) (pol := {}) fun args hs K x h => ?_
  unfold s146 at h
  split at h
  case h_2 => cases h
  rename_i ax w1 ay w2 bx w3 by_ w4 cx w5 cy w6
  obtain ⟨hc, hr⟩ := Tr.of_br h
  simp only [Bool.and_eq_true, cB_iff] at hc
  obtain ⟨⟨⟨⟨⟨h1, h2⟩, h3⟩, h4⟩, h5⟩, h6⟩ := hc
  refine ⟨LpsOK.none (by kernel_rfl), _, _, _, ?_, .refl _, hr⟩
  have d1 := h3.sub h1
  have d2 := h6.sub h2
  have d3 := h4.sub h2
  have d4 := h5.sub h1
  have m1 := d1.mul d2
  have m2 := d3.mul d4
  rw [e146, Tr.run_t (subOk h3 h1 (by omega) (by omega) (by omega) (by omega) (by omega) (by omega)), Tr.run_t (subOk h4 h2 (by omega) (by omega) (by omega) (by omega) (by omega) (by omega)),
    Tr.run_t (subOk h5 h1 (by omega) (by omega) (by omega) (by omega) (by omega) (by omega)), Tr.run_t (subOk h6 h2 (by omega) (by omega) (by omega) (by omega) (by omega) (by omega)),
    Tr.run_t (by rw [Bd32' d1 (by omega) (by omega), Bd32' d2 (by omega) (by omega)]; rfl), Tr.run_t (by rw [Bd32' d3 (by omega) (by omega), Bd32' d4 (by omega) (by omega)]; rfl),
    Tr.run_t (subOk m1 m2 (by omega) (by omega) (by omega) (by omega) (by omega) (by omega)), Tr.run_t (Bd64 (m1.sub m2) (by omega) (by omega)), Tr.run_ok]
  rfl
/-! poly.check -/
def pv (px py : Nat → Rat) : Nat → PV := fun i => .agg [.q (px i) 64, .q (py i) 64]
noncomputable def b135 : Code := (loopsOf (bodyC Tryd.f135)).getD 0 .skip
noncomputable def i135 : Code := (loopsOf (bodyC Tryd.f135)).getD 1 .skip
def pol135 : Pol := { live := [(7, [0, 4, 5, 18, 19, 20]), (10, [0, 4, 5, 6, 7, 8, 18, 19, 20])] }
theorem enter135 : Enters Tryd.prog 135 Tryd.f135 (bodyC Tryd.f135) := ⟨Tryd.func135, by kernel_rfl, rfl⟩
theorem q135 (n : Nat) (px py : Nat → Rat) (e m i k : Int) (x y : Rat) : evRound Tryd.prog [(146, s146)] [] pol135 Tryd.f135.ntmps 0 [0, 4, 5, 6, 7, 8, 18, 19, 20] i135 ⟨[.lst 6 (.fn n (pv px py)), .i .i64 e, .i .i64 m, .i .i64 i, .ptr 0 6 0 0 [], .i .i64 k, .lst 6 (.fn n (pv px py)), .i .i64 m, .i .i64 i], [some ⟨6, .vals [.agg [.q x 64, .q y 64]]⟩]⟩ =
  Tr.br (decide (k < m))
    (Tr.br (decide ((-9223372036854775808 : Int) ≤ i + (1 : Int)) && decide (i + (1 : Int) ≤ (9223372036854775807 : Int)))
      (Tr.br (!decide (m = (0 : Int)))
        (Tr.br (decide ((0 : Int) ≤ (i + (1 : Int)).tmod m) && decide ((i + (1 : Int)).tmod m < (↑n : Int)))
          (Tr.br (decide ((-9223372036854775808 : Int) ≤ i + k) && decide (i + k ≤ (9223372036854775807 : Int)))
            (Tr.br (!decide (m = (0 : Int)))
              (Tr.br (decide ((0 : Int) ≤ (i + k).tmod m) && decide ((i + k).tmod m < (↑n : Int)))
                (Tr.br
                  (cB x && cB y && cB (px ((i + (1 : Int)).tmod m).toNat) && cB (py ((i + (1 : Int)).tmod m).toNat) &&
                      cB (px ((i + k).tmod m).toNat) &&
                    cB (py ((i + k).tmod m).toNat))
                  (Tr.br
                    (decide
                      (rcmp
                          (tri x y (px ((i + (1 : Int)).tmod m).toNat) (py ((i + (1 : Int)).tmod m).toNat)
                            (px ((i + k).tmod m).toNat) (py ((i + k).tmod m).toNat))
                          (0 : Rat) ≤
                        (0 : Int)))
                    (Tr.ok
                      (Res.out Exit.ret
                        {
                          t :=
                            [PV.lst (6)
                                (Cont.fn n fun (a : Nat) => PV.agg [PV.q (px a) (64), PV.q (py a) (64)]),
                              PV.i IntKind.i64 (3 : Int), PV.i IntKind.i64 m, PV.i IntKind.i64 i,
                              PV.ptr (0) (6) (0) (0) [], PV.i IntKind.i64 k,
                              PV.lst (6)
                                (Cont.fn n fun (a : Nat) => PV.agg [PV.q (px a) (64), PV.q (py a) (64)]),
                              PV.i IntKind.i64 m, PV.i IntKind.i64 i],
                          h :=
                            [some
                                { e := 6,
                                  c := Cont.vals [PV.agg [PV.q x (64), PV.q y (64)]] }] }))
                    (Tr.br
                      (decide ((-9223372036854775808 : Int) ≤ k + (1 : Int)) &&
                        decide (k + (1 : Int) ≤ (9223372036854775807 : Int)))
                      (Tr.ok
                        (Res.out Exit.normal
                          {
                            t :=
                              [PV.lst (6)
                                  (Cont.fn n fun (a : Nat) =>
                                    PV.agg [PV.q (px a) (64), PV.q (py a) (64)]),
                                PV.i IntKind.i64 e, PV.i IntKind.i64 m, PV.i IntKind.i64 i,
                                PV.ptr (0) (6) (0) (0) [],
                                PV.i IntKind.i64 (k + (1 : Int)),
                                PV.lst (6)
                                  (Cont.fn n fun (a : Nat) =>
                                    PV.agg [PV.q (px a) (64), PV.q (py a) (64)]),
                                PV.i IntKind.i64 m, PV.i IntKind.i64 i],
                            h :=
                              [some
                                  { e := 6,
                                    c := Cont.vals [PV.agg [PV.q x (64), PV.q y (64)]] }] }))
                      (Tr.no (12002))))
                  (Tr.no (1)))
                (Tr.no (13004)))
              (Tr.no (13005)))
            (Tr.no (13007)))
          (Tr.no (13012)))
        (Tr.no (13013)))
      (Tr.no (13015)))
    (Tr.ok
      (Res.out (Exit.exit (3))
        {
          t :=
            [PV.lst (6) (Cont.fn n fun (a : Nat) => PV.agg [PV.q (px a) (64), PV.q (py a) (64)]),
              PV.i IntKind.i64 e, PV.i IntKind.i64 m, PV.i IntKind.i64 i,
              PV.ptr (0) (6) (0) (0) [], PV.i IntKind.i64 k,
              PV.lst (6) (Cont.fn n fun (a : Nat) => PV.agg [PV.q (px a) (64), PV.q (py a) (64)]),
              PV.i IntKind.i64 m, PV.i IntKind.i64 i],
          h := [some { e := 6, c := Cont.vals [PV.agg [PV.q x (64), PV.q y (64)]] }] })) := by kernel_rfl
def polyB (n : Nat) (px py : Nat → Rat) : Bool := decide (3 ≤ n) && decide (n ≤ 8) && (List.range n).all (fun i => cB (px i) && cB (py i)) &&
  (List.range n).all (fun i => (List.range n).all fun k => decide (k < 2) || decide (0 < tri (px i) (py i) (px ((i + 1) % n)) (py ((i + 1) % n)) (px ((i + k) % n)) (py ((i + k) % n))))
theorem polyB_c {n : Nat} {px py : Nat → Rat} (h : polyB n px py = true) : 3 ≤ n ∧ n ≤ 8 ∧ (∀ i, i < n → cB (px i) = true ∧ cB (py i) = true) ∧
    ∀ i k, i < n → 2 ≤ k → k < n → 0 < tri (px i) (py i) (px ((i + 1) % n)) (py ((i + 1) % n)) (px ((i + k) % n)) (py ((i + k) % n)) := by
  simp only [polyB, Bool.and_eq_true, decide_eq_true_eq, List.all_eq_true, List.mem_range, Bool.or_eq_true] at h
  obtain ⟨⟨⟨h1, h2⟩, h3⟩, h4⟩ := h
  exact ⟨h1, h2, h3, fun i k hi hk hkn => (h4 i hi k hkn).resolve_left (by omega)⟩
def sti135 (n i : Nat) (px py : Nat → Rat) (k : Int) : LS := ⟨[.lst 6 (.fn n (pv px py)), .i .i64 0, .i .i64 n, .i .i64 i, .ptr 0 6 0 0 [], .i .i64 k, .lst 6 (.fn n (pv px py)), .i .i64 n, .i .i64 i], [some ⟨6, .vals [.agg [.q (px i) 64, .q (py i) 64]]⟩]⟩
def Pi135 (ls : LS) : Prop := ∃ n i px py, ls = sti135 n i px py 2 ∧ i < n ∧ polyB n px py = true
noncomputable def li135 : LSpec := fun ls K => .br (decP (Pi135 ls)) (K (.exit 3) ⟨ls.t.set 5 (ls.t.getD 2 .any), ls.h⟩) (.no 1)
include hG in
theorem orc135 : OrcOK Tryd.prog G [(146, s146)] := .cons (ok146 hG) .nil
include hG in
theorem loopi135 : LoopOK Tryd.prog G Tryd.f135.ntmps 0 [0, 4, 5, 6, 7, 8, 18, 19, 20] i135 li135 := by
  intro ls K y hm h
  obtain ⟨hc, hr⟩ := Tr.of_br h
  obtain ⟨n, i, px, py, rfl, hi, hp⟩ := decP_iff.1 hc
  obtain ⟨p1, p2, p3, p4⟩ := polyB_c hp
  refine ⟨_, _, goes_ok (Goes.count (R := Rnd Tryd.prog G Tryd.f135.ntmps 0 [0, 4, 5, 6, 7, 8, 18, 19, 20] i135) (fun k => sti135 n i px py ((k : Nat) : Int)) (e := .exit 3) (ls' := sti135 n i px py n) (by simp) (n - 2) 2 (fun k hk2 hk => ?_) ?_), hr⟩
  · refine round_ok hG (orc135 hG) mix (L := []) (pol := pol135) (O := [(146, s146)]) (LpsOK.none (by kernel_rfl)) (Nat.zero_le _) ?_
    have e1 : (((i : Nat) : Int) + 1).tmod n = (((i + 1) % n : Nat) : Int) := tmod_nat (i + 1) n
    have e2 : (((i : Nat) : Int) + ((k : Nat) : Int)).tmod n = (((i + k) % n : Nat) : Int) := tmod_nat (i + k) n
    have m1 := Nat.mod_lt (i + 1) (show 0 < n by omega)
    have m2 := Nat.mod_lt (i + k) (show 0 < n by omega)
    unfold sti135
    rw [q135, e1, e2, Int.toNat_natCast, Int.toNat_natCast]
    have c1 := p3 i hi
    have c2 := p3 _ m1
    have c3 := p3 _ m2
    have c4 := p4 i k hi hk2 (by omega)
    generalize (i + 1) % n = u at *
    generalize (i + k) % n = v at *
    rw [Tr.run_t (decide_eq_true (by omega)), Tr.run_t (by simp only [Bool.and_eq_true, decide_eq_true_eq]; omega), Tr.run_t (by rw [Bool.not_eq_true', decide_eq_false_iff_not]; omega), Tr.run_t (by simp only [Bool.and_eq_true, decide_eq_true_eq]; omega), Tr.run_t (by simp only [Bool.and_eq_true, decide_eq_true_eq]; omega), Tr.run_t (by rw [Bool.not_eq_true', decide_eq_false_iff_not]; omega),
      Tr.run_t (by simp only [Bool.and_eq_true, decide_eq_true_eq]; omega), Tr.run_t (by rw [c1.1, c1.2, c2.1, c2.2, c3.1, c3.2]; rfl), Tr.run_f (decide_eq_false (by rw [rcmp_le]; exact Rat.not_le.2 c4)), Tr.run_t (by simp only [Bool.and_eq_true, decide_eq_true_eq]; omega), Tr.run_ok]
    rfl
  · refine round_ok hG (orc135 hG) mix (L := []) (pol := pol135) (O := [(146, s146)]) (LpsOK.none (by kernel_rfl)) (Nat.zero_le _) ?_
    unfold sti135
    rw [q135, Tr.run_f (decide_eq_false (by omega)), Tr.run_ok, show ((2 + (n - 2) : Nat) : Int) = (n : Int) by omega]
    rfl
theorem r135 (n : Nat) (px py : Nat → Rat) (m i : Int) : evRound Tryd.prog [(146, s146)] [(10, li135)] pol135 Tryd.f135.ntmps 0 [0, 4, 5, 18, 19, 20] b135 ⟨[.lst 6 (.fn n (pv px py)), .i .i64 0, .i .i64 m, .lst 6 (.fn n (pv px py)), .i .i64 m, .i .i64 i], []⟩ =
  Tr.br (decide (i < m))
    (Tr.br (decide ((0 : Int) ≤ i) && decide (i < (↑n : Int)))
      (Tr.br
        (decP
          (Pi135
            {
              t :=
                [PV.lst (6)
                    (Cont.fn n fun (a : Nat) => PV.agg [PV.q (px a) (64), PV.q (py a) (64)]),
                  PV.i IntKind.i64 (0 : Int), PV.i IntKind.i64 m, PV.i IntKind.i64 i,
                  PV.ptr (0) (6) (0) (0) [], PV.i IntKind.i64 (2 : Int),
                  PV.lst (6)
                    (Cont.fn n fun (a : Nat) => PV.agg [PV.q (px a) (64), PV.q (py a) (64)]),
                  PV.i IntKind.i64 m, PV.i IntKind.i64 i],
              h :=
                [some
                    { e := 6,
                      c := Cont.vals [PV.agg [PV.q (px i.toNat) (64), PV.q (py i.toNat) (64)]] }] }))
        (Tr.br
          (decide ((-9223372036854775808 : Int) ≤ i + (1 : Int)) && decide (i + (1 : Int) ≤ (9223372036854775807 : Int)))
          (Tr.ok
            (Res.out Exit.normal
              {
                t :=
                  [PV.lst (6)
                      (Cont.fn n fun (a : Nat) => PV.agg [PV.q (px a) (64), PV.q (py a) (64)]),
                    PV.i IntKind.i64 (0 : Int), PV.i IntKind.i64 m,
                    PV.lst (6)
                      (Cont.fn n fun (a : Nat) => PV.agg [PV.q (px a) (64), PV.q (py a) (64)]),
                    PV.i IntKind.i64 m, PV.i IntKind.i64 (i + (1 : Int))],
                h := [] }))
          (Tr.no (15002)))
        (Tr.no (1)))
      (Tr.no (9005)))
    (Tr.ok
      (Res.out (Exit.exit (1))
        {
          t :=
            [PV.lst (6) (Cont.fn n fun (a : Nat) => PV.agg [PV.q (px a) (64), PV.q (py a) (64)]),
              PV.i IntKind.i64 (0 : Int), PV.i IntKind.i64 m,
              PV.lst (6) (Cont.fn n fun (a : Nat) => PV.agg [PV.q (px a) (64), PV.q (py a) (64)]),
              PV.i IntKind.i64 m, PV.i IntKind.i64 i],
          h := [] })) := by kernel_rfl
def sto135 (n : Nat) (px py : Nat → Rat) (i : Int) : LS := ⟨[.lst 6 (.fn n (pv px py)), .i .i64 0, .i .i64 n, .lst 6 (.fn n (pv px py)), .i .i64 n, .i .i64 i], []⟩
def Po135 (ls : LS) : Prop := ∃ n px py, ls = sto135 n px py 0 ∧ polyB n px py = true
noncomputable def lo135 : LSpec := fun ls K => .br (decP (Po135 ls)) (K (.exit 1) ⟨ls.t.set 5 (ls.t.getD 2 .any), ls.h⟩) (.no 1)
include hG in
theorem lps135 {m : Nat} (hm : m = 0) : LpsOK Tryd.prog G pol135 Tryd.f135.ntmps m [(10, li135)] b135 := by
  subst hm
  exact lps1 (b := i135) (live := [0, 4, 5, 6, 7, 8, 18, 19, 20]) (sp := li135) (by kernel_rfl) (by kernel_rfl) (by kernel_rfl) (loopi135 hG)
include hG in
theorem loopo135 : LoopOK Tryd.prog G Tryd.f135.ntmps 0 [0, 4, 5, 18, 19, 20] b135 lo135 := by
  intro ls K y hm h
  obtain ⟨hc, hr⟩ := Tr.of_br h
  obtain ⟨n, px, py, rfl, hp⟩ := decP_iff.1 hc
  obtain ⟨p1, p2, p3, p4⟩ := polyB_c hp
  refine ⟨_, _, goes_ok (Goes.count (R := Rnd Tryd.prog G Tryd.f135.ntmps 0 [0, 4, 5, 18, 19, 20] b135) (fun i => sto135 n px py ((i : Nat) : Int)) (e := .exit 1) (ls' := sto135 n px py n) (by simp) n 0 (fun i _ hi => ?_) ?_), hr⟩
  · refine round_ok hG (orc135 hG) mix (L := [(10, li135)]) (pol := pol135) (O := [(146, s146)]) (lps135 hG rfl) (Nat.zero_le _) ?_
    unfold sto135
    rw [r135, Int.toNat_natCast, Tr.run_t (decide_eq_true (by omega)), Tr.run_t (by simp only [Bool.and_eq_true, decide_eq_true_eq]; omega), Tr.run_t (decP_iff.2 ⟨n, i, px, py, rfl, by omega, hp⟩), Tr.run_t (by simp only [Bool.and_eq_true, decide_eq_true_eq]; omega), Tr.run_ok]
    rfl
  · refine round_ok hG (orc135 hG) mix (L := [(10, li135)]) (pol := pol135) (O := [(146, s146)]) (lps135 hG rfl) (Nat.zero_le _) ?_
    unfold sto135
    rw [r135, Tr.run_f (decide_eq_false (by omega)), Tr.run_ok, Nat.zero_add]
    rfl
theorem e135 (n : Nat) (px py : Nat → Rat) : evF Tryd.prog [(146, s146)] [(7, lo135), (10, li135)] pol135 Tryd.f135 [.lst 6 (.fn n (pv px py)), .i .i64 8] [] retK =
  Tr.br (decide ((8 : Int) < (↑n : Int))) (Tr.ok (Res.ret (PV.i IntKind.i64 (2 : Int)) []))
    (Tr.br (decide ((↑n : Int) < (3 : Int))) (Tr.ok (Res.ret (PV.i IntKind.i64 (3 : Int)) []))
      (Tr.br
        (decP
          (Po135
            {
              t :=
                [PV.lst (6)
                    (Cont.fn n fun (a : Nat) => PV.agg [PV.q (px a) (64), PV.q (py a) (64)]),
                  PV.i IntKind.i64 (0 : Int), PV.i IntKind.i64 (↑n : Int),
                  PV.lst (6)
                    (Cont.fn n fun (a : Nat) => PV.agg [PV.q (px a) (64), PV.q (py a) (64)]),
                  PV.i IntKind.i64 (↑n : Int), PV.i IntKind.i64 (0 : Int)],
              h := [] }))
        (Tr.ok (Res.ret (PV.i IntKind.i64 (0 : Int)) [])) (Tr.no (1)))) := by kernel_rfl
def P135 (args : List PV) : Prop := ∃ v n px py, args = [v, .i .i64 8] ∧ VLe v (.lst 6 (.fn n (pv px py))) ∧ polyB n px py = true
noncomputable def s135 : Spec := fun args hs K => match hs with
  | [] => .br (decP (P135 args)) (K (.i .i64 0) []) (.no 1)
  | _ => .no 1
theorem loops135 : loopsOf (bodyC Tryd.f135) = [b135, i135] := by kernel_rfl
include hG in
theorem ok135 : SpecOK Tryd.prog G 135 s135 := by
  intro args hs K x h
  unfold s135 at h
  split at h
  case h_2 => cases h
  obtain ⟨hc, hr⟩ := Tr.of_br h
  obtain ⟨v, n, px, py, rfl, hv, hp⟩ := decP_iff.1 hc
  obtain ⟨p1, p2, p3, p4⟩ := polyB_c hp
  refine ⟨_, _, PC.args (.cons hv (.refl _)) (evF_pc hG (orc135 hG) mix enter135 (hs := []) (L := [(7, lo135), (10, li135)]) (pol := pol135) (O := [(146, s146)]) (LpsOK.of loops135 fun a ha live sp h1 h2 => ?_) ?_), hr⟩
  · simp only [List.mem_cons, List.not_mem_nil, or_false] at ha
    rcases ha with rfl | rfl
    · have e1 : assoc (firstReg b135) pol135.live = some [0, 4, 5, 18, 19, 20] := by kernel_rfl
      have e2 : Lps.look (firstReg b135) [(7, lo135), (10, li135)] = some lo135 := by kernel_rfl
      rw [e1] at h1; rw [e2] at h2; cases h1; cases h2
      exact loopo135 hG
    · have e1 : assoc (firstReg i135) pol135.live = some [0, 4, 5, 6, 7, 8, 18, 19, 20] := by kernel_rfl
      have e2 : Lps.look (firstReg i135) [(7, lo135), (10, li135)] = some li135 := by kernel_rfl
      rw [e1] at h1; rw [e2] at h2; cases h1; cases h2
      exact loopi135 hG
  · rw [e135, Tr.run_f (decide_eq_false (by omega)), Tr.run_f (decide_eq_false (by omega)), Tr.run_t (decP_iff.2 ⟨n, px, py, rfl, hp⟩), Tr.run_ok]
theorem enter126 : Enters Tryd.prog 126 Tryd.f126 (bodyC Tryd.f126) := ⟨Tryd.func126, by kernel_rfl, rfl⟩
noncomputable def s126 : Spec := evF Tryd.prog [(135, s135)] [] {} Tryd.f126
include hG in
theorem ok126 : SpecOK Tryd.prog G 126 s126 := spec_ev hG (.cons (ok135 hG) .nil) mix enter126 (fun _ => LpsOK.none (by kernel_rfl))
end Go.Proofs.YtejfdhcigkgbmaaDoor.PE
namespace Go.Proofs.YtejfdhcigkgbmaaDoor.PE
open Go
set_option maxRecDepth 100000
variable {G : World → (Nat → Prop) → Prop} (hG : GOk G)

/-- A link: its numbers, and the corners of its shape. -/
structure Lk where
  len : Rat
  low : Rat
  high : Rat
  spd : Rat
  brk : Rat
  np : Nat
  px : Nat → Rat
  py : Nat → Rat
def lkPV (d : Lk) : PV := .agg [.q d.len 64, .q d.low 64, .q d.high 64, .q d.spd 64, .q d.brk 64, .lst 6 (.fn d.np (pv d.px d.py))]
def lkB (d : Lk) : Bool := smQ d.len && smQ d.low && smQ d.high && smQ d.spd && smQ d.brk && decide (0 < d.len) && decide (d.low < d.high) && decide (0 < d.spd) && decide (0 < d.brk) && polyB d.np d.px d.py
/-! arm.check -/
noncomputable def b96 : Code := (loopsOf (bodyC Tryd.f96)).getD 0 .skip
def pol96 : Pol := { live := [(9, [2, 50, 51, 52])] }
noncomputable def O96 : Orc := [(26, s26), (27, s27), (95, s95), (126, s126)]
theorem enter96 : Enters Tryd.prog 96 Tryd.f96 (bodyC Tryd.f96) := ⟨Tryd.func96, by kernel_rfl, rfl⟩
def st96 (n : Nat) (px py : Nat → Rat) (i : Int) : LS := ⟨[.i .i64 0, .lst 6 (.fn n (pv px py)), .i .i64 n, .i .i64 i], []⟩
theorem r96 (n : Nat) (px py : Nat → Rat) (i : Int) : evRound Tryd.prog O96 [] pol96 Tryd.f96.ntmps 0 [2, 50, 51, 52] b96 (st96 n px py i) =
  Tr.br (decide (i < (↑n : Int)))
    (Tr.br (decide ((0 : Int) ≤ i) && decide (i < (↑n : Int)))
      (Tr.br (decide ([px i.toNat, py i.toNat].length ≤ (1073741824 : Nat)) && [px i.toNat, py i.toNat].all smQ)
        (Tr.br
          (decide ((-9223372036854775808 : Int) ≤ i + (1 : Int)) && decide (i + (1 : Int) ≤ (9223372036854775807 : Int)))
          (Tr.ok
            (Res.out Exit.normal
              {
                t :=
                  [PV.i IntKind.i64 (0 : Int),
                    PV.lst (6)
                      (Cont.fn n fun (a : Nat) => PV.agg [PV.q (px a) (64), PV.q (py a) (64)]),
                    PV.i IntKind.i64 (↑n : Int), PV.i IntKind.i64 (i + (1 : Int))],
                h := [] }))
          (Tr.no (14002)))
        (Tr.no (1)))
      (Tr.no (11004)))
    (Tr.ok
      (Res.out (Exit.exit (0))
        {
          t :=
            [PV.i IntKind.i64 (0 : Int),
              PV.lst (6) (Cont.fn n fun (a : Nat) => PV.agg [PV.q (px a) (64), PV.q (py a) (64)]),
              PV.i IntKind.i64 (↑n : Int), PV.i IntKind.i64 i],
          h := [] })) := by kernel_rfl
def Pl96 (ls : LS) : Prop := ∃ n px py, ls = st96 n px py 0 ∧ polyB n px py = true
noncomputable def l96 : LSpec := fun ls K => .br (decP (Pl96 ls)) (K (.exit 0) ⟨ls.t.set 3 (ls.t.getD 2 .any), ls.h⟩) (.no 1)
theorem e96 (d : Lk) : evF Tryd.prog O96 [(9, l96)] pol96 Tryd.f96 [lkPV d] [] retK =
  Tr.br
    (decide ([d.len, d.low, d.high, d.spd, d.brk].length ≤ (1073741824 : Nat)) &&
      [d.len, d.low, d.high, d.spd, d.brk].all smQ)
    (Tr.br (s64 d.len)
      (Tr.br (decide (rcmp d.len (0 : Rat) ≤ (0 : Int))) (Tr.ok (Res.ret (PV.i IntKind.i64 (1 : Int)) []))
        (Tr.br (s32 d.low && s32 d.high)
          (Tr.br (decide ((0 : Int) ≤ rcmp d.low d.high)) (Tr.ok (Res.ret (PV.i IntKind.i64 (1 : Int)) []))
            (Tr.br (s64 d.spd)
              (Tr.br (decide (rcmp d.spd (0 : Rat) ≤ (0 : Int))) (Tr.ok (Res.ret (PV.i IntKind.i64 (1 : Int)) []))
                (Tr.br (s64 d.brk)
                  (Tr.br (decide (rcmp d.brk (0 : Rat) ≤ (0 : Int))) (Tr.ok (Res.ret (PV.i IntKind.i64 (1 : Int)) []))
                    (Tr.br
                      (decP
                        (P135
                          [PV.lst (6)
                              (Cont.fn d.np fun (a : Nat) =>
                                PV.agg [PV.q (d.px a) (64), PV.q (d.py a) (64)]),
                            PV.i IntKind.i64 (8 : Int)]))
                      (Tr.br (!decide ((0 : Int) = (0 : Int))) (Tr.ok (Res.ret (PV.i IntKind.i64 (0 : Int)) []))
                        (Tr.br
                          (decP
                            (Pl96
                              {
                                t :=
                                  [PV.i IntKind.i64 (0 : Int),
                                    PV.lst (6)
                                      (Cont.fn d.np fun (a : Nat) =>
                                        PV.agg [PV.q (d.px a) (64), PV.q (d.py a) (64)]),
                                    PV.i IntKind.i64 (↑d.np : Int), PV.i IntKind.i64 (0 : Int)],
                                h := [] }))
                          (Tr.ok (Res.ret (PV.i IntKind.i64 (0 : Int)) [])) (Tr.no (1))))
                      (Tr.no (1))))
                  (Tr.no (1))))
              (Tr.no (1))))
          (Tr.no (1))))
      (Tr.no (1)))
    (Tr.no (1)) := by kernel_rfl
def P96 (args : List PV) : Prop := ∃ v d, args = [v] ∧ VLe v (lkPV d) ∧ lkB d = true
noncomputable def s96 : Spec := fun args hs K => match hs with
  | [] => .br (decP (P96 args)) (K (.i .i64 0) []) (.no 1)
  | _ => .no 1
theorem cB_smQ {x : Rat} (h : cB x = true) : smQ x = true := by
  simp only [cB, Bool.and_eq_true, decide_eq_true_eq] at h
  exact smQ_iff.2 ⟨by omega, by omega⟩
theorem smQ_s32 {x : Rat} (h : smQ x = true) : s32 x = true := by
  have := smQ_iff.1 h
  exact s32_iff.2 ⟨by omega, by omega⟩
theorem lkB_c {d : Lk} (h : lkB d = true) : smQ d.len = true ∧ smQ d.low = true ∧ smQ d.high = true ∧ smQ d.spd = true ∧ smQ d.brk = true ∧ 0 < d.len ∧ d.low < d.high ∧ 0 < d.spd ∧ 0 < d.brk ∧ polyB d.np d.px d.py = true := by
  simp only [lkB, Bool.and_eq_true, decide_eq_true_eq] at h
  obtain ⟨⟨⟨⟨⟨⟨⟨⟨⟨h1, h2⟩, h3⟩, h4⟩, h5⟩, h6⟩, h7⟩, h8⟩, h9⟩, h10⟩ := h
  exact ⟨h1, h2, h3, h4, h5, h6, h7, h8, h9, h10⟩
include hG in
theorem orc96 : OrcOK Tryd.prog G O96 := .cons (ok26 hG) (.cons (ok27 hG) (.cons (ok95 hG) (.cons (ok126 hG) .nil)))
include hG in
theorem loop96 : LoopOK Tryd.prog G Tryd.f96.ntmps 0 [2, 50, 51, 52] b96 l96 := by
  intro ls K y hm h
  obtain ⟨hc, hr⟩ := Tr.of_br h
  obtain ⟨n, px, py, rfl, hp⟩ := decP_iff.1 hc
  obtain ⟨p1, p2, p3, p4⟩ := polyB_c hp
  refine ⟨_, _, goes_ok (Goes.count (R := Rnd Tryd.prog G Tryd.f96.ntmps 0 [2, 50, 51, 52] b96) (fun i => st96 n px py ((i : Nat) : Int)) (e := .exit 0) (ls' := st96 n px py n) (by simp) n 0 (fun i _ hi => ?_) ?_), hr⟩
  · refine round_ok hG (orc96 hG) mix (L := []) (pol := pol96) (O := O96) (LpsOK.none (by kernel_rfl)) (Nat.zero_le _) ?_
    have c := p3 i (by omega)
    rw [r96, Int.toNat_natCast, Tr.run_t (decide_eq_true (by omega)), Tr.run_t (by simp only [Bool.and_eq_true, decide_eq_true_eq]; omega), Tr.run_t (by
      simp only [List.all_cons, List.all_nil, cB_smQ c.1, cB_smQ c.2, List.length_cons, List.length_nil]; rfl), Tr.run_t (by simp only [Bool.and_eq_true, decide_eq_true_eq]; omega), Tr.run_ok]
    rfl
  · refine round_ok hG (orc96 hG) mix (L := []) (pol := pol96) (O := O96) (LpsOK.none (by kernel_rfl)) (Nat.zero_le _) ?_
    rw [r96, Tr.run_f (decide_eq_false (by omega)), Tr.run_ok, Nat.zero_add]
    rfl
include hG in
theorem ok96 : SpecOK Tryd.prog G 96 s96 := by
  intro args hs K x h
  unfold s96 at h
  split at h
  case h_2 => cases h
  obtain ⟨hc, hr⟩ := Tr.of_br h
  obtain ⟨v, d, rfl, hv, hd⟩ := decP_iff.1 hc
  obtain ⟨h1, h2, h3, h4, h5, h6, h7, h8, h9, h10⟩ := lkB_c hd
  refine ⟨_, _, PC.args (.cons hv (.refl _)) (evF_pc hG (orc96 hG) mix enter96 (hs := []) (L := [(9, l96)]) (pol := pol96) (O := O96) (lps1 (b := b96) (live := [2, 50, 51, 52]) (sp := l96) (m := 0) (by kernel_rfl) (by kernel_rfl) (by kernel_rfl) (loop96 hG)) ?_), hr⟩
  rw [e96, Tr.run_t (by simp only [List.all_cons, List.all_nil, h1, h2, h3, h4, h5, List.length_cons, List.length_nil]; rfl),
    Tr.run_t (s32_s64 (smQ_s32 h1)), Tr.run_f (decide_eq_false (by rw [rcmp_le]; exact Rat.not_le.2 h6)), Tr.run_t (by rw [smQ_s32 h2, smQ_s32 h3]; rfl), Tr.run_f (decide_eq_false (by rw [rcmp_ge]; exact Rat.not_le.2 h7)),
    Tr.run_t (s32_s64 (smQ_s32 h4)), Tr.run_f (decide_eq_false (by rw [rcmp_le]; exact Rat.not_le.2 h8)), Tr.run_t (s32_s64 (smQ_s32 h5)), Tr.run_f (decide_eq_false (by rw [rcmp_le]; exact Rat.not_le.2 h9)),
    Tr.run_t (decP_iff.2 ⟨_, d.np, d.px, d.py, rfl, .refl _, h10⟩), Tr.run_f (by decide), Tr.run_t (decP_iff.2 ⟨d.np, d.px, d.py, rfl, h10⟩), Tr.run_ok]

/-! Arms -/
structure Am where
  name : ByteArray
  bx : Rat
  by_ : Rat
  t : Rat
  n : Nat
  lk : Nat → Lk
def armPV (A : Am) : PV := .agg [.s A.name, .agg [.agg [.q A.bx 64, .q A.by_ 64], .agg [.bl false, .q A.t 64]], .lst 16 (.fn A.n (fun j => lkPV (A.lk j)))]
def armB (A : Am) : Bool := isNm A.name && smQ A.bx && smQ A.by_ && smQ A.t && decide (1 ≤ A.n) && decide (A.n ≤ 3) && (List.range A.n).all (fun j => lkB (A.lk j))
theorem armB_c {A : Am} (h : armB A = true) : isNm A.name = true ∧ smQ A.bx = true ∧ smQ A.by_ = true ∧ smQ A.t = true ∧ 1 ≤ A.n ∧ A.n ≤ 3 ∧ ∀ j, j < A.n → lkB (A.lk j) = true := by
  simp only [armB, Bool.and_eq_true, decide_eq_true_eq, List.all_eq_true, List.mem_range] at h
  obtain ⟨⟨⟨⟨⟨⟨h1, h2⟩, h3⟩, h4⟩, h5⟩, h6⟩, h7⟩ := h
  exact ⟨h1, h2, h3, h4, h5, h6, h7⟩
/-! arm.Check -/
noncomputable def b52 : Code := (loopsOf (bodyC Tryd.f52)).getD 0 .skip
def pol52 : Pol := { live := [(9, [2, 48, 49, 50])] }
noncomputable def O52 : Orc := [(26, s26), (94, s94), (95, s95), (96, s96)]
theorem enter52 : Enters Tryd.prog 52 Tryd.f52 (bodyC Tryd.f52) := ⟨Tryd.func52, by kernel_rfl, rfl⟩
def lks (n : Nat) (lk : Nat → Lk) : PV := .lst 16 (.fn n (fun j => lkPV (lk j)))
def st52 (n : Nat) (lk : Nat → Lk) (i : Int) : LS := ⟨[.i .i64 0, .lst 16 (.fn n (fun j => lkPV (lk j))), .i .i64 n, .i .i64 i], []⟩
theorem r52 (n : Nat) (lk : Nat → Lk) (i : Int) : evRound Tryd.prog O52 [] pol52 Tryd.f52.ntmps 0 [2, 48, 49, 50] b52 (st52 n lk i) =
  Tr.br (decide (i < (↑n : Int)))
    (Tr.br (decide ((0 : Int) ≤ i) && decide (i < (↑n : Int)))
      (Tr.br
        (decP
          (P96
            [PV.agg
                [PV.q (lk i.toNat).len (64), PV.q (lk i.toNat).low (64),
                  PV.q (lk i.toNat).high (64), PV.q (lk i.toNat).spd (64),
                  PV.q (lk i.toNat).brk (64),
                  PV.lst (6)
                    (Cont.fn (lk i.toNat).np fun (a : Nat) =>
                      PV.agg [PV.q ((lk i.toNat).px a) (64), PV.q ((lk i.toNat).py a) (64)])]]))
        (Tr.br (!decide ((0 : Int) = (0 : Int)))
          (Tr.ok
            (Res.out Exit.ret
              {
                t :=
                  [PV.i IntKind.i64 (0 : Int),
                    PV.lst (16)
                      (Cont.fn n fun (j : Nat) =>
                        PV.agg
                          [PV.q (lk j).len (64), PV.q (lk j).low (64), PV.q (lk j).high (64),
                            PV.q (lk j).spd (64), PV.q (lk j).brk (64),
                            PV.lst (6)
                              (Cont.fn (lk j).np fun (a : Nat) =>
                                PV.agg [PV.q ((lk j).px a) (64), PV.q ((lk j).py a) (64)])]),
                    PV.i IntKind.i64 (↑n : Int), PV.i IntKind.i64 i],
                h := [] }))
          (Tr.br
            (decide ((-9223372036854775808 : Int) ≤ i + (1 : Int)) &&
              decide (i + (1 : Int) ≤ (9223372036854775807 : Int)))
            (Tr.ok
              (Res.out Exit.normal
                {
                  t :=
                    [PV.i IntKind.i64 (0 : Int),
                      PV.lst (16)
                        (Cont.fn n fun (j : Nat) =>
                          PV.agg
                            [PV.q (lk j).len (64), PV.q (lk j).low (64), PV.q (lk j).high (64),
                              PV.q (lk j).spd (64), PV.q (lk j).brk (64),
                              PV.lst (6)
                                (Cont.fn (lk j).np fun (a : Nat) =>
                                  PV.agg [PV.q ((lk j).px a) (64), PV.q ((lk j).py a) (64)])]),
                      PV.i IntKind.i64 (↑n : Int), PV.i IntKind.i64 (i + (1 : Int))],
                  h := [] }))
            (Tr.no (15002))))
        (Tr.no (1)))
      (Tr.no (11004)))
    (Tr.ok
      (Res.out (Exit.exit (0))
        {
          t :=
            [PV.i IntKind.i64 (0 : Int),
              PV.lst (16)
                (Cont.fn n fun (j : Nat) =>
                  PV.agg
                    [PV.q (lk j).len (64), PV.q (lk j).low (64), PV.q (lk j).high (64),
                      PV.q (lk j).spd (64), PV.q (lk j).brk (64),
                      PV.lst (6)
                        (Cont.fn (lk j).np fun (a : Nat) =>
                          PV.agg [PV.q ((lk j).px a) (64), PV.q ((lk j).py a) (64)])]),
              PV.i IntKind.i64 (↑n : Int), PV.i IntKind.i64 i],
          h := [] })) := by kernel_rfl
def Pl52 (ls : LS) : Prop := ∃ n lk, ls = st52 n lk 0 ∧ n ≤ 3 ∧ ∀ j, j < n → lkB (lk j) = true
noncomputable def l52 : LSpec := fun ls K => .br (decP (Pl52 ls)) (K (.exit 0) ⟨ls.t.set 3 (ls.t.getD 2 .any), ls.h⟩) (.no 1)
theorem e52 (A : Am) : evF Tryd.prog O52 [(9, l52)] pol52 Tryd.f52 [armPV A] [] retK =
  Tr.br (isNm A.name)
    (Tr.br (decide ((3 : Int) < (↑A.n : Int))) (Tr.ok (Res.ret (PV.i IntKind.i64 (2 : Int)) []))
      (Tr.br (decide ((↑A.n : Int) = (0 : Int))) (Tr.ok (Res.ret (PV.i IntKind.i64 (1 : Int)) []))
        (Tr.br (decide ([A.bx, A.by_, A.t].length ≤ (1073741824 : Nat)) && [A.bx, A.by_, A.t].all smQ)
          (Tr.br
            (decP
              (Pl52
                {
                  t :=
                    [PV.i IntKind.i64 (0 : Int),
                      PV.lst (16)
                        (Cont.fn A.n fun (j : Nat) =>
                          PV.agg
                            [PV.q (A.lk j).len (64), PV.q (A.lk j).low (64),
                              PV.q (A.lk j).high (64), PV.q (A.lk j).spd (64),
                              PV.q (A.lk j).brk (64),
                              PV.lst (6)
                                (Cont.fn (A.lk j).np fun (a : Nat) =>
                                  PV.agg [PV.q ((A.lk j).px a) (64), PV.q ((A.lk j).py a) (64)])]),
                      PV.i IntKind.i64 (↑A.n : Int), PV.i IntKind.i64 (0 : Int)],
                  h := [] }))
            (Tr.ok (Res.ret (PV.i IntKind.i64 (0 : Int)) [])) (Tr.no (1)))
          (Tr.no (1)))))
    (Tr.no (1)) := by kernel_rfl
def P52 (args : List PV) : Prop := ∃ v A, args = [v] ∧ VLe v (armPV A) ∧ armB A = true
noncomputable def s52 : Spec := fun args hs K => match hs with
  | [] => .br (decP (P52 args)) (K (.i .i64 0) []) (.no 1)
  | _ => .no 1
include hG in
theorem orc52 : OrcOK Tryd.prog G O52 := .cons (ok26 hG) (.cons (ok94 hG) (.cons (ok95 hG) (.cons (ok96 hG) .nil)))
include hG in
theorem loop52 : LoopOK Tryd.prog G Tryd.f52.ntmps 0 [2, 48, 49, 50] b52 l52 := by
  intro ls K y hm h
  obtain ⟨hc, hr⟩ := Tr.of_br h
  obtain ⟨n, lk, rfl, hn, hp⟩ := decP_iff.1 hc
  refine ⟨_, _, goes_ok (Goes.count (R := Rnd Tryd.prog G Tryd.f52.ntmps 0 [2, 48, 49, 50] b52) (fun i => st52 n lk ((i : Nat) : Int)) (e := .exit 0) (ls' := st52 n lk n) (by simp) n 0 (fun i _ hi => ?_) ?_), hr⟩
  · refine round_ok hG (orc52 hG) mix (L := []) (pol := pol52) (O := O52) (LpsOK.none (by kernel_rfl)) (Nat.zero_le _) ?_
    rw [r52, Int.toNat_natCast, Tr.run_t (decide_eq_true (by omega)), Tr.run_t (by simp only [Bool.and_eq_true, decide_eq_true_eq]; omega), Tr.run_t (decP_iff.2 ⟨_, lk i, rfl, .refl _, hp i (by omega)⟩), Tr.run_f (by decide), Tr.run_t (by simp only [Bool.and_eq_true, decide_eq_true_eq]; omega), Tr.run_ok]
    rfl
  · refine round_ok hG (orc52 hG) mix (L := []) (pol := pol52) (O := O52) (LpsOK.none (by kernel_rfl)) (Nat.zero_le _) ?_
    rw [r52, Tr.run_f (decide_eq_false (by omega)), Tr.run_ok, Nat.zero_add]
    rfl
include hG in
theorem ok52 : SpecOK Tryd.prog G 52 s52 := by
  intro args hs K x h
  unfold s52 at h
  split at h
  case h_2 => cases h
  obtain ⟨hc, hr⟩ := Tr.of_br h
  obtain ⟨v, A, rfl, hv, hA⟩ := decP_iff.1 hc
  obtain ⟨h1, h2, h3, h4, h5, h6, h7⟩ := armB_c hA
  refine ⟨_, _, PC.args (.cons hv (.refl _)) (evF_pc hG (orc52 hG) mix enter52 (hs := []) (L := [(9, l52)]) (pol := pol52) (O := O52) (lps1 (b := b52) (live := [2, 48, 49, 50]) (sp := l52) (m := 0) (by kernel_rfl) (by kernel_rfl) (by kernel_rfl) (loop52 hG)) ?_), hr⟩
  rw [e52, Tr.run_t h1, Tr.run_f (decide_eq_false (by omega)), Tr.run_f (decide_eq_false (by omega)), Tr.run_t (by simp only [List.all_cons, List.all_nil, h2, h3, h4, List.length_cons, List.length_nil]; rfl)]
  first
    | rw [Tr.run_t (decP_iff.2 ⟨A.n, A.lk, rfl, h6, h7⟩), Tr.run_ok]
    | rw [Tr.run_f (by decide), Tr.run_t (decP_iff.2 ⟨A.n, A.lk, rfl, h6, h7⟩), Tr.run_ok]
/-! arm.Has -/
theorem enter85 : Enters Tryd.prog 85 Tryd.f85 (bodyC Tryd.f85) := ⟨Tryd.func85, by kernel_rfl, rfl⟩
theorem e85 (A : Am) (k : Int) : evF Tryd.prog [(52, s52)] [] {} Tryd.f85 [armPV A, .i .i64 k] [] retK =
  Tr.br
    (decP
      (P52
        [PV.agg
            [PV.s A.name,
              PV.agg
                [PV.agg [PV.q A.bx (64), PV.q A.by_ (64)], PV.agg [PV.bl false, PV.q A.t (64)]],
              PV.lst (16)
                (Cont.fn A.n fun (j : Nat) =>
                  PV.agg
                    [PV.q (A.lk j).len (64), PV.q (A.lk j).low (64), PV.q (A.lk j).high (64),
                      PV.q (A.lk j).spd (64), PV.q (A.lk j).brk (64),
                      PV.lst (6)
                        (Cont.fn (A.lk j).np fun (a : Nat) =>
                          PV.agg [PV.q ((A.lk j).px a) (64), PV.q ((A.lk j).py a) (64)])])]]))
    (Tr.br (!decide ((0 : Int) = (0 : Int))) (Tr.ok (Res.ret (PV.i IntKind.i64 (0 : Int)) []))
      (Tr.br (!decide (k = (↑A.n : Int))) (Tr.ok (Res.ret (PV.i IntKind.i64 (1 : Int)) []))
        (Tr.ok (Res.ret (PV.i IntKind.i64 (0 : Int)) []))))
    (Tr.no (1)) := by kernel_rfl
def P85 (args : List PV) : Prop := ∃ v A, args = [v, .i .i64 ((A.n : Nat) : Int)] ∧ VLe v (armPV A) ∧ armB A = true
noncomputable def s85 : Spec := fun args hs K => match hs with
  | [] => .br (decP (P85 args)) (K (.i .i64 0) []) (.no 1)
  | _ => .no 1
include hG in
theorem ok85 : SpecOK Tryd.prog G 85 s85 := by
  intro args hs K x h
  unfold s85 at h
  split at h
  case h_2 => cases h
  obtain ⟨hc, hr⟩ := Tr.of_br h
  obtain ⟨v, A, rfl, hv, hA⟩ := decP_iff.1 hc
  refine ⟨_, _, PC.args (.cons hv (.refl _)) (evF_pc hG (.cons (ok52 hG) .nil) mix enter85 (hs := []) (L := []) (pol := {}) (LpsOK.none (by kernel_rfl)) ?_), hr⟩
  rw [e85, Tr.run_t (decP_iff.2 ⟨_, A, rfl, .refl _, hA⟩), Tr.run_f (by decide), Tr.run_f (by simp), Tr.run_ok]
end Go.Proofs.YtejfdhcigkgbmaaDoor.PE
namespace Go.Proofs.YtejfdhcigkgbmaaDoor.PE
open Go
set_option maxRecDepth 100000
variable {G : World → (Nat → Prop) → Prop} (hG : GOk G)

/-! What an arm is, read off a value -/
def fldV (v : PV) (k : Nat) : PV := match v with
  | .agg vs => vs.getD k .any
  | _ => .any
def dq (v : PV) : Rat := match v with
  | .q x _ => x
  | _ => 0
def ds (v : PV) : ByteArray := match v with
  | .s x => x
  | _ => ⟨#[]⟩
def dn (v : PV) : Nat := match v with
  | .lst _ c => c.len
  | _ => 0
def dg' (v : PV) (i : Nat) : PV := match v with
  | .lst _ c => c.get i
  | _ => .any
def dLk (v : PV) : Lk := ⟨dq (fldV v 0), dq (fldV v 1), dq (fldV v 2), dq (fldV v 3), dq (fldV v 4), dn (fldV v 5), fun i => dq (fldV (dg' (fldV v 5) i) 0), fun i => dq (fldV (dg' (fldV v 5) i) 1)⟩
def dArm (v : PV) : Am := ⟨ds (fldV v 0), dq (fldV (fldV (fldV v 1) 0) 0), dq (fldV (fldV (fldV v 1) 0) 1), dq (fldV (fldV (fldV v 1) 1) 1), dn (fldV v 2), fun j => dLk (dg' (fldV v 2) j)⟩
theorem dArm_arm (A : Am) : dArm (armPV A) = A := rfl
def okA (v : PV) : Prop := VLe v (armPV (dArm v)) ∧ armB (dArm v) = true
theorem okA_arm {A : Am} (h : armB A = true) : okA (armPV A) := ⟨.refl _, h⟩
def sumLen (lk : Nat → Lk) : Nat → Rat
  | 0 => 0
  | k + 1 => sumLen lk k + (lk k).len
/-! arm.Length -/
noncomputable def b31 : Code := (loopsOf (bodyC Tryd.f31)).getD 0 .skip
def pol31 : Pol := { live := [(6, [2, 5, 16, 17, 18])] }
noncomputable def O31 : Orc := [(21, s21), (52, s52), (71, s71)]
theorem enter31 : Enters Tryd.prog 31 Tryd.f31 (bodyC Tryd.f31) := ⟨Tryd.func31, by kernel_rfl, rfl⟩
def st31 (n : Nat) (lk : Nat → Lk) (z1 z2 : ByteArray) (sm : Rat) (i : Int) : LS := ⟨[.ptr 0 3 0 0 [], .ptr 1 3 0 0 [], .lst 16 (.fn n (fun j => lkPV (lk j))), .i .i64 n, .i .i64 i], [some ⟨3, .vals [.agg [.bl false, .s z1, .s z2]]⟩, some ⟨3, .vals [.q sm 64]⟩]⟩
theorem r31 (n : Nat) (lk : Nat → Lk) (z1 z2 : ByteArray) (sm : Rat) (i : Int) : evRound Tryd.prog O31 [] pol31 Tryd.f31.ntmps 0 [2, 5, 16, 17, 18] b31 (st31 n lk z1 z2 sm i) =
  Tr.br (decide (i < (↑n : Int)))
    (Tr.br (decide ((0 : Int) ≤ i) && decide (i < (↑n : Int)))
      (Tr.br
        (s32 sm && s32 (lk i.toNat).len && decide (sm.num.natAbs * (lk i.toNat).len.den < (72057594037927936 : Nat)) &&
          decide ((lk i.toNat).len.num.natAbs * sm.den < (72057594037927936 : Nat)))
        (Tr.br
          (decide ((-9223372036854775808 : Int) ≤ i + (1 : Int)) && decide (i + (1 : Int) ≤ (9223372036854775807 : Int)))
          (Tr.ok
            (Res.out Exit.normal
              {
                t :=
                  [PV.ptr (0) (3) (0) (0) [],
                    PV.ptr (1) (3) (0) (0) [],
                    PV.lst (16)
                      (Cont.fn n fun (j : Nat) =>
                        PV.agg
                          [PV.q (lk j).len (64), PV.q (lk j).low (64), PV.q (lk j).high (64),
                            PV.q (lk j).spd (64), PV.q (lk j).brk (64),
                            PV.lst (6)
                              (Cont.fn (lk j).np fun (a : Nat) =>
                                PV.agg [PV.q ((lk j).px a) (64), PV.q ((lk j).py a) (64)])]),
                    PV.i IntKind.i64 (↑n : Int), PV.i IntKind.i64 (i + (1 : Int))],
                h :=
                  [some { e := 3, c := Cont.vals [PV.agg [PV.bl false, PV.s z1, PV.s z2]] },
                    some { e := 3, c := Cont.vals [PV.q (sm + (lk i.toNat).len) (64)] }] }))
          (Tr.no (10002)))
        (Tr.no (1)))
      (Tr.no (8004)))
    (Tr.ok
      (Res.out (Exit.exit (0))
        {
          t :=
            [PV.ptr (0) (3) (0) (0) [],
              PV.ptr (1) (3) (0) (0) [],
              PV.lst (16)
                (Cont.fn n fun (j : Nat) =>
                  PV.agg
                    [PV.q (lk j).len (64), PV.q (lk j).low (64), PV.q (lk j).high (64),
                      PV.q (lk j).spd (64), PV.q (lk j).brk (64),
                      PV.lst (6)
                        (Cont.fn (lk j).np fun (a : Nat) =>
                          PV.agg [PV.q ((lk j).px a) (64), PV.q ((lk j).py a) (64)])]),
              PV.i IntKind.i64 (↑n : Int), PV.i IntKind.i64 i],
          h :=
            [some { e := 3, c := Cont.vals [PV.agg [PV.bl false, PV.s z1, PV.s z2]] },
              some { e := 3, c := Cont.vals [PV.q sm (64)] }] })) := by kernel_rfl
def Pl31 (ls : LS) : Prop := ∃ n lk z1 z2, ls = st31 n lk z1 z2 0 0 ∧ n ≤ 3 ∧ ∀ j, j < n → cB (lk j).len = true
noncomputable def l31 : LSpec := fun ls K => .br (decP (Pl31 ls)) (K (.exit 0) ⟨ls.t.set 4 (ls.t.getD 3 .any), ls.h.set 1 (some ⟨3, .vals [.q (sumLen (fun j => dLk (dg' (ls.t.getD 2 .any) j)) (dn (ls.t.getD 2 .any))) 64]⟩)⟩) (.no 1)
theorem e31 (A : Am) : evF Tryd.prog O31 [(6, l31)] pol31 Tryd.f31 [armPV A] [] retK =
  Tr.br
    (decP
      (P52
        [PV.agg
            [PV.s A.name,
              PV.agg
                [PV.agg [PV.q A.bx (64), PV.q A.by_ (64)], PV.agg [PV.bl false, PV.q A.t (64)]],
              PV.lst (16)
                (Cont.fn A.n fun (j : Nat) =>
                  PV.agg
                    [PV.q (A.lk j).len (64), PV.q (A.lk j).low (64), PV.q (A.lk j).high (64),
                      PV.q (A.lk j).spd (64), PV.q (A.lk j).brk (64),
                      PV.lst (6)
                        (Cont.fn (A.lk j).np fun (a : Nat) =>
                          PV.agg [PV.q ((A.lk j).px a) (64), PV.q ((A.lk j).py a) (64)])])]]))
    (Tr.br (!decide ((0 : Int) = (0 : Int)))
      (Tr.ok
        (Res.ret (PV.tup [PV.agg [PV.bl false, PV.s { data := #[] }, PV.s { data := #[] }], PV.i IntKind.i64 (0 : Int)])
          []))
      (Tr.br (decide ((-72057594037927936 : Int) < (0 : Int)) && decide ((0 : Int) ≤ (9223372036854775807 : Int)))
        (Tr.br
          (decP
            (Pl31
              {
                t :=
                  [PV.ptr (0) (3) (0) (0) [],
                    PV.ptr (1) (3) (0) (0) [],
                    PV.lst (16)
                      (Cont.fn A.n fun (j : Nat) =>
                        PV.agg
                          [PV.q (A.lk j).len (64), PV.q (A.lk j).low (64),
                            PV.q (A.lk j).high (64), PV.q (A.lk j).spd (64),
                            PV.q (A.lk j).brk (64),
                            PV.lst (6)
                              (Cont.fn (A.lk j).np fun (a : Nat) =>
                                PV.agg [PV.q ((A.lk j).px a) (64), PV.q ((A.lk j).py a) (64)])]),
                    PV.i IntKind.i64 (↑A.n : Int), PV.i IntKind.i64 (0 : Int)],
                h :=
                  [some
                      { e := 3,
                        c := Cont.vals [PV.agg [PV.bl false, PV.s { data := #[] }, PV.s { data := #[] }]] },
                    some { e := 3, c := Cont.vals [PV.q (↑(0 : Int) : Rat) (64)] }] }))
          (Tr.ok
            (Res.ret
              (PV.tup
                [PV.q
                    (sumLen
                      (fun (j : Nat) =>
                        dLk
                          (PV.agg
                            [PV.q (A.lk j).len (64), PV.q (A.lk j).low (64),
                              PV.q (A.lk j).high (64), PV.q (A.lk j).spd (64),
                              PV.q (A.lk j).brk (64),
                              PV.lst (6)
                                (Cont.fn (A.lk j).np fun (a : Nat) =>
                                  PV.agg [PV.q ((A.lk j).px a) (64), PV.q ((A.lk j).py a) (64)])]))
                      (dn
                        (PV.lst (16)
                          (Cont.fn A.n fun (j : Nat) =>
                            PV.agg
                              [PV.q (A.lk j).len (64), PV.q (A.lk j).low (64),
                                PV.q (A.lk j).high (64), PV.q (A.lk j).spd (64),
                                PV.q (A.lk j).brk (64),
                                PV.lst (6)
                                  (Cont.fn (A.lk j).np fun (a : Nat) =>
                                    PV.agg [PV.q ((A.lk j).px a) (64), PV.q ((A.lk j).py a) (64)])]))))
                    (64),
                  PV.i IntKind.i64 (0 : Int)])
              []))
          (Tr.no (1)))
        (Tr.no (1))))
    (Tr.no (1)) := by kernel_rfl
def P31 (args : List PV) : Prop := ∃ v, args = [v] ∧ okA v ∧ ∀ j, j < (dArm v).n → cB ((dArm v).lk j).len = true
noncomputable def s31 : Spec := fun args hs K => match hs with
  | [] => .br (decP (P31 args)) (K (.tup [.q (sumLen (dArm (args.getD 0 .any)).lk (dArm (args.getD 0 .any)).n) 64, .i .i64 0]) []) (.no 1)
  | _ => .no 1
include hG in
theorem orc31 : OrcOK Tryd.prog G O31 := .cons (ok21 hG) (.cons (ok52 hG) (.cons (ok71 hG) .nil))
theorem sumLen_bd {lk : Nat → Lk} {n : Nat} (hn : n ≤ 3) (h : ∀ j, j < n → cB (lk j).len = true) : ∀ k, k < n → Prof.Bd (sumLen lk k) 192000 512 := by
  intro k hk
  have b0 : Prof.Bd (0 : Rat) 0 1 := ⟨Nat.le_refl _, Nat.le_refl _⟩
  match k, hk with
  | 0, _ => exact b0.le (by omega) (by omega)
  | 1, hk => exact (b0.add (cB_iff.1 (h 0 (by omega)))).le (by omega) (by omega)
  | 2, hk => exact ((b0.add (cB_iff.1 (h 0 (by omega)))).add (cB_iff.1 (h 1 (by omega)))).le (by omega) (by omega)
  | k + 3, hk => omega
include hG in
theorem loop31 : LoopOK Tryd.prog G Tryd.f31.ntmps 0 [2, 5, 16, 17, 18] b31 l31 := by
  intro ls K y hm h
  obtain ⟨hc, hr⟩ := Tr.of_br h
  obtain ⟨n, lk, z1, z2, rfl, hn, hp⟩ := decP_iff.1 hc
  refine ⟨_, _, goes_ok (Goes.count (R := Rnd Tryd.prog G Tryd.f31.ntmps 0 [2, 5, 16, 17, 18] b31) (fun i => st31 n lk z1 z2 (sumLen lk i) ((i : Nat) : Int)) (e := .exit 0) (ls' := st31 n lk z1 z2 (sumLen lk n) n) (by simp) n 0 (fun i _ hi => ?_) ?_), hr⟩
  · refine round_ok hG (orc31 hG) mix (L := []) (pol := pol31) (O := O31) (LpsOK.none (by kernel_rfl)) (Nat.zero_le _) ?_
    have b1 := sumLen_bd hn hp i (by omega)
    have b2 := cB_iff.1 (hp i (by omega))
    rw [r31, Int.toNat_natCast, Tr.run_t (decide_eq_true (by omega)), Tr.run_t (by simp only [Bool.and_eq_true, decide_eq_true_eq]; omega), Tr.run_t (subOk b1 b2 (by omega) (by omega) (by omega) (by omega) (by omega) (by omega)), Tr.run_t (by simp only [Bool.and_eq_true, decide_eq_true_eq]; omega), Tr.run_ok]
    rfl
  · refine round_ok hG (orc31 hG) mix (L := []) (pol := pol31) (O := O31) (LpsOK.none (by kernel_rfl)) (Nat.zero_le _) ?_
    rw [r31, Tr.run_f (decide_eq_false (by omega)), Tr.run_ok, Nat.zero_add]
    rfl
include hG in
theorem ok31 : SpecOK Tryd.prog G 31 s31 := by
  intro args hs K x h
  unfold s31 at h
  split at h
  case h_2 => cases h
  obtain ⟨hc, hr⟩ := Tr.of_br h
  obtain ⟨v, rfl, ⟨hv, hA⟩, hB⟩ := decP_iff.1 hc
  obtain ⟨h1, h2, h3, h4, h5, h6, h7⟩ := armB_c hA
  refine ⟨_, _, PC.args (.cons hv (.refl _)) (evF_pc hG (orc31 hG) mix enter31 (hs := []) (L := [(6, l31)]) (pol := pol31) (O := O31) (lps1 (b := b31) (live := [2, 5, 16, 17, 18]) (sp := l31) (m := 0) (by kernel_rfl) (by kernel_rfl) (by kernel_rfl) (loop31 hG)) ?_), hr⟩
  show Tr.run _ = some (.ret (.tup [.q (sumLen (dArm v).lk (dArm v).n) 64, .i .i64 0]) [])
  generalize dArm v = A at *
  rw [e31, Tr.run_t (decP_iff.2 ⟨_, A, rfl, .refl _, hA⟩), Tr.run_f (by decide), Tr.run_t (by decide), Tr.run_t (decP_iff.2 ⟨A.n, A.lk, _, _, rfl, h6, hB⟩), Tr.run_ok]
  rfl
/-! arm.Fits -/
noncomputable def b35 : Code := (loopsOf (bodyC Tryd.f35)).getD 0 .skip
def pol35 : Pol := { live := [(5, [1, 4, 16, 17, 18])] }
noncomputable def O35 : Orc := [(27, s27), (85, s85)]
theorem enter35 : Enters Tryd.prog 35 Tryd.f35 (bodyC Tryd.f35) := ⟨Tryd.func35, by kernel_rfl, rfl⟩
def st35 (qs : List Rat) (n : Nat) (lk : Nat → Lk) (e i : Int) : LS := ⟨[.lst 3 (.rats 64 qs), .i .i64 e, .lst 16 (.fn n (fun j => lkPV (lk j))), .i .i64 n, .i .i64 i], []⟩
theorem r35 (qs : List Rat) (n : Nat) (lk : Nat → Lk) (e i : Int) : evRound Tryd.prog O35 [] pol35 Tryd.f35.ntmps 0 [1, 4, 16, 17, 18] b35 (st35 qs n lk e i) =
  Tr.br (decide (i < (↑n : Int)))
    (Tr.br (decide ((0 : Int) ≤ i) && decide (i < (↑n : Int)))
      (Tr.br (decide ((0 : Int) ≤ i) && decide (i < (↑qs.length : Int)))
        (Tr.br (s32 (qs.getD i.toNat (0 : Rat)) && s32 (lk i.toNat).low)
          (Tr.br (decide (rcmp (qs.getD i.toNat (0 : Rat)) (lk i.toNat).low < (0 : Int)))
            (Tr.ok
              (Res.out Exit.ret
                {
                  t :=
                    [PV.lst (3) (Cont.rats (64) qs), PV.i IntKind.i64 (17 : Int),
                      PV.lst (16)
                        (Cont.fn n fun (j : Nat) =>
                          PV.agg
                            [PV.q (lk j).len (64), PV.q (lk j).low (64), PV.q (lk j).high (64),
                              PV.q (lk j).spd (64), PV.q (lk j).brk (64),
                              PV.lst (6)
                                (Cont.fn (lk j).np fun (a : Nat) =>
                                  PV.agg [PV.q ((lk j).px a) (64), PV.q ((lk j).py a) (64)])]),
                      PV.i IntKind.i64 (↑n : Int), PV.i IntKind.i64 i],
                  h := [] }))
            (Tr.br (decide ((0 : Int) ≤ i) && decide (i < (↑qs.length : Int)))
              (Tr.br (s32 (qs.getD i.toNat (0 : Rat)) && s32 (lk i.toNat).high)
                (Tr.br (decide ((0 : Int) < rcmp (qs.getD i.toNat (0 : Rat)) (lk i.toNat).high))
                  (Tr.ok
                    (Res.out Exit.ret
                      {
                        t :=
                          [PV.lst (3) (Cont.rats (64) qs), PV.i IntKind.i64 (17 : Int),
                            PV.lst (16)
                              (Cont.fn n fun (j : Nat) =>
                                PV.agg
                                  [PV.q (lk j).len (64), PV.q (lk j).low (64),
                                    PV.q (lk j).high (64), PV.q (lk j).spd (64),
                                    PV.q (lk j).brk (64),
                                    PV.lst (6)
                                      (Cont.fn (lk j).np fun (a : Nat) =>
                                        PV.agg [PV.q ((lk j).px a) (64), PV.q ((lk j).py a) (64)])]),
                            PV.i IntKind.i64 (↑n : Int), PV.i IntKind.i64 i],
                        h := [] }))
                  (Tr.br
                    (decide ((-9223372036854775808 : Int) ≤ i + (1 : Int)) &&
                      decide (i + (1 : Int) ≤ (9223372036854775807 : Int)))
                    (Tr.ok
                      (Res.out Exit.normal
                        {
                          t :=
                            [PV.lst (3) (Cont.rats (64) qs), PV.i IntKind.i64 e,
                              PV.lst (16)
                                (Cont.fn n fun (j : Nat) =>
                                  PV.agg
                                    [PV.q (lk j).len (64), PV.q (lk j).low (64),
                                      PV.q (lk j).high (64), PV.q (lk j).spd (64),
                                      PV.q (lk j).brk (64),
                                      PV.lst (6)
                                        (Cont.fn (lk j).np fun (a : Nat) =>
                                          PV.agg [PV.q ((lk j).px a) (64), PV.q ((lk j).py a) (64)])]),
                              PV.i IntKind.i64 (↑n : Int), PV.i IntKind.i64 (i + (1 : Int))],
                          h := [] }))
                    (Tr.no (10002))))
                (Tr.no (1)))
              (Tr.no (8007))))
          (Tr.no (1)))
        (Tr.no (8016)))
      (Tr.no (7005)))
    (Tr.ok
      (Res.out (Exit.exit (0))
        {
          t :=
            [PV.lst (3) (Cont.rats (64) qs), PV.i IntKind.i64 e,
              PV.lst (16)
                (Cont.fn n fun (j : Nat) =>
                  PV.agg
                    [PV.q (lk j).len (64), PV.q (lk j).low (64), PV.q (lk j).high (64),
                      PV.q (lk j).spd (64), PV.q (lk j).brk (64),
                      PV.lst (6)
                        (Cont.fn (lk j).np fun (a : Nat) =>
                          PV.agg [PV.q ((lk j).px a) (64), PV.q ((lk j).py a) (64)])]),
              PV.i IntKind.i64 (↑n : Int), PV.i IntKind.i64 i],
          h := [] })) := by kernel_rfl
def fit1 (lk : Nat → Lk) (qs : List Rat) (j : Nat) : Bool := decide ((lk j).low ≤ qs.getD j 0) && decide (qs.getD j 0 ≤ (lk j).high)
def fitB (A : Am) (qs : List Rat) : Bool := (List.range A.n).all (fit1 A.lk qs)
def Pl35 (ls : LS) : Prop := ∃ qs n lk, ls = st35 qs n lk 0 0 ∧ n ≤ 3 ∧ qs.length = n ∧ qs.all s32 = true ∧ ∀ j, j < n → lkB (lk j) = true
def lsLk (v : PV) (j : Nat) : Lk := dLk (dg' v j)
def dqs (v : PV) : List Rat := match v with
  | .lst _ (.rats _ xs) => xs
  | _ => []
def fitLs (ls : LS) : Bool := (List.range (dn (ls.t.getD 2 .any))).all (fit1 (lsLk (ls.t.getD 2 .any)) (dqs (ls.t.getD 0 .any)))
noncomputable def l35 : LSpec := fun ls K => .br (decP (Pl35 ls)) (.br (fitLs ls) (K (.exit 0) ⟨ls.t.set 4 (ls.t.getD 3 .any), ls.h⟩)
  (K .ret ⟨(ls.t.set 1 (.i .i64 17)).set 4 (.i .i64 ((fbad (fit1 (lsLk (ls.t.getD 2 .any)) (dqs (ls.t.getD 0 .any))) (dn (ls.t.getD 2 .any)) 0 : Nat) : Int)), ls.h⟩)) (.no 1)
theorem e35 (A : Am) (qs : List Rat) : evF Tryd.prog O35 [(5, l35)] pol35 Tryd.f35 [armPV A, .lst 3 (.rats 64 qs)] [] retK =
  Tr.br
    (decP
      (P85
        [PV.agg
            [PV.s A.name,
              PV.agg
                [PV.agg [PV.q A.bx (64), PV.q A.by_ (64)], PV.agg [PV.bl false, PV.q A.t (64)]],
              PV.lst (16)
                (Cont.fn A.n fun (j : Nat) =>
                  PV.agg
                    [PV.q (A.lk j).len (64), PV.q (A.lk j).low (64), PV.q (A.lk j).high (64),
                      PV.q (A.lk j).spd (64), PV.q (A.lk j).brk (64),
                      PV.lst (6)
                        (Cont.fn (A.lk j).np fun (a : Nat) =>
                          PV.agg [PV.q ((A.lk j).px a) (64), PV.q ((A.lk j).py a) (64)])])],
          PV.i IntKind.i64 (↑qs.length : Int)]))
    (Tr.br (!decide ((0 : Int) = (0 : Int))) (Tr.ok (Res.ret (PV.i IntKind.i64 (0 : Int)) []))
      (Tr.br
        (decP
          (Pl35
            {
              t :=
                [PV.lst (3) (Cont.rats (64) qs), PV.i IntKind.i64 (0 : Int),
                  PV.lst (16)
                    (Cont.fn A.n fun (j : Nat) =>
                      PV.agg
                        [PV.q (A.lk j).len (64), PV.q (A.lk j).low (64), PV.q (A.lk j).high (64),
                          PV.q (A.lk j).spd (64), PV.q (A.lk j).brk (64),
                          PV.lst (6)
                            (Cont.fn (A.lk j).np fun (a : Nat) =>
                              PV.agg [PV.q ((A.lk j).px a) (64), PV.q ((A.lk j).py a) (64)])]),
                  PV.i IntKind.i64 (↑A.n : Int), PV.i IntKind.i64 (0 : Int)],
              h := [] }))
        (Tr.br
          (fitLs
            {
              t :=
                [PV.lst (3) (Cont.rats (64) qs), PV.i IntKind.i64 (0 : Int),
                  PV.lst (16)
                    (Cont.fn A.n fun (j : Nat) =>
                      PV.agg
                        [PV.q (A.lk j).len (64), PV.q (A.lk j).low (64), PV.q (A.lk j).high (64),
                          PV.q (A.lk j).spd (64), PV.q (A.lk j).brk (64),
                          PV.lst (6)
                            (Cont.fn (A.lk j).np fun (a : Nat) =>
                              PV.agg [PV.q ((A.lk j).px a) (64), PV.q ((A.lk j).py a) (64)])]),
                  PV.i IntKind.i64 (↑A.n : Int), PV.i IntKind.i64 (0 : Int)],
              h := [] })
          (Tr.ok (Res.ret (PV.i IntKind.i64 (0 : Int)) [])) (Tr.ok (Res.ret (PV.i IntKind.i64 (17 : Int)) [])))
        (Tr.no (1))))
    (Tr.no (1)) := by kernel_rfl
def P35 (args : List PV) : Prop := ∃ v qs, args = [v, .lst 3 (.rats 64 qs)] ∧ okA v ∧ qs.length = (dArm v).n ∧ qs.all s32 = true
noncomputable def s35 : Spec := fun args hs K => match hs with
  | [] => .br (decP (P35 args)) (.br (fitB (dArm (args.getD 0 .any)) (dqs (args.getD 1 .any))) (K (.i .i64 0) []) (K (.i .i64 17) [])) (.no 1)
  | _ => .no 1
include hG in
theorem orc35 : OrcOK Tryd.prog G O35 := .cons (ok27 hG) (.cons (ok85 hG) .nil)
theorem all_get {qs : List Rat} (h : qs.all s32 = true) {j : Nat} (hj : j < qs.length) : s32 (qs.getD j 0) = true := by
  rw [List.getD_eq_getElem?_getD, List.getElem?_eq_getElem hj]
  exact List.all_eq_true.1 h _ (List.getElem_mem _)
include hG in
theorem loop35 : LoopOK Tryd.prog G Tryd.f35.ntmps 0 [1, 4, 16, 17, 18] b35 l35 := by
  intro ls K y hm h
  obtain ⟨hc, hr⟩ := Tr.of_br h
  obtain ⟨qs, n, lk, rfl, hn, hl, hq, hp⟩ := decP_iff.1 hc
  have hstep : ∀ j, j < n → fit1 lk qs j = true → Rnd Tryd.prog G Tryd.f35.ntmps 0 [1, 4, 16, 17, 18] b35 (st35 qs n lk 0 ((j : Nat) : Int)) .normal (st35 qs n lk 0 ((j + 1 : Nat) : Int)) := by
    intro j hj hf
    refine round_ok hG (orc35 hG) mix (L := []) (pol := pol35) (O := O35) (LpsOK.none (by kernel_rfl)) (Nat.zero_le _) ?_
    have k := lkB_c (hp j hj)
    have q := all_get hq (j := j) (by omega)
    simp only [fit1, Bool.and_eq_true, decide_eq_true_eq] at hf
    rw [r35, Int.toNat_natCast, Tr.run_t (decide_eq_true (by omega)), Tr.run_t (by simp only [Bool.and_eq_true, decide_eq_true_eq]; omega), Tr.run_t (by simp only [Bool.and_eq_true, decide_eq_true_eq]; omega), Tr.run_t (by rw [q, smQ_s32 k.2.1]; rfl), Tr.run_f (decide_eq_false (by rw [rcmp_lt]; exact Rat.not_lt.2 hf.1)),
      Tr.run_t (by simp only [Bool.and_eq_true, decide_eq_true_eq]; omega), Tr.run_t (by rw [q, smQ_s32 k.2.2.1]; rfl), Tr.run_f (decide_eq_false (by rw [rcmp_gt]; exact Rat.not_lt.2 hf.2)), Tr.run_t (by simp only [Bool.and_eq_true, decide_eq_true_eq]; omega), Tr.run_ok]
    rfl
  have hbad : ∀ j, j < n → fit1 lk qs j = false → Rnd Tryd.prog G Tryd.f35.ntmps 0 [1, 4, 16, 17, 18] b35 (st35 qs n lk 0 ((j : Nat) : Int)) .ret (st35 qs n lk 17 ((j : Nat) : Int)) := by
    intro j hj hf
    refine round_ok hG (orc35 hG) mix (L := []) (pol := pol35) (O := O35) (LpsOK.none (by kernel_rfl)) (Nat.zero_le _) ?_
    have k := lkB_c (hp j hj)
    have q := all_get hq (j := j) (by omega)
    simp only [fit1, Bool.and_eq_false_iff, decide_eq_false_iff_not] at hf
    rw [r35, Int.toNat_natCast, Tr.run_t (decide_eq_true (by omega)), Tr.run_t (by simp only [Bool.and_eq_true, decide_eq_true_eq]; omega), Tr.run_t (by simp only [Bool.and_eq_true, decide_eq_true_eq]; omega), Tr.run_t (by rw [q, smQ_s32 k.2.1]; rfl)]
    by_cases h1 : (lk j).low ≤ qs.getD j 0
    · rw [Tr.run_f (decide_eq_false (by rw [rcmp_lt]; exact Rat.not_lt.2 h1)),
        Tr.run_t (by simp only [Bool.and_eq_true, decide_eq_true_eq]; omega), Tr.run_t (by rw [q, smQ_s32 k.2.2.1]; rfl), Tr.run_t (decide_eq_true (by rw [rcmp_gt]; exact Rat.not_le.1 (hf.resolve_left (fun h => h h1)))), Tr.run_ok]
      rfl
    · rw [Tr.run_t (decide_eq_true (by rw [rcmp_lt]; exact Rat.not_le.1 h1)), Tr.run_ok]
      rfl
  have hend : Rnd Tryd.prog G Tryd.f35.ntmps 0 [1, 4, 16, 17, 18] b35 (st35 qs n lk 0 ((n : Nat) : Int)) (.exit 0) (st35 qs n lk 0 ((n : Nat) : Int)) := by
    refine round_ok hG (orc35 hG) mix (L := []) (pol := pol35) (O := O35) (LpsOK.none (by kernel_rfl)) (Nat.zero_le _) ?_
    rw [r35, Tr.run_f (decide_eq_false (by omega)), Tr.run_ok]
    rfl
  obtain ⟨g1, g2⟩ := Goes.search (fun j => st35 qs n lk 0 ((j : Nat) : Int)) (fun j => st35 qs n lk 17 ((j : Nat) : Int)) (fit1 lk qs) n (by simp) (by simp) hstep hbad hend n 0 (by omega)
  have hfit : fitLs (st35 qs n lk 0 0) = (List.range n).all (fit1 lk qs) := rfl
  rw [hfit] at hr
  cases hall : (List.range n).all (fit1 lk qs) with
  | true =>
    rw [Tr.run_t hall] at hr
    exact ⟨_, _, goes_ok (g1 fun j _ hj => List.all_eq_true.1 hall j (List.mem_range.2 hj)), hr⟩
  | false =>
    rw [Tr.run_f hall] at hr
    refine ⟨_, _, goes_ok (g2 fun hh => ?_), hr⟩
    have : (List.range n).all (fit1 lk qs) = true := List.all_eq_true.2 fun j hj => hh j (Nat.zero_le _) (List.mem_range.1 hj)
    rw [hall] at this; cases this
include hG in
theorem ok35 : SpecOK Tryd.prog G 35 s35 := by
  intro args hs K x h
  unfold s35 at h
  split at h
  case h_2 => cases h
  obtain ⟨hc, hr⟩ := Tr.of_br h
  obtain ⟨v, qs, rfl, ⟨hv, hA⟩, hl, hq⟩ := decP_iff.1 hc
  obtain ⟨h1, h2, h3, h4, h5, h6, h7⟩ := armB_c hA
  have pc : ∀ r, (evF Tryd.prog O35 [(5, l35)] pol35 Tryd.f35 [armPV (dArm v), .lst 3 (.rats 64 qs)] [] retK).run = some (.ret r []) → PC Tryd.prog G 35 [v, .lst 3 (.rats 64 qs)] [] r [] := fun r hh =>
    PC.args (.cons hv (.refl _)) (evF_pc hG (orc35 hG) mix enter35 (hs := []) (L := [(5, l35)]) (pol := pol35) (O := O35) (lps1 (b := b35) (live := [1, 4, 16, 17, 18]) (sp := l35) (m := 0) (by kernel_rfl) (by kernel_rfl) (by kernel_rfl) (loop35 hG)) hh)
  have hr' : (Tr.br (fitB (dArm v) qs) (K (.i .i64 0) []) (K (.i .i64 17) [])).run = some x := hr
  generalize dArm v = A at *
  have c1 : decP (P85 [armPV A, .i .i64 (qs.length : Nat)]) = true := decP_iff.2 ⟨_, A, by rw [hl], .refl _, hA⟩
  have c2 : decP (Pl35 (st35 qs A.n A.lk 0 0)) = true := decP_iff.2 ⟨qs, A.n, A.lk, rfl, h6, hl, hq, h7⟩
  cases hf : fitB A qs with
  | true =>
    rw [Tr.run_t hf] at hr'
    refine ⟨_, _, pc _ ?_, hr'⟩
    rw [e35, Tr.run_t (by exact c1), Tr.run_f (by decide), Tr.run_t (by exact c2), Tr.run_t (by exact hf), Tr.run_ok]
  | false =>
    rw [Tr.run_f hf] at hr'
    refine ⟨_, _, pc _ ?_, hr'⟩
    rw [e35, Tr.run_t (by exact c1), Tr.run_f (by decide), Tr.run_t (by exact c2), Tr.run_f (by exact hf), Tr.run_ok]
/-! arm.Clamp -/
noncomputable def b34 : Code := (loopsOf (bodyC Tryd.f34)).getD 0 .skip
def pol34 : Pol := { live := [(6, [1, 7, 18, 19, 20])] }
noncomputable def O34 : Orc := [(80, s80), (85, s85), (86, s86)]
theorem enter34 : Enters Tryd.prog 34 Tryd.f34 (bodyC Tryd.f34) := ⟨Tryd.func34, by kernel_rfl, rfl⟩
def x34 (qs : List Rat) (n : Nat) (lk : Nat → Lk) (xs : List Rat) (i : Int) : LS := ⟨[.lst 3 (.rats 64 qs), .sl 0 3 0 xs.length, .lst 16 (.fn n (fun j => lkPV (lk j))), .i .i64 n, .i .i64 i], [some ⟨3, .rats 64 xs⟩]⟩
def n34 (qs : List Rat) (n : Nat) (lk : Nat → Lk) (i : Int) : LS := ⟨[.lst 3 (.rats 64 qs), .nil, .lst 16 (.fn n (fun j => lkPV (lk j))), .i .i64 n, .i .i64 i], []⟩
theorem r34n (qs : List Rat) (n : Nat) (lk : Nat → Lk) (i : Int) : evRound Tryd.prog O34 [] pol34 Tryd.f34.ntmps 0 [1, 7, 18, 19, 20] b34 (n34 qs n lk i) =
  Tr.br (decide (i < (↑n : Int)))
    (Tr.br (decide ((0 : Int) ≤ i) && decide (i < (↑n : Int)))
      (Tr.br (decide ((0 : Int) ≤ i) && decide (i < (↑qs.length : Int)))
        (Tr.br (s32 (lk i.toNat).high && s32 (qs.getD i.toNat (0 : Rat)))
          (Tr.br (s32 (lk i.toNat).low && s32 (Prof.mn (lk i.toNat).high (qs.getD i.toNat (0 : Rat))))
            (Tr.br
              (Nat.blt (0 : Nat) [mx (lk i.toNat).low (Prof.mn (lk i.toNat).high (qs.getD i.toNat (0 : Rat)))].length &&
                [mx (lk i.toNat).low (Prof.mn (lk i.toNat).high (qs.getD i.toNat (0 : Rat)))].length.ble
                  (4294967296 : Nat))
              (Tr.br
                (decide ((-9223372036854775808 : Int) ≤ i + (1 : Int)) &&
                  decide (i + (1 : Int) ≤ (9223372036854775807 : Int)))
                (Tr.ok
                  (Res.out Exit.normal
                    {
                      t :=
                        [PV.lst (3) (Cont.rats (64) qs),
                          PV.sl (0) (3) (0) (1),
                          PV.lst (16)
                            (Cont.fn n fun (j : Nat) =>
                              PV.agg
                                [PV.q (lk j).len (64), PV.q (lk j).low (64),
                                  PV.q (lk j).high (64), PV.q (lk j).spd (64),
                                  PV.q (lk j).brk (64),
                                  PV.lst (6)
                                    (Cont.fn (lk j).np fun (a : Nat) =>
                                      PV.agg [PV.q ((lk j).px a) (64), PV.q ((lk j).py a) (64)])]),
                          PV.i IntKind.i64 (↑n : Int), PV.i IntKind.i64 (i + (1 : Int))],
                      h :=
                        [some
                            { e := 3,
                              c :=
                                Cont.rats (64)
                                  [mx (lk i.toNat).low (Prof.mn (lk i.toNat).high (qs.getD i.toNat (0 : Rat)))] }] }))
                (Tr.no (10002)))
              (Tr.no (9002)))
            (Tr.no (1)))
          (Tr.no (1)))
        (Tr.no (9007)))
      (Tr.no (8005)))
    (Tr.ok
      (Res.out (Exit.exit (0))
        {
          t :=
            [PV.lst (3) (Cont.rats (64) qs), PV.nil,
              PV.lst (16)
                (Cont.fn n fun (j : Nat) =>
                  PV.agg
                    [PV.q (lk j).len (64), PV.q (lk j).low (64), PV.q (lk j).high (64),
                      PV.q (lk j).spd (64), PV.q (lk j).brk (64),
                      PV.lst (6)
                        (Cont.fn (lk j).np fun (a : Nat) =>
                          PV.agg [PV.q ((lk j).px a) (64), PV.q ((lk j).py a) (64)])]),
              PV.i IntKind.i64 (↑n : Int), PV.i IntKind.i64 i],
          h := [] })) := by kernel_rfl
theorem r34 (qs : List Rat) (n : Nat) (lk : Nat → Lk) (xs : List Rat) (i : Int) : evRound Tryd.prog O34 [] pol34 Tryd.f34.ntmps 0 [1, 7, 18, 19, 20] b34 (x34 qs n lk xs i) =
  Tr.br (decide (i < (↑n : Int)))
    (Tr.br (decide ((0 : Int) ≤ i) && decide (i < (↑n : Int)))
      (Tr.br (decide ((0 : Int) ≤ i) && decide (i < (↑qs.length : Int)))
        (Tr.br (s32 (lk i.toNat).high && s32 (qs.getD i.toNat (0 : Rat)))
          (Tr.br (s32 (lk i.toNat).low && s32 (Prof.mn (lk i.toNat).high (qs.getD i.toNat (0 : Rat))))
            (Tr.br
              (xs.length.ble xs.length &&
                (xs.length + [mx (lk i.toNat).low (Prof.mn (lk i.toNat).high (qs.getD i.toNat (0 : Rat)))].length).ble
                  (4294967296 : Nat))
              (Tr.br
                (decide ((-9223372036854775808 : Int) ≤ i + (1 : Int)) &&
                  decide (i + (1 : Int) ≤ (9223372036854775807 : Int)))
                (Tr.ok
                  (Res.out Exit.normal
                    {
                      t :=
                        [PV.lst (3) (Cont.rats (64) qs),
                          PV.sl (0) (3) (0)
                            (xs.length +
                              [mx (lk i.toNat).low (Prof.mn (lk i.toNat).high (qs.getD i.toNat (0 : Rat)))].length),
                          PV.lst (16)
                            (Cont.fn n fun (j : Nat) =>
                              PV.agg
                                [PV.q (lk j).len (64), PV.q (lk j).low (64),
                                  PV.q (lk j).high (64), PV.q (lk j).spd (64),
                                  PV.q (lk j).brk (64),
                                  PV.lst (6)
                                    (Cont.fn (lk j).np fun (a : Nat) =>
                                      PV.agg [PV.q ((lk j).px a) (64), PV.q ((lk j).py a) (64)])]),
                          PV.i IntKind.i64 (↑n : Int), PV.i IntKind.i64 (i + (1 : Int))],
                      h :=
                        [some
                            { e := 3,
                              c :=
                                Cont.rats (64)
                                  (List.take xs.length (List.drop (0 : Nat) xs) ++
                                    [mx (lk i.toNat).low (Prof.mn (lk i.toNat).high (qs.getD i.toNat (0 : Rat)))]) }] }))
                (Tr.no (10002)))
              (Tr.no (9002)))
            (Tr.no (1)))
          (Tr.no (1)))
        (Tr.no (9007)))
      (Tr.no (8005)))
    (Tr.ok
      (Res.out (Exit.exit (0))
        {
          t :=
            [PV.lst (3) (Cont.rats (64) qs), PV.sl (0) (3) (0) xs.length,
              PV.lst (16)
                (Cont.fn n fun (j : Nat) =>
                  PV.agg
                    [PV.q (lk j).len (64), PV.q (lk j).low (64), PV.q (lk j).high (64),
                      PV.q (lk j).spd (64), PV.q (lk j).brk (64),
                      PV.lst (6)
                        (Cont.fn (lk j).np fun (a : Nat) =>
                          PV.agg [PV.q ((lk j).px a) (64), PV.q ((lk j).py a) (64)])]),
              PV.i IntKind.i64 (↑n : Int), PV.i IntKind.i64 i],
          h := [some { e := 3, c := Cont.rats (64) xs }] })) := by kernel_rfl
def cl1 (lk : Nat → Lk) (qs : List Rat) (j : Nat) : Rat := mx (lk j).low (Prof.mn (lk j).high (qs.getD j 0))
def clL (lk : Nat → Lk) (qs : List Rat) (n : Nat) : List Rat := (List.range n).map (cl1 lk qs)
theorem clL_succ (lk : Nat → Lk) (qs : List Rat) (n : Nat) : clL lk qs (n + 1) = clL lk qs n ++ [cl1 lk qs n] := by simp [clL, List.range_succ]
theorem clL_len (lk : Nat → Lk) (qs : List Rat) (n : Nat) : (clL lk qs n).length = n := by simp [clL]
def st34 (qs : List Rat) (n : Nat) (lk : Nat → Lk) (xs : List Rat) (i : Int) : LS := match xs with
  | [] => n34 qs n lk i
  | xs => x34 qs n lk xs i
theorem st34_x {qs : List Rat} {n : Nat} {lk : Nat → Lk} {xs : List Rat} {i : Int} (h : xs ≠ []) : st34 qs n lk xs i = x34 qs n lk xs i := by
  cases xs with
  | nil => exact absurd rfl h
  | cons x xs => rfl
def Pl34 (qs : List Rat) (n : Nat) (f : Nat → PV) (m i : Int) : Prop := ∃ lk : Nat → Lk, f = (fun j => lkPV (lk j)) ∧ m = n ∧ i = 0 ∧ 1 ≤ n ∧ n ≤ 3 ∧ qs.length = n ∧ qs.all s32 = true ∧ ∀ j, j < n → lkB (lk j) = true
def clF (f : Nat → PV) (qs : List Rat) (n : Nat) : List Rat := clL (fun j => dLk (f j)) qs n
noncomputable def l34 : LSpec := fun ls K => match ls with
  | ⟨[.lst 3 (.rats 64 qs), .nil, .lst 16 (.fn n f), .i .i64 m, .i .i64 i], []⟩ => .br (decP (Pl34 qs n f m i)) (K (.exit 0) ⟨[.lst 3 (.rats 64 qs), .sl 0 3 0 (clF f qs n).length, .lst 16 (.fn n f), .i .i64 m, .i .i64 m], [some ⟨3, .rats 64 (clF f qs n)⟩]⟩) (.no 1)
  | _ => .no 1
include hG in
theorem orc34 : OrcOK Tryd.prog G O34 := .cons (ok80 hG) (.cons (ok85 hG) (.cons (ok86 hG) .nil))
theorem mn_s32 {x y : Rat} (h : s32 x = true) (h' : s32 y = true) : s32 (Prof.mn x y) = true := by unfold Prof.mn; split <;> assumption
theorem mx_s32 {x y : Rat} (h : s32 x = true) (h' : s32 y = true) : s32 (mx x y) = true := by unfold mx; split <;> assumption
theorem step34 (qs : List Rat) (n : Nat) (lk : Nat → Lk) (xs : List Rat) (j : Nat) (hn : n ≤ 3) (hl : qs.length = n) (hq : qs.all s32 = true) (hp : lkB (lk j) = true) (hj : j < n) (hx : xs.length ≤ 1000) :
    (evRound Tryd.prog O34 [] pol34 Tryd.f34.ntmps 0 [1, 7, 18, 19, 20] b34 (st34 qs n lk xs ((j : Nat) : Int))).run = some (.out .normal (st34 qs n lk (xs ++ [cl1 lk qs j]) ((j + 1 : Nat) : Int))) := by
  have k := lkB_c hp
  have q := all_get hq (j := j) (by omega)
  have m := mn_s32 (smQ_s32 k.2.2.1) q
  rw [st34_x (xs := xs ++ [cl1 lk qs j]) (by simp)]
  cases xs with
  | nil =>
    show (evRound Tryd.prog O34 [] pol34 Tryd.f34.ntmps 0 [1, 7, 18, 19, 20] b34 (n34 qs n lk ((j : Nat) : Int))).run = _
    rw [r34n, Int.toNat_natCast, Tr.run_t (decide_eq_true (by omega)), Tr.run_t (by simp only [Bool.and_eq_true, decide_eq_true_eq]; omega), Tr.run_t (by simp only [Bool.and_eq_true, decide_eq_true_eq]; omega), Tr.run_t (by rw [q, smQ_s32 k.2.2.1]; rfl), Tr.run_t (by rw [m, smQ_s32 k.2.1]; rfl), Tr.run_t (by rfl),
      Tr.run_t (by simp only [Bool.and_eq_true, decide_eq_true_eq]; omega), Tr.run_ok]
    rfl
  | cons y ys =>
    show (evRound Tryd.prog O34 [] pol34 Tryd.f34.ntmps 0 [1, 7, 18, 19, 20] b34 (x34 qs n lk (y :: ys) ((j : Nat) : Int))).run = _
    rw [r34, Int.toNat_natCast, Tr.run_t (decide_eq_true (by omega)), Tr.run_t (by simp only [Bool.and_eq_true, decide_eq_true_eq]; omega), Tr.run_t (by simp only [Bool.and_eq_true, decide_eq_true_eq]; omega), Tr.run_t (by rw [q, smQ_s32 k.2.2.1]; rfl), Tr.run_t (by rw [m, smQ_s32 k.2.1]; rfl), Tr.run_t (by
        simp only [Bool.and_eq_true, Nat.ble_eq, List.length_cons, List.length_nil] at hx ⊢; omega),
      Tr.run_t (by simp only [Bool.and_eq_true, decide_eq_true_eq]; omega), Tr.run_ok, List.drop_zero, List.take_length]
    have hlen : ((y :: ys) ++ [cl1 lk qs j]).length = (y :: ys).length + 1 := by simp
    unfold x34
    rw [hlen]
    rfl
include hG in
theorem loop34 : LoopOK Tryd.prog G Tryd.f34.ntmps 0 [1, 7, 18, 19, 20] b34 l34 := by
  intro ls K y hm h
  unfold l34 at h
  split at h
  case h_2 => cases h
  rename_i qs n f m i
  obtain ⟨hc, hr⟩ := Tr.of_br h
  obtain ⟨lk, rfl, rfl, rfl, hn1, hn, hl, hq, hp⟩ := decP_iff.1 hc
  have hg := Goes.count (R := Rnd Tryd.prog G Tryd.f34.ntmps 0 [1, 7, 18, 19, 20] b34) (fun i => st34 qs n lk (clL lk qs i) ((i : Nat) : Int)) (e := .exit 0) (ls' := st34 qs n lk (clL lk qs n) n) (by simp) n 0
    (fun i _ hi => round_ok hG (orc34 hG) mix (L := []) (pol := pol34) (O := O34) (LpsOK.none (by kernel_rfl)) (Nat.zero_le _) (by
      rw [clL_succ]
      exact step34 qs n lk _ i hn hl hq (hp i (by omega)) (by omega) (by rw [clL_len]; omega)))
    (by
      refine round_ok hG (orc34 hG) mix (L := []) (pol := pol34) (O := O34) (LpsOK.none (by kernel_rfl)) (Nat.zero_le _) ?_
      rw [Nat.zero_add]
      cases hc : clL lk qs n with
      | nil =>
        show (evRound Tryd.prog O34 [] pol34 Tryd.f34.ntmps 0 [1, 7, 18, 19, 20] b34 (n34 qs n lk ((n : Nat) : Int))).run = _
        rw [r34n, Tr.run_f (decide_eq_false (by omega)), Tr.run_ok]; rfl
      | cons y ys =>
        show (evRound Tryd.prog O34 [] pol34 Tryd.f34.ntmps 0 [1, 7, 18, 19, 20] b34 (x34 qs n lk (y :: ys) ((n : Nat) : Int))).run = _
        rw [r34, Tr.run_f (decide_eq_false (by omega)), Tr.run_ok]; rfl)
  refine ⟨_, _, goes_ok hg, ?_⟩
  rw [st34_x (by intro h0; have := clL_len lk qs n; rw [h0] at this; simp at this; omega)]
  exact hr
theorem e34 (A : Am) (qs : List Rat) : evF Tryd.prog O34 [(6, l34)] pol34 Tryd.f34 [armPV A, .lst 3 (.rats 64 qs)] [] retK =
  Tr.br
    (decP
      (P85
        [PV.agg
            [PV.s A.name,
              PV.agg
                [PV.agg [PV.q A.bx (64), PV.q A.by_ (64)], PV.agg [PV.bl false, PV.q A.t (64)]],
              PV.lst (16)
                (Cont.fn A.n fun (j : Nat) =>
                  PV.agg
                    [PV.q (A.lk j).len (64), PV.q (A.lk j).low (64), PV.q (A.lk j).high (64),
                      PV.q (A.lk j).spd (64), PV.q (A.lk j).brk (64),
                      PV.lst (6)
                        (Cont.fn (A.lk j).np fun (a : Nat) =>
                          PV.agg [PV.q ((A.lk j).px a) (64), PV.q ((A.lk j).py a) (64)])])],
          PV.i IntKind.i64 (↑qs.length : Int)]))
    (Tr.br (!decide ((0 : Int) = (0 : Int))) (Tr.ok (Res.ret (PV.tup [PV.nil, PV.i IntKind.i64 (0 : Int)]) []))
      (Tr.br (decP (Pl34 qs A.n (fun (j : Nat) => lkPV (A.lk j)) (↑A.n : Int) (0 : Int)))
        (Tr.br
          ((clF (fun (j : Nat) => lkPV (A.lk j)) qs A.n).length.ble (clF (fun (j : Nat) => lkPV (A.lk j)) qs A.n).length)
          (Tr.ok
            (Res.ret
              (PV.tup
                [PV.fr (3)
                    (Cont.rats (64)
                      (List.take (clF (fun (j : Nat) => lkPV (A.lk j)) qs A.n).length
                        (List.drop (0 : Nat) (clF (fun (j : Nat) => lkPV (A.lk j)) qs A.n)))),
                  PV.i IntKind.i64 (0 : Int)])
              []))
          (Tr.no (15)))
        (Tr.no (1))))
    (Tr.no (1)) := by kernel_rfl
/-- An arm out of its parts. -/
def mkA (nm : ByteArray) (bx by_ t : Rat) (c : Cont) : Am := ⟨nm, bx, by_, t, c.len, fun j => dLk (c.get j)⟩
noncomputable def s34 : Spec := fun args hs K => match args, hs with
  | [.agg [.s nm, .agg [.agg [.q bx w1, .q by_ w2], .agg [hf, .q t w3]], .lst 16 c], .lst 3 (.rats 64 qs)], [] =>
    .br (decP (P35 [.agg [.s nm, .agg [.agg [.q bx w1, .q by_ w2], .agg [hf, .q t w3]], .lst 16 c], .lst 3 (.rats 64 qs)])) (K (.tup [.fr 3 (.rats 64 (clF c.get qs c.len)), .i .i64 0]) []) (.no 1)
  | _, _ => .no 1
include hG in
theorem ok34 : SpecOK Tryd.prog G 34 s34 := by
  intro args hs K x h
  unfold s34 at h
  split at h
  case h_2 => cases h
  rename_i nm bx w1 by_ w2 hf t w3 c qs
  obtain ⟨hc, hr⟩ := Tr.of_br h
  obtain ⟨v, qs', e, ⟨hv, hA⟩, hl, hq⟩ := decP_iff.1 hc
  obtain ⟨e1, e2⟩ := List.cons.inj e
  obtain ⟨e3, _⟩ := List.cons.inj e2
  cases e3
  subst e1
  generalize hA' : dArm (.agg [.s nm, .agg [.agg [.q bx w1, .q by_ w2], .agg [hf, .q t w3]], .lst 16 c]) = A at *
  have ek : clF c.get qs c.len = clF (fun j => lkPV (A.lk j)) qs A.n := by rw [← hA']; rfl
  obtain ⟨h1, h2, h3, h4, h5, h6, h7⟩ := armB_c hA
  rw [ek] at hr
  refine ⟨_, _, PC.args (.cons hv (.refl _)) (evF_pc hG (orc34 hG) mix enter34 (hs := []) (L := [(6, l34)]) (pol := pol34) (O := O34) (lps1 (b := b34) (live := [1, 7, 18, 19, 20]) (sp := l34) (m := 0) (by kernel_rfl) (by kernel_rfl) (by kernel_rfl) (loop34 hG)) ?_), hr⟩
  rw [e34, Tr.run_t (decP_iff.2 ⟨_, A, by rw [hl]; rfl, .refl _, hA⟩), Tr.run_f (by decide), Tr.run_t (decP_iff.2 ⟨A.lk, rfl, rfl, rfl, h5, h6, hl, hq, h7⟩), Tr.run_t (by rw [Nat.ble_eq]; omega), Tr.run_ok, List.drop_zero, List.take_length]
end Go.Proofs.YtejfdhcigkgbmaaDoor.PE
