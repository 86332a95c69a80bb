/-
  Part 4 of the proof: contracts of the program's functions. Conditions: those of the theorems below.
-/
import Derived.Test.YtejfdhcigkgbmaaDoorRests3
set_option linter.all false
namespace Go.Proofs.YtejfdhcigkgbmaaDoor.PE
open Go
set_option maxRecDepth 100000
variable {G : World → (Nat → Prop) → Prop} (hG : GOk G)
noncomputable def b81 : Code := (loopsOf (bodyC Tryd.f81)).getD 0 .skip
def pol81 : Pol := { live := [(2, [0, 1, 4, 5, 6])] }
theorem enter81 : Enters Tryd.prog 81 Tryd.f81 (bodyC Tryd.f81) := ⟨Tryd.func81, by kernel_rfl, rfl⟩
theorem r81 (n d a b : Int) (z1 z2 : ByteArray) : evRound Tryd.prog [] [] pol81 Tryd.f81.ntmps 0 [0, 1, 4, 5, 6] b81 ⟨[.i .i64 n, .i .i64 d, .ptr 0 3 0 0 [], .i .i64 a, .i .i64 b], [some ⟨3, .vals [.agg [.bl false, .s z1, .s z2]]⟩]⟩ =
  Tr.br (decide ((0 : Int) < b))
    (Tr.br (!decide (b = (0 : Int)))
      (Tr.ok
        (Res.out Exit.normal
          {
            t :=
              [PV.i IntKind.i64 n, PV.i IntKind.i64 d, PV.ptr (0) (3) (0) (0) [],
                PV.i IntKind.i64 b, PV.i IntKind.i64 (a.tmod b)],
            h := [some { e := 3, c := Cont.vals [PV.agg [PV.bl false, PV.s z1, PV.s z2]] }] }))
      (Tr.no (4003)))
    (Tr.ok
      (Res.out (Exit.exit (0))
        {
          t :=
            [PV.i IntKind.i64 n, PV.i IntKind.i64 d, PV.ptr (0) (3) (0) (0) [],
              PV.i IntKind.i64 a, PV.i IntKind.i64 b],
          h := [some { e := 3, c := Cont.vals [PV.agg [PV.bl false, PV.s z1, PV.s z2]] }] })) := by kernel_rfl

def st81 (n d : Int) (z1 z2 : ByteArray) (a b : Int) : LS := ⟨[.i .i64 n, .i .i64 d, .ptr 0 3 0 0 [], .i .i64 a, .i .i64 b], [some ⟨3, .vals [.agg [.bl false, .s z1, .s z2]]⟩]⟩
include hG in
theorem goes81 (n d : Int) (z1 z2 : ByteArray) : ∀ (y x : Nat), Goes (Rnd Tryd.prog G Tryd.f81.ntmps 0 [0, 1, 4, 5, 6] b81) (st81 n d z1 z2 x y) (.exit 0) (st81 n d z1 z2 (Nat.gcd x y) 0) := by
  intro y
  induction y using Nat.strongRecOn with
  | _ y ih =>
    intro x
    by_cases h : y = 0
    · subst h
      refine .last _ _ _ (round_ok hG OrcOK.nil mix (L := []) (pol := pol81) (O := []) (LpsOK.none (by kernel_rfl)) (Nat.zero_le _) ?_) (by simp)
      unfold st81
      rw [r81, Tr.run_f (by decide), Tr.run_ok, Nat.gcd_zero_right]; rfl
    · refine .more _ (st81 n d z1 z2 y (x % y : Nat)) _ _ (round_ok hG OrcOK.nil mix (L := []) (pol := pol81) (O := []) (LpsOK.none (by kernel_rfl)) (Nat.zero_le _) ?_) ?_
      · unfold st81
        rw [r81, Tr.run_t (decide_eq_true (by omega)), Tr.run_t (by rw [decide_eq_false (by omega)]; rfl), Tr.run_ok, tmod_nat]
      · have := ih (x % y) (Nat.mod_lt _ (by omega)) y
        rwa [Nat.gcd_comm y, ← Nat.gcd_rec, Nat.gcd_comm y] at this
def l81 : LSpec := fun ls K => match ls with
  | ⟨[.i .i64 n, .i .i64 d, .ptr 0 3 0 0 [], .i .i64 a, .i .i64 b], [some ⟨3, .vals [.agg [.bl false, .s z1, .s z2]]⟩]⟩ => .br (decide (0 ≤ a) && decide (0 ≤ b)) (K (.exit 0) (st81 n d z1 z2 (Nat.gcd a.toNat b.toNat) 0)) (.no 1)
  | _ => .no 1
theorem e81 (n d : Int) : evF Tryd.prog [(119, s119)] [(2, l81)] pol81 Tryd.f81 [.i .i64 n, .i .i64 d] [] retK =
  Tr.br (decide ((-9223372036854775808 : Int) ≤ (0 : Int) - n) && decide ((0 : Int) - n ≤ (9223372036854775807 : Int)))
    (Tr.br (decide ((0 : Int) ≤ if (0 : Int) - n > n then (0 : Int) - n else n) && decide ((0 : Int) ≤ d))
      (Tr.br
        (!decide ((↑((if (0 : Int) - n > n then (0 : Int) - n else n).toNat.gcd d.toNat) : Int) = (0 : Int)) &&
          (decide
              ((-9223372036854775808 : Int) ≤
                n.tdiv (↑((if (0 : Int) - n > n then (0 : Int) - n else n).toNat.gcd d.toNat) : Int)) &&
            decide
              (n.tdiv (↑((if (0 : Int) - n > n then (0 : Int) - n else n).toNat.gcd d.toNat) : Int) ≤
                (9223372036854775807 : Int))))
        (Tr.br
          (!decide ((↑((if (0 : Int) - n > n then (0 : Int) - n else n).toNat.gcd d.toNat) : Int) = (0 : Int)) &&
            (decide
                ((-9223372036854775808 : Int) ≤
                  d.tdiv (↑((if (0 : Int) - n > n then (0 : Int) - n else n).toNat.gcd d.toNat) : Int)) &&
              decide
                (d.tdiv (↑((if (0 : Int) - n > n then (0 : Int) - n else n).toNat.gcd d.toNat) : Int) ≤
                  (9223372036854775807 : Int))))
          (Tr.br
            (decide
                ((-9223372036854775808 : Int) ≤
                  (0 : Int) - n.tdiv (↑((if (0 : Int) - n > n then (0 : Int) - n else n).toNat.gcd d.toNat) : Int)) &&
              decide
                ((0 : Int) - n.tdiv (↑((if (0 : Int) - n > n then (0 : Int) - n else n).toNat.gcd d.toNat) : Int) ≤
                  (9223372036854775807 : Int)))
            (Tr.br
              (decide
                  ((0 : Int) ≤
                    if
                        (0 : Int) - n.tdiv (↑((if (0 : Int) - n > n then (0 : Int) - n else n).toNat.gcd d.toNat) : Int) >
                          n.tdiv (↑((if (0 : Int) - n > n then (0 : Int) - n else n).toNat.gcd d.toNat) : Int) then
                      (0 : Int) - n.tdiv (↑((if (0 : Int) - n > n then (0 : Int) - n else n).toNat.gcd d.toNat) : Int)
                    else n.tdiv (↑((if (0 : Int) - n > n then (0 : Int) - n else n).toNat.gcd d.toNat) : Int)) &&
                decide
                  ((if
                        (0 : Int) - n.tdiv (↑((if (0 : Int) - n > n then (0 : Int) - n else n).toNat.gcd d.toNat) : Int) >
                          n.tdiv (↑((if (0 : Int) - n > n then (0 : Int) - n else n).toNat.gcd d.toNat) : Int) then
                      (0 : Int) - n.tdiv (↑((if (0 : Int) - n > n then (0 : Int) - n else n).toNat.gcd d.toNat) : Int)
                    else n.tdiv (↑((if (0 : Int) - n > n then (0 : Int) - n else n).toNat.gcd d.toNat) : Int)) <
                    (9223372036854775808 : Int)))
              (Tr.br
                (decide
                    ((0 : Int) ≤ d.tdiv (↑((if (0 : Int) - n > n then (0 : Int) - n else n).toNat.gcd d.toNat) : Int)) &&
                  decide
                    (d.tdiv (↑((if (0 : Int) - n > n then (0 : Int) - n else n).toNat.gcd d.toNat) : Int) <
                      (9223372036854775808 : Int)))
                (Tr.ok
                  (Res.ret
                    (PV.agg
                      [PV.b
                          (decide
                            (n.tdiv (↑((if (0 : Int) - n > n then (0 : Int) - n else n).toNat.gcd d.toNat) : Int) <
                              (0 : Int))),
                        PV.s
                          (nb
                            (if
                                  (0 : Int) -
                                      n.tdiv
                                        (↑((if (0 : Int) - n > n then (0 : Int) - n else n).toNat.gcd d.toNat) : Int) >
                                    n.tdiv
                                      (↑((if (0 : Int) - n > n then (0 : Int) - n else n).toNat.gcd d.toNat) : Int) then
                                (0 : Int) -
                                  n.tdiv (↑((if (0 : Int) - n > n then (0 : Int) - n else n).toNat.gcd d.toNat) : Int)
                              else
                                n.tdiv
                                  (↑((if (0 : Int) - n > n then (0 : Int) - n else n).toNat.gcd d.toNat) : Int)).toNat),
                        PV.s
                          (nb
                            (d.tdiv
                                (↑((if (0 : Int) - n > n then (0 : Int) - n else n).toNat.gcd d.toNat) : Int)).toNat)])
                    []))
                (Tr.no (1)))
              (Tr.no (1)))
            (Tr.no (6007)))
          (Tr.no (5003)))
        (Tr.no (5006)))
      (Tr.no (1)))
    (Tr.no (2005)) := by kernel_rfl
def s81 : Spec := fun args hs K => match args, hs with
  | [.i .i64 n, .i .i64 d], [] => .br (decide (0 < d) && decide (d < 4611686018427387904) && decide (-4611686018427387904 < n) && decide (n < 4611686018427387904)) (K (.q (mkRat n d.toNat) 64) []) (.no 1)
  | _, _ => .no 1
theorem max_neg (n : Int) : (if (0 : Int) - n > n then (0 : Int) - n else n) = (n.natAbs : Int) := by split <;> omega
theorem mkRat_num_tdiv (n : Int) {k : Nat} (hk : k ≠ 0) : n.tdiv ((Nat.gcd n.natAbs k : Nat) : Int) = (mkRat n k).num := by
  rw [Rat.num_mkRat, if_neg hk, Nat.gcd_comm k]
  refine Int.tdiv_eq_ediv_of_dvd ?_
  rw [← Int.dvd_natAbs]; exact_mod_cast Nat.gcd_dvd_left n.natAbs k
theorem mkRat_den_tdiv (n : Int) {k : Nat} (hk : k ≠ 0) : (k : Int).tdiv ((Nat.gcd n.natAbs k : Nat) : Int) = ((mkRat n k).den : Int) := by
  rw [Rat.den_mkRat, if_neg hk, tdiv_nat, Nat.gcd_comm k]
include hG in
theorem ok81 : SpecOK Tryd.prog G 81 s81 := by
  refine spec_of hG (.cons (ok119 hG) .nil) mix enter81 (L := [(2, l81)]) (pol := pol81) fun args hs K x h => ?_
  unfold s81 at h
  split at h
  case h_2 => cases h
  rename_i n d
  obtain ⟨hc, hr⟩ := Tr.of_br h
  simp only [Bool.and_eq_true, decide_eq_true_eq] at hc
  refine ⟨lps1 (b := b81) (live := [0, 1, 4, 5, 6]) (sp := l81) (m := 0) (by kernel_rfl) (by kernel_rfl) (by kernel_rfl) ?_, ?_⟩
  · intro ls K x hm h
    unfold l81 at h
    split at h
    case h_2 => cases h
    rename_i n d a b z1 z2
    obtain ⟨hc, hr⟩ := Tr.of_br h
    simp only [Bool.and_eq_true, decide_eq_true_eq] at hc
    obtain ⟨a, rfl⟩ := Int.eq_ofNat_of_zero_le hc.1
    obtain ⟨b, rfl⟩ := Int.eq_ofNat_of_zero_le hc.2
    exact ⟨_, _, goes_ok (goes81 hG n d z1 z2 b a), hr⟩
  · obtain ⟨k, rfl⟩ := Int.eq_ofNat_of_zero_le (show 0 ≤ d by omega)
    have hk : k ≠ 0 := by omega
    have hg : 0 < Nat.gcd n.natAbs k := Nat.gcd_pos_of_pos_right _ (by omega)
    rw [e81]
    simp only [max_neg, Int.toNat_natCast, mkRat_num_tdiv n hk, mkRat_den_tdiv n hk]
    have h1 := mkRat_num_le n hk
    have h2 := mkRat_den_le n hk
    have hz : sz (mkRat n k) ≤ 64 := sz_le (by omega) (by omega) (by omega)
    repeat rw [Tr.run_t (by simp only [Bool.and_eq_true, decide_eq_true_eq, Bool.not_eq_true', decide_eq_false_iff_not]; omega)]
    exact ⟨_, _, _, rfl, rle_q rfl hz, hr⟩

/-! num -/
theorem enter23 : Enters Tryd.prog 23 Tryd.f23 (bodyC Tryd.f23) := ⟨Tryd.func23, by kernel_rfl, rfl⟩
noncomputable def s23 : Spec := evF Tryd.prog [(81, s81)] [] {} Tryd.f23
include hG in
theorem ok23 : SpecOK Tryd.prog G 23 s23 := spec_ev hG (.cons (ok81 hG) .nil) mix enter23 (fun _ => LpsOK.none (by kernel_rfl))
theorem e23 (n d : Int) : s23 [.i .i64 n, .i .i64 d] [] retK =
  Tr.br
    (decide ((0 : Int) < d) && decide (d < (4611686018427387904 : Int)) && decide ((-4611686018427387904 : Int) < n) &&
      decide (n < (4611686018427387904 : Int)))
    (Tr.ok (Res.ret (PV.q (mkRat n d.toNat) (64)) [])) (Tr.no (1)) := by kernel_rfl
end Go.Proofs.YtejfdhcigkgbmaaDoor.PE
namespace Go.Proofs.YtejfdhcigkgbmaaDoor.PE
open Go
set_option maxRecDepth 100000
variable {G : World → (Nat → Prop) → Prop} (hG : GOk G)

/-! slices.Clone, slices.Reverse, slices.Equal of rational numbers -/
theorem enter25 : Enters Tryd.prog 25 Tryd.f25 (bodyC Tryd.f25) := ⟨Tryd.func25, by kernel_rfl, rfl⟩
def pol25 : Pol := { own := [5] }
theorem e25 (xs : List Rat) : evF Tryd.prog [] [] pol25 Tryd.f25 [.lst 3 (.rats 64 xs)] [] retK =
  Tr.br false (Tr.ok (Res.ret PV.nil []))
    (Tr.br (((0 : Nat) + xs.length).ble (4294967296 : Nat))
      (Tr.br (((0 : Nat) + xs.length).ble xs.length)
        (Tr.ok
          (Res.ret
            (PV.fr (3)
              (Cont.rats (64) (List.take ((0 : Nat) + (Cont.rats (64 : Nat) xs).len) (List.drop (0 : Nat) xs))))
            []))
        (Tr.no (15)))
      (Tr.no (4002))) := by kernel_rfl
def s25 : Spec := fun args hs K => match args, hs with
  | [.lst 3 (.rats 64 xs)], [] => .br (decide (xs.length ≤ 1073741824)) (K (.fr 3 (.rats 64 xs)) []) (.no 1)
  | _, _ => .no 1
include hG in
theorem ok25 : SpecOK Tryd.prog G 25 s25 := by
  refine spec_of hG .nil mix enter25 (L := []) (pol := pol25) fun args hs K x h => ?_
  unfold s25 at h
  split at h
  case h_2 => cases h
  rename_i xs
  obtain ⟨hc, hr⟩ := Tr.of_br h
  simp only [decide_eq_true_eq] at hc
  refine ⟨LpsOK.none (by kernel_rfl), _, _, _, ?_, .refl _, hr⟩
  have ht : List.take (0 + (Cont.rats 64 xs).len) (List.drop 0 xs) = xs := by
    rw [List.drop_zero, List.take_of_length_le (by simp [Cont.len])]
  rw [e25, Tr.run_f rfl, Tr.run_t (by rw [Nat.ble_eq]; omega), Tr.run_t (by rw [Nat.ble_eq]; omega), Tr.run_ok, ht]
noncomputable def b30 : Code := (loopsOf (bodyC Tryd.f30)).getD 0 .skip
def pol30 : Pol := { live := [(1, [0, 2, 3])] }
theorem enter30 : Enters Tryd.prog 30 Tryd.f30 (bodyC Tryd.f30) := ⟨Tryd.func30, by kernel_rfl, rfl⟩
theorem r30 (n : Nat) (xs : List Rat) (i j : Int) : evRound Tryd.prog [] [] pol30 Tryd.f30.ntmps 1 [0, 2, 3] b30 ⟨[.sl 0 3 0 n, .i .i64 i, .i .i64 j], [some ⟨3, .rats 64 xs⟩]⟩ =
  Tr.br (decide (i < j))
    (Tr.br (decide ((0 : Int) ≤ j) && decide (j < (↑n : Int)))
      (Tr.br (((0 : Nat) + j.toNat + (1 : Nat)).ble xs.length)
        (Tr.br (decide ((0 : Int) ≤ i) && decide (i < (↑n : Int)))
          (Tr.br (((0 : Nat) + i.toNat + (1 : Nat)).ble xs.length)
            (Tr.br (decide ((0 : Int) ≤ i) && decide (i < (↑n : Int)))
              (Tr.br (((0 : Nat) + i.toNat + (1 : Nat)).ble xs.length)
                (Tr.br (decide ((0 : Int) ≤ j) && decide (j < (↑n : Int)))
                  (Tr.br
                    (((0 : Nat) + j.toNat + (1 : Nat)).ble
                      (xs.set ((0 : Nat) + i.toNat) (xs.getD ((0 : Nat) + j.toNat) (0 : Rat))).length)
                    (Tr.br
                      (decide ((-9223372036854775808 : Int) ≤ i + (1 : Int)) &&
                        decide (i + (1 : Int) ≤ (9223372036854775807 : Int)))
                      (Tr.br
                        (decide ((-9223372036854775808 : Int) ≤ j - (1 : Int)) &&
                          decide (j - (1 : Int) ≤ (9223372036854775807 : Int)))
                        (Tr.ok
                          (Res.out Exit.normal
                            {
                              t :=
                                [PV.sl (0) (3) (0) n, PV.i IntKind.i64 (i + (1 : Int)),
                                  PV.i IntKind.i64 (j - (1 : Int))],
                              h :=
                                [some
                                    { e := 3,
                                      c :=
                                        Cont.rats (64)
                                          ((xs.set ((0 : Nat) + i.toNat) (xs.getD ((0 : Nat) + j.toNat) (0 : Rat))).set
                                            ((0 : Nat) + j.toNat) (xs.getD ((0 : Nat) + i.toNat) (0 : Rat))) }] }))
                        (Tr.no (3003)))
                      (Tr.no (3005)))
                    (Tr.no (4001)))
                  (Tr.no (4002)))
                (Tr.no (4003)))
              (Tr.no (4004)))
            (Tr.no (4005)))
          (Tr.no (4006)))
        (Tr.no (4009)))
      (Tr.no (4010)))
    (Tr.ok
      (Res.out (Exit.exit (0))
        { t := [PV.sl (0) (3) (0) n, PV.i IntKind.i64 i, PV.i IntKind.i64 j],
          h := [some { e := 3, c := Cont.rats (64) xs }] })) := by kernel_rfl
def st30 (xs : List Rat) (i j : Int) : LS := ⟨[.sl 0 3 0 xs.length, .i .i64 i, .i .i64 j], [some ⟨3, .rats 64 xs⟩]⟩
theorem step30 (A M B : List Rat) (a b : Rat) (hs : (A ++ a :: (M ++ b :: B)).length ≤ 1073741824) :
    (evRound Tryd.prog [] [] pol30 Tryd.f30.ntmps 1 [0, 2, 3] b30 (st30 (A ++ a :: (M ++ b :: B)) A.length ((A.length + M.length + 1 : Nat) : Int))).run =
      some (.out .normal (st30 ((A ++ [b]) ++ (M ++ (a :: B))) ((A.length + 1 : Nat) : Int) ((A.length + M.length : Nat) : Int))) := by
  have hl : (A ++ a :: (M ++ b :: B)).length = A.length + M.length + B.length + 2 := by simp; omega
  have hl2 : ((A ++ [b]) ++ (M ++ (a :: B))).length = A.length + M.length + B.length + 2 := by simp; omega
  obtain ⟨g1, g2, g3⟩ := rev_swap (0 : Rat) A M B a b
  have hs3 : ((A ++ a :: (M ++ b :: B)).set A.length b).length = A.length + M.length + B.length + 2 := by rw [List.length_set, hl]
  unfold st30
  rw [r30]
  have e0 : 0 + ((A.length : Nat) : Int).toNat = A.length := by omega
  have e1 : 0 + ((A.length + M.length + 1 : Nat) : Int).toNat = A.length + M.length + 1 := by omega
  rw [e0, e1, g1, g2]
  repeat rw [Tr.run_t (by simp only [Bool.and_eq_true, decide_eq_true_eq, Nat.ble_eq]; omega)]
  rw [Tr.run_ok, g3, hl, hl2, show ((A.length : Nat) : Int) + 1 = ((A.length + 1 : Nat) : Int) by omega, show ((A.length + M.length + 1 : Nat) : Int) - 1 = ((A.length + M.length : Nat) : Int) by omega]
include hG in
theorem goes30 (xs : List Rat) (hs : xs.length ≤ 1073741824) (j : Int) (hj : j = (xs.length : Int) - 1) : ∃ i' j', Goes (Rnd Tryd.prog G Tryd.f30.ntmps 1 [0, 2, 3] b30) (st30 xs 0 j) (.exit 0) (st30 xs.reverse i' j') ∧
    i' = (xs.length / 2 : Nat) ∧ j' = (xs.length : Int) - 1 - (xs.length / 2 : Nat) := by
  have h := rev_goes (R := Rnd Tryd.prog G Tryd.f30.ntmps 1 [0, 2, 3] b30) st30 xs.length ?_ ?_ xs.length [] xs [] 0 j (by simp) (Nat.le_refl _) rfl (by simp; omega)
  · obtain ⟨i', j', h1, h2, h3⟩ := h
    simp only [List.nil_append, List.append_nil, List.length_nil] at h1 h2 h3
    exact ⟨i', j', h1, by omega, by omega⟩
  · intro A M B a b hN
    exact round_ok hG OrcOK.nil mix (L := []) (pol := pol30) (O := []) (LpsOK.none (by kernel_rfl)) (Nat.le_refl _) (step30 A M B a b (by omega))
  · intro A M B hN hM i j hi hj
    refine round_ok hG OrcOK.nil mix (L := []) (pol := pol30) (O := []) (LpsOK.none (by kernel_rfl)) (Nat.le_refl _) ?_
    unfold st30
    rw [r30, Tr.run_f (decide_eq_false (by omega)), Tr.run_ok]
def l30 : LSpec := fun ls K => match ls with
  | ⟨[.sl 0 3 0 n, .i .i64 i, .i .i64 j], [some ⟨3, .rats 64 xs⟩]⟩ => .br (decide (n = xs.length) && decide (i = 0) && decide (j = (xs.length : Int) - 1) && decide (xs.length ≤ 1073741824))
      (K (.exit 0) (st30 xs.reverse (xs.length / 2 : Nat) ((xs.length : Int) - 1 - (xs.length / 2 : Nat)))) (.no 1)
  | _ => .no 1
theorem e30 (n : Nat) (xs : List Rat) : evF Tryd.prog [] [(1, l30)] pol30 Tryd.f30 [.sl 0 3 0 n] [⟨3, .rats 64 xs⟩] retK =
  Tr.br
    (decide ((-9223372036854775808 : Int) ≤ (↑n : Int) - (1 : Int)) &&
      decide ((↑n : Int) - (1 : Int) ≤ (9223372036854775807 : Int)))
    (Tr.br
      (decide (n = xs.length) && decide ((0 : Int) = (0 : Int)) &&
          decide ((↑n : Int) - (1 : Int) = (↑xs.length : Int) - (1 : Int)) &&
        decide (xs.length ≤ (1073741824 : Nat)))
      (Tr.ok (Res.ret (PV.tup []) [{ e := 3, c := Cont.rats (64) xs.reverse }])) (Tr.no (1)))
    (Tr.no (1003)) := by kernel_rfl
theorem e30n (x : Unit) : evF Tryd.prog [] [(1, unr Tryd.prog [] [] pol30 Tryd.f30.ntmps 0 [0, 2, 3] b30 1)] pol30 Tryd.f30 [.nil] [] retK =
  Tr.br
    (decide ((-9223372036854775808 : Int) ≤ (0 : Int) - (1 : Int)) &&
      decide ((0 : Int) - (1 : Int) ≤ (9223372036854775807 : Int)))
    (Tr.br (decide ((0 : Int) < (0 : Int) - (1 : Int))) (Tr.no (4010)) (Tr.ok (Res.ret (PV.tup []) [])))
    (Tr.no (1003)) := by kernel_rfl
def s30 : Spec := fun args hs K => match args, hs with
  | [.sl 0 3 0 n], [⟨3, .rats 64 xs⟩] => .br (decide (n = xs.length) && decide (xs.length ≤ 1073741824)) (K (.tup []) [⟨3, .rats 64 xs.reverse⟩]) (.no 1)
  | [.nil], [] => K (.tup []) []
  | _, _ => .no 1
include hG in
theorem ok30 : SpecOK Tryd.prog G 30 s30 := by
  intro args hs K x h
  unfold s30 at h
  split at h
  · rename_i n xs
    obtain ⟨hc, hr⟩ := Tr.of_br h
    simp only [Bool.and_eq_true, decide_eq_true_eq] at hc
    obtain ⟨rfl, hs⟩ := hc
    refine ⟨_, _, evF_pc hG OrcOK.nil mix enter30 (hs := [⟨3, .rats 64 xs⟩]) (L := [(1, l30)]) (pol := pol30) (O := []) (lps1 (b := b30) (live := [0, 2, 3]) (sp := l30) (m := 1) (by kernel_rfl) (by kernel_rfl) (by kernel_rfl) ?_) ?_, hr⟩
    · intro ls K x hm h
      unfold l30 at h
      split at h
      case h_2 => cases h
      rename_i n i j xs
      obtain ⟨hc, hr⟩ := Tr.of_br h
      simp only [Bool.and_eq_true, decide_eq_true_eq] at hc
      obtain ⟨⟨⟨rfl, rfl⟩, rfl⟩, hs⟩ := hc
      obtain ⟨i', j', h1, rfl, rfl⟩ := goes30 hG xs hs _ rfl
      exact ⟨_, _, goes_ok h1, hr⟩
    · rw [e30]
      repeat rw [Tr.run_t (by simp only [Bool.and_eq_true, decide_eq_true_eq, eq_self, true_and, and_true]; omega)]
      rw [Tr.run_ok]
  · refine ⟨_, _, evF_pc hG OrcOK.nil mix enter30 (hs := []) (L := [(1, unr Tryd.prog [] [] pol30 Tryd.f30.ntmps 0 [0, 2, 3] b30 1)]) (pol := pol30) (O := []) (lps1 (b := b30) (live := [0, 2, 3]) (m := 0) (by kernel_rfl) (by kernel_rfl) (by kernel_rfl) (unr_ok (pol := pol30) (L := []) hG OrcOK.nil mix (LpsOK.none (by kernel_rfl)) 1)) ?_, h⟩
    rw [e30n ()]
    rfl
  · cases h
noncomputable def b19 : Code := (loopsOf (bodyC Tryd.f19)).getD 0 .skip
def pol19 : Pol := { live := [(4, [0, 1, 4, 12, 13])] }
theorem enter19 : Enters Tryd.prog 19 Tryd.f19 (bodyC Tryd.f19) := ⟨Tryd.func19, by kernel_rfl, rfl⟩
theorem r19 (xs ys : List Rat) (n i : Int) : evRound Tryd.prog [] [] pol19 Tryd.f19.ntmps 0 [0, 1, 4, 12, 13] b19 ⟨[.lst 3 (.rats 64 xs), .lst 3 (.rats 64 ys), .bl false, .i .i64 n, .i .i64 i], []⟩ =
  Tr.br (decide (i < n))
    (Tr.br (decide ((0 : Int) ≤ i) && decide (i < (↑xs.length : Int)))
      (Tr.br (decide ((0 : Int) ≤ i) && decide (i < (↑ys.length : Int)))
        (Tr.br (!decide (xs.getD i.toNat (0 : Rat) = ys.getD i.toNat (0 : Rat)))
          (Tr.ok
            (Res.out Exit.ret
              {
                t :=
                  [PV.lst (3) (Cont.rats (64) xs), PV.lst (3) (Cont.rats (64) ys),
                    PV.bl false, PV.i IntKind.i64 n, PV.i IntKind.i64 i],
                h := [] }))
          (Tr.br
            (decide ((-9223372036854775808 : Int) ≤ i + (1 : Int)) &&
              decide (i + (1 : Int) ≤ (9223372036854775807 : Int)))
            (Tr.ok
              (Res.out Exit.normal
                {
                  t :=
                    [PV.lst (3) (Cont.rats (64) xs), PV.lst (3) (Cont.rats (64) ys),
                      PV.bl false, PV.i IntKind.i64 n, PV.i IntKind.i64 (i + (1 : Int))],
                  h := [] }))
            (Tr.no (9002))))
        (Tr.no (7003)))
      (Tr.no (7007)))
    (Tr.ok
      (Res.out (Exit.exit (0))
        {
          t :=
            [PV.lst (3) (Cont.rats (64) xs), PV.lst (3) (Cont.rats (64) ys), PV.bl false,
              PV.i IntKind.i64 n, PV.i IntKind.i64 i],
          h := [] })) := by kernel_rfl
def st19 (xs ys : List Rat) (i : Nat) : LS := ⟨[.lst 3 (.rats 64 xs), .lst 3 (.rats 64 ys), .bl false, .i .i64 xs.length, .i .i64 i], []⟩
/-- Where two lists differ first. -/
def fdiff : List Rat → List Rat → Nat
  | x :: xs, y :: ys => if x = y then fdiff xs ys + 1 else 0
  | _, _ => 0
include hG in
theorem goes19 : ∀ (xs ys A B : List Rat), A.length = B.length → xs.length = ys.length → (A ++ xs).length ≤ 1073741824 →
    (xs = ys → Goes (Rnd Tryd.prog G Tryd.f19.ntmps 0 [0, 1, 4, 12, 13] b19) (st19 (A ++ xs) (B ++ ys) A.length) (.exit 0) (st19 (A ++ xs) (B ++ ys) (A ++ xs).length)) ∧
    (xs ≠ ys → Goes (Rnd Tryd.prog G Tryd.f19.ntmps 0 [0, 1, 4, 12, 13] b19) (st19 (A ++ xs) (B ++ ys) A.length) .ret (st19 (A ++ xs) (B ++ ys) (A.length + fdiff xs ys)))
  | [], [], A, B, hAB, _, _ => by
    refine ⟨fun _ => ?_, fun h => absurd rfl h⟩
    refine .last _ _ _ (round_ok hG OrcOK.nil mix (L := []) (pol := pol19) (O := []) (LpsOK.none (by kernel_rfl)) (Nat.zero_le _) ?_) (by simp)
    simp only [List.append_nil]
    unfold st19
    rw [r19, Tr.run_f (decide_eq_false (by omega)), Tr.run_ok]
  | x :: xs, y :: ys, A, B, hAB, hl, hs => by
    have l1 : (A ++ x :: xs).length = A.length + 1 + xs.length := by simp; omega
    have l2 : (B ++ y :: ys).length = A.length + 1 + ys.length := by simp; omega
    have hl' : xs.length = ys.length := by simpa using hl
    have g1 : (A ++ x :: xs).getD ((A.length : Nat) : Int).toNat 0 = x := by rw [Int.toNat_natCast]; exact getD_mid _ _ _ _
    have g2 : (B ++ y :: ys).getD ((A.length : Nat) : Int).toNat 0 = y := by rw [Int.toNat_natCast, hAB]; exact getD_mid _ _ _ _
    by_cases hxy : x = y
    · have hstep : (evRound Tryd.prog [] [] pol19 Tryd.f19.ntmps 0 [0, 1, 4, 12, 13] b19 (st19 (A ++ x :: xs) (B ++ y :: ys) A.length)).run = some (.out .normal (st19 (A ++ x :: xs) (B ++ y :: ys) (A.length + 1))) := by
        unfold st19
        rw [r19, g1, g2]
        rw [Tr.run_t (decide_eq_true (by omega)), Tr.run_t (by simp only [Bool.and_eq_true, decide_eq_true_eq]; omega), Tr.run_t (by simp only [Bool.and_eq_true, decide_eq_true_eq]; omega), Tr.run_f (by rw [decide_eq_true hxy]; rfl), Tr.run_t (by simp only [Bool.and_eq_true, decide_eq_true_eq]; omega), Tr.run_ok]
        rfl
      have hr : Rnd Tryd.prog G Tryd.f19.ntmps 0 [0, 1, 4, 12, 13] b19 (st19 (A ++ x :: xs) (B ++ y :: ys) A.length) .normal (st19 (A ++ x :: xs) (B ++ y :: ys) (A.length + 1)) := round_ok hG OrcOK.nil mix (L := []) (pol := pol19) (O := []) (LpsOK.none (by kernel_rfl)) (Nat.zero_le _) hstep
      obtain ⟨h1, h2⟩ := goes19 xs ys (A ++ [x]) (B ++ [y]) (by simp; omega) hl' (by simpa using hs)
      have e1 : A ++ [x] ++ xs = A ++ x :: xs := by simp
      have e2 : B ++ [y] ++ ys = B ++ y :: ys := by simp
      have e3 : (A ++ [x]).length = A.length + 1 := by simp
      rw [e1, e2, e3] at h1 h2
      refine ⟨fun h => .more _ _ _ _ hr (h1 (by simpa [hxy] using h)), fun h => .more _ _ _ _ hr ?_⟩
      have h3 := h2 (fun h' => h (by rw [hxy, h']))
      have : fdiff (x :: xs) (y :: ys) = fdiff xs ys + 1 := by simp [fdiff, hxy]
      rw [this, show A.length + (fdiff xs ys + 1) = A.length + 1 + fdiff xs ys by omega]
      exact h3
    · refine ⟨fun h => absurd (List.cons.inj h).1 hxy, fun _ => ?_⟩
      have : fdiff (x :: xs) (y :: ys) = 0 := by simp [fdiff, hxy]
      rw [this]
      refine .last _ _ _ (round_ok hG OrcOK.nil mix (L := []) (pol := pol19) (O := []) (LpsOK.none (by kernel_rfl)) (Nat.zero_le _) ?_) (by simp)
      unfold st19
      rw [r19, g1, g2]
      rw [Tr.run_t (decide_eq_true (by omega)), Tr.run_t (by simp only [Bool.and_eq_true, decide_eq_true_eq]; omega), Tr.run_t (by simp only [Bool.and_eq_true, decide_eq_true_eq]; omega), Tr.run_t (by rw [decide_eq_false hxy]; rfl), Tr.run_ok]
      rfl
def l19 : LSpec := fun ls K => match ls with
  | ⟨[.lst 3 (.rats 64 xs), .lst 3 (.rats 64 ys), .bl false, .i .i64 n, .i .i64 i], []⟩ => .br (decide (xs.length = ys.length) && decide (n = xs.length) && decide (i = 0) && decide (xs.length ≤ 1073741824))
      (.br (decide (xs = ys)) (K (.exit 0) (st19 xs ys xs.length)) (K .ret (st19 xs ys (fdiff xs ys)))) (.no 1)
  | _ => .no 1
theorem e19 (xs ys : List Rat) : evF Tryd.prog [] [(4, l19)] pol19 Tryd.f19 [.lst 3 (.rats 64 xs), .lst 3 (.rats 64 ys)] [] retK =
  Tr.br (!decide ((↑xs.length : Int) = (↑ys.length : Int))) (Tr.ok (Res.ret (PV.bl false) []))
    (Tr.br
      (decide (xs.length = ys.length) && decide ((↑xs.length : Int) = (↑xs.length : Int)) &&
          decide ((0 : Int) = (0 : Int)) &&
        decide (xs.length ≤ (1073741824 : Nat)))
      (Tr.br (decide (xs = ys)) (Tr.ok (Res.ret (PV.bl true) [])) (Tr.ok (Res.ret (PV.bl false) []))) (Tr.no (1))) := by kernel_rfl
def s19 : Spec := fun args hs K => match args, hs with
  | [.lst 3 (.rats 64 xs), .lst 3 (.rats 64 ys)], [] => .br (decide (xs.length ≤ 1073741824)) (.br (decide (xs = ys)) (K (.bl true) []) (K (.bl false) [])) (.no 1)
  | _, _ => .no 1
include hG in
theorem ok19 : SpecOK Tryd.prog G 19 s19 := by
  refine spec_of hG .nil mix enter19 (L := [(4, l19)]) (pol := pol19) fun args hs K x h => ?_
  unfold s19 at h
  split at h
  case h_2 => cases h
  rename_i xs ys
  obtain ⟨hc, hr⟩ := Tr.of_br h
  simp only [decide_eq_true_eq] at hc
  refine ⟨lps1 (b := b19) (live := [0, 1, 4, 12, 13]) (sp := l19) (m := 0) (by kernel_rfl) (by kernel_rfl) (by kernel_rfl) ?_, ?_⟩
  · intro ls K x hm h
    unfold l19 at h
    split at h
    case h_2 => cases h
    rename_i xs ys n i
    obtain ⟨hc, hr⟩ := Tr.of_br h
    simp only [Bool.and_eq_true, decide_eq_true_eq] at hc
    obtain ⟨⟨⟨hl, rfl⟩, rfl⟩, hs⟩ := hc
    obtain ⟨h1, h2⟩ := goes19 hG xs ys [] [] rfl hl hs
    by_cases he : xs = ys
    · rw [Tr.run_t (decide_eq_true he)] at hr
      exact ⟨_, _, goes_ok (h1 he), hr⟩
    · rw [Tr.run_f (decide_eq_false he)] at hr
      refine ⟨_, _, goes_ok (h2 he), ?_⟩
      simpa using hr
  · rw [e19]
    by_cases hl : xs.length = ys.length
    · rw [Tr.run_f (by rw [decide_eq_true (show (xs.length : Int) = ys.length by omega)]; rfl), Tr.run_t (by simp only [Bool.and_eq_true, decide_eq_true_eq, eq_self, true_and, and_true]; omega)]
      by_cases he : xs = ys
      · rw [Tr.run_t (decide_eq_true he)] at hr ⊢
        exact ⟨_, _, _, rfl, .refl _, hr⟩
      · rw [Tr.run_f (decide_eq_false he)] at hr ⊢
        exact ⟨_, _, _, rfl, .refl _, hr⟩
    · rw [Tr.run_f (decide_eq_false (fun h => hl (by rw [h])))] at hr
      rw [Tr.run_t (by rw [decide_eq_false (show ¬ (xs.length : Int) = ys.length by omega)]; rfl)]
      exact ⟨_, _, _, rfl, .refl _, hr⟩
end Go.Proofs.YtejfdhcigkgbmaaDoor.PE
/-! Profiles: bounds of numerators and denominators. -/
namespace Go.Proofs.YtejfdhcigkgbmaaDoor.PE
namespace Prof
/-- Speeds in sixths, accelerations in eighths. -/
def pr (s a : Rat) : Prop := ∃ p r : Nat, 1 ≤ p ∧ p ≤ 12 ∧ 1 ≤ r ∧ r ≤ 8 ∧ s = mkRat p 6 ∧ a = mkRat r 8
/-- Distances in quarters. -/
def dist (x : Rat) : Prop := ∃ q : Nat, q < 40 ∧ x = mkRat q 4
/-- A numerator of at most n, a denominator of at most d. -/
def Bd (x : Rat) (n d : Nat) : Prop := x.num.natAbs ≤ n ∧ x.den ≤ d
theorem Bd.mk {x : Rat} {n d : Nat} (hd : d ≠ 0) (h : x = mkRat n d) : Bd x n d := by
  have := rat_small hd h
  exact ⟨by simpa using this.1, this.2⟩
theorem Bd.le {x : Rat} {n d n' d' : Nat} (h : Bd x n d) (h1 : n ≤ n') (h2 : d ≤ d') : Bd x n' d' := ⟨Nat.le_trans h.1 h1, Nat.le_trans h.2 h2⟩
theorem Bd.cross {x y : Rat} {n d n' d' N : Nat} (h : Bd x n d) (h' : Bd y n' d') (hN : n * d' < N) : x.num.natAbs * y.den < N := Nat.lt_of_le_of_lt (Nat.mul_le_mul h.1 h'.2) hN
theorem nat_mk (n : Nat) : ((n : Nat) : Rat) = mkRat n 1 := (Rat.mkRat_self ((n : Nat) : Rat)).symm
theorem mk_mul (a b d e : Nat) : mkRat a d * mkRat b e = mkRat ((a * b : Nat) : Int) (d * e) := by
  rw [Rat.mkRat_mul_mkRat, Int.natCast_mul]
theorem mk_pos {n d : Nat} (hn : 0 < n) (hd : 0 < d) : (0 : Rat) < mkRat n d := by
  rw [Rat.mkRat_eq_div, Rat.div_def]
  exact Rat.mul_pos (Rat.intCast_pos.2 (by omega)) (Rat.inv_pos.2 (Rat.natCast_pos.2 hd))
theorem mk_nonneg {n d : Nat} (hd : 0 < d) : (0 : Rat) ≤ mkRat n d := by
  rcases Nat.eq_zero_or_pos n with h | h
  · subst h; simp
  · exact Rat.le_of_lt (mk_pos h hd)
theorem mk_div (a b d e : Nat) : mkRat a d / mkRat b e = mkRat ((a * e : Nat) : Int) (d * b) := by
  have h1 : (mkRat b e)⁻¹ = mkRat e b := by
    rw [← Rat.divInt_ofNat, Rat.inv_divInt, Rat.divInt_ofNat]
  rw [Rat.div_def, h1, mk_mul]
section
variable {s a : Rat} (h : pr s a)
include h
theorem pr.pos : 0 < s ∧ 0 < a := by
  obtain ⟨p, r, h1, h2, h3, h4, rfl, rfl⟩ := h
  exact ⟨mk_pos (by omega) (by omega), mk_pos (by omega) (by omega)⟩
theorem pr.bs : Bd s 12 6 := by
  obtain ⟨p, r, h1, h2, h3, h4, rfl, rfl⟩ := h
  exact (Bd.mk (by omega) rfl).le (by omega) (Nat.le_refl _)
theorem pr.ba : Bd a 8 8 := by
  obtain ⟨p, r, h1, h2, h3, h4, rfl, rfl⟩ := h
  exact (Bd.mk (by omega) rfl).le (by omega) (Nat.le_refl _)
theorem pr.bai {i : Nat} (hi : i ≤ 50) : Bd (a * (i : Nat)) 400 8 := by
  obtain ⟨p, r, h1, h2, h3, h4, rfl, rfl⟩ := h
  have e : mkRat r 8 * (i : Nat) = mkRat ((r * i : Nat) : Int) (8 * 1) := by rw [nat_mk, mk_mul]
  refine (Bd.mk (by omega) e).le ?_ (by omega)
  have := Nat.mul_le_mul h4 hi
  omega
theorem pr.bcap (n k : Nat) : Bd (cap s a n k) 48 24 := by
  obtain ⟨p, r, h1, h2, h3, h4, rfl, rfl⟩ := h
  have := m24_le p r n k
  exact (Bd.mk (by omega) (cap24 p r n k)).le (by omega) (Nat.le_refl _)
theorem pr.bcov (n : Nat) {k : Nat} (hk : k ≤ 50) : Bd (cov s a n k) 2400 24 := by
  obtain ⟨p, r, h1, h2, h3, h4, rfl, rfl⟩ := h
  have h5 := c24_le p r n k
  have h6 := Nat.mul_le_mul (show 4 * p ≤ 48 by omega) hk
  exact (Bd.mk (by omega) (cov24 p r n k)).le (by omega) (Nat.le_refl _)
end
theorem dist.bx {x : Rat} (h : dist x) : Bd x 39 4 := by
  obtain ⟨q, h1, rfl⟩ := h
  exact (Bd.mk (by omega) rfl).le (by omega) (Nat.le_refl _)
theorem dist.nonneg {x : Rat} (h : dist x) : 0 ≤ x := by
  obtain ⟨q, h1, rfl⟩ := h
  exact mk_nonneg (by omega)
section
variable {x s a : Rat} (hx : dist x) (h : pr s a) {n : Nat} (hn : n ≤ 50) (h1 : 1 ≤ n)
include hx h hn h1
/-- The scale: 6 q over the sum of the caps in parts of 24. -/
theorem scale_eq : ∃ q p r : Nat, q < 40 ∧ s = mkRat p 6 ∧ a = mkRat r 8 ∧ p ≤ 12 ∧ c24 p r n n ≠ 0 ∧ c24 p r n n ≤ 2400 ∧ x / cover s a n = mkRat ((6 * q : Nat) : Int) (c24 p r n n) := by
  have hp := cover_pos (n := n) h.pos.1 h.pos.2 h1
  obtain ⟨p, r, g1, g2, g3, g4, rfl, rfl⟩ := h
  obtain ⟨q, g5, rfl⟩ := hx
  have e := cov24 p r n n
  have hc : c24 p r n n ≠ 0 := by
    intro h0
    unfold cover at hp
    rw [e, h0] at hp
    simp at hp
  have h5 := c24_le p r n n
  have h6 := Nat.mul_le_mul (show 4 * p ≤ 48 by omega) hn
  refine ⟨q, p, r, g5, rfl, rfl, g2, hc, by omega, ?_⟩
  unfold cover
  rw [e, mk_div, ← mk_scale (a := 6 * q) (d := c24 p r n n) (e := 4) (by omega), show q * 24 = 6 * q * 4 by omega, Nat.mul_comm 4]
theorem scale_bd : Bd (x / cover s a n) 234 2400 := by
  obtain ⟨q, p, r, g1, g2, g3, g4, g5, g6, g7⟩ := scale_eq hx h hn h1
  exact (Bd.mk g5 g7).le (by omega) g6
theorem val_bd (k : Nat) : Bd (val (x / cover s a n) s a n k) 11232 57600 := by
  obtain ⟨q, p, r, g1, g2, g3, g4, g5, g6, g7⟩ := scale_eq hx h hn h1
  have e : val (x / cover s a n) s a n k = mkRat ((6 * q * m24 p r n k : Nat) : Int) (c24 p r n n * 24) := by
    unfold val
    rw [g7, g2, g3, cap24, mk_mul]
  have h2 := m24_le p r n k
  have h3 := Nat.mul_le_mul (show 6 * q ≤ 234 by omega) (show m24 p r n k ≤ 48 by omega)
  exact (Bd.mk (by omega) e).le (by omega) (by omega)
theorem sum_bd {k : Nat} (hk : k ≤ 50) : Bd ((x / cover s a n) * cov s a n k) 561600 57600 := by
  obtain ⟨q, p, r, g1, g2, g3, g4, g5, g6, g7⟩ := scale_eq hx h hn h1
  have e : (x / cover s a n) * cov s a n k = mkRat ((6 * q * c24 p r n k : Nat) : Int) (c24 p r n n * 24) := by
    rw [g7, g2, g3, cov24, mk_mul]
  have h2 := c24_le p r n k
  have h3 := Nat.mul_le_mul (show 4 * p ≤ 48 by omega) hk
  have h4 := Nat.mul_le_mul (show 6 * q ≤ 234 by omega) (show c24 p r n k ≤ 2400 by omega)
  exact (Bd.mk (by omega) e).le (by omega) (by omega)
/-- A difference of two changes. -/
theorem diff_bd (k l : Nat) : Bd (val (x / cover s a n) s a n k - val (x / cover s a n) s a n l) 11232 57600 := by
  obtain ⟨q, p, r, g1, g2, g3, g4, g5, g6, g7⟩ := scale_eq hx h hn h1
  have e : ∀ k, val (x / cover s a n) s a n k = mkRat ((6 * q * m24 p r n k : Nat) : Int) (c24 p r n n * 24) := by
    intro k
    unfold val
    rw [g7, g2, g3, cap24, mk_mul]
  have hd : c24 p r n n * 24 ≠ 0 := by omega
  have e2 : val (x / cover s a n) s a n k - val (x / cover s a n) s a n l = mkRat ((6 * q * m24 p r n k : Nat) - (6 * q * m24 p r n l : Nat) : Int) (c24 p r n n * 24) := by
    rw [e, e, Rat.sub_eq_add_neg, Rat.neg_mkRat, Rat.mkRat_add_mkRat _ _ hd hd, ← Int.add_mul, Rat.mkRat_mul_right hd, Int.sub_eq_add_neg]
  have hb := rat_small hd e2
  have h2 := m24_le p r n k
  have h3 := Nat.mul_le_mul (show 6 * q ≤ 234 by omega) (show m24 p r n k ≤ 48 by omega)
  have h4 := m24_le p r n l
  have h5 := Nat.mul_le_mul (show 6 * q ≤ 234 by omega) (show m24 p r n l ≤ 48 by omega)
  exact ⟨by omega, by omega⟩
theorem scale_01 (hle : x ≤ cover s a n) : 0 ≤ x / cover s a n ∧ x / cover s a n ≤ 1 := by
  have hp := cover_pos (n := n) h.pos.1 h.pos.2 h1
  constructor
  · rw [Rat.div_def]
    exact Rat.mul_nonneg hx.nonneg (Rat.le_of_lt (Rat.inv_pos.2 hp))
  · rw [← Rat.not_lt, Rat.lt_div_iff hp, Rat.one_mul, Rat.not_lt]
    exact hle
end
/-- The least number of ticks from n on, f at most; -1 if there is none. -/
def needF (s a x : Rat) : Nat → Nat → Int
  | 0, _ => -1
  | f + 1, n => if x ≤ cover s a n then n else needF s a x f (n + 1)
def need (s a x : Rat) : Int := needF s a x 50 1
theorem needF_spec (s a x : Rat) : ∀ (f n : Nat), needF s a x f n = -1 ∨ ∃ m : Nat, needF s a x f n = m ∧ n ≤ m ∧ m < n + f ∧ x ≤ cover s a m
  | 0, _ => .inl rfl
  | f + 1, n => by
    unfold needF
    split
    · rename_i h; exact .inr ⟨n, rfl, Nat.le_refl _, by omega, h⟩
    · rcases needF_spec s a x f (n + 1) with h | ⟨m, h1, h2, h3, h4⟩
      · exact .inl h
      · exact .inr ⟨m, h1, by omega, by omega, h4⟩
/-- The changes of a profile. -/
def vals (x s a : Rat) (n : Nat) : List Rat := (List.range n).map fun j => val (x / cover s a n) s a n (j + 1)
theorem vals_len (x s a : Rat) (n : Nat) : (vals x s a n).length = n := by simp [vals]
theorem vals_get {x s a : Rat} {n j : Nat} (h : j < n) : (vals x s a n).getD j 0 = val (x / cover s a n) s a n (j + 1) := by
  simp [vals, List.getD_eq_getElem?_getD, h]
theorem vals_rev (x s a : Rat) (n : Nat) : (vals x s a n).reverse = vals x s a n := by
  apply List.ext_getElem
  · simp
  · intro j h1 h2
    rw [vals_len] at h2
    simp only [vals, List.getElem_reverse, List.getElem_map, List.getElem_range, List.length_map, List.length_range]
    rw [← val_sym (k := j + 1) (by omega)]
    congr 1
    omega
end Prof
end Go.Proofs.YtejfdhcigkgbmaaDoor.PE
namespace Go.Proofs.YtejfdhcigkgbmaaDoor.PE
open Go
set_option maxRecDepth 100000
variable {G : World → (Nat → Prop) → Prop} (hG : GOk G)

/-! timing.cover -/
noncomputable def b79 : Code := (loopsOf (bodyC Tryd.f79)).getD 0 .skip
def pol79 : Pol := { live := [(3, [0, 4, 5, 6, 7, 8])] }
def O79 : Orc := [(21, s21), (43, s43), (71, s71), (80, s80)]
theorem enter79 : Enters Tryd.prog 79 Tryd.f79 (bodyC Tryd.f79) := ⟨Tryd.func79, by kernel_rfl, rfl⟩
def st79 (n k : Int) (s a m : Rat) (sn an : Nat) (z1 z2 : ByteArray) : LS := ⟨[.i .i64 n, .ptr 0 3 0 0 [], .ptr 1 3 0 0 [], .ptr 2 3 0 0 [], .ptr 3 3 0 0 [], .i .i64 k], [some ⟨3, .vals [.q s sn]⟩, some ⟨3, .vals [.q a an]⟩, some ⟨3, .vals [.agg [.bl false, .s z1, .s z2]]⟩, some ⟨3, .vals [.q m 64]⟩]⟩
theorem r79 (n k : Int) (s a m : Rat) (sn an : Nat) (z1 z2 : ByteArray) : evRound Tryd.prog O79 [] pol79 Tryd.f79.ntmps 0 [0, 4, 5, 6, 7, 8] b79 (st79 n k s a m sn an z1 z2) =
  Tr.br (decide (k ≤ n))
    (Tr.br (decide ((-9223372036854775808 : Int) ≤ n + (1 : Int)) && decide (n + (1 : Int) ≤ (9223372036854775807 : Int)))
      (Tr.br
        (decide ((-9223372036854775808 : Int) ≤ n + (1 : Int) - k) &&
          decide (n + (1 : Int) - k ≤ (9223372036854775807 : Int)))
        (Tr.br
          (decide ((-72057594037927936 : Int) < if n + (1 : Int) - k < k then n + (1 : Int) - k else k) &&
            decide ((if n + (1 : Int) - k < k then n + (1 : Int) - k else k) ≤ (9223372036854775807 : Int)))
          (Tr.br (s32 a && s32 (↑(if n + (1 : Int) - k < k then n + (1 : Int) - k else k) : Rat))
            (Tr.br (s32 s && s32 (a * (↑(if n + (1 : Int) - k < k then n + (1 : Int) - k else k) : Rat)))
              (Tr.br
                (s32 m && s32 (Prof.mn s (a * (↑(if n + (1 : Int) - k < k then n + (1 : Int) - k else k) : Rat))) &&
                    decide
                      (m.num.natAbs *
                          (Prof.mn s (a * (↑(if n + (1 : Int) - k < k then n + (1 : Int) - k else k) : Rat))).den <
                        (72057594037927936 : Nat)) &&
                  decide
                    ((Prof.mn s (a * (↑(if n + (1 : Int) - k < k then n + (1 : Int) - k else k) : Rat))).num.natAbs *
                        m.den <
                      (72057594037927936 : Nat)))
                (Tr.br
                  (decide ((-9223372036854775808 : Int) ≤ k + (1 : Int)) &&
                    decide (k + (1 : Int) ≤ (9223372036854775807 : Int)))
                  (Tr.ok
                    (Res.out Exit.normal
                      {
                        t :=
                          [PV.i IntKind.i64 n, PV.ptr (0) (3) (0) (0) [],
                            PV.ptr (1) (3) (0) (0) [],
                            PV.ptr (2) (3) (0) (0) [],
                            PV.ptr (3) (3) (0) (0) [], PV.i IntKind.i64 (k + (1 : Int))],
                        h :=
                          [some { e := 3, c := Cont.vals [PV.q s sn] },
                            some { e := 3, c := Cont.vals [PV.q a an] },
                            some { e := 3, c := Cont.vals [PV.agg [PV.bl false, PV.s z1, PV.s z2]] },
                            some
                              { e := 3,
                                c :=
                                  Cont.vals
                                    [PV.q
                                        (m +
                                          Prof.mn s
                                            (a * (↑(if n + (1 : Int) - k < k then n + (1 : Int) - k else k) : Rat)))
                                        (64)] }] }))
                  (Tr.no (5002)))
                (Tr.no (1)))
              (Tr.no (1)))
            (Tr.no (1)))
          (Tr.no (1)))
        (Tr.no (6007)))
      (Tr.no (6009)))
    (Tr.ok
      (Res.out (Exit.exit (0))
        {
          t :=
            [PV.i IntKind.i64 n, PV.ptr (0) (3) (0) (0) [],
              PV.ptr (1) (3) (0) (0) [],
              PV.ptr (2) (3) (0) (0) [],
              PV.ptr (3) (3) (0) (0) [], PV.i IntKind.i64 k],
          h :=
            [some { e := 3, c := Cont.vals [PV.q s sn] }, some { e := 3, c := Cont.vals [PV.q a an] },
              some { e := 3, c := Cont.vals [PV.agg [PV.bl false, PV.s z1, PV.s z2]] },
              some { e := 3, c := Cont.vals [PV.q m (64)] }] })) := by kernel_rfl
open Classical in
noncomputable def prB (s a : Rat) : Bool := decide (Prof.pr s a)
theorem prB_iff {s a : Rat} : prB s a = true ↔ Prof.pr s a := by unfold prB; simp
theorem Bd32 {x : Rat} {n d : Nat} (h : Prof.Bd x n d) (h1 : n < 4294967296) (h2 : d < 4294967296) : s32 x = true := s32_iff.2 ⟨Nat.lt_of_le_of_lt h.1 h1, Nat.lt_of_le_of_lt h.2 h2⟩
theorem min_ix {n j : Nat} (h : j < n) : (if (n : Int) + 1 - ((j + 1 : Nat) : Int) < ((j + 1 : Nat) : Int) then (n : Int) + 1 - ((j + 1 : Nat) : Int) else ((j + 1 : Nat) : Int)) = ((Prof.ix n (j + 1) : Nat) : Int) := by
  unfold Prof.ix
  split <;> omega
theorem ix_le {n k : Nat} : Prof.ix n k ≤ k := by unfold Prof.ix; omega
include hG in
theorem orc79 : OrcOK Tryd.prog G O79 := .cons (ok21 hG) (.cons (ok43 hG) (.cons (ok71 hG) (.cons (ok80 hG) .nil)))
theorem step79 (n j : Nat) (s a : Rat) (sn an : Nat) (z1 z2 : ByteArray) (h : Prof.pr s a) (hn : n ≤ 50) (hj : j < n) :
    (evRound Tryd.prog O79 [] pol79 Tryd.f79.ntmps 0 [0, 4, 5, 6, 7, 8] b79 (st79 n ((j + 1 : Nat) : Int) s a (Prof.cov s a n j) sn an z1 z2)).run =
      some (.out .normal (st79 n ((j + 1 + 1 : Nat) : Int) s a (Prof.cov s a n (j + 1)) sn an z1 z2)) := by
  rw [r79]
  simp only [min_ix hj]
  have hi : Prof.ix n (j + 1) ≤ 50 := Nat.le_trans ix_le (by omega)
  have b0 : Prof.Bd (((Prof.ix n (j + 1) : Nat) : Int) : Rat) 50 1 := ⟨by show ((Prof.ix n (j + 1) : Nat) : Int).natAbs ≤ 50; omega, Nat.le_refl _⟩
  have b1 : Prof.Bd (a * (((Prof.ix n (j + 1) : Nat) : Int) : Rat)) 400 8 := h.bai hi
  have b2 : Prof.Bd (Prof.mn s (a * (((Prof.ix n (j + 1) : Nat) : Int) : Rat))) 48 24 := h.bcap n (j + 1)
  have b3 := h.bcov n (show j ≤ 50 by omega)
  rw [Tr.run_t (decide_eq_true (by omega)), Tr.run_t (by simp only [Bool.and_eq_true, decide_eq_true_eq]; omega), Tr.run_t (by simp only [Bool.and_eq_true, decide_eq_true_eq]; omega), Tr.run_t (by simp only [Bool.and_eq_true, decide_eq_true_eq]; omega),
    Tr.run_t (by rw [Bd32 h.ba (by omega) (by omega), Bd32 b0 (by omega) (by omega)]; rfl), Tr.run_t (by rw [Bd32 h.bs (by omega) (by omega), Bd32 b1 (by omega) (by omega)]; rfl),
    Tr.run_t (by rw [Bd32 b3 (by omega) (by omega), Bd32 b2 (by omega) (by omega)]; simp only [Bool.true_and, Bool.and_eq_true, decide_eq_true_eq]; exact ⟨b3.cross b2 (by omega), b2.cross b3 (by omega)⟩),
    Tr.run_t (by simp only [Bool.and_eq_true, decide_eq_true_eq]; omega), Tr.run_ok]
  rfl
def c79 (n : Nat) (s a : Rat) (sn an : Nat) (z1 z2 : ByteArray) (j : Nat) : LS := st79 n ((j + 1 : Nat) : Int) s a (Prof.cov s a n j) sn an z1 z2
noncomputable def l79 : LSpec := fun ls K => match ls with
  | ⟨[.i .i64 n, .ptr 0 3 0 0 [], .ptr 1 3 0 0 [], .ptr 2 3 0 0 [], .ptr 3 3 0 0 [], .i .i64 k], [some ⟨3, .vals [.q s sn]⟩, some ⟨3, .vals [.q a an]⟩, some ⟨3, .vals [.agg [.bl false, .s z1, .s z2]]⟩, some ⟨3, .vals [.q m w]⟩]⟩ =>
    .br (decide (k = 1) && decide (0 ≤ n) && decide (n ≤ 50) && prB s a && decide (m = 0) && Nat.beq w 64) (K (.exit 0) (st79 n (n + 1) s a (Prof.cover s a n.toNat) sn an z1 z2)) (.no 1)
  | _ => .no 1
include hG in
theorem loop79 : LoopOK Tryd.prog G Tryd.f79.ntmps 0 [0, 4, 5, 6, 7, 8] b79 l79 := by
  intro ls K x hm h
  unfold l79 at h
  split at h
  case h_2 => cases h
  rename_i n k s sn a an z1 z2 m w
  obtain ⟨hc, hr⟩ := Tr.of_br h
  simp only [Bool.and_eq_true, decide_eq_true_eq, prB_iff, Nat.beq_eq] at hc
  obtain ⟨⟨⟨⟨⟨rfl, hn0⟩, hn⟩, hp⟩, rfl⟩, rfl⟩ := hc
  obtain ⟨n, rfl⟩ := Int.eq_ofNat_of_zero_le hn0
  have hg := Goes.count (R := Rnd Tryd.prog G Tryd.f79.ntmps 0 [0, 4, 5, 6, 7, 8] b79) (c79 n s a sn an z1 z2) (e := .exit 0) (ls' := c79 n s a sn an z1 z2 n) (by simp) n 0
    (fun j _ hj => round_ok hG (orc79 hG) mix (L := []) (pol := pol79) (O := O79) (LpsOK.none (by kernel_rfl)) (Nat.zero_le _) (step79 n j s a sn an z1 z2 hp (by omega) (by omega)))
    (by
      refine round_ok hG (orc79 hG) mix (L := []) (pol := pol79) (O := O79) (LpsOK.none (by kernel_rfl)) (Nat.zero_le _) ?_
      unfold c79
      rw [r79, Tr.run_f (decide_eq_false (by omega)), Tr.run_ok, Nat.zero_add]
      rfl)
  refine ⟨_, _, goes_ok hg, ?_⟩
  have e : c79 n s a sn an z1 z2 n = st79 n ((n : Int) + 1) s a (Prof.cover s a n) sn an z1 z2 := rfl
  rw [e]
  rw [Int.toNat_natCast] at hr
  exact hr
theorem e79 (n : Int) (s a : Rat) (sn an : Nat) : evF Tryd.prog O79 [(3, l79)] pol79 Tryd.f79 [.i .i64 n, .q s sn, .q a an] [] retK =
  Tr.br (decide ((-72057594037927936 : Int) < (0 : Int)) && decide ((0 : Int) ≤ (9223372036854775807 : Int)))
    (Tr.br
      (decide ((1 : Int) = (1 : Int)) && decide ((0 : Int) ≤ n) && decide (n ≤ (50 : Int)) && prB s a &&
          decide ((↑(0 : Int) : Rat) = (0 : Rat)) &&
        Nat.beq (64 : Nat) (64 : Nat))
      (Tr.ok (Res.ret (PV.q (Prof.cover s a n.toNat) (64)) [])) (Tr.no (1)))
    (Tr.no (1)) := by kernel_rfl
noncomputable def s79 : Spec := fun args hs K => match args, hs with
  | [.i .i64 n, .q s _, .q a _], [] => .br (decide (0 ≤ n) && decide (n ≤ 50) && prB s a) (K (.q (Prof.cover s a n.toNat) 64) []) (.no 1)
  | _, _ => .no 1
include hG in
theorem ok79 : SpecOK Tryd.prog G 79 s79 := by
  refine spec_of hG (orc79 hG) mix enter79 (L := [(3, l79)]) (pol := pol79) fun args hs K x h => ?_
  unfold s79 at h
  split at h
  case h_2 => cases h
  rename_i n s sn a an
  obtain ⟨hc, hr⟩ := Tr.of_br h
  refine ⟨lps1 (b := b79) (live := [0, 4, 5, 6, 7, 8]) (sp := l79) (m := 0) (by kernel_rfl) (by kernel_rfl) (by kernel_rfl) (loop79 hG), _, _, _, ?_, .refl _, hr⟩
  simp only [Bool.and_eq_true, decide_eq_true_eq] at hc
  rw [e79, Tr.run_t (by decide), Tr.run_t (by simp only [Bool.and_eq_true, decide_eq_true_eq]; exact ⟨⟨⟨⟨⟨trivial, hc.1.1⟩, hc.1.2⟩, hc.2⟩, rfl⟩, rfl⟩), Tr.run_ok]

/-! timing.need -/
noncomputable def b78 : Code := (loopsOf (bodyC Tryd.f78)).getD 0 .skip
def pol78 : Pol := { live := [(2, [3, 4, 5, 6, 7])] }
noncomputable def O78 : Orc := [(79, s79), (27, s27)]
theorem enter78 : Enters Tryd.prog 78 Tryd.f78 (bodyC Tryd.f78) := ⟨Tryd.func78, by kernel_rfl, rfl⟩
def st78 (x s a : Rat) (xn sn an : Nat) (r k : Int) : LS := ⟨[.ptr 0 3 0 0 [], .ptr 1 3 0 0 [], .ptr 2 3 0 0 [], .i .i64 r, .i .i64 k], [some ⟨3, .vals [.q x xn]⟩, some ⟨3, .vals [.q s sn]⟩, some ⟨3, .vals [.q a an]⟩]⟩
theorem r78 (x s a : Rat) (xn sn an : Nat) (r k : Int) : evRound Tryd.prog O78 [] pol78 Tryd.f78.ntmps 0 [3, 4, 5, 6, 7] b78 (st78 x s a xn sn an r k) =
  Tr.br (decide (k ≤ (50 : Int)))
    (Tr.br (decide ((0 : Int) ≤ k) && decide (k ≤ (50 : Int)) && prB s a)
      (Tr.br (s32 (Prof.cover s a k.toNat) && s32 x)
        (Tr.br (decide ((0 : Int) ≤ rcmp (Prof.cover s a k.toNat) x))
          (Tr.ok
            (Res.out Exit.ret
              {
                t :=
                  [PV.ptr (0) (3) (0) (0) [],
                    PV.ptr (1) (3) (0) (0) [],
                    PV.ptr (2) (3) (0) (0) [], PV.i IntKind.i64 k, PV.i IntKind.i64 k],
                h :=
                  [some { e := 3, c := Cont.vals [PV.q x xn] },
                    some { e := 3, c := Cont.vals [PV.q s sn] },
                    some { e := 3, c := Cont.vals [PV.q a an] }] }))
          (Tr.br
            (decide ((-9223372036854775808 : Int) ≤ k + (1 : Int)) &&
              decide (k + (1 : Int) ≤ (9223372036854775807 : Int)))
            (Tr.ok
              (Res.out Exit.normal
                {
                  t :=
                    [PV.ptr (0) (3) (0) (0) [],
                      PV.ptr (1) (3) (0) (0) [],
                      PV.ptr (2) (3) (0) (0) [], PV.i IntKind.i64 r,
                      PV.i IntKind.i64 (k + (1 : Int))],
                  h :=
                    [some { e := 3, c := Cont.vals [PV.q x xn] },
                      some { e := 3, c := Cont.vals [PV.q s sn] },
                      some { e := 3, c := Cont.vals [PV.q a an] }] }))
            (Tr.no (4002))))
        (Tr.no (1)))
      (Tr.no (1)))
    (Tr.ok
      (Res.out (Exit.exit (0))
        {
          t :=
            [PV.ptr (0) (3) (0) (0) [],
              PV.ptr (1) (3) (0) (0) [],
              PV.ptr (2) (3) (0) (0) [], PV.i IntKind.i64 r, PV.i IntKind.i64 k],
          h :=
            [some { e := 3, c := Cont.vals [PV.q x xn] }, some { e := 3, c := Cont.vals [PV.q s sn] },
              some { e := 3, c := Cont.vals [PV.q a an] }] })) := by kernel_rfl
open Classical in
noncomputable def distB (x : Rat) : Bool := decide (Prof.dist x)
theorem distB_iff {x : Rat} : distB x = true ↔ Prof.dist x := by unfold distB; simp
include hG in
theorem orc78 : OrcOK Tryd.prog G O78 := .cons (ok79 hG) (.cons (ok27 hG) .nil)
include hG in
theorem goes78 (x s a : Rat) (xn sn an : Nat) (r : Int) (hp : Prof.pr s a) (hx : Prof.dist x) : ∀ (f k : Nat), 1 ≤ k → k + f = 51 →
    (Prof.needF s a x f k = -1 → Goes (Rnd Tryd.prog G Tryd.f78.ntmps 0 [3, 4, 5, 6, 7] b78) (st78 x s a xn sn an r k) (.exit 0) (st78 x s a xn sn an r 51)) ∧
    (Prof.needF s a x f k ≠ -1 → Goes (Rnd Tryd.prog G Tryd.f78.ntmps 0 [3, 4, 5, 6, 7] b78) (st78 x s a xn sn an r k) .ret (st78 x s a xn sn an (Prof.needF s a x f k) (Prof.needF s a x f k)))
  | 0, k, _, hk => by
    refine ⟨fun _ => ?_, fun h => absurd rfl h⟩
    refine .last _ _ _ (round_ok hG (orc78 hG) mix (L := []) (pol := pol78) (O := O78) (LpsOK.none (by kernel_rfl)) (Nat.zero_le _) ?_) (by simp)
    rw [r78, Tr.run_f (decide_eq_false (by omega)), Tr.run_ok, show (k : Int) = 51 by omega]
    rfl
  | f + 1, k, h1, hk => by
    have hb : Prof.Bd (Prof.cover s a k) 2400 24 := hp.bcov k (by omega)
    have hs : (s32 (Prof.cover s a ((k : Nat) : Int).toNat) && s32 x) = true := by
      rw [Int.toNat_natCast, Bd32 hb (by omega) (by omega), Bd32 hx.bx (by omega) (by omega)]; rfl
    have hc : (decide ((0 : Int) ≤ (k : Int)) && decide ((k : Int) ≤ 50) && prB s a) = true := by
      rw [prB_iff.2 hp]; simp only [Bool.and_eq_true, decide_eq_true_eq]; exact ⟨⟨by omega, by omega⟩, trivial⟩
    unfold Prof.needF
    by_cases h : x ≤ Prof.cover s a k
    · rw [if_pos h]
      refine ⟨fun h' => by exfalso; omega, fun _ => ?_⟩
      refine .last _ _ _ (round_ok hG (orc78 hG) mix (L := []) (pol := pol78) (O := O78) (LpsOK.none (by kernel_rfl)) (Nat.zero_le _) ?_) (by simp)
      rw [r78, Tr.run_t (decide_eq_true (by omega)), Tr.run_t hc, Tr.run_t hs, Tr.run_t (decide_eq_true (by rw [Int.toNat_natCast, rcmp_ge]; exact h)), Tr.run_ok]
      rfl
    · rw [if_neg h]
      have hr : Rnd Tryd.prog G Tryd.f78.ntmps 0 [3, 4, 5, 6, 7] b78 (st78 x s a xn sn an r k) .normal (st78 x s a xn sn an r ((k + 1 : Nat) : Int)) := by
        refine round_ok hG (orc78 hG) mix (L := []) (pol := pol78) (O := O78) (LpsOK.none (by kernel_rfl)) (Nat.zero_le _) ?_
        rw [r78, Tr.run_t (decide_eq_true (by omega)), Tr.run_t hc, Tr.run_t hs, Tr.run_f (decide_eq_false (by rw [Int.toNat_natCast, rcmp_ge]; exact h)), Tr.run_t (by simp only [Bool.and_eq_true, decide_eq_true_eq]; omega), Tr.run_ok]
        rfl
      obtain ⟨g1, g2⟩ := goes78 x s a xn sn an r hp hx f (k + 1) (by omega) (by omega)
      exact ⟨fun h => .more _ _ _ _ hr (g1 h), fun h => .more _ _ _ _ hr (g2 h)⟩
noncomputable def l78 : LSpec := fun ls K => match ls with
  | ⟨[.ptr 0 3 0 0 [], .ptr 1 3 0 0 [], .ptr 2 3 0 0 [], .i .i64 r, .i .i64 k], [some ⟨3, .vals [.q x xn]⟩, some ⟨3, .vals [.q s sn]⟩, some ⟨3, .vals [.q a an]⟩]⟩ =>
    .br (decide (k = 1) && prB s a && distB x) (.br (decide (Prof.need s a x = -1)) (K (.exit 0) (st78 x s a xn sn an r 51)) (K .ret (st78 x s a xn sn an (Prof.need s a x) (Prof.need s a x)))) (.no 1)
  | _ => .no 1
theorem e78 (x s a : Rat) (xn sn an : Nat) : evF Tryd.prog O78 [(2, l78)] pol78 Tryd.f78 [.q x xn, .q s sn, .q a an] [] retK =
  Tr.br (decide ((1 : Int) = (1 : Int)) && prB s a && distB x)
    (Tr.br (decide (Prof.need s a x = (-1 : Int))) (Tr.ok (Res.ret (PV.i IntKind.i64 (-1 : Int)) []))
      (Tr.ok (Res.ret (PV.i IntKind.i64 (Prof.need s a x)) [])))
    (Tr.no (1)) := by kernel_rfl
noncomputable def s78 : Spec := fun args hs K => match args, hs with
  | [.q x _, .q s _, .q a _], [] => .br (prB s a && distB x) (K (.i .i64 (Prof.need s a x)) []) (.no 1)
  | _, _ => .no 1
include hG in
theorem ok78 : SpecOK Tryd.prog G 78 s78 := by
  refine spec_of hG (orc78 hG) mix enter78 (L := [(2, l78)]) (pol := pol78) fun args hs K x h => ?_
  unfold s78 at h
  split at h
  case h_2 => cases h
  rename_i x xn s sn a an
  obtain ⟨hc, hr⟩ := Tr.of_br h
  refine ⟨lps1 (b := b78) (live := [3, 4, 5, 6, 7]) (sp := l78) (m := 0) (by kernel_rfl) (by kernel_rfl) (by kernel_rfl) ?_, _, _, _, ?_, .refl _, hr⟩
  · intro ls K x hm h
    unfold l78 at h
    split at h
    case h_2 => cases h
    rename_i r k x xn s sn a an
    obtain ⟨hc, hr⟩ := Tr.of_br h
    simp only [Bool.and_eq_true, decide_eq_true_eq, prB_iff, distB_iff] at hc
    obtain ⟨⟨rfl, hp⟩, hx⟩ := hc
    obtain ⟨g1, g2⟩ := goes78 hG x s a xn sn an r hp hx 50 1 (by omega) (by omega)
    by_cases he : Prof.need s a x = -1
    · rw [Tr.run_t (decide_eq_true he)] at hr
      exact ⟨_, _, goes_ok (g1 he), hr⟩
    · rw [Tr.run_f (decide_eq_false he)] at hr
      exact ⟨_, _, goes_ok (g2 he), hr⟩
  · rw [e78, Tr.run_t (by simpa using hc)]
    by_cases he : Prof.need s a x = -1
    · rw [Tr.run_t (decide_eq_true he), Tr.run_ok, he]
    · rw [Tr.run_f (decide_eq_false he), Tr.run_ok]
end Go.Proofs.YtejfdhcigkgbmaaDoor.PE
namespace Go.Proofs.YtejfdhcigkgbmaaDoor.PE
open Go
set_option maxRecDepth 100000
variable {G : World → (Nat → Prop) → Prop} (hG : GOk G)

/-! timing.Profile -/
noncomputable def b22 : Code := (loopsOf (bodyC Tryd.f22)).getD 0 .skip
def pol22 : Pol := { live := [(10, [5, 6, 10, 11, 13, 14])] }
noncomputable def O22 : Orc := [(26, s26), (43, s43), (71, s71), (72, s72), (78, s78), (79, s79), (80, s80)]
theorem enter22 : Enters Tryd.prog 22 Tryd.f22 (bodyC Tryd.f22) := ⟨Tryd.func22, by kernel_rfl, rfl⟩
/-- The changes so far. -/
def st22 (s a c : Rat) (sn an : Nat) (n k : Int) (xs : List Rat) : LS := match xs with
  | [] => ⟨[.ptr 0 3 0 0 [], .ptr 1 3 0 0 [], .i .i64 n, .ptr 2 3 0 0 [], .nil, .i .i64 k], [some ⟨3, .vals [.q s sn]⟩, some ⟨3, .vals [.q a an]⟩, some ⟨3, .vals [.q c 64]⟩]⟩
  | xs => ⟨[.ptr 0 3 0 0 [], .ptr 1 3 0 0 [], .i .i64 n, .ptr 2 3 0 0 [], .sl 3 3 0 xs.length, .i .i64 k], [some ⟨3, .vals [.q s sn]⟩, some ⟨3, .vals [.q a an]⟩, some ⟨3, .vals [.q c 64]⟩, some ⟨3, .rats 64 xs⟩]⟩
def x22 (s a c : Rat) (sn an : Nat) (n k : Int) (xs : List Rat) : LS := ⟨[.ptr 0 3 0 0 [], .ptr 1 3 0 0 [], .i .i64 n, .ptr 2 3 0 0 [], .sl 3 3 0 xs.length, .i .i64 k], [some ⟨3, .vals [.q s sn]⟩, some ⟨3, .vals [.q a an]⟩, some ⟨3, .vals [.q c 64]⟩, some ⟨3, .rats 64 xs⟩]⟩
theorem r22n (s a c : Rat) (sn an : Nat) (n k : Int) : evRound Tryd.prog O22 [] pol22 Tryd.f22.ntmps 0 [5, 6, 10, 11, 13, 14] b22 (st22 s a c sn an n k []) =
  Tr.br (decide (k ≤ n))
    (Tr.br (decide ((-9223372036854775808 : Int) ≤ n + (1 : Int)) && decide (n + (1 : Int) ≤ (9223372036854775807 : Int)))
      (Tr.br
        (decide ((-9223372036854775808 : Int) ≤ n + (1 : Int) - k) &&
          decide (n + (1 : Int) - k ≤ (9223372036854775807 : Int)))
        (Tr.br
          (decide ((-72057594037927936 : Int) < if n + (1 : Int) - k < k then n + (1 : Int) - k else k) &&
            decide ((if n + (1 : Int) - k < k then n + (1 : Int) - k else k) ≤ (9223372036854775807 : Int)))
          (Tr.br (s32 a && s32 (↑(if n + (1 : Int) - k < k then n + (1 : Int) - k else k) : Rat))
            (Tr.br (s32 s && s32 (a * (↑(if n + (1 : Int) - k < k then n + (1 : Int) - k else k) : Rat)))
              (Tr.br (s32 c && s32 (Prof.mn s (a * (↑(if n + (1 : Int) - k < k then n + (1 : Int) - k else k) : Rat))))
                (Tr.br
                  (Nat.blt (0 : Nat)
                      [c * Prof.mn s (a * (↑(if n + (1 : Int) - k < k then n + (1 : Int) - k else k) : Rat))].length &&
                    [c * Prof.mn s (a * (↑(if n + (1 : Int) - k < k then n + (1 : Int) - k else k) : Rat))].length.ble
                      (4294967296 : Nat))
                  (Tr.br
                    (decide ((-9223372036854775808 : Int) ≤ k + (1 : Int)) &&
                      decide (k + (1 : Int) ≤ (9223372036854775807 : Int)))
                    (Tr.ok
                      (Res.out Exit.normal
                        {
                          t :=
                            [PV.ptr (0) (3) (0) (0) [],
                              PV.ptr (1) (3) (0) (0) [], PV.i IntKind.i64 n,
                              PV.ptr (2) (3) (0) (0) [],
                              PV.sl (3) (3) (0) (1), PV.i IntKind.i64 (k + (1 : Int))],
                          h :=
                            [some { e := 3, c := Cont.vals [PV.q s sn] },
                              some { e := 3, c := Cont.vals [PV.q a an] },
                              some { e := 3, c := Cont.vals [PV.q c (64)] },
                              some
                                { e := 3,
                                  c :=
                                    Cont.rats (64)
                                      [c *
                                          Prof.mn s
                                            (a *
                                              (↑(if n + (1 : Int) - k < k then n + (1 : Int) - k else k) : Rat))] }] }))
                    (Tr.no (12002)))
                  (Tr.no (13002)))
                (Tr.no (1)))
              (Tr.no (1)))
            (Tr.no (1)))
          (Tr.no (1)))
        (Tr.no (13009)))
      (Tr.no (13011)))
    (Tr.ok
      (Res.out (Exit.exit (0))
        {
          t :=
            [PV.ptr (0) (3) (0) (0) [],
              PV.ptr (1) (3) (0) (0) [], PV.i IntKind.i64 n,
              PV.ptr (2) (3) (0) (0) [], PV.nil, PV.i IntKind.i64 k],
          h :=
            [some { e := 3, c := Cont.vals [PV.q s sn] }, some { e := 3, c := Cont.vals [PV.q a an] },
              some { e := 3, c := Cont.vals [PV.q c (64)] }] })) := by kernel_rfl
theorem r22 (s a c : Rat) (sn an : Nat) (n k : Int) (xs : List Rat) : evRound Tryd.prog O22 [] pol22 Tryd.f22.ntmps 0 [5, 6, 10, 11, 13, 14] b22 (x22 s a c sn an n k xs) =
  Tr.br (decide (k ≤ n))
    (Tr.br (decide ((-9223372036854775808 : Int) ≤ n + (1 : Int)) && decide (n + (1 : Int) ≤ (9223372036854775807 : Int)))
      (Tr.br
        (decide ((-9223372036854775808 : Int) ≤ n + (1 : Int) - k) &&
          decide (n + (1 : Int) - k ≤ (9223372036854775807 : Int)))
        (Tr.br
          (decide ((-72057594037927936 : Int) < if n + (1 : Int) - k < k then n + (1 : Int) - k else k) &&
            decide ((if n + (1 : Int) - k < k then n + (1 : Int) - k else k) ≤ (9223372036854775807 : Int)))
          (Tr.br (s32 a && s32 (↑(if n + (1 : Int) - k < k then n + (1 : Int) - k else k) : Rat))
            (Tr.br (s32 s && s32 (a * (↑(if n + (1 : Int) - k < k then n + (1 : Int) - k else k) : Rat)))
              (Tr.br (s32 c && s32 (Prof.mn s (a * (↑(if n + (1 : Int) - k < k then n + (1 : Int) - k else k) : Rat))))
                (Tr.br
                  (xs.length.ble xs.length &&
                    (xs.length +
                          [c *
                                Prof.mn s
                                  (a * (↑(if n + (1 : Int) - k < k then n + (1 : Int) - k else k) : Rat))].length).ble
                      (4294967296 : Nat))
                  (Tr.br
                    (decide ((-9223372036854775808 : Int) ≤ k + (1 : Int)) &&
                      decide (k + (1 : Int) ≤ (9223372036854775807 : Int)))
                    (Tr.ok
                      (Res.out Exit.normal
                        {
                          t :=
                            [PV.ptr (0) (3) (0) (0) [],
                              PV.ptr (1) (3) (0) (0) [], PV.i IntKind.i64 n,
                              PV.ptr (2) (3) (0) (0) [],
                              PV.sl (3) (3) (0)
                                (xs.length +
                                  [c *
                                        Prof.mn s
                                          (a *
                                            (↑(if n + (1 : Int) - k < k then n + (1 : Int) - k else k) : Rat))].length),
                              PV.i IntKind.i64 (k + (1 : Int))],
                          h :=
                            [some { e := 3, c := Cont.vals [PV.q s sn] },
                              some { e := 3, c := Cont.vals [PV.q a an] },
                              some { e := 3, c := Cont.vals [PV.q c (64)] },
                              some
                                { e := 3,
                                  c :=
                                    Cont.rats (64)
                                      (List.take xs.length (List.drop (0 : Nat) xs) ++
                                        [c *
                                            Prof.mn s
                                              (a *
                                                (↑(if n + (1 : Int) - k < k then n + (1 : Int) - k else k) :
                                                  Rat))]) }] }))
                    (Tr.no (12002)))
                  (Tr.no (13002)))
                (Tr.no (1)))
              (Tr.no (1)))
            (Tr.no (1)))
          (Tr.no (1)))
        (Tr.no (13009)))
      (Tr.no (13011)))
    (Tr.ok
      (Res.out (Exit.exit (0))
        {
          t :=
            [PV.ptr (0) (3) (0) (0) [],
              PV.ptr (1) (3) (0) (0) [], PV.i IntKind.i64 n,
              PV.ptr (2) (3) (0) (0) [],
              PV.sl (3) (3) (0) xs.length, PV.i IntKind.i64 k],
          h :=
            [some { e := 3, c := Cont.vals [PV.q s sn] }, some { e := 3, c := Cont.vals [PV.q a an] },
              some { e := 3, c := Cont.vals [PV.q c (64)] },
              some { e := 3, c := Cont.rats (64) xs }] })) := by kernel_rfl
include hG in
theorem orc22 : OrcOK Tryd.prog G O22 := .cons (ok26 hG) (.cons (ok43 hG) (.cons (ok71 hG) (.cons (ok72 hG) (.cons (ok78 hG) (.cons (ok79 hG) (.cons (ok80 hG) .nil))))))
theorem st22_x {s a c : Rat} {sn an : Nat} {n k : Int} {xs : List Rat} (h : xs ≠ []) : st22 s a c sn an n k xs = x22 s a c sn an n k xs := by
  cases xs with
  | nil => exact absurd rfl h
  | cons x xs => rfl
theorem step22 (n j : Nat) (s a c : Rat) (sn an : Nat) (xs : List Rat) (h : Prof.pr s a) (hc : s32 c = true) (hn : n ≤ 50) (hj : j < n) (hx : xs.length ≤ 1000) :
    (evRound Tryd.prog O22 [] pol22 Tryd.f22.ntmps 0 [5, 6, 10, 11, 13, 14] b22 (st22 s a c sn an n ((j + 1 : Nat) : Int) xs)).run =
      some (.out .normal (st22 s a c sn an n ((j + 1 + 1 : Nat) : Int) (xs ++ [Prof.val c s a n (j + 1)]))) := by
  have hi : Prof.ix n (j + 1) ≤ 50 := Nat.le_trans ix_le (by omega)
  have b0 : Prof.Bd (((Prof.ix n (j + 1) : Nat) : Int) : Rat) 50 1 := ⟨by show ((Prof.ix n (j + 1) : Nat) : Int).natAbs ≤ 50; omega, Nat.le_refl _⟩
  have b1 : Prof.Bd (a * (((Prof.ix n (j + 1) : Nat) : Int) : Rat)) 400 8 := h.bai hi
  have b2 : Prof.Bd (Prof.mn s (a * (((Prof.ix n (j + 1) : Nat) : Int) : Rat))) 48 24 := h.bcap n (j + 1)
  rw [st22_x (xs := xs ++ [Prof.val c s a n (j + 1)]) (by simp)]
  cases xs with
  | nil =>
    rw [r22n]
    simp only [min_ix hj]
    rw [Tr.run_t (decide_eq_true (by omega)), Tr.run_t (by simp only [Bool.and_eq_true, decide_eq_true_eq]; omega), Tr.run_t (by simp only [Bool.and_eq_true, decide_eq_true_eq]; omega), Tr.run_t (by simp only [Bool.and_eq_true, decide_eq_true_eq]; omega),
      Tr.run_t (by rw [Bd32 h.ba (by omega) (by omega), Bd32 b0 (by omega) (by omega)]; rfl), Tr.run_t (by rw [Bd32 h.bs (by omega) (by omega), Bd32 b1 (by omega) (by omega)]; rfl),
      Tr.run_t (by rw [hc, Bd32 b2 (by omega) (by omega)]; rfl), Tr.run_t (by rfl),
      Tr.run_t (by simp only [Bool.and_eq_true, decide_eq_true_eq]; omega), Tr.run_ok]
    rfl
  | cons y ys =>
    show (evRound Tryd.prog O22 [] pol22 Tryd.f22.ntmps 0 [5, 6, 10, 11, 13, 14] b22 (x22 s a c sn an n ((j + 1 : Nat) : Int) (y :: ys))).run = _
    rw [r22]
    simp only [min_ix hj]
    rw [Tr.run_t (decide_eq_true (by omega)), Tr.run_t (by simp only [Bool.and_eq_true, decide_eq_true_eq]; omega), Tr.run_t (by simp only [Bool.and_eq_true, decide_eq_true_eq]; omega), Tr.run_t (by simp only [Bool.and_eq_true, decide_eq_true_eq]; omega),
      Tr.run_t (by rw [Bd32 h.ba (by omega) (by omega), Bd32 b0 (by omega) (by omega)]; rfl), Tr.run_t (by rw [Bd32 h.bs (by omega) (by omega), Bd32 b1 (by omega) (by omega)]; rfl),
      Tr.run_t (by rw [hc, Bd32 b2 (by omega) (by omega)]; rfl), Tr.run_t (by simp only [Bool.and_eq_true, Nat.ble_eq, List.length_cons, List.length_nil] at hx ⊢; omega),
      Tr.run_t (by simp only [Bool.and_eq_true, decide_eq_true_eq]; omega), Tr.run_ok, List.drop_zero, List.take_length]
    have hl : ((y :: ys) ++ [Prof.val c s a n (j + 1)]).length = (y :: ys).length + 1 := by simp
    unfold x22
    rw [hl]
    rfl
def pre22 (c s a : Rat) (n j : Nat) : List Rat := (List.range j).map fun i => Prof.val c s a n (i + 1)
theorem pre22_succ (c s a : Rat) (n j : Nat) : pre22 c s a n (j + 1) = pre22 c s a n j ++ [Prof.val c s a n (j + 1)] := by simp [pre22, List.range_succ]
theorem pre22_len (c s a : Rat) (n j : Nat) : (pre22 c s a n j).length = j := by simp [pre22]
theorem pre22_vals (x s a : Rat) (n : Nat) : pre22 (x / Prof.cover s a n) s a n n = Prof.vals x s a n := rfl
noncomputable def l22 : LSpec := fun ls K => match ls with
  | ⟨[.ptr 0 3 0 0 [], .ptr 1 3 0 0 [], .i .i64 n, .ptr 2 3 0 0 [], .nil, .i .i64 k], [some ⟨3, .vals [.q s sn]⟩, some ⟨3, .vals [.q a an]⟩, some ⟨3, .vals [.q c w]⟩]⟩ =>
    .br (decide (k = 1) && decide (1 ≤ n) && decide (n ≤ 50) && prB s a && s32 c && Nat.beq w 64) (K (.exit 0) (x22 s a c sn an n (n + 1) (pre22 c s a n.toNat n.toNat))) (.no 1)
  | _ => .no 1
include hG in
theorem loop22 : LoopOK Tryd.prog G Tryd.f22.ntmps 0 [5, 6, 10, 11, 13, 14] b22 l22 := by
  intro ls K x hm h
  unfold l22 at h
  split at h
  case h_2 => cases h
  rename_i n k s sn a an c w
  obtain ⟨hc, hr⟩ := Tr.of_br h
  simp only [Bool.and_eq_true, decide_eq_true_eq, prB_iff, Nat.beq_eq] at hc
  obtain ⟨⟨⟨⟨⟨rfl, hn0⟩, hn⟩, hp⟩, hcc⟩, rfl⟩ := hc
  obtain ⟨n, rfl⟩ := Int.eq_ofNat_of_zero_le (show 0 ≤ n by omega)
  have hg := Goes.count (R := Rnd Tryd.prog G Tryd.f22.ntmps 0 [5, 6, 10, 11, 13, 14] b22) (fun j => st22 s a c sn an n ((j + 1 : Nat) : Int) (pre22 c s a n j)) (e := .exit 0) (ls' := st22 s a c sn an n ((n + 1 : Nat) : Int) (pre22 c s a n n)) (by simp) n 0
    (fun j _ hj => round_ok hG (orc22 hG) mix (L := []) (pol := pol22) (O := O22) (LpsOK.none (by kernel_rfl)) (Nat.zero_le _) (by
      rw [pre22_succ]
      exact step22 n j s a c sn an _ hp hcc (by omega) (by omega) (by rw [pre22_len]; omega)))
    (by
      refine round_ok hG (orc22 hG) mix (L := []) (pol := pol22) (O := O22) (LpsOK.none (by kernel_rfl)) (Nat.zero_le _) ?_
      rw [Nat.zero_add]
      cases hl : pre22 c s a n n with
      | nil => rw [r22n, Tr.run_f (decide_eq_false (by omega)), Tr.run_ok]; rfl
      | cons y ys =>
        show (evRound Tryd.prog O22 [] pol22 Tryd.f22.ntmps 0 [5, 6, 10, 11, 13, 14] b22 (x22 s a c sn an n ((n + 1 : Nat) : Int) (y :: ys))).run = _
        rw [r22, Tr.run_f (decide_eq_false (by omega)), Tr.run_ok]; rfl)
  refine ⟨_, _, goes_ok hg, ?_⟩
  rw [st22_x (by intro h0; have := pre22_len c s a n n; rw [h0] at this; simp at this; omega)]
  rw [Int.toNat_natCast] at hr
  exact hr
theorem e22 (x s a : Rat) (xn sn an : Nat) (t : Int) : evF Tryd.prog O22 [(10, l22)] pol22 Tryd.f22 [.q x xn, .q s sn, .q a an, .i .i64 t] [] retK =
  Tr.br (s64 x)
    (Tr.br (decide (rcmp x (0 : Rat) < (0 : Int))) (Tr.ok (Res.ret (PV.tup [PV.nil, PV.i IntKind.i64 (1 : Int)]) []))
      (Tr.br (s64 s)
        (Tr.br (decide (rcmp s (0 : Rat) ≤ (0 : Int))) (Tr.ok (Res.ret (PV.tup [PV.nil, PV.i IntKind.i64 (1 : Int)]) []))
          (Tr.br (s64 a)
            (Tr.br (decide (rcmp a (0 : Rat) ≤ (0 : Int)))
              (Tr.ok (Res.ret (PV.tup [PV.nil, PV.i IntKind.i64 (1 : Int)]) []))
              (Tr.br (decide (t < (0 : Int))) (Tr.ok (Res.ret (PV.tup [PV.nil, PV.i IntKind.i64 (1 : Int)]) []))
                (Tr.br (decide ((50 : Int) < t)) (Tr.ok (Res.ret (PV.tup [PV.nil, PV.i IntKind.i64 (1 : Int)]) []))
                  (Tr.br (prB s a && distB x)
                    (Tr.br (decide (Prof.need s a x < (0 : Int)))
                      (Tr.ok (Res.ret (PV.tup [PV.nil, PV.i IntKind.i64 (19 : Int)]) []))
                      (Tr.br (decide ((0 : Int) < t))
                        (Tr.br (decide (t < Prof.need s a x))
                          (Tr.ok (Res.ret (PV.tup [PV.nil, PV.i IntKind.i64 (19 : Int)]) []))
                          (Tr.br
                            (decide ((0 : Int) ≤ if t > Prof.need s a x then t else Prof.need s a x) &&
                                decide ((if t > Prof.need s a x then t else Prof.need s a x) ≤ (50 : Int)) &&
                              prB s a)
                            (Tr.br
                              (s32 x && s32 (Prof.cover s a (if t > Prof.need s a x then t else Prof.need s a x).toNat) &&
                                decide
                                  ((Prof.cover s a
                                          (if t > Prof.need s a x then t else Prof.need s a x).toNat).num.natAbs ≠
                                    (0 : Nat)))
                              (Tr.br
                                (decide ((1 : Int) = (1 : Int)) &&
                                          decide ((1 : Int) ≤ if t > Prof.need s a x then t else Prof.need s a x) &&
                                        decide ((if t > Prof.need s a x then t else Prof.need s a x) ≤ (50 : Int)) &&
                                      prB s a &&
                                    s32 (x / Prof.cover s a (if t > Prof.need s a x then t else Prof.need s a x).toNat) &&
                                  Nat.beq (64 : Nat) (64 : Nat))
                                (Tr.br
                                  ((pre22 (x / Prof.cover s a (if t > Prof.need s a x then t else Prof.need s a x).toNat)
                                          s a (if t > Prof.need s a x then t else Prof.need s a x).toNat
                                          (if t > Prof.need s a x then t else Prof.need s a x).toNat).length.ble
                                    (pre22 (x / Prof.cover s a (if t > Prof.need s a x then t else Prof.need s a x).toNat)
                                        s a (if t > Prof.need s a x then t else Prof.need s a x).toNat
                                        (if t > Prof.need s a x then t else Prof.need s a x).toNat).length)
                                  (Tr.ok
                                    (Res.ret
                                      (PV.tup
                                        [PV.fr (3)
                                            (Cont.rats (64)
                                              (List.take
                                                (pre22
                                                    (x /
                                                      Prof.cover s a
                                                        (if t > Prof.need s a x then t else Prof.need s a x).toNat)
                                                    s a (if t > Prof.need s a x then t else Prof.need s a x).toNat
                                                    (if t > Prof.need s a x then t else Prof.need s a x).toNat).length
                                                (List.drop (0 : Nat)
                                                  (pre22
                                                    (x /
                                                      Prof.cover s a
                                                        (if t > Prof.need s a x then t else Prof.need s a x).toNat)
                                                    s a (if t > Prof.need s a x then t else Prof.need s a x).toNat
                                                    (if t > Prof.need s a x then t else Prof.need s a x).toNat)))),
                                          PV.i IntKind.i64 (0 : Int)])
                                      []))
                                  (Tr.no (15)))
                                (Tr.no (1)))
                              (Tr.no (1)))
                            (Tr.no (1))))
                        (Tr.br
                          (decide ((0 : Int) ≤ if t > Prof.need s a x then t else Prof.need s a x) &&
                              decide ((if t > Prof.need s a x then t else Prof.need s a x) ≤ (50 : Int)) &&
                            prB s a)
                          (Tr.br
                            (s32 x && s32 (Prof.cover s a (if t > Prof.need s a x then t else Prof.need s a x).toNat) &&
                              decide
                                ((Prof.cover s a (if t > Prof.need s a x then t else Prof.need s a x).toNat).num.natAbs ≠
                                  (0 : Nat)))
                            (Tr.br
                              (decide ((1 : Int) = (1 : Int)) &&
                                        decide ((1 : Int) ≤ if t > Prof.need s a x then t else Prof.need s a x) &&
                                      decide ((if t > Prof.need s a x then t else Prof.need s a x) ≤ (50 : Int)) &&
                                    prB s a &&
                                  s32 (x / Prof.cover s a (if t > Prof.need s a x then t else Prof.need s a x).toNat) &&
                                Nat.beq (64 : Nat) (64 : Nat))
                              (Tr.br
                                ((pre22 (x / Prof.cover s a (if t > Prof.need s a x then t else Prof.need s a x).toNat) s
                                        a (if t > Prof.need s a x then t else Prof.need s a x).toNat
                                        (if t > Prof.need s a x then t else Prof.need s a x).toNat).length.ble
                                  (pre22 (x / Prof.cover s a (if t > Prof.need s a x then t else Prof.need s a x).toNat) s
                                      a (if t > Prof.need s a x then t else Prof.need s a x).toNat
                                      (if t > Prof.need s a x then t else Prof.need s a x).toNat).length)
                                (Tr.ok
                                  (Res.ret
                                    (PV.tup
                                      [PV.fr (3)
                                          (Cont.rats (64)
                                            (List.take
                                              (pre22
                                                  (x /
                                                    Prof.cover s a
                                                      (if t > Prof.need s a x then t else Prof.need s a x).toNat)
                                                  s a (if t > Prof.need s a x then t else Prof.need s a x).toNat
                                                  (if t > Prof.need s a x then t else Prof.need s a x).toNat).length
                                              (List.drop (0 : Nat)
                                                (pre22
                                                  (x /
                                                    Prof.cover s a
                                                      (if t > Prof.need s a x then t else Prof.need s a x).toNat)
                                                  s a (if t > Prof.need s a x then t else Prof.need s a x).toNat
                                                  (if t > Prof.need s a x then t else Prof.need s a x).toNat)))),
                                        PV.i IntKind.i64 (0 : Int)])
                                    []))
                                (Tr.no (15)))
                              (Tr.no (1)))
                            (Tr.no (1)))
                          (Tr.no (1)))))
                    (Tr.no (1))))))
            (Tr.no (1))))
        (Tr.no (1))))
    (Tr.no (1)) := by kernel_rfl
noncomputable def late (x s a : Rat) (t : Int) : Bool := decide (Prof.need s a x < 0) || (decide (0 < t) && decide (t < Prof.need s a x))
noncomputable def tks (x s a : Rat) (t : Int) : Nat := (if t > Prof.need s a x then t else Prof.need s a x).toNat
/-- The profile that is returned. -/
noncomputable def pf (x s a : Rat) (t : Int) : List Rat := Prof.vals x s a (tks x s a t)
noncomputable def s22 : Spec := fun args hs K => match args, hs with
  | [.q x _, .q s _, .q a _, .i .i64 t], [] => .br (prB s a && distB x && decide (0 ≤ t) && decide (t ≤ 50))
      (.br (late x s a t) (K (.tup [.nil, .i .i64 19]) []) (K (.tup [.fr 3 (.rats 64 (pf x s a t)), .i .i64 0]) [])) (.no 1)
  | _, _ => .no 1
theorem tks_ok {x s a : Rat} {t : Int} (h : late x s a t = false) (h0 : 0 ≤ t) (h1 : t ≤ 50) (hp : Prof.pr s a) : 1 ≤ tks x s a t ∧ tks x s a t ≤ 50 ∧ x ≤ Prof.cover s a (tks x s a t) ∧
    (if t > Prof.need s a x then t else Prof.need s a x) = (tks x s a t : Int) ∧ 0 ≤ Prof.need s a x ∧ ¬ (0 < t ∧ t < Prof.need s a x) := by
  unfold late at h
  simp only [Bool.or_eq_false_iff, decide_eq_false_iff_not, Bool.and_eq_false_iff] at h
  obtain ⟨h2, h3⟩ := h
  rcases Prof.needF_spec s a x 50 1 with e | ⟨m, e, e1, e2, e3⟩
  · exact absurd (show Prof.need s a x < 0 by unfold Prof.need; omega) h2
  · have e' : Prof.need s a x = m := e
    unfold tks
    rw [e']
    by_cases hm : t > (m : Int)
    · rw [if_pos hm]
      refine ⟨by omega, by omega, ?_, by omega, by omega, by omega⟩
      have := Prof.cover_mono (Rat.le_of_lt hp.pos.1) (Rat.le_of_lt hp.pos.2) (t.toNat - m) m
      rw [show m + (t.toNat - m) = t.toNat by omega] at this
      exact Rat.le_trans e3 this
    · rw [if_neg hm, Int.toNat_natCast]
      exact ⟨by omega, by omega, e3, rfl, by omega, by omega⟩
include hG in
theorem ok22 : SpecOK Tryd.prog G 22 s22 := by
  refine spec_of hG (orc22 hG) mix enter22 (L := [(10, l22)]) (pol := pol22) fun args hs K x h => ?_
  unfold s22 at h
  split at h
  case h_2 => cases h
  rename_i x xn s sn a an t
  obtain ⟨hc, hr⟩ := Tr.of_br h
  refine ⟨lps1 (b := b22) (live := [5, 6, 10, 11, 13, 14]) (sp := l22) (m := 0) (by kernel_rfl) (by kernel_rfl) (by kernel_rfl) (loop22 hG), ?_⟩
  simp only [Bool.and_eq_true, decide_eq_true_eq, prB_iff, distB_iff] at hc
  obtain ⟨⟨⟨hp, hx⟩, ht0⟩, ht1⟩ := hc
  have hx0 := hx.nonneg
  have hpos := hp.pos
  have q1 : prB s a = true := prB_iff.2 hp
  have q2 : distB x = true := distB_iff.2 hx
  rw [e22, Tr.run_t (s32_s64 (Bd32 hx.bx (by omega) (by omega))), Tr.run_f (decide_eq_false (by rw [rcmp_lt]; exact Rat.not_lt.2 hx0)),
    Tr.run_t (s32_s64 (Bd32 hp.bs (by omega) (by omega))), Tr.run_f (decide_eq_false (by rw [rcmp_le]; exact Rat.not_le.2 hpos.1)),
    Tr.run_t (s32_s64 (Bd32 hp.ba (by omega) (by omega))), Tr.run_f (decide_eq_false (by rw [rcmp_le]; exact Rat.not_le.2 hpos.2)),
    Tr.run_f (decide_eq_false (by omega)), Tr.run_f (decide_eq_false (by omega)), Tr.run_t (by rw [q1, q2]; rfl)]
  cases hl : late x s a t with
  | true =>
    rw [Tr.run_t hl] at hr
    refine ⟨_, _, _, ?_, .refl _, hr⟩
    unfold late at hl
    by_cases h1 : Prof.need s a x < 0
    · rw [Tr.run_t (decide_eq_true h1), Tr.run_ok]
    · rw [decide_eq_false h1, Bool.false_or, Bool.and_eq_true, decide_eq_true_eq, decide_eq_true_eq] at hl
      rw [Tr.run_f (decide_eq_false h1), Tr.run_t (decide_eq_true hl.1), Tr.run_t (decide_eq_true hl.2), Tr.run_ok]
  | false =>
    rw [Tr.run_f hl] at hr
    unfold pf at hr
    refine ⟨_, _, _, ?_, .refl _, hr⟩
    obtain ⟨n1, n2, n3, n4, n5, n6⟩ := tks_ok hl ht0 ht1 hp
    generalize tks x s a t = n at *
    have hb : Prof.Bd (Prof.cover s a n) 2400 24 := hp.bcov n n2
    have hne : (Prof.cover s a n).num.natAbs ≠ 0 := by
      intro h0
      have := Prof.cover_pos hpos.1 hpos.2 n1
      rw [Rat.num_eq_zero.1 (show (Prof.cover s a n).num = 0 by omega)] at this
      exact absurd this Rat.lt_irrefl
    have hsc := Bd32 (Prof.scale_bd hx hp n2 n1) (by omega) (by omega)
    have c1 : (decide (0 ≤ ((n : Nat) : Int)) && decide (((n : Nat) : Int) ≤ 50) && prB s a) = true := by rw [q1]; simp only [Bool.and_eq_true, decide_eq_true_eq]; exact ⟨⟨by omega, by omega⟩, trivial⟩
    have c2 : (s32 x && s32 (Prof.cover s a n) && decide ((Prof.cover s a n).num.natAbs ≠ 0)) = true := by rw [Bd32 hx.bx (by omega) (by omega), Bd32 hb (by omega) (by omega), decide_eq_true hne]; rfl
    have c3 : (decide True && decide (1 ≤ ((n : Nat) : Int)) && decide (((n : Nat) : Int) ≤ 50) && prB s a && s32 (x / Prof.cover s a n) && Nat.beq 64 64) = true := by
      rw [q1, hsc]; simp only [Bool.and_eq_true, decide_eq_true_eq]; exact ⟨⟨⟨⟨⟨trivial, by omega⟩, by omega⟩, trivial⟩, trivial⟩, rfl⟩
    have e4 : List.take (pre22 (x / Prof.cover s a n) s a n n).length (List.drop 0 (pre22 (x / Prof.cover s a n) s a n n)) = Prof.vals x s a n := by rw [List.drop_zero, List.take_length]; rfl
    simp only [n4, Int.toNat_natCast]
    rw [Tr.run_f (decide_eq_false (by omega))]
    by_cases ht : 0 < t
    · rw [Tr.run_t (decide_eq_true ht), Tr.run_f (decide_eq_false (by omega)), Tr.run_t c1, Tr.run_t c2, Tr.run_t c3, Tr.run_t (by rw [Nat.ble_eq]; omega), Tr.run_ok, e4]
    · rw [Tr.run_f (decide_eq_false ht), Tr.run_t c1, Tr.run_t c2, Tr.run_t c3, Tr.run_t (by rw [Nat.ble_eq]; omega), Tr.run_ok, e4]
end Go.Proofs.YtejfdhcigkgbmaaDoor.PE
