/-
  Part 3 of the proof: the evaluator and what it is worth. Conditions: those of the theorems below.
-/
import Derived.Test.YtejfdhcigkgbmaaDoorClamps2
import GoSem.Extern.BytealgCompare
set_option linter.all false
namespace Go.Proofs.YtejfdhcigkgbmaaDoor.PE
open Go
set_option maxRecDepth 100000
variable {G : World → (Nat → Prop) → Prop} (hG : GOk G)
include hG in
theorem orc114 : OrcOK Tryd.prog G [(114, s114)] := .cons (ok114 hG) .nil

/-! nat.fromShort -/
noncomputable def b115 : Code := (loopsOf (bodyC Tryd.f115)).getD 0 .skip
def pol115 : Pol := { live := [(3, [0, 3, 5])] }
theorem enter115 : Enters Tryd.prog 115 Tryd.f115 (bodyC Tryd.f115) := ⟨Tryd.func115, by kernel_rfl, rfl⟩
theorem r115 (n i : Int) (xs : List Int) : evRound Tryd.prog [] [] pol115 Tryd.f115.ntmps 0 [0, 3, 5] b115 ⟨[.i .u64 n, .ptr 0 1 0 0 [], .i .i64 i], [some ⟨1, .ints .u8 xs⟩]⟩ =
  Tr.br (decide (i < (8 : Int)))
    (Tr.br (decide ((-9223372036854775808 : Int) ≤ (8 : Int) * i) && decide ((8 : Int) * i ≤ (9223372036854775807 : Int)))
      (Tr.br
        (decide ((-9223372036854775808 : Int) ≤ (56 : Int) - (8 : Int) * i) &&
          decide ((56 : Int) - (8 : Int) * i ≤ (9223372036854775807 : Int)))
        (Tr.br (decide ((0 : Int) ≤ (56 : Int) - (8 : Int) * i))
          (Tr.br (decide ((0 : Int) ≤ i) && decide (i < (↑(8 : Nat) : Int)))
            (Tr.br ((i.toNat + (1 : Nat)).ble xs.length)
              (Tr.br
                (decide ((-9223372036854775808 : Int) ≤ i + (1 : Int)) &&
                  decide (i + (1 : Int) ≤ (9223372036854775807 : Int)))
                (Tr.ok
                  (Res.out Exit.normal
                    {
                      t :=
                        [PV.i IntKind.u64 n, PV.ptr (0) (1) (0) (0) [],
                          PV.i IntKind.i64 (i + (1 : Int))],
                      h :=
                        [some
                            { e := 1,
                              c :=
                                Cont.ints IntKind.u8
                                  (xs.set i.toNat
                                    (IntKind.u8.wrap
                                      (n.fdiv
                                        ((2 : Int) ^ min ((56 : Int) - (8 : Int) * i).toNat IntKind.u64.bits)))) }] }))
                (Tr.no (7002)))
              (Tr.no (6001)))
            (Tr.no (6002)))
          (Tr.no (6004)))
        (Tr.no (6005)))
      (Tr.no (6006)))
    (Tr.ok
      (Res.out (Exit.exit (0))
        { t := [PV.i IntKind.u64 n, PV.ptr (0) (1) (0) (0) [], PV.i IntKind.i64 i],
          h := [some { e := 1, c := Cont.ints IntKind.u8 xs }] })) := by kernel_rfl
def b8 (n : Nat) (i : Nat) : List Int := (List.range 8).map fun j => if j < i then ((n / 256 ^ (7 - j) % 256 : Nat) : Int) else 0
def l115 : LSpec := fun ls K => match ls with
  | ⟨[.i .u64 n, .ptr 0 1 0 0 [], .i .i64 i], [some ⟨1, .ints .u8 xs⟩]⟩ => .br (decide (i = 0) && decide (0 ≤ n) && decide (n < 18446744073709551616) && decide (xs = List.replicate 8 0))
      (K (.exit 0) ⟨[.i .u64 n, .ptr 0 1 0 0 [], .i .i64 8], [some ⟨1, .ints .u8 (b8 n.toNat 8)⟩]⟩) (.no 1)
  | _ => .no 1
theorem e115 (n : Int) : evF Tryd.prog [(114, s114)] [(3, l115)] pol115 Tryd.f115 [.i .u64 n] [] retK =
  Tr.br
    (decide ((0 : Int) = (0 : Int)) && decide ((0 : Int) ≤ n) && decide (n < (18446744073709551616 : Int)) &&
      decide (List.replicate (8 : Nat) (0 : Int) = List.replicate (8 : Nat) (0 : Int)))
    (Tr.br (Nat.ble (8 : Nat) (b8 n.toNat (8 : Nat)).length)
      (Tr.br (((0 : Nat) + ((8 : Nat) - (0 : Nat))).ble (b8 n.toNat (8 : Nat)).length)
        (Tr.ok
          (Res.ret
            (PV.s
              (nb
                (bv
                  (List.map (fun (n : Int) => UInt8.ofNat n.toNat)
                        (List.take ((8 : Nat) - (0 : Nat))
                          (List.drop (0 : Nat) (b8 n.toNat (8 : Nat))))).toArray.toList)))
            []))
        (Tr.no (8003)))
      (Tr.no (8004)))
    (Tr.no (1)) := by kernel_rfl
theorem b8_zero (n : Nat) : b8 n 0 = List.replicate 8 0 := by simp [b8, List.range_succ]
theorem b8_set (n i : Nat) : (b8 n i).set i ((n / 256 ^ (7 - i) % 256 : Nat) : Int) = b8 n (i + 1) := by
  apply List.ext_getElem
  · simp [b8]
  · intro j h1 h2
    simp only [b8, List.getElem_set, List.getElem_map, List.getElem_range]
    by_cases hj : i = j
    · subst hj; simp
    · rw [if_neg hj]
      by_cases h3 : j < i
      · rw [if_pos h3, if_pos (by omega)]
      · rw [if_neg h3, if_neg (by omega)]
theorem b8_len (n i : Nat) : (b8 n i).length = 8 := by simp [b8]
theorem fdiv_nat (n k : Nat) : (n : Int).fdiv ((2 : Int) ^ k) = ((n / 2 ^ k : Nat) : Int) := by
  have h0 : (0 : Int) ≤ 2 ^ k := by
    have := Nat.pow_pos (n := k) (show 0 < 2 by omega)
    have h : ((2 ^ k : Nat) : Int) = (2 : Int) ^ k := by simp
    omega
  rw [Int.fdiv_eq_ediv_of_nonneg _ h0]
  simp
theorem step115 (n i : Nat) (hi : i < 8) : (evRound Tryd.prog [] [] pol115 Tryd.f115.ntmps 0 [0, 3, 5] b115 ⟨[.i .u64 n, .ptr 0 1 0 0 [], .i .i64 i], [some ⟨1, .ints .u8 (b8 n i)⟩]⟩).run =
    some (.out .normal ⟨[.i .u64 n, .ptr 0 1 0 0 [], .i .i64 ((i + 1 : Nat) : Int)], [some ⟨1, .ints .u8 (b8 n (i + 1))⟩]⟩) := by
  rw [r115]
  have e1 : ((i : Int)).toNat = i := Int.toNat_natCast i
  repeat rw [Tr.run_t (by simp only [Bool.and_eq_true, decide_eq_true_eq, Nat.ble_eq, Cont.len, b8_len]; omega)]
  rw [Tr.run_ok]
  have h1 : ((i : Int) + 1) = ((i + 1 : Nat) : Int) := by simp
  have h2 : min ((56 : Int) - 8 * (i : Int)).toNat IntKind.u64.bits = 8 * (7 - i) := by
    simp only [IntKind.bits]; omega
  have h3 : IntKind.u8.wrap ((n : Int).fdiv (2 ^ min ((56 : Int) - 8 * (i : Int)).toNat IntKind.u64.bits)) = ((n / 256 ^ (7 - i) % 256 : Nat) : Int) := by
    rw [h2, fdiv_nat, IntKind.wrap_u8', Nat.pow_mul]
    simp
  rw [h1, h3, e1, b8_set]
theorem b8_bytes (n : Nat) (h : n < 18446744073709551616) : bv ((b8 n 8).map fun n => UInt8.ofNat n.toNat) = n := by
  have q : ∀ m : Nat, UInt8.ofNat ((m : Int)).toNat = UInt8.ofNat m := fun m => by rw [Int.toNat_natCast]
  have e : (b8 n 8).map (fun n => UInt8.ofNat n.toNat) = [UInt8.ofNat (n / 72057594037927936 % 256), UInt8.ofNat (n / 281474976710656 % 256), UInt8.ofNat (n / 1099511627776 % 256), UInt8.ofNat (n / 4294967296 % 256),
      UInt8.ofNat (n / 16777216 % 256), UInt8.ofNat (n / 65536 % 256), UInt8.ofNat (n / 256 % 256), UInt8.ofNat (n % 256)] := by
    have r : List.range 8 = [0, 1, 2, 3, 4, 5, 6, 7] := rfl
    simp only [b8, r, List.map_cons, List.map_nil, Nat.reduceLT, if_true, Nat.reduceSub, Nat.reducePow, Nat.div_one, Int.toNat_natCast]
  rw [e]
  simp only [bv, List.foldl_cons, List.foldl_nil, ofNat_toNat _ (Nat.mod_lt _ (show 0 < 256 by omega))]
  omega
include hG in
theorem loop115 : LoopOK Tryd.prog G Tryd.f115.ntmps 0 [0, 3, 5] b115 l115 := by
  intro ls K x hm h
  unfold l115 at h
  split at h
  case h_2 => cases h
  rename_i n i xs
  obtain ⟨hc, hr⟩ := Tr.of_br h
  simp only [Bool.and_eq_true, decide_eq_true_eq] at hc
  obtain ⟨⟨⟨rfl, hn0⟩, hn⟩, rfl⟩ := hc
  obtain ⟨k, rfl⟩ := Int.eq_ofNat_of_zero_le hn0
  rw [← b8_zero k]
  refine ⟨_, _, goes_ok (Goes.count (fun i => ⟨[.i .u64 k, .ptr 0 1 0 0 [], .i .i64 i], [some ⟨1, .ints .u8 (b8 k i)⟩]⟩) (by simp) 8 0 (fun j h1 h2 => ?_) ?_), hr⟩
  · exact round_ok hG OrcOK.nil mix (L := []) (pol := pol115) (O := []) (LpsOK.none (by kernel_rfl)) (Nat.zero_le _) (step115 k j (by omega))
  · refine round_ok hG OrcOK.nil mix (L := []) (pol := pol115) (O := []) (LpsOK.none (by kernel_rfl)) (Nat.zero_le _) ?_
    rw [r115, Tr.run_f (decide_eq_false (by omega)), Tr.run_ok]
    rfl
def s115 : Spec := fun args hs K => match args, hs with
  | [.i .u64 n], [] => .br (decide (0 ≤ n) && decide (n < 18446744073709551616)) (K (.s (nb n.toNat)) []) (.no 1)
  | _, _ => .no 1
include hG in
theorem ok115 : SpecOK Tryd.prog G 115 s115 := by
  intro args hs K x h
  unfold s115 at h
  split at h
  case h_2 => cases h
  rename_i n
  obtain ⟨hc, hr⟩ := Tr.of_br h
  simp only [Bool.and_eq_true, decide_eq_true_eq] at hc
  refine ⟨_, _, evF_pc hG (orc114 hG) mix enter115 (hs := []) (L := [(3, l115)]) (pol := pol115) (lps1 (b := b115) (live := [0, 3, 5]) (sp := l115) (m := 0) (by kernel_rfl) (by kernel_rfl) (by kernel_rfl) (loop115 hG)) ?_, hr⟩
  rw [e115, Tr.run_t (by simp only [Bool.and_eq_true, decide_eq_true_eq]; exact ⟨⟨⟨trivial, hc.1⟩, hc.2⟩, trivial⟩)]
  repeat rw [Tr.run_t (by simp only [Bool.and_eq_true, decide_eq_true_eq, Nat.ble_eq, b8_len]; omega)]
  have h8 : List.take (8 - 0) (List.drop 0 (b8 n.toNat 8)) = b8 n.toNat 8 := by
    rw [List.drop_zero, List.take_of_length_le (by rw [b8_len]; omega)]
  rw [h8]
  have := b8_bytes n.toNat (by omega)
  simp only [this]
  rfl
end Go.Proofs.YtejfdhcigkgbmaaDoor.PE
/-! Digits in a fixed number. -/
namespace Go.Proofs.YtejfdhcigkgbmaaDoor.PE
open Go
/-- The first L digits. -/
def pd (B L n : Nat) : List Int := (List.range L).map fun j => ((n / B ^ j % B : Nat) : Int)
theorem pd_len (B L n : Nat) : (pd B L n).length = L := by simp [pd]
theorem pd_get {B L n j : Nat} (h : j < L) : (pd B L n)[j]? = some ((n / B ^ j % B : Nat) : Int) := by simp [pd, h]
theorem pd_getD {B L n j : Nat} (h : j < L) : (pd B L n).getD j 0 = ((n / B ^ j % B : Nat) : Int) := by simp [List.getD_eq_getElem?_getD, pd_get h]
theorem pd_succ (B L n : Nat) : pd B (L + 1) n = ((n % B : Nat) : Int) :: pd B L (n / B) := by
  simp only [pd, List.range_succ_eq_map, List.map_cons, List.map_map, Nat.pow_zero, Nat.div_one, List.cons.injEq, true_and]
  apply List.map_congr_left
  intro j _
  simp only [Function.comp, Nat.pow_succ]
  rw [Nat.mul_comm, Nat.div_div_eq_div_mul]
theorem lv_pd {B : Nat} (hB : 0 < B) : ∀ (L n : Nat), n < B ^ L → lv B (pd B L n) = n
  | 0, n, h => by
    have : n = 0 := by simpa using h
    subst this; rfl
  | L + 1, n, h => by
    rw [pd_succ]
    simp only [lv, Int.toNat_natCast]
    rw [lv_pd hB L (n / B) (by rw [Nat.div_lt_iff_lt_mul hB]; rwa [Nat.pow_succ] at h)]
    exact Nat.mod_add_div n B
theorem pd_mem {B L n : Nat} (hB : 0 < B) : ∀ x ∈ pd B L n, 0 ≤ x ∧ x < (B : Int) := by
  intro x hx
  obtain ⟨j, _, rfl⟩ := List.mem_map.1 hx
  have := Nat.mod_lt (n / B ^ j) hB
  omega
theorem pd_dg {B n : Nat} (hB : 2 ≤ B) : pd B (dg B n).length n = dg B n := by
  have h1 := dg_lt hB n
  refine lv_inj (B := B) (pd_len _ _ _) (pd_mem (by omega)) (dg_mem hB n) ?_
  rw [lv_pd (by omega) _ _ h1, lv_dg hB]
theorem pd_zero (B L : Nat) : pd B L 0 = List.replicate L 0 := by
  apply List.ext_getElem
  · simp [pd]
  · intro j h1 h2
    simp [pd]
/-- A list of digits is told by its value. -/
theorem pd_lv {B : Nat} (hB : 0 < B) {xs : List Int} (h : ∀ x ∈ xs, 0 ≤ x ∧ x < (B : Int)) : pd B xs.length (lv B xs) = xs := by
  have h1 := lv_lt (B := B) (xs := xs) fun x hx => by have := h x hx; omega
  exact lv_inj (B := B) (pd_len _ _ _) (pd_mem hB) h (lv_pd hB _ _ h1)
/-- One digit more in a small base c, four (or e) of which make one of the great base. -/
theorem pd_add {c e L M b i : Nat} (hc : 2 ≤ c) (he : 0 < e) (hM : M < c ^ i) (hb : b < c) (_hi : i / e < L) :
    (pd (c ^ e) L M).set (i / e) ((M / (c ^ e) ^ (i / e) % c ^ e + b * c ^ (i % e) : Nat) : Int) = pd (c ^ e) L (M + b * c ^ i) := by
  have hce : 0 < c ^ e := Nat.pow_pos (by omega)
  have hie : e * (i / e) + i % e = i := Nat.div_add_mod i e
  have hm : i % e < e := Nat.mod_lt _ he
  have hpow : c ^ i = (c ^ e) ^ (i / e) * c ^ (i % e) := by rw [← Nat.pow_mul, ← Nat.pow_add, hie]
  apply List.ext_getElem
  · simp [pd]
  · intro j h1 h2
    simp only [pd, List.length_map, List.length_range] at h2
    simp only [List.getElem_set, pd, List.getElem_map, List.getElem_range]
    have hBj : 0 < (c ^ e) ^ j := Nat.pow_pos hce
    by_cases hj : i / e = j
    · subst hj
      rw [if_pos rfl]
      congr 1
      have e1 : (M + b * c ^ i) / (c ^ e) ^ (i / e) = M / (c ^ e) ^ (i / e) + b * c ^ (i % e) := by
        rw [hpow, show b * ((c ^ e) ^ (i / e) * c ^ (i % e)) = (c ^ e) ^ (i / e) * (b * c ^ (i % e)) by rw [Nat.mul_left_comm], Nat.add_mul_div_left _ _ hBj]
      have e2 : M / (c ^ e) ^ (i / e) < c ^ (i % e) := by
        rw [Nat.div_lt_iff_lt_mul hBj, Nat.mul_comm, ← hpow]; exact hM
      have e3 : c ^ (i % e) * c ≤ c ^ e := by
        rw [← Nat.pow_succ]; exact Nat.pow_le_pow_right (by omega) (by omega)
      have e4 : (b + 1) * c ^ (i % e) ≤ c * c ^ (i % e) := Nat.mul_le_mul_right _ (by omega)
      rw [Nat.add_mul, Nat.one_mul, Nat.mul_comm c] at e4
      have e5 : c ^ (i % e) ≤ c ^ e := Nat.pow_le_pow_right (by omega) (by omega)
      have e6 : M / (c ^ e) ^ (i / e) < c ^ e := by omega
      have e7 : M / (c ^ e) ^ (i / e) + b * c ^ (i % e) < c ^ e := by omega
      rw [e1, Nat.mod_eq_of_lt e6, Nat.mod_eq_of_lt e7]
    · rw [if_neg hj]
      congr 1
      rcases Nat.lt_or_gt_of_ne hj with hlt | hgt
      · -- above
        have h3 : c ^ (i + 1) ≤ (c ^ e) ^ j := by
          rw [← Nat.pow_mul]
          refine Nat.pow_le_pow_right (by omega) ?_
          have : e * (i / e + 1) ≤ e * j := Nat.mul_le_mul_left _ hlt
          rw [Nat.mul_add, Nat.mul_one] at this
          omega
        have h4 : (b + 1) * c ^ i ≤ c * c ^ i := Nat.mul_le_mul_right _ (by omega)
        rw [Nat.add_mul, Nat.one_mul] at h4
        rw [Nat.pow_succ, Nat.mul_comm] at h3
        rw [Nat.div_eq_of_lt (by omega), Nat.div_eq_of_lt (by omega)]
      · -- below
        obtain ⟨d, hd⟩ : ∃ d, i / e = j + 1 + d := ⟨i / e - (j + 1), by omega⟩
        have e1 : c ^ i = (c ^ e) ^ j * (c ^ e * ((c ^ e) ^ d * c ^ (i % e))) := by
          rw [hpow, hd, Nat.pow_add, Nat.pow_succ]
          simp only [Nat.mul_assoc]
        rw [e1, show b * ((c ^ e) ^ j * (c ^ e * ((c ^ e) ^ d * c ^ (i % e)))) = (c ^ e) ^ j * (c ^ e * (b * ((c ^ e) ^ d * c ^ (i % e)))) by
          rw [Nat.mul_left_comm, Nat.mul_left_comm b (c ^ e)], Nat.add_mul_div_left _ _ hBj, Nat.add_mul_mod_self_left]
theorem bv_get (l : List UInt8) (j : Nat) (h : j < l.length) : (l.getD j 0).toNat = bv l / 256 ^ (l.length - 1 - j) % 256 := by
  have h1 : l = l.take j ++ (l[j] :: l.drop (j + 1)) := by rw [List.getElem_cons_drop, List.take_append_drop]
  have h2 : (l.getD j 0) = l[j] := by simp [List.getD_eq_getElem?_getD, h]
  have h3 : (l.drop (j + 1)).length = l.length - 1 - j := by simp; omega
  have h4 := bv_lt (l.drop (j + 1))
  rw [h3] at h4
  have h5 : bv l = bv (l.drop (j + 1)) + 256 ^ (l.length - 1 - j) * (bv (l.take j) * 256 + l[j].toNat) := by
    conv => lhs; rw [h1]
    rw [bv_append, bv_cons, List.length_cons, h3, Nat.pow_succ, Nat.mul_add]
    have : bv (l.take j) * (256 ^ (l.length - 1 - j) * 256) = 256 ^ (l.length - 1 - j) * (bv (l.take j) * 256) := by
      rw [← Nat.mul_assoc, Nat.mul_comm (bv (l.take j)), Nat.mul_assoc]
    rw [this, Nat.mul_comm l[j].toNat]
    omega
  have h6 : 0 < 256 ^ (l.length - 1 - j) := Nat.pow_pos (by omega)
  have h7 : l[j].toNat < 256 := l[j].toNat_lt
  rw [h2, h5, Nat.add_mul_div_left _ _ h6, Nat.div_eq_of_lt h4]
  omega
theorem tdiv_nat (n k : Nat) : (n : Int).tdiv (k : Int) = ((n / k : Nat) : Int) := by
  rw [Int.tdiv_eq_ediv_of_nonneg (by omega)]; simp
theorem tmod_nat (n k : Nat) : (n : Int).tmod (k : Int) = ((n % k : Nat) : Int) := by
  rw [Int.tmod_eq_emod_of_nonneg (by omega)]; simp
theorem pd_set1 {L M b i : Nat} (hM : M < 256 ^ i) (hb : b < 256) (hi : i < L) : (pd 256 L M).set i (b : Int) = pd 256 L (M + b * 256 ^ i) := by
  have h := pd_add (c := 256) (e := 1) (L := L) (M := M) (b := b) (i := i) (by omega) (by omega) hM hb (by simpa using hi)
  simp only [Nat.pow_one, Nat.div_one, Nat.mod_one, Nat.pow_zero, Nat.mul_one, Nat.div_eq_of_lt hM, Nat.zero_mod, Nat.zero_add] at h
  exact h
/-- Four bytes more. -/
theorem pd_set4 {L M w i : Nat} (hM : M < 256 ^ i) (hw : w < 4294967296) (hi : i + 3 < L) :
    ((((pd 256 L M).set i ((w % 256 : Nat) : Int)).set (i + 1) ((w / 256 % 256 : Nat) : Int)).set (i + 2) ((w / 65536 % 256 : Nat) : Int)).set (i + 3) ((w / 16777216 % 256 : Nat) : Int) = pd 256 L (M + w * 256 ^ i) := by
  have hp : 0 < 256 ^ i := Nat.pow_pos (by omega)
  have p1 : 256 ^ (i + 1) = 256 * 256 ^ i := by rw [Nat.pow_succ, Nat.mul_comm]
  have p2 : 256 ^ (i + 2) = 65536 * 256 ^ i := by rw [show i + 2 = i + 1 + 1 by omega, Nat.pow_succ, p1]; omega
  have p3 : 256 ^ (i + 3) = 16777216 * 256 ^ i := by rw [show i + 3 = i + 2 + 1 by omega, Nat.pow_succ, p2]; omega
  have m1 : w % 256 * 256 ^ i ≤ 255 * 256 ^ i := Nat.mul_le_mul_right _ (by omega)
  have m2 : w / 256 % 256 * 256 ^ i ≤ 255 * 256 ^ i := Nat.mul_le_mul_right _ (by omega)
  have m3 : w / 65536 % 256 * 256 ^ i ≤ 255 * 256 ^ i := Nat.mul_le_mul_right _ (by omega)
  have a1 : w / 256 % 256 * 256 ^ (i + 1) = 256 * (w / 256 % 256 * 256 ^ i) := by rw [p1, Nat.mul_left_comm]
  have a2 : w / 65536 % 256 * 256 ^ (i + 2) = 65536 * (w / 65536 % 256 * 256 ^ i) := by rw [p2, Nat.mul_left_comm]
  have a3 : w / 16777216 % 256 * 256 ^ (i + 3) = 16777216 * (w / 16777216 % 256 * 256 ^ i) := by rw [p3, Nat.mul_left_comm]
  rw [pd_set1 hM (by omega) (by omega), pd_set1 (i := i + 1) (by omega) (by omega) (by omega), pd_set1 (i := i + 2) (by omega) (by omega) (by omega), pd_set1 (i := i + 3) (by omega) (by omega) hi]
  congr 1
  have hw4 : w = w % 256 + 256 * (w / 256 % 256) + 65536 * (w / 65536 % 256) + 16777216 * (w / 16777216 % 256) := by omega
  have : w * 256 ^ i = w % 256 * 256 ^ i + 256 * (w / 256 % 256 * 256 ^ i) + 65536 * (w / 65536 % 256 * 256 ^ i) + 16777216 * (w / 16777216 % 256 * 256 ^ i) := by
    conv => lhs; rw [hw4]
    simp only [Nat.add_mul, Nat.mul_assoc]
  rw [a1, a2, a3, this]
  omega
theorem set4_swap {α : Type} (l : List α) (i : Nat) (a b c d : α) : (((l.set (i + 3) d).set (i + 2) c).set (i + 1) b).set i a = (((l.set i a).set (i + 1) b).set (i + 2) c).set (i + 3) d := by
  apply List.ext_getElem
  · simp
  · intro j h1 h2
    simp only [List.getElem_set]
    repeat' split
    all_goals first | rfl | omega
theorem rev_set {α : Type} (l : List α) (j : Nat) (v : α) (h : j < l.length) : l.reverse.set j v = (l.set (l.length - 1 - j) v).reverse := by
  apply List.ext_getElem
  · simp
  · intro k h1 h2
    simp only [List.getElem_set, List.getElem_reverse, List.length_set]
    simp only [List.length_set, List.length_reverse] at h1
    by_cases hk : j = k
    · subst hk; simp
    · rw [if_neg hk, if_neg (by omega)]
theorem lv_get {B : Nat} (hB : 0 < B) {ws : List Int} (h : ∀ x ∈ ws, 0 ≤ x ∧ x < (B : Int)) {i : Nat} (hi : i < ws.length) : ws.getD i 0 = ((lv B ws / B ^ i % B : Nat) : Int) := by
  have h1 := pd_lv hB h
  conv => lhs; rw [← h1]
  exact pd_getD hi
/-- The bytes that are written out, most significant first, have the value. -/
theorem bv_pd : ∀ (L n : Nat), n < 256 ^ L → bv ((pd 256 L n).reverse.map fun x => UInt8.ofNat x.toNat) = n
  | 0, n, h => by
    have : n = 0 := by simpa using h
    subst this; rfl
  | L + 1, n, h => by
    rw [pd_succ, List.reverse_cons, List.map_append, List.map_cons, List.map_nil, bv_snoc, Int.toNat_natCast, ofNat_toNat _ (Nat.mod_lt _ (by omega)),
      bv_pd L (n / 256) (by rw [Nat.div_lt_iff_lt_mul (by omega)]; rwa [Nat.pow_succ] at h)]
    omega
end Go.Proofs.YtejfdhcigkgbmaaDoor.PE
namespace Go.Proofs.YtejfdhcigkgbmaaDoor.PE
open Go
set_option maxRecDepth 100000
variable {G : World → (Nat → Prop) → Prop} (hG : GOk G)

/-! nat.words -/
noncomputable def b117 : Code := (loopsOf (bodyC Tryd.f117)).getD 0 .skip
def pol117 : Pol := { live := [(4, [0, 3, 14, 15])], own := [12] }
theorem enter117 : Enters Tryd.prog 117 Tryd.f117 (bodyC Tryd.f117) := ⟨Tryd.func117, by kernel_rfl, rfl⟩
theorem r117 (a : ByteArray) (n i : Int) (xs : List Int) (len : Nat) : evRound Tryd.prog [] [] pol117 Tryd.f117.ntmps 0 [0, 3, 14, 15] b117 ⟨[.s a, .sl 0 1 0 len, .i .i64 n, .i .i64 i], [some ⟨1, .ints .u32 xs⟩]⟩ =
  Tr.br (decide (i < n))
    (Tr.br
      (decide ((-9223372036854775808 : Int) ≤ (↑a.size : Int) - (1 : Int)) &&
        decide ((↑a.size : Int) - (1 : Int) ≤ (9223372036854775807 : Int)))
      (Tr.br
        (decide ((-9223372036854775808 : Int) ≤ (↑a.size : Int) - (1 : Int) - i) &&
          decide ((↑a.size : Int) - (1 : Int) - i ≤ (9223372036854775807 : Int)))
        (Tr.br
          (!decide ((4 : Int) = (0 : Int)) &&
            (decide ((-9223372036854775808 : Int) ≤ i.tdiv (4 : Int)) &&
              decide (i.tdiv (4 : Int) ≤ (9223372036854775807 : Int))))
          (Tr.br (decide ((0 : Int) ≤ i.tdiv (4 : Int)) && decide (i.tdiv (4 : Int) < (↑len : Int)))
            (Tr.br (((0 : Nat) + (i.tdiv (4 : Int)).toNat + (1 : Nat)).ble xs.length)
              (Tr.br
                (decide ((0 : Int) ≤ (↑a.size : Int) - (1 : Int) - i) &&
                  decide ((↑a.size : Int) - (1 : Int) - i < (↑a.size : Int)))
                (Tr.br (!decide ((4 : Int) = (0 : Int)))
                  (Tr.br
                    (decide ((-9223372036854775808 : Int) ≤ i.tmod (4 : Int) * (8 : Int)) &&
                      decide (i.tmod (4 : Int) * (8 : Int) ≤ (9223372036854775807 : Int)))
                    (Tr.br (decide ((0 : Int) ≤ i.tmod (4 : Int) * (8 : Int)))
                      (Tr.br (decide ((0 : Int) ≤ i.tdiv (4 : Int)) && decide (i.tdiv (4 : Int) < (↑len : Int)))
                        (Tr.br (((0 : Nat) + (i.tdiv (4 : Int)).toNat + (1 : Nat)).ble xs.length)
                          (Tr.br
                            (decide ((-9223372036854775808 : Int) ≤ i + (1 : Int)) &&
                              decide (i + (1 : Int) ≤ (9223372036854775807 : Int)))
                            (Tr.ok
                              (Res.out Exit.normal
                                {
                                  t :=
                                    [PV.s a, PV.sl (0) (1) (0) len, PV.i IntKind.i64 n,
                                      PV.i IntKind.i64 (i + (1 : Int))],
                                  h :=
                                    [some
                                        { e := 1,
                                          c :=
                                            Cont.ints IntKind.u32
                                              (xs.set ((0 : Nat) + (i.tdiv (4 : Int)).toNat)
                                                (IntKind.u32.wrap
                                                  (↑(BitVec.ofInt IntKind.u32.bits
                                                            (xs.getD ((0 : Nat) + (i.tdiv (4 : Int)).toNat) (0 : Int)) |||
                                                          BitVec.ofInt IntKind.u32.bits
                                                            (IntKind.u32.wrap
                                                              (IntKind.u32.wrap
                                                                  (↑(a.data.toList.getD
                                                                          ((↑a.size : Int) - (1 : Int) - i).toNat
                                                                          (0 : UInt8)).toNat :
                                                                    Int) *
                                                                (2 : Int) ^
                                                                  min (i.tmod (4 : Int) * (8 : Int)).toNat
                                                                    IntKind.u32.bits))).toNat :
                                                    Int))) }] }))
                            (Tr.no (9002)))
                          (Tr.no (8001)))
                        (Tr.no (8002)))
                      (Tr.no (8004)))
                    (Tr.no (8005)))
                  (Tr.no (8006)))
                (Tr.no (8009)))
              (Tr.no (8012)))
            (Tr.no (8013)))
          (Tr.no (8014)))
        (Tr.no (7002)))
      (Tr.no (7004)))
    (Tr.ok
      (Res.out (Exit.exit (0))
        { t := [PV.s a, PV.sl (0) (1) (0) len, PV.i IntKind.i64 n, PV.i IntKind.i64 i],
          h := [some { e := 1, c := Cont.ints IntKind.u32 xs }] })) := by kernel_rfl
def l117 : LSpec := fun ls K => match ls with
  | ⟨[.s a, .sl 0 1 0 len, .i .i64 n, .i .i64 i], [some ⟨1, .ints .u32 xs⟩]⟩ => .br (decide (i = 0) && decide (n = a.size) && decide (len = (a.size + 3) / 4) && decide (xs = List.replicate len 0) && Nat.ble a.size 1073741824)
      (K (.exit 0) ⟨[.s a, .sl 0 1 0 len, .i .i64 n, .i .i64 n], [some ⟨1, .ints .u32 (pd 4294967296 len (bv a.data.toList))⟩]⟩) (.no 1)
  | _ => .no 1
theorem e117 (a : ByteArray) : evF Tryd.prog [(114, s114)] [(4, l117)] pol117 Tryd.f117 [.s a] [] retK =
  Tr.br
    (decide ((-9223372036854775808 : Int) ≤ (↑(nb (bv a.1.toList)).size : Int) + (3 : Int)) &&
      decide ((↑(nb (bv a.1.toList)).size : Int) + (3 : Int) ≤ (9223372036854775807 : Int)))
    (Tr.br
      (!decide ((4 : Int) = (0 : Int)) &&
        (decide ((-9223372036854775808 : Int) ≤ ((↑(nb (bv a.1.toList)).size : Int) + (3 : Int)).tdiv (4 : Int)) &&
          decide (((↑(nb (bv a.1.toList)).size : Int) + (3 : Int)).tdiv (4 : Int) ≤ (9223372036854775807 : Int))))
      (Tr.br
        (decide
                (((↑(nb (bv a.1.toList)).size : Int) + (3 : Int)).tdiv (4 : Int) =
                  ((↑(nb (bv a.1.toList)).size : Int) + (3 : Int)).tdiv (4 : Int)) &&
              decide ((0 : Int) ≤ ((↑(nb (bv a.1.toList)).size : Int) + (3 : Int)).tdiv (4 : Int)) &&
            decide (((↑(nb (bv a.1.toList)).size : Int) + (3 : Int)).tdiv (4 : Int) ≤ (4294967296 : Int)) &&
          Tryd.prog.types[(158 : Nat)].bytes.ble (1024 : Nat))
        (Tr.br
          (decide ((0 : Int) = (0 : Int)) &&
                  decide ((↑(nb (bv a.1.toList)).size : Int) = (↑(nb (bv a.1.toList)).size : Int)) &&
                decide
                  ((((↑(nb (bv a.1.toList)).size : Int) + (3 : Int)).tdiv (4 : Int)).toNat =
                    ((nb (bv a.1.toList)).size + (3 : Nat)) / (4 : Nat)) &&
              decide
                (List.replicate (((↑(nb (bv a.1.toList)).size : Int) + (3 : Int)).tdiv (4 : Int)).toNat (0 : Int) =
                  List.replicate (((↑(nb (bv a.1.toList)).size : Int) + (3 : Int)).tdiv (4 : Int)).toNat (0 : Int)) &&
            (nb (bv a.1.toList)).size.ble (1073741824 : Nat))
          (Tr.br
            ((((↑(nb (bv a.1.toList)).size : Int) + (3 : Int)).tdiv (4 : Int)).toNat.ble
              (pd (4294967296 : Nat) (((↑(nb (bv a.1.toList)).size : Int) + (3 : Int)).tdiv (4 : Int)).toNat
                  (bv (natBytesL (bv a.1.toList) (bv a.1.toList) []).toArray.toList)).length)
            (Tr.ok
              (Res.ret
                (PV.fr (1)
                  (Cont.ints IntKind.u32
                    (List.take (((↑(nb (bv a.data.toList)).size : Int) + (3 : Int)).tdiv (4 : Int)).toNat
                      (List.drop (0 : Nat)
                        (pd (4294967296 : Nat) (((↑(nb (bv a.data.toList)).size : Int) + (3 : Int)).tdiv (4 : Int)).toNat
                          (bv (nb (bv a.data.toList)).data.toList))))))
                []))
            (Tr.no (15)))
          (Tr.no (1)))
        (Tr.no (3002)))
      (Tr.no (3003)))
    (Tr.no (3004)) := by kernel_rfl
theorem step117 (a : ByteArray) (i : Nat) (hi : i < a.size) (hs : a.size ≤ 1073741824) :
    (evRound Tryd.prog [] [] pol117 Tryd.f117.ntmps 0 [0, 3, 14, 15] b117 ⟨[.s a, .sl 0 1 0 ((a.size + 3) / 4), .i .i64 a.size, .i .i64 i], [some ⟨1, .ints .u32 (pd 4294967296 ((a.size + 3) / 4) (bv a.data.toList % 256 ^ i))⟩]⟩).run =
      some (.out .normal ⟨[.s a, .sl 0 1 0 ((a.size + 3) / 4), .i .i64 a.size, .i .i64 ((i + 1 : Nat) : Int)], [some ⟨1, .ints .u32 (pd 4294967296 ((a.size + 3) / 4) (bv a.data.toList % 256 ^ (i + 1)))⟩]⟩) := by
  have hl := ba_len a
  have h4 : ((i : Int)).tdiv 4 = ((i / 4 : Nat) : Int) := tdiv_nat i 4
  have h5 : ((i : Int)).tmod 4 = ((i % 4 : Nat) : Int) := tmod_nat i 4
  rw [r117, h4, h5]
  repeat rw [Tr.run_t (by simp only [Bool.and_eq_true, decide_eq_true_eq, Nat.ble_eq, pd_len, Bool.not_eq_true', decide_eq_false_iff_not]; omega)]
  rw [Tr.run_ok]
  have hk : i / 4 < (a.size + 3) / 4 := by omega
  have e1 : 0 + ((i / 4 : Nat) : Int).toNat = i / 4 := by rw [Int.toNat_natCast]; omega
  have e2 : ((a.size : Int) - 1 - (i : Int)).toNat = a.size - 1 - i := by omega
  have e3 : min (((i % 4 : Nat) : Int) * 8).toNat IntKind.u32.bits = 8 * (i % 4) := by
    simp only [IntKind.bits]; omega
  have e4 : (a.data.toList.getD (a.size - 1 - i) 0).toNat = bv a.data.toList / 256 ^ i % 256 := by
    rw [bv_get _ _ (by omega), hl, show a.size - 1 - (a.size - 1 - i) = i by omega]
  have e5 : ((i : Int) + 1) = ((i + 1 : Nat) : Int) := by simp
  rw [e1, e2, e3, e4, e5, pd_getD hk]
  -- the digit
  have hM : bv a.data.toList % 256 ^ i < 256 ^ i := Nat.mod_lt _ (Nat.pow_pos (by omega))
  have hb : bv a.data.toList / 256 ^ i % 256 < 256 := Nat.mod_lt _ (by omega)
  generalize hMe : bv a.data.toList % 256 ^ i = M at hM ⊢
  generalize hbe : bv a.data.toList / 256 ^ i % 256 = b at hb ⊢
  have hnext : bv a.data.toList % 256 ^ (i + 1) = M + b * 256 ^ i := by
    rw [Nat.mod_pow_succ, hMe, hbe, Nat.mul_comm]
  have hB : (4294967296 : Nat) = 256 ^ 4 := by decide
  have hie : 4 * (i / 4) + i % 4 = i := Nat.div_add_mod i 4
  have hpow : 256 ^ i = 4294967296 ^ (i / 4) * 256 ^ (i % 4) := by rw [hB, ← Nat.pow_mul, ← Nat.pow_add, hie]
  have hx : M / 4294967296 ^ (i / 4) % 4294967296 < 256 ^ (i % 4) := by
    refine Nat.lt_of_le_of_lt (Nat.mod_le _ _) ?_
    rw [Nat.div_lt_iff_lt_mul (Nat.pow_pos (by omega)), Nat.mul_comm, ← hpow]; exact hM
  have hp : (2 : Nat) ^ (8 * (i % 4)) = 256 ^ (i % 4) := by rw [Nat.pow_mul]
  have hpi : (2 : Int) ^ (8 * (i % 4)) = ((256 ^ (i % 4) : Nat) : Int) := by rw [← hp]; simp
  have hp3 : 256 ^ (i % 4) ≤ 256 ^ 3 := Nat.pow_le_pow_right (by omega) (by omega)
  have hbb : (b + 1) * 256 ^ (i % 4) ≤ 256 * 256 ^ (i % 4) := Nat.mul_le_mul_right _ (by omega)
  rw [Nat.add_mul, Nat.one_mul] at hbb
  have hval : IntKind.u32.wrap ((BitVec.ofInt IntKind.u32.bits ((M / 4294967296 ^ (i / 4) % 4294967296 : Nat) : Int) ||| BitVec.ofInt IntKind.u32.bits (IntKind.u32.wrap (IntKind.u32.wrap (b : Int) * (2 : Int) ^ (8 * (i % 4))))).toNat : Int) =
      ((M / 4294967296 ^ (i / 4) % 4294967296 + b * 256 ^ (i % 4) : Nat) : Int) := by
    have w1 : IntKind.u32.wrap (b : Int) = b := w32 (by omega) (by omega)
    have hbi : (b : Int) * ((256 ^ (i % 4) : Nat) : Int) = ((b * 256 ^ (i % 4) : Nat) : Int) := by simp
    have w2 : IntKind.u32.wrap ((b : Int) * (2 : Int) ^ (8 * (i % 4))) = (b : Int) * (2 : Int) ^ (8 * (i % 4)) := by
      rw [hpi, hbi]; exact w32 (by omega) (by omega)
    rw [w1, w2, or32c (8 * (i % 4)) b _ (by omega) (by omega) (by rw [hpi]; omega) (by rw [hpi, hbi]; omega), hpi, hbi]
    omega
  have hadd := pd_add (c := 256) (e := 4) (L := (a.size + 3) / 4) (M := M) (b := b) (i := i) (by omega) (by omega) hM hb hk
  rw [← hB] at hadd
  rw [hval, hadd, hnext]
include hG in
theorem loop117 : LoopOK Tryd.prog G Tryd.f117.ntmps 0 [0, 3, 14, 15] b117 l117 := by
  intro ls K x hm h
  unfold l117 at h
  split at h
  case h_2 => cases h
  rename_i a len n i xs
  obtain ⟨hc, hr⟩ := Tr.of_br h
  simp only [Bool.and_eq_true, decide_eq_true_eq, Nat.ble_eq] at hc
  obtain ⟨⟨⟨⟨rfl, rfl⟩, rfl⟩, rfl⟩, hs⟩ := hc
  have h0 : List.replicate ((a.size + 3) / 4) 0 = pd 4294967296 ((a.size + 3) / 4) (bv a.data.toList % 256 ^ 0) := by
    rw [Nat.pow_zero, Nat.mod_one, pd_zero]
  have hN : bv a.data.toList % 256 ^ a.size = bv a.data.toList := by
    have := bv_lt a.data.toList
    rw [ba_len] at this
    exact Nat.mod_eq_of_lt this
  rw [h0]
  refine ⟨_, _, goes_ok (Goes.count (fun i => ⟨[.s a, .sl 0 1 0 ((a.size + 3) / 4), .i .i64 a.size, .i .i64 i], [some ⟨1, .ints .u32 (pd 4294967296 ((a.size + 3) / 4) (bv a.data.toList % 256 ^ i))⟩]⟩) (e := .exit 0) (by simp) a.size 0 (fun j h1 h2 => ?_) ?_), hr⟩
  · exact round_ok hG OrcOK.nil mix (L := []) (pol := pol117) (O := []) (LpsOK.none (by kernel_rfl)) (Nat.zero_le _) (step117 a j (by omega) hs)
  · refine round_ok hG OrcOK.nil mix (L := []) (pol := pol117) (O := []) (LpsOK.none (by kernel_rfl)) (Nat.zero_le _) ?_
    rw [r117, Tr.run_f (decide_eq_false (by omega)), Tr.run_ok, Nat.zero_add, hN]
def s117 : Spec := fun args hs K => match args, hs with
  | [.s a], [] => .br (Nat.ble a.size 1073741824) (K (.fr 1 (.ints .u32 (dg 4294967296 (bv a.data.toList)))) []) (.no 1)
  | _, _ => .no 1
include hG in
theorem ok117 : SpecOK Tryd.prog G 117 s117 := by
  intro args hs K x h
  unfold s117 at h
  split at h
  case h_2 => cases h
  rename_i a
  obtain ⟨hc, hr⟩ := Tr.of_br h
  simp only [Nat.ble_eq] at hc
  refine ⟨_, _, evF_pc hG (orc114 hG) mix enter117 (hs := []) (L := [(4, l117)]) (pol := pol117) (lps1 (b := b117) (live := [0, 3, 14, 15]) (sp := l117) (m := 0) (by kernel_rfl) (by kernel_rfl) (by kernel_rfl) (loop117 hG)) ?_, hr⟩
  have hsz : (nb (bv a.data.toList)).size ≤ a.size := by
    rw [nb_size, nbl_bv, ← ba_len]
    exact (List.dropWhile_sublist _).length_le
  have hbv : bv (nb (bv a.data.toList)).data.toList = bv a.data.toList := by rw [nb_data, bv_nbl]
  have ht : (((nb (bv a.data.toList)).size : Int) + 3).tdiv 4 = ((((nb (bv a.data.toList)).size + 3) / 4 : Nat) : Int) := by
    have := tdiv_nat ((nb (bv a.data.toList)).size + 3) 4
    simpa using this
  have hdl : ((nb (bv a.data.toList)).size + 3) / 4 = (dg 4294967296 (bv a.data.toList)).length := by
    rw [nb_size]
    have hB : (4294967296 : Nat) = 256 ^ 4 := by decide
    by_cases h0 : bv a.data.toList = 0
    · rw [h0]; rfl
    · have h1 := nbl_lt (bv a.data.toList)
      have h2 := nbl_le h0
      have h3 := dg_lt (B := 4294967296) (by omega) (bv a.data.toList)
      have h4 := dg_le (B := 4294967296) (by omega) h0
      rw [hB, ← Nat.pow_mul] at h3 h4
      have h5 := (Nat.pow_lt_pow_iff_right (show 1 < 256 by omega)).1 (Nat.lt_of_le_of_lt h2 h3)
      have h6 := (Nat.pow_lt_pow_iff_right (show 1 < 256 by omega)).1 (Nat.lt_of_le_of_lt h4 h1)
      have h7 : (nbl (bv a.data.toList)).length ≠ 0 := fun h => h0 (nbl_eq_nil.1 (List.eq_nil_of_length_eq_zero h))
      rw [hB]
      omega
  rw [e117]
  simp only [ht, hbv, Int.toNat_natCast]
  rw [Tr.run_t (by simp only [Bool.and_eq_true, decide_eq_true_eq]; omega), Tr.run_t (by simp only [Bool.and_eq_true, decide_eq_true_eq, Bool.not_eq_true', decide_eq_false_iff_not]; omega),
    Tr.run_t (by rw [show (Tryd.prog.types[158].bytes.ble 1024) = true by kernel_rfl]; simp only [Bool.and_eq_true, decide_eq_true_eq, eq_self, true_and, and_true, decide_true, Bool.true_and, Bool.and_true]; omega),
    Tr.run_t (by simp only [Bool.and_eq_true, decide_eq_true_eq, Nat.ble_eq, eq_self, true_and, and_true, decide_true, Bool.true_and, Bool.and_true]; omega)]
  have hnb : bv (natBytesL (bv a.data.toList) (bv a.data.toList) []).toArray.toList = bv a.data.toList := hbv
  rw [Tr.run_t (by rw [pd_len]; simp), Tr.run_ok, List.drop_zero, List.take_of_length_le (by rw [pd_len]; exact Nat.le_refl _), hdl, pd_dg (by omega)]
end Go.Proofs.YtejfdhcigkgbmaaDoor.PE
namespace Go.Proofs.YtejfdhcigkgbmaaDoor.PE
open Go
set_option maxRecDepth 100000
variable {G : World → (Nat → Prop) → Prop} (hG : GOk G)

/-! nat.text -/
noncomputable def b118 : Code := (loopsOf (bodyC Tryd.f118)).getD 0 .skip
def pol118 : Pol := { live := [(3, [0, 3, 11, 12, 13])] }
theorem enter118 : Enters Tryd.prog 118 Tryd.f118 (bodyC Tryd.f118) := ⟨Tryd.func118, by kernel_rfl, rfl⟩
theorem r118 (n i : Int) (ws xs : List Int) (len : Nat) : evRound Tryd.prog [] [] pol118 Tryd.f118.ntmps 0 [0, 3, 11, 12, 13] b118 ⟨[.lst 1 (.ints .u32 ws), .sl 0 1 0 len, .lst 1 (.ints .u32 ws), .i .i64 n, .i .i64 i], [some ⟨1, .ints .u8 xs⟩]⟩ =
  Tr.br (decide (i < n))
    (Tr.br (decide ((0 : Int) ≤ i) && decide (i < (↑ws.length : Int)))
      (Tr.br
        (decide ((-9223372036854775808 : Int) ≤ (↑ws.length : Int) - (1 : Int)) &&
          decide ((↑ws.length : Int) - (1 : Int) ≤ (9223372036854775807 : Int)))
        (Tr.br
          (decide ((-9223372036854775808 : Int) ≤ (↑ws.length : Int) - (1 : Int) - i) &&
            decide ((↑ws.length : Int) - (1 : Int) - i ≤ (9223372036854775807 : Int)))
          (Tr.br
            (decide ((-9223372036854775808 : Int) ≤ (4 : Int) * ((↑ws.length : Int) - (1 : Int) - i)) &&
              decide ((4 : Int) * ((↑ws.length : Int) - (1 : Int) - i) ≤ (9223372036854775807 : Int)))
            (Tr.br
              (decide ((-9223372036854775808 : Int) ≤ (4 : Int) * ((↑ws.length : Int) - (1 : Int) - i) + (1 : Int)) &&
                decide ((4 : Int) * ((↑ws.length : Int) - (1 : Int) - i) + (1 : Int) ≤ (9223372036854775807 : Int)))
              (Tr.br
                (decide ((-9223372036854775808 : Int) ≤ (4 : Int) * ((↑ws.length : Int) - (1 : Int) - i) + (2 : Int)) &&
                  decide ((4 : Int) * ((↑ws.length : Int) - (1 : Int) - i) + (2 : Int) ≤ (9223372036854775807 : Int)))
                (Tr.br
                  (decide ((-9223372036854775808 : Int) ≤ (4 : Int) * ((↑ws.length : Int) - (1 : Int) - i) + (3 : Int)) &&
                    decide ((4 : Int) * ((↑ws.length : Int) - (1 : Int) - i) + (3 : Int) ≤ (9223372036854775807 : Int)))
                  (Tr.br (decide ((0 : Int) ≤ (24 : Int)))
                    (Tr.br (decide ((0 : Int) ≤ (16 : Int)))
                      (Tr.br (decide ((0 : Int) ≤ (8 : Int)))
                        (Tr.br
                          (decide ((0 : Int) ≤ (4 : Int) * ((↑ws.length : Int) - (1 : Int) - i)) &&
                            decide ((4 : Int) * ((↑ws.length : Int) - (1 : Int) - i) < (↑len : Int)))
                          (Tr.br
                            (((0 : Nat) + ((4 : Int) * ((↑ws.length : Int) - (1 : Int) - i)).toNat + (1 : Nat)).ble
                              xs.length)
                            (Tr.br
                              (decide ((0 : Int) ≤ (4 : Int) * ((↑ws.length : Int) - (1 : Int) - i) + (1 : Int)) &&
                                decide ((4 : Int) * ((↑ws.length : Int) - (1 : Int) - i) + (1 : Int) < (↑len : Int)))
                              (Tr.br
                                (((0 : Nat) + ((4 : Int) * ((↑ws.length : Int) - (1 : Int) - i) + (1 : Int)).toNat +
                                      (1 : Nat)).ble
                                  (xs.set ((0 : Nat) + ((4 : Int) * ((↑ws.length : Int) - (1 : Int) - i)).toNat)
                                      (IntKind.u8.wrap
                                        ((ws.getD i.toNat (0 : Int)).fdiv
                                          ((2 : Int) ^ min (Int.toNat (24 : Int)) IntKind.u32.bits)))).length)
                                (Tr.br
                                  (decide ((0 : Int) ≤ (4 : Int) * ((↑ws.length : Int) - (1 : Int) - i) + (2 : Int)) &&
                                    decide ((4 : Int) * ((↑ws.length : Int) - (1 : Int) - i) + (2 : Int) < (↑len : Int)))
                                  (Tr.br
                                    (((0 : Nat) + ((4 : Int) * ((↑ws.length : Int) - (1 : Int) - i) + (2 : Int)).toNat +
                                          (1 : Nat)).ble
                                      ((xs.set ((0 : Nat) + ((4 : Int) * ((↑ws.length : Int) - (1 : Int) - i)).toNat)
                                              (IntKind.u8.wrap
                                                ((ws.getD i.toNat (0 : Int)).fdiv
                                                  ((2 : Int) ^ min (Int.toNat (24 : Int)) IntKind.u32.bits)))).set
                                          ((0 : Nat) +
                                            ((4 : Int) * ((↑ws.length : Int) - (1 : Int) - i) + (1 : Int)).toNat)
                                          (IntKind.u8.wrap
                                            ((ws.getD i.toNat (0 : Int)).fdiv
                                              ((2 : Int) ^ min (Int.toNat (16 : Int)) IntKind.u32.bits)))).length)
                                    (Tr.br
                                      (decide
                                          ((0 : Int) ≤ (4 : Int) * ((↑ws.length : Int) - (1 : Int) - i) + (3 : Int)) &&
                                        decide
                                          ((4 : Int) * ((↑ws.length : Int) - (1 : Int) - i) + (3 : Int) < (↑len : Int)))
                                      (Tr.br
                                        (((0 : Nat) +
                                                ((4 : Int) * ((↑ws.length : Int) - (1 : Int) - i) + (3 : Int)).toNat +
                                              (1 : Nat)).ble
                                          (((xs.set ((0 : Nat) + ((4 : Int) * ((↑ws.length : Int) - (1 : Int) - i)).toNat)
                                                      (IntKind.u8.wrap
                                                        ((ws.getD i.toNat (0 : Int)).fdiv
                                                          ((2 : Int) ^ min (Int.toNat (24 : Int)) IntKind.u32.bits)))).set
                                                  ((0 : Nat) +
                                                    ((4 : Int) * ((↑ws.length : Int) - (1 : Int) - i) + (1 : Int)).toNat)
                                                  (IntKind.u8.wrap
                                                    ((ws.getD i.toNat (0 : Int)).fdiv
                                                      ((2 : Int) ^ min (Int.toNat (16 : Int)) IntKind.u32.bits)))).set
                                              ((0 : Nat) +
                                                ((4 : Int) * ((↑ws.length : Int) - (1 : Int) - i) + (2 : Int)).toNat)
                                              (IntKind.u8.wrap
                                                ((ws.getD i.toNat (0 : Int)).fdiv
                                                  ((2 : Int) ^ min (Int.toNat (8 : Int)) IntKind.u32.bits)))).length)
                                        (Tr.br
                                          (decide ((-9223372036854775808 : Int) ≤ i + (1 : Int)) &&
                                            decide (i + (1 : Int) ≤ (9223372036854775807 : Int)))
                                          (Tr.ok
                                            (Res.out Exit.normal
                                              {
                                                t :=
                                                  [PV.lst (1) (Cont.ints IntKind.u32 ws),
                                                    PV.sl (0) (1) (0) len,
                                                    PV.lst (1) (Cont.ints IntKind.u32 ws), PV.i IntKind.i64 n,
                                                    PV.i IntKind.i64 (i + (1 : Int))],
                                                h :=
                                                  [some
                                                      { e := 1,
                                                        c :=
                                                          Cont.ints IntKind.u8
                                                            ((((xs.set
                                                                          ((0 : Nat) +
                                                                            ((4 : Int) *
                                                                                ((↑(Cont.ints IntKind.u32 ws).len : Int) -
                                                                                    (1 : Int) -
                                                                                  i)).toNat)
                                                                          (IntKind.u8.wrap
                                                                            ((ws.getD i.toNat (0 : Int)).fdiv
                                                                              ((2 : Int) ^
                                                                                min (Int.toNat (24 : Int))
                                                                                  IntKind.u32.bits)))).set
                                                                      ((0 : Nat) +
                                                                        ((4 : Int) *
                                                                              ((↑(Cont.ints IntKind.u32 ws).len : Int) -
                                                                                  (1 : Int) -
                                                                                i) +
                                                                            (1 : Int)).toNat)
                                                                      (IntKind.u8.wrap
                                                                        ((ws.getD i.toNat (0 : Int)).fdiv
                                                                          ((2 : Int) ^
                                                                            min (Int.toNat (16 : Int))
                                                                              IntKind.u32.bits)))).set
                                                                  ((0 : Nat) +
                                                                    ((4 : Int) *
                                                                          ((↑(Cont.ints IntKind.u32 ws).len : Int) -
                                                                              (1 : Int) -
                                                                            i) +
                                                                        (2 : Int)).toNat)
                                                                  (IntKind.u8.wrap
                                                                    ((ws.getD i.toNat (0 : Int)).fdiv
                                                                      ((2 : Int) ^
                                                                        min (Int.toNat (8 : Int)) IntKind.u32.bits)))).set
                                                              ((0 : Nat) +
                                                                ((4 : Int) *
                                                                      ((↑(Cont.ints IntKind.u32 ws).len : Int) -
                                                                          (1 : Int) -
                                                                        i) +
                                                                    (3 : Int)).toNat)
                                                              (IntKind.u8.wrap (ws.getD i.toNat (0 : Int)))) }] }))
                                          (Tr.no (8002)))
                                        (Tr.no (7001)))
                                      (Tr.no (7002)))
                                    (Tr.no (7003)))
                                  (Tr.no (7004)))
                                (Tr.no (7005)))
                              (Tr.no (7006)))
                            (Tr.no (7007)))
                          (Tr.no (7008)))
                        (Tr.no (7012)))
                      (Tr.no (7015)))
                    (Tr.no (7018)))
                  (Tr.no (7020)))
                (Tr.no (7023)))
              (Tr.no (7026)))
            (Tr.no (6002)))
          (Tr.no (6003)))
        (Tr.no (6005)))
      (Tr.no (5004)))
    (Tr.ok
      (Res.out (Exit.exit (0))
        {
          t :=
            [PV.lst (1) (Cont.ints IntKind.u32 ws), PV.sl (0) (1) (0) len,
              PV.lst (1) (Cont.ints IntKind.u32 ws), PV.i IntKind.i64 n, PV.i IntKind.i64 i],
          h := [some { e := 1, c := Cont.ints IntKind.u8 xs }] })) := by kernel_rfl
def st118 (ws : List Int) (i : Nat) : LS := ⟨[.lst 1 (.ints .u32 ws), .sl 0 1 0 (4 * ws.length), .lst 1 (.ints .u32 ws), .i .i64 ws.length, .i .i64 i], [some ⟨1, .ints .u8 (pd 256 (4 * ws.length) (lv 4294967296 ws % 256 ^ (4 * i))).reverse⟩]⟩
theorem u8_fdiv (w k : Nat) : IntKind.u8.wrap ((w : Int).fdiv ((2 : Int) ^ k)) = ((w / 2 ^ k % 256 : Nat) : Int) := by
  rw [fdiv_nat, IntKind.wrap_u8']; simp
theorem step118 (ws : List Int) (hws : ∀ x ∈ ws, 0 ≤ x ∧ x < (4294967296 : Int)) (hL : ws.length ≤ 268435456) (i : Nat) (hi : i < ws.length) :
    (evRound Tryd.prog [] [] pol118 Tryd.f118.ntmps 0 [0, 3, 11, 12, 13] b118 (st118 ws i)).run = some (.out .normal (st118 ws (i + 1))) := by
  unfold st118
  rw [r118]
  repeat rw [Tr.run_t (by simp only [Bool.and_eq_true, decide_eq_true_eq, Nat.ble_eq, pd_len, List.length_reverse, List.length_set]; omega)]
  rw [Tr.run_ok]
  have e0 : ((i : Int)).toNat = i := Int.toNat_natCast i
  have e1 : 0 + ((4 : Int) * ((ws.length : Int) - 1 - (i : Int))).toNat = 4 * (ws.length - 1 - i) := by omega
  have e2 : 0 + ((4 : Int) * ((ws.length : Int) - 1 - (i : Int)) + 1).toNat = 4 * (ws.length - 1 - i) + 1 := by omega
  have e3 : 0 + ((4 : Int) * ((ws.length : Int) - 1 - (i : Int)) + 2).toNat = 4 * (ws.length - 1 - i) + 2 := by omega
  have e4 : 0 + ((4 : Int) * ((ws.length : Int) - 1 - (i : Int)) + 3).toNat = 4 * (ws.length - 1 - i) + 3 := by omega
  have m1 : min (Int.toNat 24) IntKind.u32.bits = 24 := rfl
  have m2 : min (Int.toNat 16) IntKind.u32.bits = 16 := rfl
  have m3 : min (Int.toNat 8) IntKind.u32.bits = 8 := rfl
  have hlen : (Cont.ints IntKind.u32 ws).len = ws.length := rfl
  have e5 : ((i : Int) + 1) = ((i + 1 : Nat) : Int) := by simp
  have hB : (4294967296 : Nat) = 256 ^ 4 := by decide
  have hpow : (256 : Nat) ^ (4 * i) = 4294967296 ^ i := by rw [hB, Nat.pow_mul]
  have hget := lv_get (B := 4294967296) (by omega) hws hi
  have hw : lv 4294967296 ws / 4294967296 ^ i % 4294967296 < 4294967296 := Nat.mod_lt _ (by omega)
  have hM : lv 4294967296 ws % 256 ^ (4 * i) < 256 ^ (4 * i) := Nat.mod_lt _ (Nat.pow_pos (by omega))
  have hnext : lv 4294967296 ws % 256 ^ (4 * (i + 1)) = lv 4294967296 ws % 256 ^ (4 * i) + lv 4294967296 ws / 4294967296 ^ i % 4294967296 * 256 ^ (4 * i) := by
    rw [Nat.pow_mul, ← hB, hpow, Nat.mod_pow_succ, Nat.mul_comm]
  rw [hnext]
  simp only [hlen, e0, e1, e2, e3, e4, e5, m1, m2, m3, hget]
  generalize lv 4294967296 ws / 4294967296 ^ i % 4294967296 = w at hw ⊢
  generalize lv 4294967296 ws % 256 ^ (4 * i) = M at hM ⊢
  rw [u8_fdiv, u8_fdiv, u8_fdiv]
  have hl : IntKind.u8.wrap (w : Int) = ((w % 256 : Nat) : Int) := by rw [IntKind.wrap_u8']; simp
  rw [hl]
  rw [rev_set _ _ _ (by rw [pd_len]; omega), rev_set _ _ _ (by simp only [List.length_set, pd_len]; omega), rev_set _ _ _ (by simp only [List.length_set, pd_len]; omega), rev_set _ _ _ (by simp only [List.length_set, pd_len]; omega)]
  simp only [List.length_set, pd_len]
  rw [show 4 * ws.length - 1 - 4 * (ws.length - 1 - i) = 4 * i + 3 by omega, show 4 * ws.length - 1 - (4 * (ws.length - 1 - i) + 1) = 4 * i + 2 by omega,
    show 4 * ws.length - 1 - (4 * (ws.length - 1 - i) + 2) = 4 * i + 1 by omega, show 4 * ws.length - 1 - (4 * (ws.length - 1 - i) + 3) = 4 * i by omega, set4_swap]
  have := pd_set4 (L := 4 * ws.length) (i := 4 * i) hM hw (by omega)
  rw [show (2 : Nat) ^ 24 = 16777216 by decide, show (2 : Nat) ^ 16 = 65536 by decide, show (2 : Nat) ^ 8 = 256 by decide, this]
def l118 : LSpec := fun ls K => match ls with
  | ⟨[.lst 1 (.ints .u32 ws), .sl 0 1 0 len, .lst 1 (.ints .u32 ws'), .i .i64 n, .i .i64 i], [some ⟨1, .ints .u8 xs⟩]⟩ =>
      .br (decide (i = 0) && decide (ws' = ws) && decide (n = ws.length) && decide (len = 4 * ws.length) && decide (xs = List.replicate len 0) && Nat.ble ws.length 268435456 && ws.all (fun x => decide (0 ≤ x) && decide (x < 4294967296)))
      (K (.exit 0) ⟨[.lst 1 (.ints .u32 ws), .sl 0 1 0 len, .lst 1 (.ints .u32 ws), .i .i64 n, .i .i64 n], [some ⟨1, .ints .u8 (pd 256 (4 * ws.length) (lv 4294967296 ws)).reverse⟩]⟩) (.no 1)
  | _ => .no 1
theorem e118 (ws : List Int) : evF Tryd.prog [(114, s114)] [(3, l118)] pol118 Tryd.f118 [.lst 1 (.ints .u32 ws)] [] retK =
  Tr.br
    (decide ((-9223372036854775808 : Int) ≤ (4 : Int) * (↑ws.length : Int)) &&
      decide ((4 : Int) * (↑ws.length : Int) ≤ (9223372036854775807 : Int)))
    (Tr.br
      (decide ((4 : Int) * (↑ws.length : Int) = (4 : Int) * (↑ws.length : Int)) &&
            decide ((0 : Int) ≤ (4 : Int) * (↑ws.length : Int)) &&
          decide ((4 : Int) * (↑ws.length : Int) ≤ (4294967296 : Int)) &&
        Tryd.prog.types[(5 : Nat)].bytes.ble (1024 : Nat))
      (Tr.br
        (decide ((0 : Int) = (0 : Int)) && decide (ws = ws) && decide ((↑ws.length : Int) = (↑ws.length : Int)) &&
                decide (((4 : Int) * (↑ws.length : Int)).toNat = (4 : Nat) * ws.length) &&
              decide
                (List.replicate ((4 : Int) * (↑ws.length : Int)).toNat (0 : Int) =
                  List.replicate ((4 : Int) * (↑ws.length : Int)).toNat (0 : Int)) &&
            ws.length.ble (268435456 : Nat) &&
          ws.all fun (x : Int) => decide ((0 : Int) ≤ x) && decide (x < (4294967296 : Int)))
        (Tr.br
          (((0 : Nat) + ((4 : Int) * (↑ws.length : Int)).toNat).ble
            (pd (256 : Nat) ((4 : Nat) * ws.length) (lv (4294967296 : Nat) ws)).reverse.length)
          (Tr.ok
            (Res.ret
              (PV.s
                (nb
                  (bv
                    (List.map (fun (n : Int) => UInt8.ofNat n.toNat)
                          (List.take ((4 : Int) * (↑ws.length : Int)).toNat
                            (List.drop (0 : Nat)
                              (pd (256 : Nat) ((4 : Nat) * ws.length)
                                  (lv (4294967296 : Nat) ws)).reverse))).toArray.toList)))
              []))
          (Tr.no (9003)))
        (Tr.no (1)))
      (Tr.no (2002)))
    (Tr.no (2003)) := by kernel_rfl
include hG in
theorem loop118 : LoopOK Tryd.prog G Tryd.f118.ntmps 0 [0, 3, 11, 12, 13] b118 l118 := by
  intro ls K x hm h
  unfold l118 at h
  split at h
  case h_2 => cases h
  rename_i ws len ws' n i xs
  obtain ⟨hc, hr⟩ := Tr.of_br h
  simp only [Bool.and_eq_true, decide_eq_true_eq, Nat.ble_eq, List.all_eq_true] at hc
  obtain ⟨⟨⟨⟨⟨⟨rfl, rfl⟩, rfl⟩, rfl⟩, rfl⟩, hs⟩, hws⟩ := hc
  have h0 : (⟨[.lst 1 (.ints .u32 ws'), .sl 0 1 0 (4 * ws'.length), .lst 1 (.ints .u32 ws'), .i .i64 ws'.length, .i .i64 0], [some ⟨1, .ints .u8 (List.replicate (4 * ws'.length) 0)⟩]⟩ : LS) = st118 ws' 0 := by
    simp [st118, Nat.mod_one, pd_zero]
  have hN : lv 4294967296 ws' % 256 ^ (4 * ws'.length) = lv 4294967296 ws' := by
    have := lv_lt (B := 4294967296) (xs := ws') fun x hx => by have := hws x hx; omega
    rw [Nat.pow_mul]
    exact Nat.mod_eq_of_lt this
  rw [h0]
  refine ⟨_, _, goes_ok (Goes.count (st118 ws') (e := .exit 0) (by simp) ws'.length 0 (fun j h1 h2 => ?_) ?_), hr⟩
  · exact round_ok hG OrcOK.nil mix (L := []) (pol := pol118) (O := []) (LpsOK.none (by kernel_rfl)) (Nat.zero_le _) (step118 ws' hws hs j (by omega))
  · refine round_ok hG OrcOK.nil mix (L := []) (pol := pol118) (O := []) (LpsOK.none (by kernel_rfl)) (Nat.zero_le _) ?_
    rw [Nat.zero_add]
    unfold st118
    rw [r118, Tr.run_f (decide_eq_false (by omega)), Tr.run_ok, hN]
def s118 : Spec := fun args hs K => match args, hs with
  | [.lst 1 (.ints .u32 ws)], [] => .br (Nat.ble ws.length 268435456 && ws.all (fun x => decide (0 ≤ x) && decide (x < 4294967296))) (K (.s (nb (lv 4294967296 ws))) []) (.no 1)
  | _, _ => .no 1
include hG in
theorem ok118 : SpecOK Tryd.prog G 118 s118 := by
  intro args hs K x h
  unfold s118 at h
  split at h
  case h_2 => cases h
  rename_i ws
  obtain ⟨hc, hr⟩ := Tr.of_br h
  simp only [Bool.and_eq_true, Nat.ble_eq] at hc
  have hws : ∀ x ∈ ws, 0 ≤ x ∧ x < (4294967296 : Int) := by
    intro x hx
    have := List.all_eq_true.1 hc.2 x hx
    simpa using this
  refine ⟨_, _, evF_pc hG (orc114 hG) mix enter118 (hs := []) (L := [(3, l118)]) (pol := pol118) (lps1 (b := b118) (live := [0, 3, 11, 12, 13]) (sp := l118) (m := 0) (by kernel_rfl) (by kernel_rfl) (by kernel_rfl) (loop118 hG)) ?_, hr⟩
  have hn : ((4 : Int) * (ws.length : Int)).toNat = 4 * ws.length := by omega
  have hlt : lv 4294967296 ws < 256 ^ (4 * ws.length) := by
    have := lv_lt (B := 4294967296) (xs := ws) fun x hx => by have := hws x hx; omega
    rw [Nat.pow_mul]
    exact this
  rw [e118, hn]
  rw [Tr.run_t (by simp only [Bool.and_eq_true, decide_eq_true_eq]; omega),
    Tr.run_t (by rw [show (Tryd.prog.types[5].bytes.ble 1024) = true by kernel_rfl]; simp only [Bool.and_eq_true, decide_eq_true_eq, true_and, and_true, decide_true, Bool.true_and, Bool.and_true]; omega),
    Tr.run_t (by rw [hc.2]; simp only [Bool.and_eq_true, decide_eq_true_eq, Nat.ble_eq, true_and, and_true, decide_true, Bool.true_and, Bool.and_true]; omega),
    Tr.run_t (by simp only [Nat.ble_eq, List.length_reverse, pd_len]; omega), Tr.run_ok, List.drop_zero, List.take_of_length_le (by rw [List.length_reverse, pd_len]; exact Nat.le_refl _)]
  have := bv_pd (4 * ws.length) (lv 4294967296 ws) hlt
  simp only [this]
end Go.Proofs.YtejfdhcigkgbmaaDoor.PE
namespace Go.Proofs.YtejfdhcigkgbmaaDoor.PE
open Go
set_option maxRecDepth 100000
variable {G : World → (Nat → Prop) → Prop} (hG : GOk G)

/-! nat.Of -/
theorem enter107 : Enters Tryd.prog 107 Tryd.f107 (bodyC Tryd.f107) := ⟨Tryd.func107, by kernel_rfl, rfl⟩
theorem e107 (n : Int) : evF Tryd.prog [(115, s115)] [] {} Tryd.f107 [.i .i64 n] [] retK =
  Tr.br (decide (n < (1 : Int))) (Tr.ok (Res.ret (PV.s { data := #[] }) []))
    (Tr.br (decide ((0 : Int) ≤ IntKind.u64.wrap n) && decide (IntKind.u64.wrap n < (18446744073709551616 : Int)))
      (Tr.ok (Res.ret (PV.s (nb (IntKind.u64.wrap n).toNat)) [])) (Tr.no (1))) := by kernel_rfl
def s107 : Spec := fun args hs K => match args, hs with
  | [.i .i64 n], [] => .br (decide (n ≤ 9223372036854775807)) (K (.s (nb n.toNat)) []) (.no 1)
  | _, _ => .no 1
include hG in
theorem ok107 : SpecOK Tryd.prog G 107 s107 := by
  intro args hs K x h
  unfold s107 at h
  split at h
  case h_2 => cases h
  rename_i n
  obtain ⟨hc, hr⟩ := Tr.of_br h
  simp only [decide_eq_true_eq] at hc
  refine ⟨_, _, evF_pc hG (.cons (ok115 hG) .nil) mix enter107 (hs := []) (L := []) (pol := {}) (LpsOK.none (by kernel_rfl)) ?_, hr⟩
  rw [e107]
  by_cases h1 : n < 1
  · rw [Tr.run_t (decide_eq_true h1), Tr.run_ok, show n.toNat = 0 by omega]; rfl
  · rw [Tr.run_f (decide_eq_false h1), w64 (by omega) (by omega), Tr.run_t (by simp only [Bool.and_eq_true, decide_eq_true_eq]; omega), Tr.run_ok]

/-! nat.common -/
noncomputable def b128 : Code := (loopsOf (bodyC Tryd.f128)).getD 0 .skip
def pol128 : Pol := { live := [(1, [0, 1])] }
theorem enter128 : Enters Tryd.prog 128 Tryd.f128 (bodyC Tryd.f128) := ⟨Tryd.func128, by kernel_rfl, rfl⟩
theorem r128 (x y : Int) : evRound Tryd.prog [] [] pol128 Tryd.f128.ntmps 0 [0, 1] b128 ⟨[.i .u64 x, .i .u64 y], []⟩ =
  Tr.br (decide ((0 : Int) < y))
    (Tr.br (!decide (y = (0 : Int)))
      (Tr.ok (Res.out Exit.normal { t := [PV.i IntKind.u64 y, PV.i IntKind.u64 (x.tmod y)], h := [] }))
      (Tr.no (3003)))
    (Tr.ok (Res.out (Exit.exit (0)) { t := [PV.i IntKind.u64 x, PV.i IntKind.u64 y], h := [] })) := by kernel_rfl
def l128 : LSpec := fun ls K => match ls with
  | ⟨[.i .u64 x, .i .u64 y], []⟩ => .br (decide (0 ≤ x) && decide (0 ≤ y)) (K (.exit 0) ⟨[.i .u64 (Nat.gcd x.toNat y.toNat), .i .u64 0], []⟩) (.no 1)
  | _ => .no 1
theorem e128 (x y : Int) : evF Tryd.prog [] [(1, l128)] pol128 Tryd.f128 [.i .u64 x, .i .u64 y] [] retK =
  Tr.br (decide ((0 : Int) ≤ x) && decide ((0 : Int) ≤ y))
    (Tr.ok (Res.ret (PV.i IntKind.u64 (↑(x.toNat.gcd y.toNat) : Int)) [])) (Tr.no (1)) := by kernel_rfl
include hG in
theorem goes128 : ∀ (y x : Nat), Goes (Rnd Tryd.prog G Tryd.f128.ntmps 0 [0, 1] b128) ⟨[.i .u64 x, .i .u64 y], []⟩ (.exit 0) ⟨[.i .u64 (Nat.gcd x y), .i .u64 0], []⟩ := by
  intro y
  induction y using Nat.strongRecOn with
  | _ y ih =>
    intro x
    by_cases h : y = 0
    · subst h
      refine .last _ _ _ (round_ok hG OrcOK.nil mix (L := []) (pol := pol128) (O := []) (LpsOK.none (by kernel_rfl)) (Nat.zero_le _) ?_) (by simp)
      rw [r128, Tr.run_f (by decide), Tr.run_ok, Nat.gcd_zero_right]; rfl
    · refine .more _ ⟨[.i .u64 y, .i .u64 (x % y : Nat)], []⟩ _ _ (round_ok hG OrcOK.nil mix (L := []) (pol := pol128) (O := []) (LpsOK.none (by kernel_rfl)) (Nat.zero_le _) ?_) ?_
      · rw [r128, Tr.run_t (decide_eq_true (by omega)), Tr.run_t (by rw [decide_eq_false (by omega)]; rfl), Tr.run_ok, tmod_nat]
      · have := ih (x % y) (Nat.mod_lt _ (by omega)) y
        rwa [Nat.gcd_comm y, ← Nat.gcd_rec, Nat.gcd_comm y] at this
def s128 : Spec := fun args hs K => match args, hs with
  | [.i .u64 x, .i .u64 y], [] => .br (decide (0 ≤ x) && decide (0 ≤ y)) (K (.i .u64 (Nat.gcd x.toNat y.toNat)) []) (.no 1)
  | _, _ => .no 1
include hG in
theorem ok128 : SpecOK Tryd.prog G 128 s128 := by
  intro args hs K x h
  unfold s128 at h
  split at h
  case h_2 => cases h
  rename_i x y
  obtain ⟨hc, hr⟩ := Tr.of_br h
  refine ⟨_, _, evF_pc hG OrcOK.nil mix enter128 (hs := []) (L := [(1, l128)]) (pol := pol128) (O := []) (lps1 (b := b128) (live := [0, 1]) (sp := l128) (m := 0) (by kernel_rfl) (by kernel_rfl) (by kernel_rfl) ?_) (by rw [e128, Tr.run_t hc]; rfl), hr⟩
  intro ls K x hm h
  unfold l128 at h
  split at h
  case h_2 => cases h
  rename_i x y
  obtain ⟨hc, hr⟩ := Tr.of_br h
  simp only [Bool.and_eq_true, decide_eq_true_eq] at hc
  obtain ⟨a, rfl⟩ := Int.eq_ofNat_of_zero_le hc.1
  obtain ⟨b, rfl⟩ := Int.eq_ofNat_of_zero_le hc.2
  exact ⟨_, _, goes_ok (goes128 hG b a), hr⟩
end Go.Proofs.YtejfdhcigkgbmaaDoor.PE
namespace Go.Proofs.YtejfdhcigkgbmaaDoor.PE
open Go
set_option maxRecDepth 100000
variable {G : World → (Nat → Prop) → Prop} (hG : GOk G)

/-! Functions without a body -/
theorem pc_extern {P : Program} {g : Nat} {fn : Func} {e : Array Value → Sem Value} (hf : P.funcs[g]? = some fn) (hname : (fn.name == "runtime.NumGoroutine") = false) (hb : fn.body = none)
    (hx : Extern.findNext fn = none) (he : Extern.find fn = some e) {args : List PV} {r : PV} (hr : unfr 0 r = (r, []))
    (h : ∀ (w : World) (S : Nat → Prop) (μ : Mu) (vs : List Value), RepVL w S μ args vs → ∃ v, (e vs.toArray).run P w = .ok v w ∧ RepV w S μ r v) : PC P G g args [] r [] := by
  intro w S μ vs _ hrep hh hmu o a K Q hK
  obtain ⟨v, h1, h2⟩ := h w S μ vs hrep
  have hn : fn.name ≠ "runtime.NumGoroutine" := by simpa using hname
  have : (callFunc g vs.toArray).run P w = .ok (.value v) w := by
    simp [callFunc, hf, hn, hb, hx, he, h1]
  rw [this, Oper.upon_value]
  refine hK v w ⟨S, μ, ⟨rfl, rfl, rfl, Nat.le_refl _, fun _ _ _ => rfl, fun _ h => h, fun _ h => .inl h, fun _ _ => rfl, ?_, fun j k hj => by simp at hj, fun j k hj => ?_, fun j j' a z z' hj => ?_⟩⟩
  · simp only [List.length_nil, hr]; exact h2
  · simp only [List.length_nil, hr] at hj; simp at hj
  · simp only [List.length_nil, hr] at hj; simp at hj
theorem repVL_two {w : World} {S : Nat → Prop} {μ : Mu} {u v : PV} {vs : List Value} (h : RepVL w S μ [u, v] vs) : ∃ x y, vs = [x, y] ∧ RepV w S μ u x ∧ RepV w S μ v y := by
  cases h with | cons _ _ _ x xs h1 h2 => cases h2 with | cons _ _ _ y ys h3 h4 => cases h4; exact ⟨x, y, rfl, h1, h3⟩
theorem repVL_three {w : World} {S : Nat → Prop} {μ : Mu} {u v t : PV} {vs : List Value} (h : RepVL w S μ [u, v, t] vs) : ∃ x y z, vs = [x, y, z] ∧ RepV w S μ u x ∧ RepV w S μ v y ∧ RepV w S μ t z := by
  cases h with | cons _ _ _ x xs h1 h2 => obtain ⟨y, z, rfl, h3, h4⟩ := repVL_two h2; exact ⟨x, y, z, rfl, h1, h3, h4⟩

def s145 : Spec := fun args hs K => match args, hs with
  | [.s a, .s b], [] => K (.i .i64 (Extern.BytealgCompare.cmp a b)) []
  | _, _ => .no 1
theorem ok145 : SpecOK Tryd.prog G 145 s145 := by
  intro args hs K x h
  unfold s145 at h
  split at h
  case h_2 => cases h
  rename_i a b
  refine ⟨_, _, pc_extern (e := Extern.BytealgCompare.compare) Tryd.func145 (by kernel_rfl) (by rfl) (by kernel_rfl) (by kernel_rfl) rfl (fun w S μ vs hv => ?_), h⟩
  obtain ⟨x, y, rfl, h1, h2⟩ := repVL_two hv
  rw [repV_s h1, repV_s h2]
  refine ⟨_, ?_, repV_mk_i _ _⟩
  rfl
end Go.Proofs.YtejfdhcigkgbmaaDoor.PE
/-! Rational numbers as signs, numerators and denominators. -/
namespace Go.Proofs.YtejfdhcigkgbmaaDoor.PE
open Go

def sg (neg : Bool) (n : Nat) : Int := match neg with | true => -(n : Int) | false => n
theorem sg_natAbs (neg : Bool) (n : Nat) : (sg neg n).natAbs = n := by cases neg <;> simp [sg]
theorem sg_num (x : Rat) : sg (rneg x) x.num.natAbs = x.num := by
  unfold sg rneg
  by_cases h : x.num < 0
  · rw [decide_eq_true h]; show -((x.num.natAbs : Int)) = _; omega
  · rw [decide_eq_false h]; show ((x.num.natAbs : Int)) = _; omega
theorem rnum_eq (x : Rat) : rnum x = nb x.num.natAbs := rfl
theorem rden_eq (x : Rat) : rden x = nb x.den := rfl
theorem nb_zero : nb 0 = ⟨#[]⟩ := rfl
theorem nb_eq_empty {n : Nat} : nb n = ⟨#[]⟩ ↔ n = 0 := ⟨fun h => nb_inj (h.trans nb_zero.symm), fun h => by rw [h]; rfl⟩
theorem nb_onev : nb 1 = ⟨#[1]⟩ := rfl
theorem nb_eq_one {n : Nat} : nb n = ⟨#[1]⟩ ↔ n = 1 := ⟨fun h => nb_inj (h.trans nb_onev.symm), fun h => by rw [h]; rfl⟩
theorem bv_nb (n : Nat) : bv (nb n).data.toList = n := by rw [nb_data, bv_nbl]
theorem nb_size_le {n k : Nat} (h : n < 256 ^ k) : (nb n).size ≤ k := by rw [nb_size]; exact nbl_length_le h
theorem nb_lt {n k : Nat} (h : (nb n).size ≤ k) : n < 256 ^ k := by
  have := nbl_lt n
  rw [nb_size] at h
  exact Nat.lt_of_lt_of_le this (Nat.pow_le_pow_right (by omega) h)
theorem nb_size_pos {n : Nat} (h : n ≠ 0) : 0 < (nb n).size := by
  rw [nb_size]
  rcases Nat.eq_zero_or_pos (nbl n).length with h1 | h1
  · exact absurd (nbl_eq_nil.1 (List.eq_nil_of_length_eq_zero h1)) h
  · exact h1
theorem nbl_head {n : Nat} (h : n ≠ 0) : (nbl n).getD 0 0 ≠ 0 := by
  have h1 := nbl_bv (nbl n)
  rw [bv_nbl] at h1
  cases hl : nbl n with
  | nil => exact absurd (nbl_eq_nil.1 hl) h
  | cons b l =>
    rw [hl] at h1
    simp only [List.getD_cons_zero]
    intro hb
    subst hb
    have : ((0 : UInt8) :: l).dropWhile (· == 0) = l.dropWhile (· == 0) := by simp [List.dropWhile]
    rw [this] at h1
    have h2 := (List.dropWhile_sublist (l := l) (· == (0 : UInt8))).length_le
    rw [← h1] at h2
    simp at h2
    omega
theorem nb_head {n : Nat} (h : n ≠ 0) : ¬ (((nb n).data.toList.getD 0 0).toNat : Int) = 0 := by
  rw [nb_data]
  intro h1
  exact nbl_head h (UInt8.toNat_inj.1 (by rw [show ((nbl n).getD 0 0).toNat = 0 by omega]; rfl))

/-- The number of a sign, a numerator and a denominator. -/
def mkz (neg : Bool) (n d : Nat) : Rat := mkRat (sg neg n) d
theorem mkz_num {neg : Bool} {n d : Nat} (hd : d ≠ 0) : (mkz neg n d).num = sg neg (n / n.gcd d) := by
  unfold mkz
  rw [Rat.num_mkRat, if_neg hd, sg_natAbs, Nat.gcd_comm]
  cases neg with
  | false => rfl
  | true =>
    show -(n : Int) / ((n.gcd d : Nat) : Int) = -(((n / n.gcd d : Nat)) : Int)
    rw [Int.neg_ediv_of_dvd (by exact_mod_cast Nat.gcd_dvd_left n d)]
    simp
theorem mkz_den {neg : Bool} {n d : Nat} (hd : d ≠ 0) : (mkz neg n d).den = d / n.gcd d := by
  unfold mkz
  rw [Rat.den_mkRat, if_neg hd, sg_natAbs, Nat.gcd_comm]
theorem mkz_natAbs {neg : Bool} {n d : Nat} (hd : d ≠ 0) : (mkz neg n d).num.natAbs = n / n.gcd d := by rw [mkz_num hd, sg_natAbs]
theorem mkz_rneg {neg : Bool} {n d : Nat} (hd : d ≠ 0) (hn : n ≠ 0) : rneg (mkz neg n d) = neg := by
  unfold rneg
  rw [mkz_num hd]
  have h1 : 0 < n / n.gcd d := Nat.div_pos (Nat.le_of_dvd (by omega) (Nat.gcd_dvd_left n d)) (Nat.gcd_pos_of_pos_left _ (by omega))
  cases neg with
  | true => exact decide_eq_true (show -(((n / n.gcd d : Nat)) : Int) < 0 by omega)
  | false => exact decide_eq_false (show ¬ (((n / n.gcd d : Nat)) : Int) < 0 by omega)
theorem mkz_zero (neg : Bool) (d : Nat) : mkz neg 0 d = 0 := by cases neg <;> simp [mkz, sg]
theorem mkz_self (x : Rat) : mkz (rneg x) x.num.natAbs x.den = x := by unfold mkz; rw [sg_num, Rat.mkRat_self]

theorem rat_mul_mkz (x y : Rat) : x * y = mkz (rneg x != rneg y) (x.num.natAbs * y.num.natAbs) (x.den * y.den) := by
  rw [Rat.mul_def']
  unfold mkz
  congr 1
  rw [← sg_num x, ← sg_num y, sg_natAbs, sg_natAbs]
  cases rneg x <;> cases rneg y <;> simp [sg, Int.neg_mul, Int.mul_neg]
theorem sg_zero (b : Bool) : sg b 0 = 0 := by cases b <;> rfl
theorem rat_den_ne (x : Rat) : x.den ≠ 0 := x.den_nz
/-- What signed computes. -/
def sgn2 (neg : Bool) (a : Nat) (minus : Bool) (b : Nat) : Bool × Nat :=
  match neg == minus with
  | true => (neg, a + b)
  | false => if b ≤ a then (neg, a - b) else (minus, b - a)
theorem sgn2_eq (neg : Bool) (a : Nat) (minus : Bool) (b : Nat) : sg (sgn2 neg a minus b).1 (sgn2 neg a minus b).2 = sg neg a + sg minus b := by
  unfold sgn2
  cases neg <;> cases minus
  · show ((a + b : Nat) : Int) = (a : Int) + (b : Int); omega
  · show sg (if b ≤ a then (false, a - b) else (true, b - a)).1 (if b ≤ a then (false, a - b) else (true, b - a)).2 = (a : Int) + -(b : Int)
    split
    · show ((a - b : Nat) : Int) = _; omega
    · show -((b - a : Nat) : Int) = _; omega
  · show sg (if b ≤ a then (true, a - b) else (false, b - a)).1 (if b ≤ a then (true, a - b) else (false, b - a)).2 = -(a : Int) + (b : Int)
    split
    · show -((a - b : Nat) : Int) = _; omega
    · show ((b - a : Nat) : Int) = _; omega
  · show -((a + b : Nat) : Int) = -(a : Int) + -(b : Int); omega
theorem rat_add_mkz (x y : Rat) : x + y = mkz (sgn2 (rneg x) (x.num.natAbs * y.den) (rneg y) (y.num.natAbs * x.den)).1 (sgn2 (rneg x) (x.num.natAbs * y.den) (rneg y) (y.num.natAbs * x.den)).2 (x.den * y.den) := by
  rw [Rat.add_def']
  unfold mkz
  rw [sgn2_eq]
  congr 1
  have h : ∀ (b : Bool) (n m : Nat), sg b (n * m) = sg b n * m := by intro b n m; cases b <;> simp [sg, Int.neg_mul]
  rw [h, h, sg_num, sg_num]
theorem rat_add_same (x y : Rat) (h : x.den = y.den) : x + y = mkz (sgn2 (rneg x) x.num.natAbs (rneg y) y.num.natAbs).1 (sgn2 (rneg x) x.num.natAbs (rneg y) y.num.natAbs).2 x.den := by
  rw [Rat.add_def']
  unfold mkz
  rw [sgn2_eq, sg_num, sg_num, ← h, ← Int.add_mul, Rat.mkRat_mul_right x.den_nz]

/-- Compared: -1, 0 or 1. -/
def ncmp (n m : Nat) : Int := if n < m then -1 else if m < n then 1 else 0
def rcmp (x y : Rat) : Int := if x < y then -1 else if y < x then 1 else 0
def rsign (x : Rat) : Int := if x.num < 0 then -1 else if x.num = 0 then 0 else 1
theorem rcmp_cross (x y : Rat) : rcmp x y = if x.num * y.den < y.num * x.den then -1 else if y.num * x.den < x.num * y.den then 1 else 0 := by
  unfold rcmp
  simp only [Rat.lt_iff]
theorem rcmp_lt {x y : Rat} : rcmp x y < 0 ↔ x < y := by
  unfold rcmp
  have := @Rat.lt_irrefl x
  split <;> simp_all
  split <;> simp_all
theorem rcmp_gt {x y : Rat} : 0 < rcmp x y ↔ y < x := by
  unfold rcmp
  split
  · rename_i h; simp; exact Rat.not_lt.2 (Rat.le_of_lt h)
  · split <;> simp_all
theorem rcmp_eq {x y : Rat} : rcmp x y = 0 ↔ x = y := by
  unfold rcmp
  split
  · rename_i h; simp; exact Rat.ne_of_lt h
  · split
    · rename_i h; simp; exact fun e => Rat.ne_of_lt h e.symm
    · rename_i h1 h2; simp; exact Rat.le_antisymm (Rat.not_lt.1 h2) (Rat.not_lt.1 h1)
theorem rcmp_le {x y : Rat} : rcmp x y ≤ 0 ↔ x ≤ y := by
  rw [← Int.not_lt, rcmp_gt, Rat.not_lt]
theorem rcmp_ge {x y : Rat} : 0 ≤ rcmp x y ↔ y ≤ x := by
  rw [← Int.not_lt, rcmp_lt, Rat.not_lt]

/-! ### Sizes -/
theorem sz_le {x : Rat} {k : Nat} (h1 : x.num.natAbs < 2 ^ k) (h2 : x.den < 2 ^ k) (hk : 0 < k) : sz x ≤ k := by
  unfold sz
  have a : x.num.natAbs.log2 < k := by
    by_cases h : x.num.natAbs = 0
    · rw [h]; simpa using hk
    · exact (Nat.log2_lt h).2 h1
  have b : x.den.log2 < k := (Nat.log2_lt x.den_nz).2 h2
  omega
theorem mkRat_den_le (n : Int) {d : Nat} (hd : d ≠ 0) : (mkRat n d).den ≤ d := by
  rw [Rat.den_mkRat, if_neg hd]; exact Nat.div_le_self _ _
theorem mkRat_num_le (n : Int) {d : Nat} (hd : d ≠ 0) : (mkRat n d).num.natAbs ≤ n.natAbs := by
  rw [Rat.num_mkRat, if_neg hd]
  have h : ((d.gcd n.natAbs : Nat) : Int) ∣ n := by
    rw [← Int.dvd_natAbs]; exact_mod_cast Nat.gcd_dvd_right d n.natAbs
  rw [Int.natAbs_ediv_of_dvd h]
  exact Nat.div_le_self _ _
theorem rat_small {x : Rat} {n : Int} {d : Nat} (hd : d ≠ 0) (h : x = mkRat n d) : x.num.natAbs ≤ n.natAbs ∧ x.den ≤ d := by
  subst h; exact ⟨mkRat_num_le n hd, mkRat_den_le n hd⟩

/-! ### Structs of a sign and two strings, seen as numbers -/
theorem vle_q {nv : PV} {x : Rat} {n : Nat} (h : bof nv = some (rneg x)) (hs : sz x ≤ n) : VLe (.agg [nv, .s (rnum x), .s (rden x)]) (.q x n) := by
  have key : ∀ (w : World) (S : Nat → Prop) (μ : Mu) (cs : List Value), RepC w S μ (.agg [nv, .s (rnum x), .s (rden x)]) cs → RepC w S μ (.q x n) cs := by
    intro w S μ cs hc
    cases hc with
    | agg _ _ _ hl =>
    cases hl with
    | cons _ _ _ c1 d1 h1 hl =>
    cases hl with
    | cons _ _ _ c2 d2 h2 hl =>
    cases hl with
    | cons _ _ _ c3 d3 h3 hl =>
    cases hl
    cases h2; cases h3
    have e1 : c1 = [.bool (rneg x)] := by
      cases nv <;> simp [bof] at h <;> subst h <;> cases h1 <;> rfl
    subst e1
    exact .q _ _ _ hs
  refine ⟨rfl, fun w S μ => ⟨key w S μ, fun v hv => ?_⟩⟩
  cases hv with
  | cell _ _ _ hv h => simp [isAgg] at hv
  | agg _ _ cs hv h => exact .agg _ _ _ rfl (key w S μ cs h)
theorem rle_q {nv : PV} {x : Rat} {n : Nat} (h : bof nv = some (rneg x)) (hs : sz x ≤ n) : RLe (.agg [nv, .s (rnum x), .s (rden x)]) (.q x n) := by
  have hu : ∀ m, unfr m (.agg [nv, .s (rnum x), .s (rden x)]) = (.agg [nv, .s (rnum x), .s (rden x)], []) := by
    intro m
    cases nv <;> simp [bof] at h <;> rfl
  refine ⟨fun m => ?_, fun m => ?_⟩
  · rw [hu]; exact vle_q h hs
  · rw [hu]; exact .refl _
theorem vle_qq {x : Rat} {n m : Nat} (hs : sz x ≤ m) : VLe (.q x n) (.q x m) := by
  have key : ∀ (w : World) (S : Nat → Prop) (μ : Mu) (cs : List Value), RepC w S μ (.q x n) cs → RepC w S μ (.q x m) cs := by
    intro w S μ cs hc
    cases hc
    exact .q _ _ _ hs
  refine ⟨rfl, fun w S μ => ⟨key w S μ, fun v hv => ?_⟩⟩
  cases hv with
  | cell _ _ _ hv h => simp [isAgg] at hv
  | agg _ _ cs hv h => exact .agg _ _ _ rfl (key w S μ cs h)
theorem rle_qq {x : Rat} {n m : Nat} (hs : sz x ≤ m) : RLe (.q x n) (.q x m) := ⟨fun _ => vle_qq hs, fun _ => .refl _⟩
end Go.Proofs.YtejfdhcigkgbmaaDoor.PE
/-! Comparing strings of bytes; loops of a few rounds. -/
namespace Go.Proofs.YtejfdhcigkgbmaaDoor.PE
open Go

theorem bs_get (l : List UInt8) (i : Nat) : (bs l)[i]! = l.getD i 0 := by
  by_cases h : i < (bs l).size
  · rw [getElem!_pos (bs l) i h]
    have h' : i < l.length := by rwa [bs_size] at h
    simp [List.getD_eq_getElem?_getD, h']
    rfl
  · rw [getElem!_neg (bs l) i h]
    have h' : l.length ≤ i := by rw [bs_size] at h; omega
    simp [List.getD_eq_getElem?_getD, h']
    rfl
theorem bv_split (l : List UInt8) (i : Nat) (h : i < l.length) : bv l = bv (l.take i) * 256 ^ (l.length - i) + ((l.getD i 0).toNat * 256 ^ (l.length - i - 1) + bv (l.drop (i + 1))) := by
  have h1 : l = l.take i ++ (l[i] :: l.drop (i + 1)) := by rw [List.getElem_cons_drop, List.take_append_drop]
  have h2 : l.getD i 0 = l[i] := by simp [List.getD_eq_getElem?_getD, h]
  have h3 : (l.drop (i + 1)).length = l.length - i - 1 := by simp; omega
  have h4 : (l[i] :: l.drop (i + 1)).length = l.length - i := by simp
  conv => lhs; rw [h1, bv_append, bv_cons, h3, h4]
  rw [h2]
theorem bv_lt_of (l m : List UInt8) (i : Nat) (hlen : l.length = m.length) (h : i < l.length) (hp : l.take i = m.take i) (hlt : (l.getD i 0).toNat < (m.getD i 0).toNat) : bv l < bv m := by
  rw [bv_split l i h, bv_split m i (by omega), hp, hlen]
  have h1 : bv (l.drop (i + 1)) < 256 ^ (m.length - i - 1) := by
    have := bv_lt (l.drop (i + 1))
    rw [List.length_drop] at this
    rwa [show l.length - (i + 1) = m.length - i - 1 by omega] at this
  have h2 : ((l.getD i 0).toNat + 1) * 256 ^ (m.length - i - 1) ≤ (m.getD i 0).toNat * 256 ^ (m.length - i - 1) := Nat.mul_le_mul_right _ hlt
  rw [Nat.add_mul, Nat.one_mul] at h2
  omega
theorem cmp_bs {l m : List UInt8} (h : l.length = m.length) : Extern.BytealgCompare.cmp (bs l) (bs m) = ncmp (bv l) (bv m) := by
  unfold Extern.BytealgCompare.cmp
  have hs : min (bs l).size (bs m).size = l.length := by rw [bs_size, bs_size]; omega
  rw [hs]
  split
  · rename_i i hi
    rw [List.find?_range_eq_some] at hi
    obtain ⟨h1, h2, h3⟩ := hi
    have h2 : i < l.length := by simpa using h2
    rw [bs_get, bs_get] at h1 ⊢
    have hp : l.take i = m.take i := by
      apply List.ext_getElem
      · simp; omega
      · intro j a b
        have hj : j < i := by simp at a; omega
        have := h3 j hj
        rw [bs_get, bs_get] at this
        simp [List.getD_eq_getElem?_getD, show j < l.length by omega, show j < m.length by omega] at this
        simpa using this
    have hne : (l.getD i 0).toNat ≠ (m.getD i 0).toNat := by
      intro e
      have := UInt8.toNat_inj.1 e
      rw [this] at h1
      simp at h1
    by_cases hlt : (l.getD i 0).toNat < (m.getD i 0).toNat
    · rw [if_pos (UInt8.lt_iff_toNat_lt.2 hlt)]
      unfold ncmp
      rw [if_pos (bv_lt_of l m i h h2 hp hlt)]
    · rw [if_neg (fun h => hlt (UInt8.lt_iff_toNat_lt.1 h))]
      have h4 := bv_lt_of m l i h.symm (by omega) hp.symm (by omega)
      unfold ncmp
      rw [if_neg (by omega), if_pos h4]
  · rename_i hi
    rw [List.find?_eq_none] at hi
    have e : l = m := by
      apply List.ext_getElem h
      intro j a b
      have := hi j (by simpa using a)
      rw [bs_get, bs_get] at this
      simp [List.getD_eq_getElem?_getD, a, b] at this
      exact this
    subst e
    simp [ncmp]
theorem ncmp_len {n m : Nat} (h : (nb n).size < (nb m).size) : n < m := by
  rw [nb_size, nb_size] at h
  have h1 := nbl_lt n
  have h2 := nbl_le (n := m) (fun e => by subst e; simp [nbl_zero] at h)
  have : 256 ^ (nbl n).length ≤ 256 ^ ((nbl m).length - 1) := Nat.pow_le_pow_right (by omega) (by omega)
  omega
theorem cmp_nb {n m : Nat} (h : (nb n).size = (nb m).size) : Extern.BytealgCompare.cmp (nb n) (nb m) = ncmp n m := by
  rw [nb_bs, nb_bs, cmp_bs (by rwa [nb_size, nb_size] at h), bv_nbl, bv_nbl]

/-! ### A loop of at most k rounds -/
def unr (P : Program) (O : Orc) (L : Lps) (pol : Pol) (n m : Nat) (live : List Nat) (a : Code) : Nat → LSpec
  | 0, _, _ => .no 16
  | k + 1, ls, K => evC P O L pol n m a (fun e s => match saveS m live s with
    | some ls' => match e with
      | .normal => unr P O L pol n m live a k ls' K
      | e => K e ls'
    | none => .no 14) (loadS n live ls)
theorem unr_goes {P : Program} {G : World → (Nat → Prop) → Prop} {O : Orc} {L : Lps} {pol : Pol} {n m : Nat} {live : List Nat} {a : Code} (hG : GOk G) (hO : OrcOK P G O) (hmix : P.follows .mixedOrders = true) (hl : LpsOK P G pol n m L a) :
    ∀ (k : Nat) (ls : LS) (K : Exit → LS → Tr) (x : Res), m ≤ ls.h.length → (unr P O L pol n m live a k ls K).run = some x → ∃ e ls', Goes (Rnd P G n m live a) ls e ls' ∧ (K e ls').run = some x
  | 0, _, _, _, _, h => by cases h
  | k + 1, ls, K, x, hm, h => by
    unfold unr at h
    obtain ⟨e, s1, h1, h2⟩ := evC_ok hG hO hmix a _ _ _ hl loadS_len (by simpa [loadS] using hm) h
    split at h2
    case h_2 => cases h2
    rename_i ls1 hls
    have hr : Rnd P G n m live a ls e ls1 := ⟨loadS_len, by simpa [loadS] using save_len hls, fun E hE Q act w hQ hi => h1.wp E hE Q act w (fun a w h => hQ a w (save_ok (by rw [hE]; exact hls) h1.len h)) hi⟩
    split at h2
    · obtain ⟨e2, ls2, h3, h4⟩ := unr_goes hG hO hmix hl k ls1 K x (save_len hls) h2
      exact ⟨e2, ls2, .more _ _ _ _ hr h3, h4⟩
    · rename_i hne
      exact ⟨e, ls1, .last _ _ _ hr (fun he => hne he), h2⟩
theorem unr_ok {P : Program} {G : World → (Nat → Prop) → Prop} {O : Orc} {L : Lps} {pol : Pol} {n m : Nat} {live : List Nat} {a : Code} (hG : GOk G) (hO : OrcOK P G O) (hmix : P.follows .mixedOrders = true) (hl : LpsOK P G pol n m L a) (k : Nat) :
    LoopOK P G n m live a (unr P O L pol n m live a k) := by
  intro ls K x hm h
  obtain ⟨e, ls', h1, h2⟩ := unr_goes hG hO hmix hl k ls K x hm h
  exact ⟨e, ls', goes_ok h1, h2⟩
/-- Whether something holds. -/
noncomputable def decP (p : Prop) : Bool := @decide p (Classical.propDecidable p)
theorem decP_iff {p : Prop} : decP p = true ↔ p := by unfold decP; simp
/-- A function's spec out of its evaluation, for which more or less may be said. -/
theorem spec_of {P : Program} {G : World → (Nat → Prop) → Prop} (hG : GOk G) {O : Orc} (hO : OrcOK P G O) (hmix : P.follows .mixedOrders = true) {g : Nat} {fn : Func} {c : Code} (hg : Enters P g fn c) {L : Lps} {pol : Pol} {sp : Spec}
    (H : ∀ args hs K x, (sp args hs K).run = some x → LpsOK P G pol fn.ntmps hs.length L c ∧ ∃ r r' hs', (evF P O L pol fn args hs retK).run = some (.ret r hs') ∧ RLe r r' ∧ (K r' hs').run = some x) : SpecOK P G g sp := by
  intro args hs K x h
  obtain ⟨hl, r, r', hs', h1, h2, h3⟩ := H args hs K x h
  exact ⟨r', hs', (evF_pc hG hO hmix hg hl h1).le h2 (.refl _), h3⟩
/-! ### Arguments that say less -/
def ArgsLe (us vs : List PV) : Prop := ∀ (w : World) (S : Nat → Prop) (μ : Mu) (xs : List Value), RepVL w S μ us xs → RepVL w S μ vs xs
theorem ArgsLe.refl (us : List PV) : ArgsLe us us := fun _ _ _ _ h => h
theorem ArgsLe.nil : ArgsLe [] [] := .refl _
theorem ArgsLe.cons {u v : PV} {us vs : List PV} (h : VLe u v) (h' : ArgsLe us vs) : ArgsLe (u :: us) (v :: vs) := by
  intro w S μ xs hx
  cases hx with
  | cons _ _ _ x xs h1 h2 => exact .cons _ _ _ _ _ ((h.2 w S μ).2 _ h1) (h' w S μ _ h2)
theorem PC.args {P : Program} {G : World → (Nat → Prop) → Prop} {g : Nat} {args args' : List PV} {hs hs' : List Blk} {r : PV} (h : ArgsLe args args') (hpc : PC P G g args' hs r hs') : PC P G g args hs r hs' :=
  fun w S μ vs hg hr hh hmu => hpc w S μ vs hg (h w S μ vs hr) hh hmu
theorem VLe.aggC {u v : PV} (hu : isAgg u = true) (hv : isAgg v = true) (hnt : ∀ vs, u ≠ .tup vs) (h : ∀ (w : World) (S : Nat → Prop) (μ : Mu) (cs : List Value), RepC w S μ u cs → RepC w S μ v cs) : VLe u v := by
  refine ⟨hv.trans hu.symm, fun w S μ => ⟨h w S μ, fun x hx => ?_⟩⟩
  cases hx with
  | cell _ _ _ hv' _ => rw [hu] at hv'; cases hv'
  | agg _ _ cs _ hc => exact .agg _ _ _ hv (h w S μ cs hc)
  | tup _ vs => exact absurd rfl (hnt _)
  | und => cases hu
  | any => cases hu
def VLeL (us vs : List PV) : Prop := us.length = vs.length ∧ ∀ (j : Nat) (u v : PV), us[j]? = some u → vs[j]? = some v → VLe u v
theorem VLe.agg {us vs : List PV} (h : VLeL us vs) : VLe (.agg us) (.agg vs) := by
  refine VLe.aggC rfl rfl (fun _ h => by cases h) fun w S μ cs hc => ?_
  cases hc with
  | agg _ _ _ hl =>
    refine .agg _ _ _ ?_
    obtain ⟨h1, h2⟩ := h
    induction us generalizing vs cs with
    | nil =>
      cases vs with
      | nil => exact hl
      | cons => simp at h1
    | cons u us ih =>
      cases vs with
      | nil => simp at h1
      | cons v vs =>
        cases hl with
        | cons _ _ _ c1 c2 a b =>
          exact .cons _ _ _ _ _ (((h2 0 u v rfl rfl).2 w S μ).1 _ a) (ih (vs := vs) c2 b (by simpa using h1) (fun j u' v' e1 e2 => h2 (j + 1) u' v' (by simpa using e1) (by simpa using e2)))
theorem VLeL.nil : VLeL [] [] := ⟨rfl, fun j u v h => by simp at h⟩
theorem VLeL.cons {u v : PV} {us vs : List PV} (h : VLe u v) (h' : VLeL us vs) : VLeL (u :: us) (v :: vs) := by
  refine ⟨by simp [h'.1], fun j a b e1 e2 => ?_⟩
  cases j with
  | zero => simp at e1 e2; subst e1; subst e2; exact h
  | succ j => exact h'.2 j a b (by simpa using e1) (by simpa using e2)
/-- A seen slice whose elements say less. -/
theorem VLe.lst {e : Nat} {c d : Cont} (hl : c.len = d.len) (h : ∀ i, i < c.len → VLe (c.get i) (d.get i)) : VLe (.lst e c) (.lst e d) := by
  have key : ∀ (w : World) (S : Nat → Prop) (μ : Mu) (cs : List Value), RepC w S μ (.lst e c) cs → RepC w S μ (.lst e d) cs := by
    intro w S μ cs hc
    cases hc with
    | lst _ _ _ a o cap cs hcap hS hr hlen hcell =>
      rw [hl]
      exact .lst _ e d a o cap cs (by rw [← hl]; exact hcap) hS (fun i hi => ((h i (by rw [hl]; exact hi)).2 w S noMu).1 _ (hr i (by rw [hl]; exact hi))) (fun i hi => hlen i (by rw [hl]; exact hi)) (fun i j hi hj => hcell i j (by rw [hl]; exact hi) hj)
  refine ⟨rfl, fun w S μ => ⟨key w S μ, fun x hx => ?_⟩⟩
  cases hx with
  | cell _ _ _ hv hc => exact .cell _ _ _ rfl (key w S μ _ hc)
  | agg _ _ _ hv => cases hv
/-- A block whose elements say less and hold no references. -/
theorem KLe.fn {e : Nat} {vs : List PV} {n : Nat} {f : Nat → PV} (hl : vs.length = n) (h : ∀ (i : Nat) (v : PV), vs[i]? = some v → noRef 8 v = true ∧ VLe v (f i)) : KLe ⟨e, .vals vs⟩ ⟨e, .fn n f⟩ := by
  intro w S μ a z hb
  obtain ⟨c, T, cs, h1, h2, h3, h4, h5, h6⟩ := hb
  refine ⟨c, T, cs, h1, h2, by simpa [Cont.len, hl] using h3, fun i hi => ?_, fun i hi => h5 i (by simpa [Cont.len, hl] using hi), fun i j hi hj => h6 i j (by simpa [Cont.len, hl] using hi) hj⟩
  have hi' : i < vs.length := by simpa [Cont.len, hl] using hi
  have hv : vs[i]? = some (vs[i]'hi') := List.getElem?_eq_getElem _
  have h7 := h4 i (by simpa [Cont.len] using hi')
  simp only [Cont.get, List.getD_eq_getElem?_getD, hv, Option.getD_some, rowMu] at h7 ⊢
  obtain ⟨n1, n2⟩ := h i _ hv
  exact (n2.2 w S noMu).1 _ ((noRef_rep 8 μ _ n1).1 _ h7)
/-! ### A loop that looks for the first bad one -/
def fbad (ok : Nat → Bool) : Nat → Nat → Nat
  | 0, i => i
  | f + 1, i => match ok i with
    | true => fbad ok f (i + 1)
    | false => i
theorem Goes.search {R : LS → Exit → LS → Prop} (st bad : Nat → LS) (ok : Nat → Bool) (n : Nat) {e0 e1 : Exit} {fin : LS} (h0 : e0 ≠ .normal) (h1 : e1 ≠ .normal) (hstep : ∀ j, j < n → ok j = true → R (st j) .normal (st (j + 1)))
    (hbad : ∀ j, j < n → ok j = false → R (st j) e1 (bad j)) (hend : R (st n) e0 fin) : ∀ (f i : Nat), i + f = n →
    ((∀ j, i ≤ j → j < n → ok j = true) → Goes R (st i) e0 fin) ∧ (¬ (∀ j, i ≤ j → j < n → ok j = true) → Goes R (st i) e1 (bad (fbad ok f i)))
  | 0, i, hi => by
    have : i = n := by omega
    subst this
    exact ⟨fun _ => .last _ _ _ hend h0, fun h => (h fun j a b => by omega).elim⟩
  | f + 1, i, hi => by
    obtain ⟨a, b⟩ := Goes.search st bad ok n h0 h1 hstep hbad hend f (i + 1) (by omega)
    cases hok : ok i with
    | true =>
      refine ⟨fun h => .more _ _ _ _ (hstep i (by omega) hok) (a fun j x y => h j (by omega) y), fun h => ?_⟩
      have : fbad ok (f + 1) i = fbad ok f (i + 1) := by simp [fbad, hok]
      rw [this]
      refine .more _ _ _ _ (hstep i (by omega) hok) (b fun h' => h fun j x y => ?_)
      rcases Nat.lt_or_ge i j with g | g
      · exact h' j g y
      · have : j = i := by omega
        subst this; exact hok
    | false =>
      refine ⟨fun h => absurd (h i (Nat.le_refl _) (by omega)) (by rw [hok]; decide), fun _ => ?_⟩
      have : fbad ok (f + 1) i = i := by simp [fbad, hok]
      rw [this]
      exact .last _ _ _ (hbad i (by omega) hok) h1
/-! ### Wrapped slices -/
theorem okW_noRef {v : PV} (h : okW v = true) : noRef 8 v = true ∧ isAgg v = false := by
  rcases okW_cases h with rfl | ⟨xs, rfl⟩ <;> exact ⟨rfl, rfl⟩
theorem vle_w_out {v : PV} (h : okW v = true) : VLe (.w v) v := by
  have hk := okW_noRef h
  have key : ∀ (w : World) (S : Nat → Prop) (μ : Mu) (cs : List Value), RepC w S μ (.w v) cs → RepC w S μ v cs := by
    intro w S μ cs hc
    cases hc with
    | w _ _ x hx => exact hx.mono (Mono.refl' w S) _ (MuLe.none _)
  refine ⟨hk.2, fun w S μ => ⟨key w S μ, fun x hx => ?_⟩⟩
  cases hx with
  | cell _ _ _ hv hc => exact .cell _ _ _ hk.2 (key w S μ _ hc)
  | agg _ _ _ hv => cases hv
theorem vle_w_in {v : PV} (h : okW v = true) : VLe v (.w v) := by
  have hk := okW_noRef h
  have key : ∀ (w : World) (S : Nat → Prop) (μ : Mu) (cs : List Value), RepC w S μ v cs → RepC w S μ (.w v) cs := by
    intro w S μ cs hc
    have h2 := (noRef_rep 8 μ v hk.1).1 _ hc
    rcases okW_cases h with rfl | ⟨xs, rfl⟩
    · cases h2; exact .w _ _ _ (.nil _)
    · cases h2 with
      | lst _ _ _ a o cap cs h1 h3 h4 h5 h6 => exact .w _ _ _ (.lst _ _ _ a o cap cs h1 h3 h4 h5 h6)
  refine ⟨hk.2.symm, fun w S μ => ⟨key w S μ, fun x hx => ?_⟩⟩
  cases hx with
  | cell _ _ _ hv hc => exact .cell _ _ _ rfl (key w S μ _ hc)
  | agg _ _ _ hv => rw [hk.2] at hv; cases hv
  | tup _ vs => simp [okW] at h
  | und => simp [okW] at h
  | any => simp [okW] at h
theorem KLe.vals {e : Nat} {vs us : List PV} (h : VLeL vs us) : KLe ⟨e, .vals vs⟩ ⟨e, .vals us⟩ := by
  intro w S μ a z hb
  obtain ⟨c, T, cs, h1, h2, h3, h4, h5, h6⟩ := hb
  obtain ⟨hl, hv⟩ := h
  refine ⟨c, T, cs, h1, h2, by simpa [Cont.len, hl] using h3, fun i hi => ?_, fun i hi => h5 i (by simpa [Cont.len, hl] using hi), fun i j hi hj => h6 i j (by simpa [Cont.len, hl] using hi) hj⟩
  have hi' : i < us.length := by simpa [Cont.len] using hi
  have h7 := h4 i (by simpa [Cont.len, hl] using hi')
  have e1 : vs[i]? = some (vs[i]'(by omega)) := List.getElem?_eq_getElem _
  have e2 : us[i]? = some (us[i]'hi') := List.getElem?_eq_getElem _
  simp only [Cont.get, List.getD_eq_getElem?_getD, e1, e2, Option.getD_some, rowMu] at h7 ⊢
  exact ((hv i _ _ e1 e2).2 w S μ).1 _ h7
theorem KsLe.one {k k' : Blk} (h : KLe k k') : KsLe [k] [k'] := by
  refine ⟨rfl, fun j a b h1 h2 => ?_⟩
  cases j with
  | zero => simp at h1 h2; subst h1; subst h2; exact h
  | succ j => simp at h1
theorem PC.blocks {P : Program} {G : World → (Nat → Prop) → Prop} {g : Nat} {args : List PV} {hs ks hs' : List Blk} {r : PV} (h : KsLe hs ks) (hpc : PC P G g args ks r hs') : PC P G g args hs r hs' := by
  intro w S μ vs hg hr hh hmu
  obtain ⟨hl, hk⟩ := h
  rw [hl]
  have hget' : ∀ (l : List Blk) (b : Nat), hget (l.map some) b = l[b]? := by
    intro l b
    unfold hget
    rw [List.getElem?_map]
    cases l[b]? <;> rfl
  have conv : ∀ (b : Nat) (k : Blk), hget (ks.map some) b = some k → ∃ k0, hget (hs.map some) b = some k0 ∧ KLe k0 k := by
    intro b k hb
    rw [hget'] at hb
    have hlt := (List.getElem?_eq_some_iff.1 hb).1
    have e : hs[b]? = some (hs[b]'(by omega)) := List.getElem?_eq_getElem _
    exact ⟨_, by rw [hget']; exact e, hk b _ _ e hb⟩
  refine hpc w S μ vs hg hr ⟨fun b k hb => ?_, fun b k a z hb hm => ?_, fun b b' k k' a z z' hb hb' h1 h2 => ?_, hh.lt⟩ (by rw [← hl]; exact hmu)
  · obtain ⟨k0, h0, hk0⟩ := conv b k hb
    obtain ⟨a, z, h1, h2⟩ := hh.blk b k0 h0
    exact ⟨a, z, h1, hk0 _ _ _ _ _ h2⟩
  · obtain ⟨k0, h0, _⟩ := conv b k hb
    exact hh.sep b k0 a z h0 hm
  · obtain ⟨k0, h0, _⟩ := conv b k hb
    obtain ⟨k1, h1', _⟩ := conv b' k' hb'
    exact hh.inj b b' k0 k1 a z z' h0 h1' h1 h2
end Go.Proofs.YtejfdhcigkgbmaaDoor.PE
namespace Go.Proofs.YtejfdhcigkgbmaaDoor.PE
open Go
set_option maxRecDepth 100000
variable {G : World → (Nat → Prop) → Prop} (hG : GOk G)

/-! bytealg.CompareString, strings.Compare -/
theorem enter132 : Enters Tryd.prog 132 Tryd.f132 (bodyC Tryd.f132) := ⟨Tryd.func132, by kernel_rfl, rfl⟩
noncomputable def s132 : Spec := evF Tryd.prog [(145, s145)] [] {} Tryd.f132
include hG in
theorem ok132 : SpecOK Tryd.prog G 132 s132 := spec_ev hG (.cons ok145 .nil) mix enter132 (fun _ => LpsOK.none (by kernel_rfl))
theorem enter120 : Enters Tryd.prog 120 Tryd.f120 (bodyC Tryd.f120) := ⟨Tryd.func120, by kernel_rfl, rfl⟩
noncomputable def s120 : Spec := evF Tryd.prog [(132, s132)] [] {} Tryd.f120
include hG in
theorem ok120 : SpecOK Tryd.prog G 120 s120 := spec_ev hG (.cons (ok132 hG) .nil) mix enter120 (fun _ => LpsOK.none (by kernel_rfl))

/-! nat.Cmp -/
theorem enter82 : Enters Tryd.prog 82 Tryd.f82 (bodyC Tryd.f82) := ⟨Tryd.func82, by kernel_rfl, rfl⟩
theorem e82 (a b : ByteArray) : evF Tryd.prog [(114, s114), (120, s120)] [] {} Tryd.f82 [.s a, .s b] [] retK =
  Tr.br (decide ((↑(nb (bv a.1.toList)).size : Int) < (↑(nb (bv b.1.toList)).size : Int)))
    (Tr.ok (Res.ret (PV.i IntKind.i64 (-1 : Int)) []))
    (Tr.br (decide ((↑(nb (bv b.1.toList)).size : Int) < (↑(nb (bv a.1.toList)).size : Int)))
      (Tr.ok (Res.ret (PV.i IntKind.i64 (1 : Int)) []))
      (Tr.ok (Res.ret (PV.i IntKind.i64 (Extern.BytealgCompare.cmp (nb (bv a.1.toList)) (nb (bv b.1.toList)))) []))) := by kernel_rfl
def s82 : Spec := fun args hs K => match args, hs with
  | [.s a, .s b], [] => K (.i .i64 (ncmp (bv a.data.toList) (bv b.data.toList))) []
  | _, _ => .no 1
include hG in
theorem ok82 : SpecOK Tryd.prog G 82 s82 := by
  refine spec_of hG (.cons (ok114 hG) (.cons (ok120 hG) .nil)) mix enter82 (L := []) (pol := {}) fun args hs K x h => ⟨LpsOK.none (by kernel_rfl), ?_⟩
  unfold s82 at h
  split at h
  case h_2 => cases h
  rename_i a b
  refine ⟨_, _, _, ?_, .refl _, h⟩
  rw [e82]
  by_cases h1 : (nb (bv a.data.toList)).size < (nb (bv b.data.toList)).size
  · rw [Tr.run_t (decide_eq_true (by omega)), Tr.run_ok]
    have := ncmp_len h1
    unfold ncmp
    rw [if_pos this]
  · rw [Tr.run_f (decide_eq_false (by omega))]
    by_cases h2 : (nb (bv b.data.toList)).size < (nb (bv a.data.toList)).size
    · rw [Tr.run_t (decide_eq_true (by omega)), Tr.run_ok]
      have := ncmp_len h2
      unfold ncmp
      rw [if_neg (by omega), if_pos this]
    · rw [Tr.run_f (decide_eq_false (by omega)), Tr.run_ok, cmp_nb (by omega)]
end Go.Proofs.YtejfdhcigkgbmaaDoor.PE
namespace Go.Proofs.YtejfdhcigkgbmaaDoor.PE
open Go
set_option maxRecDepth 100000
variable {G : World → (Nat → Prop) → Prop} (hG : GOk G)

theorem bv_nb' (n : Nat) : bv (natBytesL n n []).toArray.toList = n := bv_nbl n
theorem bv_nb2 (n : Nat) : bv (natBytesL n n []) = n := bv_nbl n
theorem nb_size8 {n : Nat} (h : n < 18446744073709551616) : (nb n).size ≤ 8 := nb_size_le (k := 8) (by omega)
theorem ba_empty_left (a : ByteArray) : (⟨#[]⟩ : ByteArray) ++ a = a := by
  apply ByteArray.ext
  simp
theorem ba_empty_right (a : ByteArray) : a ++ (⟨#[]⟩ : ByteArray) = a := by
  apply ByteArray.ext
  simp
theorem mul_fit {n m : Nat} (h : (nb n).size + (nb m).size ≤ 8) : n * m < 18446744073709551616 := by
  have h1 := nb_lt (n := n) (Nat.le_refl _)
  have h2 := nb_lt (n := m) (Nat.le_refl _)
  have h3 : n * m < 256 ^ ((nb n).size + (nb m).size) := by
    rw [Nat.pow_add]
    rcases Nat.eq_zero_or_pos m with h0 | h0
    · subst h0
      rw [Nat.mul_zero]
      exact Nat.mul_pos (Nat.pow_pos (by omega)) (Nat.pow_pos (by omega))
    · exact Nat.lt_of_le_of_lt (Nat.mul_le_mul_right m (Nat.le_of_lt h1)) (Nat.mul_lt_mul_of_pos_left h2 (Nat.pow_pos (by omega)))
  have h4 : 256 ^ ((nb n).size + (nb m).size) ≤ 256 ^ 8 := Nat.pow_le_pow_right (by omega) h
  omega
include hG in
theorem orc9 : OrcOK Tryd.prog G [(114, s114), (115, s115), (116, s116)] := .cons (ok114 hG) (.cons (ok115 hG) (.cons (ok116 hG) .nil))
/-! nat.Add, nat.Mul, nat.Div, nat.Gcd: numbers of at most 8 bytes. -/
theorem enter108 : Enters Tryd.prog 108 Tryd.f108 (bodyC Tryd.f108) := ⟨Tryd.func108, by kernel_rfl, rfl⟩
theorem e108 (a b : ByteArray) : evF Tryd.prog [(114, s114), (115, s115), (116, s116)] [] {} Tryd.f108 [.s a, .s b] [] retK =
  Tr.br (decide ((↑(nb (bv a.1.toList)).size : Int) < (8 : Int)))
    (Tr.br (decide ((↑(nb (bv b.1.toList)).size : Int) < (8 : Int)))
      (Tr.br ((nb (bv a.1.toList)).size.ble (8 : Nat))
        (Tr.br ((nb (bv b.1.toList)).size.ble (8 : Nat))
          (Tr.br
            (decide
                ((0 : Int) ≤
                  (↑(bv (natBytesL (bv a.1.toList) (bv a.1.toList) []).toArray.toList) : Int) +
                    (↑(bv (natBytesL (bv b.1.toList) (bv b.1.toList) []).toArray.toList) : Int)) &&
              decide
                ((↑(bv (natBytesL (bv a.1.toList) (bv a.1.toList) []).toArray.toList) : Int) +
                    (↑(bv (natBytesL (bv b.1.toList) (bv b.1.toList) []).toArray.toList) : Int) ≤
                  (18446744073709551615 : Int)))
            (Tr.br
              (decide
                  ((0 : Int) ≤
                    (↑(bv (natBytesL (bv a.1.toList) (bv a.1.toList) []).toArray.toList) : Int) +
                      (↑(bv (natBytesL (bv b.1.toList) (bv b.1.toList) []).toArray.toList) : Int)) &&
                decide
                  ((↑(bv (natBytesL (bv a.1.toList) (bv a.1.toList) []).toArray.toList) : Int) +
                      (↑(bv (natBytesL (bv b.1.toList) (bv b.1.toList) []).toArray.toList) : Int) <
                    (18446744073709551616 : Int)))
              (Tr.ok
                (Res.ret
                  (PV.s
                    (nb
                      ((↑(bv (natBytesL (bv a.1.toList) (bv a.1.toList) []).toArray.toList) : Int) +
                          (↑(bv (natBytesL (bv b.1.toList) (bv b.1.toList) []).toArray.toList) : Int)).toNat))
                  []))
              (Tr.no (1)))
            (Tr.no (4003)))
          (Tr.no (1)))
        (Tr.no (1)))
      (Tr.no (5005)))
    (Tr.no (5005)) := by kernel_rfl
def s108 : Spec := fun args hs K => match args, hs with
  | [.s a, .s b], [] => .br (decide (bv a.data.toList < 72057594037927936) && decide (bv b.data.toList < 72057594037927936)) (K (.s (nb (bv a.data.toList + bv b.data.toList))) []) (.no 1)
  | _, _ => .no 1
include hG in
theorem ok108 : SpecOK Tryd.prog G 108 s108 := by
  refine spec_of hG (orc9 hG) mix enter108 (L := []) (pol := {}) fun args hs K x h => ?_
  unfold s108 at h
  split at h
  case h_2 => cases h
  rename_i a b
  obtain ⟨hc, hr⟩ := Tr.of_br h
  simp only [Bool.and_eq_true, decide_eq_true_eq] at hc
  refine ⟨?_, _, _, _, ?_, .refl _, hr⟩
  · intro c hc live sp _ h2; cases h2
  rw [e108]
  have h1 := nb_size_le (k := 7) (show bv a.data.toList < 256 ^ 7 by omega)
  have h2 := nb_size_le (k := 7) (show bv b.data.toList < 256 ^ 7 by omega)
  simp only [bv_nb', bv_nb2]
  repeat rw [Tr.run_t (by simp only [Bool.and_eq_true, decide_eq_true_eq, Nat.ble_eq]; omega)]
  rw [Tr.run_ok, ← Int.natCast_add, Int.toNat_natCast]
theorem enter77 : Enters Tryd.prog 77 Tryd.f77 (bodyC Tryd.f77) := ⟨Tryd.func77, by kernel_rfl, rfl⟩
theorem e77 (a b : ByteArray) : evF Tryd.prog [(114, s114), (115, s115), (116, s116)] [] {} Tryd.f77 [.s a, .s b] [] retK =
  Tr.br
    (decide ((-9223372036854775808 : Int) ≤ (↑(nb (bv a.1.toList)).size : Int) + (↑(nb (bv b.1.toList)).size : Int)) &&
      decide ((↑(nb (bv a.1.toList)).size : Int) + (↑(nb (bv b.1.toList)).size : Int) ≤ (9223372036854775807 : Int)))
    (Tr.br (decide ((↑(nb (bv a.1.toList)).size : Int) + (↑(nb (bv b.1.toList)).size : Int) ≤ (8 : Int)))
      (Tr.br ((nb (bv a.1.toList)).size.ble (8 : Nat))
        (Tr.br ((nb (bv b.1.toList)).size.ble (8 : Nat))
          (Tr.br
            (decide
                ((0 : Int) ≤
                  (↑(bv (natBytesL (bv a.1.toList) (bv a.1.toList) []).toArray.toList) : Int) *
                    (↑(bv (natBytesL (bv b.1.toList) (bv b.1.toList) []).toArray.toList) : Int)) &&
              decide
                ((↑(bv (natBytesL (bv a.1.toList) (bv a.1.toList) []).toArray.toList) : Int) *
                    (↑(bv (natBytesL (bv b.1.toList) (bv b.1.toList) []).toArray.toList) : Int) ≤
                  (18446744073709551615 : Int)))
            (Tr.br
              (decide
                  ((0 : Int) ≤
                    (↑(bv (natBytesL (bv a.1.toList) (bv a.1.toList) []).toArray.toList) : Int) *
                      (↑(bv (natBytesL (bv b.1.toList) (bv b.1.toList) []).toArray.toList) : Int)) &&
                decide
                  ((↑(bv (natBytesL (bv a.1.toList) (bv a.1.toList) []).toArray.toList) : Int) *
                      (↑(bv (natBytesL (bv b.1.toList) (bv b.1.toList) []).toArray.toList) : Int) <
                    (18446744073709551616 : Int)))
              (Tr.ok
                (Res.ret
                  (PV.s
                    (nb
                      ((↑(bv (natBytesL (bv a.1.toList) (bv a.1.toList) []).toArray.toList) : Int) *
                          (↑(bv (natBytesL (bv b.1.toList) (bv b.1.toList) []).toArray.toList) : Int)).toNat))
                  []))
              (Tr.no (1)))
            (Tr.no (4003)))
          (Tr.no (1)))
        (Tr.no (1)))
      (Tr.no (5005)))
    (Tr.no (3002)) := by kernel_rfl
def s77 : Spec := fun args hs K => match args, hs with
  | [.s a, .s b], [] => .br (decide ((nb (bv a.data.toList)).size + (nb (bv b.data.toList)).size ≤ 8)) (K (.s (nb (bv a.data.toList * bv b.data.toList))) []) (.no 1)
  | _, _ => .no 1
include hG in
theorem ok77 : SpecOK Tryd.prog G 77 s77 := by
  refine spec_of hG (orc9 hG) mix enter77 (L := []) (pol := {}) fun args hs K x h => ?_
  unfold s77 at h
  split at h
  case h_2 => cases h
  rename_i a b
  obtain ⟨hc, hr⟩ := Tr.of_br h
  simp only [decide_eq_true_eq] at hc
  refine ⟨?_, _, _, _, ?_, .refl _, hr⟩
  · intro c hc live sp _ h2; cases h2
  rw [e77]
  have h1 := mul_fit hc
  simp only [bv_nb', bv_nb2, ← Int.natCast_mul]
  repeat rw [Tr.run_t (by simp only [Bool.and_eq_true, decide_eq_true_eq, Nat.ble_eq]; omega)]
  rw [Tr.run_ok, Int.toNat_natCast]
theorem enter113 : Enters Tryd.prog 113 Tryd.f113 (bodyC Tryd.f113) := ⟨Tryd.func113, by kernel_rfl, rfl⟩
theorem e113 (a b : ByteArray) : evF Tryd.prog [(114, s114), (115, s115), (116, s116)] [] {} Tryd.f113 [.s a, .s b] [] retK =
  Tr.br (decide (nb (bv b.1.toList) = { data := #[] }))
    (Tr.ok (Res.ret (PV.tup [PV.s { data := #[] }, PV.s { data := #[] }, PV.i IntKind.i64 (12 : Int)]) []))
    (Tr.br (decide ((↑(nb (bv a.1.toList)).size : Int) ≤ (8 : Int)))
      (Tr.br (decide ((↑(nb (bv b.1.toList)).size : Int) ≤ (8 : Int)))
        (Tr.br ((nb (bv a.1.toList)).size.ble (8 : Nat))
          (Tr.br ((nb (bv b.1.toList)).size.ble (8 : Nat))
            (Tr.br (!decide ((↑(bv (natBytesL (bv b.1.toList) (bv b.1.toList) []).toArray.toList) : Int) = (0 : Int)))
              (Tr.br
                (decide
                    ((0 : Int) ≤
                      IntKind.u64.wrap
                        ((↑(bv (natBytesL (bv a.1.toList) (bv a.1.toList) []).toArray.toList) : Int).tdiv
                          (↑(bv (natBytesL (bv b.1.toList) (bv b.1.toList) []).toArray.toList) : Int))) &&
                  decide
                    (IntKind.u64.wrap
                        ((↑(bv (natBytesL (bv a.1.toList) (bv a.1.toList) []).toArray.toList) : Int).tdiv
                          (↑(bv (natBytesL (bv b.1.toList) (bv b.1.toList) []).toArray.toList) : Int)) <
                      (18446744073709551616 : Int)))
                (Tr.br ((nb (bv a.1.toList)).size.ble (8 : Nat))
                  (Tr.br ((nb (bv b.1.toList)).size.ble (8 : Nat))
                    (Tr.br
                      (!decide ((↑(bv (natBytesL (bv b.1.toList) (bv b.1.toList) []).toArray.toList) : Int) = (0 : Int)))
                      (Tr.br
                        (decide
                            ((0 : Int) ≤
                              (↑(bv (natBytesL (bv a.1.toList) (bv a.1.toList) []).toArray.toList) : Int).tmod
                                (↑(bv (natBytesL (bv b.1.toList) (bv b.1.toList) []).toArray.toList) : Int)) &&
                          decide
                            ((↑(bv (natBytesL (bv a.1.toList) (bv a.1.toList) []).toArray.toList) : Int).tmod
                                (↑(bv (natBytesL (bv b.1.toList) (bv b.1.toList) []).toArray.toList) : Int) <
                              (18446744073709551616 : Int)))
                        (Tr.ok
                          (Res.ret
                            (PV.tup
                              [PV.s
                                  (nb
                                    (IntKind.u64.wrap
                                        ((↑(bv (natBytesL (bv a.1.toList) (bv a.1.toList) []).toArray.toList) : Int).tdiv
                                          (↑(bv (natBytesL (bv b.1.toList) (bv b.1.toList) []).toArray.toList) :
                                            Int))).toNat),
                                PV.s
                                  (nb
                                    ((↑(bv (natBytesL (bv a.1.toList) (bv a.1.toList) []).toArray.toList) : Int).tmod
                                        (↑(bv (natBytesL (bv b.1.toList) (bv b.1.toList) []).toArray.toList) :
                                          Int)).toNat),
                                PV.i IntKind.i64 (0 : Int)])
                            []))
                        (Tr.no (1)))
                      (Tr.no (6005)))
                    (Tr.no (1)))
                  (Tr.no (1)))
                (Tr.no (1)))
              (Tr.no (6011)))
            (Tr.no (1)))
          (Tr.no (1)))
        (Tr.no (7003)))
      (Tr.no (7003))) := by kernel_rfl
def s113 : Spec := fun args hs K => match args, hs with
  | [.s a, .s b], [] => .br (decide (bv a.data.toList < 18446744073709551616) && decide (bv b.data.toList < 18446744073709551616) && decide (0 < bv b.data.toList))
      (K (.tup [.s (nb (bv a.data.toList / bv b.data.toList)), .s (nb (bv a.data.toList % bv b.data.toList)), .i .i64 0]) []) (.no 1)
  | _, _ => .no 1
include hG in
theorem ok113 : SpecOK Tryd.prog G 113 s113 := by
  refine spec_of hG (orc9 hG) mix enter113 (L := []) (pol := {}) fun args hs K x h => ?_
  unfold s113 at h
  split at h
  case h_2 => cases h
  rename_i a b
  obtain ⟨hc, hr⟩ := Tr.of_br h
  simp only [Bool.and_eq_true, decide_eq_true_eq] at hc
  refine ⟨?_, _, _, _, ?_, .refl _, hr⟩
  · intro c hc live sp _ h2; cases h2
  rw [e113]
  have h1 := nb_size8 hc.1.1
  have h2 := nb_size8 hc.1.2
  have h3 : bv a.data.toList / bv b.data.toList ≤ bv a.data.toList := Nat.div_le_self _ _
  have h4 : bv a.data.toList % bv b.data.toList < bv b.data.toList := Nat.mod_lt _ hc.2
  simp only [bv_nb', bv_nb2, tdiv_nat, tmod_nat]
  have h5 := hc.1.1
  have h6 := hc.1.2
  generalize bv a.data.toList / bv b.data.toList = q at h3 ⊢
  generalize bv a.data.toList % bv b.data.toList = r at h4 ⊢
  have hw := w64 (n := (q : Int)) (by omega) (by omega)
  simp only [hw]
  rw [Tr.run_f (decide_eq_false (fun h => by have := nb_eq_empty.1 h; omega))]
  repeat rw [Tr.run_t (by simp only [Bool.and_eq_true, decide_eq_true_eq, Nat.ble_eq, Bool.not_eq_true', decide_eq_false_iff_not]; omega)]
  rw [Tr.run_ok, Int.toNat_natCast, Int.toNat_natCast]
noncomputable def b112 : Code := (loopsOf (bodyC Tryd.f112)).getD 0 .skip
def pol112 : Pol := { live := [(2, [0, 1, 4])] }
def O112 : Orc := [(114, s114), (115, s115), (116, s116), (128, s128)]
noncomputable def l112 : LSpec := unr Tryd.prog O112 [] pol112 Tryd.f112.ntmps 0 [0, 1, 4] b112 1
theorem enter112 : Enters Tryd.prog 112 Tryd.f112 (bodyC Tryd.f112) := ⟨Tryd.func112, by kernel_rfl, rfl⟩
theorem e112 (a b : ByteArray) : evF Tryd.prog O112 [(2, l112)] pol112 Tryd.f112 [.s a, .s b] [] retK =
  Tr.br (!decide (nb (bv a.1.toList) = { data := #[] }))
    (Tr.br (!decide (nb (bv b.1.toList) = { data := #[] }))
      (Tr.br (decide ((↑(nb (bv a.1.toList)).size : Int) < (↑(nb (bv b.1.toList)).size : Int)))
        (Tr.br (decide ((↑(nb (bv b.1.toList)).size : Int) ≤ (8 : Int)))
          (Tr.br ((nb (bv b.1.toList)).size.ble (8 : Nat))
            (Tr.br ((nb (bv a.1.toList)).size.ble (8 : Nat))
              (Tr.br
                (decide ((0 : Int) ≤ (↑(bv (natBytesL (bv b.1.toList) (bv b.1.toList) []).toArray.toList) : Int)) &&
                  decide ((0 : Int) ≤ (↑(bv (natBytesL (bv a.1.toList) (bv a.1.toList) []).toArray.toList) : Int)))
                (Tr.br
                  (decide
                      ((0 : Int) ≤
                        (↑((↑(bv (natBytesL (bv b.1.toList) (bv b.1.toList) []).toArray.toList) : Int).toNat.gcd
                              (↑(bv (natBytesL (bv a.1.toList) (bv a.1.toList) []).toArray.toList) : Int).toNat) :
                          Int)) &&
                    decide
                      ((↑((↑(bv (natBytesL (bv b.1.toList) (bv b.1.toList) []).toArray.toList) : Int).toNat.gcd
                              (↑(bv (natBytesL (bv a.1.toList) (bv a.1.toList) []).toArray.toList) : Int).toNat) :
                          Int) <
                        (18446744073709551616 : Int)))
                  (Tr.ok
                    (Res.ret
                      (PV.s
                        (nb
                          (↑((↑(bv (natBytesL (bv b.1.toList) (bv b.1.toList) []).toArray.toList) : Int).toNat.gcd
                                  (↑(bv (natBytesL (bv a.1.toList) (bv a.1.toList) []).toArray.toList) : Int).toNat) :
                              Int).toNat))
                      []))
                  (Tr.no (1)))
                (Tr.no (1)))
              (Tr.no (1)))
            (Tr.no (1)))
          (Tr.br
            (decide ((-9223372036854775808 : Int) ≤ (↑(nb (bv a.1.toList)).size : Int) + (8 : Int)) &&
              decide ((↑(nb (bv a.1.toList)).size : Int) + (8 : Int) ≤ (9223372036854775807 : Int)))
            (Tr.br (decide ((↑(nb (bv b.1.toList)).size : Int) ≤ (↑(nb (bv a.1.toList)).size : Int) + (8 : Int)))
              (Tr.no (9002)) (Tr.no (10008)))
            (Tr.no (8003))))
        (Tr.br (decide ((↑(nb (bv a.1.toList)).size : Int) ≤ (8 : Int)))
          (Tr.br ((nb (bv a.1.toList)).size.ble (8 : Nat))
            (Tr.br ((nb (bv b.1.toList)).size.ble (8 : Nat))
              (Tr.br
                (decide ((0 : Int) ≤ (↑(bv (natBytesL (bv a.1.toList) (bv a.1.toList) []).toArray.toList) : Int)) &&
                  decide ((0 : Int) ≤ (↑(bv (natBytesL (bv b.1.toList) (bv b.1.toList) []).toArray.toList) : Int)))
                (Tr.br
                  (decide
                      ((0 : Int) ≤
                        (↑((↑(bv (natBytesL (bv a.1.toList) (bv a.1.toList) []).toArray.toList) : Int).toNat.gcd
                              (↑(bv (natBytesL (bv b.1.toList) (bv b.1.toList) []).toArray.toList) : Int).toNat) :
                          Int)) &&
                    decide
                      ((↑((↑(bv (natBytesL (bv a.1.toList) (bv a.1.toList) []).toArray.toList) : Int).toNat.gcd
                              (↑(bv (natBytesL (bv b.1.toList) (bv b.1.toList) []).toArray.toList) : Int).toNat) :
                          Int) <
                        (18446744073709551616 : Int)))
                  (Tr.ok
                    (Res.ret
                      (PV.s
                        (nb
                          (↑((↑(bv (natBytesL (bv a.1.toList) (bv a.1.toList) []).toArray.toList) : Int).toNat.gcd
                                  (↑(bv (natBytesL (bv b.1.toList) (bv b.1.toList) []).toArray.toList) : Int).toNat) :
                              Int).toNat))
                      []))
                  (Tr.no (1)))
                (Tr.no (1)))
              (Tr.no (1)))
            (Tr.no (1)))
          (Tr.br
            (decide ((-9223372036854775808 : Int) ≤ (↑(nb (bv b.1.toList)).size : Int) + (8 : Int)) &&
              decide ((↑(nb (bv b.1.toList)).size : Int) + (8 : Int) ≤ (9223372036854775807 : Int)))
            (Tr.br (decide ((↑(nb (bv a.1.toList)).size : Int) ≤ (↑(nb (bv b.1.toList)).size : Int) + (8 : Int)))
              (Tr.no (9002)) (Tr.no (10008)))
            (Tr.no (8003)))))
      (Tr.br (((nb (bv a.1.toList)).size + (nb (bv b.1.toList)).size).ble (1099511627776 : Nat))
        (Tr.ok (Res.ret (PV.s (nb (bv a.1.toList) ++ nb (bv b.1.toList))) [])) (Tr.no (12002))))
    (Tr.br (((nb (bv a.1.toList)).size + (nb (bv b.1.toList)).size).ble (1099511627776 : Nat))
      (Tr.ok (Res.ret (PV.s (nb (bv a.1.toList) ++ nb (bv b.1.toList))) [])) (Tr.no (12002))) := by kernel_rfl
def s112 : Spec := fun args hs K => match args, hs with
  | [.s a, .s b], [] => .br (decide (bv a.data.toList < 18446744073709551616) && decide (bv b.data.toList < 18446744073709551616)) (K (.s (nb (Nat.gcd (bv a.data.toList) (bv b.data.toList)))) []) (.no 1)
  | _, _ => .no 1
include hG in
theorem orc112 : OrcOK Tryd.prog G O112 := .cons (ok114 hG) (.cons (ok115 hG) (.cons (ok116 hG) (.cons (ok128 hG) .nil)))
include hG in
theorem ok112 : SpecOK Tryd.prog G 112 s112 := by
  refine spec_of hG (orc112 hG) mix enter112 (L := [(2, l112)]) (pol := pol112) fun args hs K x h => ?_
  unfold s112 at h
  split at h
  case h_2 => cases h
  rename_i a b
  obtain ⟨hc, hr⟩ := Tr.of_br h
  simp only [Bool.and_eq_true, decide_eq_true_eq] at hc
  refine ⟨lps1 (b := b112) (live := [0, 1, 4]) (sp := l112) (by kernel_rfl) (by kernel_rfl) (by kernel_rfl) (unr_ok hG (orc112 hG) mix (LpsOK.none (by kernel_rfl)) 1), _, _, _, ?_, .refl _, hr⟩
  rw [e112]
  have h1 := nb_size8 hc.1
  have h2 := nb_size8 hc.2
  simp only [bv_nb', bv_nb2]
  by_cases ha : bv a.data.toList = 0
  · rw [Tr.run_f (by rw [ha]; rfl), Tr.run_t (by rw [Nat.ble_eq]; omega), Tr.run_ok, ha, nb_zero, Nat.gcd_zero_left, ba_empty_left]
  rw [Tr.run_t (by rw [Bool.not_eq_true', decide_eq_false_iff_not, nb_eq_empty]; exact ha)]
  by_cases hb : bv b.data.toList = 0
  · rw [Tr.run_f (by rw [hb]; rfl), Tr.run_t (by rw [Nat.ble_eq]; omega), Tr.run_ok, hb, nb_zero, Nat.gcd_zero_right, ba_empty_right]
  rw [Tr.run_t (by rw [Bool.not_eq_true', decide_eq_false_iff_not, nb_eq_empty]; exact hb)]
  have hg : Nat.gcd (bv a.data.toList) (bv b.data.toList) ≤ bv b.data.toList := Nat.le_of_dvd (by omega) (Nat.gcd_dvd_right _ _)
  simp only [Int.toNat_natCast]
  by_cases hl : (nb (bv a.data.toList)).size < (nb (bv b.data.toList)).size
  · rw [Tr.run_t (decide_eq_true (by omega))]
    have e := Nat.gcd_comm (bv b.data.toList) (bv a.data.toList)
    simp only [e]
    repeat rw [Tr.run_t (by simp only [Bool.and_eq_true, decide_eq_true_eq, Nat.ble_eq]; omega)]
    rw [Tr.run_ok]
  · rw [Tr.run_f (decide_eq_false (by omega))]
    repeat rw [Tr.run_t (by simp only [Bool.and_eq_true, decide_eq_true_eq, Nat.ble_eq]; omega)]
    rw [Tr.run_ok]
end Go.Proofs.YtejfdhcigkgbmaaDoor.PE
namespace Go.Proofs.YtejfdhcigkgbmaaDoor.PE
open Go
set_option maxRecDepth 100000
variable {G : World → (Nat → Prop) → Prop} (hG : GOk G)

/-! nat.less -/
noncomputable def b127 : Code := (loopsOf (bodyC Tryd.f127)).getD 0 .skip
def pol127 : Pol := { live := [(2, [0, 1, 4, 8, 9, 10])] }
theorem enter127 : Enters Tryd.prog 127 Tryd.f127 (bodyC Tryd.f127) := ⟨Tryd.func127, by kernel_rfl, rfl⟩
theorem r127 (n : Nat) (xs ys : List Int) (c len i : Int) : evRound Tryd.prog [] [] pol127 Tryd.f127.ntmps 1 [0, 1, 4, 8, 9, 10] b127 ⟨[.sl 0 1 0 n, .lst 1 (.ints .u32 ys), .i .u64 c, .sl 0 1 0 n, .i .i64 len, .i .i64 i], [some ⟨1, .ints .u32 xs⟩]⟩ =
  Tr.br (decide (i < len))
    (Tr.br (decide ((0 : Int) ≤ i) && decide (i < (↑n : Int)))
      (Tr.br (((0 : Nat) + i.toNat + (1 : Nat)).ble xs.length)
        (Tr.br (decide (i < (↑ys.length : Int)))
          (Tr.br (decide ((0 : Int) ≤ i) && decide (i < (↑ys.length : Int)))
            (Tr.br (decide ((0 : Int) ≤ (63 : Int)))
              (Tr.br (decide ((0 : Int) ≤ i) && decide (i < (↑n : Int)))
                (Tr.br (((0 : Nat) + i.toNat + (1 : Nat)).ble xs.length)
                  (Tr.br
                    (decide ((-9223372036854775808 : Int) ≤ i + (1 : Int)) &&
                      decide (i + (1 : Int) ≤ (9223372036854775807 : Int)))
                    (Tr.ok
                      (Res.out Exit.normal
                        {
                          t :=
                            [PV.sl (0) (1) (0) n, PV.lst (1) (Cont.ints IntKind.u32 ys),
                              PV.i IntKind.u64
                                ((IntKind.u64.wrap
                                      (IntKind.u64.wrap (IntKind.u64.wrap (xs.getD ((0 : Nat) + i.toNat) (0 : Int)) - c) -
                                        IntKind.u64.wrap (ys.getD i.toNat (0 : Int)))).fdiv
                                  ((2 : Int) ^ min (Int.toNat (63 : Int)) IntKind.u64.bits)),
                              PV.sl (0) (1) (0) n, PV.i IntKind.i64 len,
                              PV.i IntKind.i64 (i + (1 : Int))],
                          h :=
                            [some
                                { e := 1,
                                  c :=
                                    Cont.ints IntKind.u32
                                      (xs.set ((0 : Nat) + i.toNat)
                                        (IntKind.u32.wrap
                                          (IntKind.u64.wrap
                                            (IntKind.u64.wrap
                                                (IntKind.u64.wrap (xs.getD ((0 : Nat) + i.toNat) (0 : Int)) - c) -
                                              IntKind.u64.wrap (ys.getD i.toNat (0 : Int)))))) }] }))
                    (Tr.no (9002)))
                  (Tr.no (8002)))
                (Tr.no (8003)))
              (Tr.no (8004)))
            (Tr.no (7005)))
          (Tr.br (decide ((0 : Int) ≤ (63 : Int)))
            (Tr.br (decide ((0 : Int) ≤ i) && decide (i < (↑n : Int)))
              (Tr.br (((0 : Nat) + i.toNat + (1 : Nat)).ble xs.length)
                (Tr.br
                  (decide ((-9223372036854775808 : Int) ≤ i + (1 : Int)) &&
                    decide (i + (1 : Int) ≤ (9223372036854775807 : Int)))
                  (Tr.ok
                    (Res.out Exit.normal
                      {
                        t :=
                          [PV.sl (0) (1) (0) n, PV.lst (1) (Cont.ints IntKind.u32 ys),
                            PV.i IntKind.u64
                              ((IntKind.u64.wrap (IntKind.u64.wrap (xs.getD ((0 : Nat) + i.toNat) (0 : Int)) - c)).fdiv
                                ((2 : Int) ^ min (Int.toNat (63 : Int)) IntKind.u64.bits)),
                            PV.sl (0) (1) (0) n, PV.i IntKind.i64 len,
                            PV.i IntKind.i64 (i + (1 : Int))],
                        h :=
                          [some
                              { e := 1,
                                c :=
                                  Cont.ints IntKind.u32
                                    (xs.set ((0 : Nat) + i.toNat)
                                      (IntKind.u32.wrap
                                        (IntKind.u64.wrap
                                          (IntKind.u64.wrap (xs.getD ((0 : Nat) + i.toNat) (0 : Int)) - c)))) }] }))
                  (Tr.no (9002)))
                (Tr.no (8002)))
              (Tr.no (8003)))
            (Tr.no (8004))))
        (Tr.no (4003)))
      (Tr.no (4004)))
    (Tr.ok
      (Res.out (Exit.exit (0))
        {
          t :=
            [PV.sl (0) (1) (0) n, PV.lst (1) (Cont.ints IntKind.u32 ys),
              PV.i IntKind.u64 c, PV.sl (0) (1) (0) n, PV.i IntKind.i64 len, PV.i IntKind.i64 i],
          h := [some { e := 1, c := Cont.ints IntKind.u32 xs }] })) := by kernel_rfl
def subL : Int → List Int → List Int → List Int
  | _, [], _ => []
  | c, x :: xs, ys => ((x - c - ys.headD 0) % 4294967296) :: subL (if x - c - ys.headD 0 < 0 then 1 else 0) xs ys.tail
def subC : Int → List Int → List Int → Int
  | c, [], _ => c
  | c, x :: xs, ys => subC (if x - c - ys.headD 0 < 0 then 1 else 0) xs ys.tail
def isD (xs : List Int) : Prop := ∀ x ∈ xs, 0 ≤ x ∧ x < 4294967296
theorem isD.tail {xs : List Int} (h : isD xs) : isD xs.tail := fun x hx => h x (List.mem_of_mem_tail hx)
theorem isD.head {xs : List Int} (h : isD xs) : 0 ≤ xs.headD 0 ∧ xs.headD 0 < 4294967296 := by
  cases xs with
  | nil => exact ⟨by decide, by decide⟩
  | cons x xs => exact h x (by simp)
theorem lv_head (xs : List Int) : lv 4294967296 xs = (xs.headD 0).toNat + 4294967296 * lv 4294967296 xs.tail := by
  cases xs <;> rfl
theorem subL_dig : ∀ (xs ys : List Int) (c : Int), isD (subL c xs ys)
  | [], _, _ => fun x hx => by cases hx
  | x :: xs, ys, c => fun z hz => by
    simp only [subL, List.mem_cons] at hz
    rcases hz with rfl | hz
    · omega
    · exact subL_dig xs _ _ z hz
theorem subL_len : ∀ (xs ys : List Int) (c : Int), (subL c xs ys).length = xs.length
  | [], _, _ => rfl
  | x :: xs, ys, c => by simp [subL, subL_len xs]
theorem subC_01 : ∀ (xs ys : List Int) (c : Int), 0 ≤ c → c ≤ 1 → 0 ≤ subC c xs ys ∧ subC c xs ys ≤ 1
  | [], _, _, h0, h1 => ⟨h0, h1⟩
  | x :: xs, ys, c, _, _ => by
    refine subC_01 xs _ _ ?_ ?_ <;> split <;> omega
theorem subL_val : ∀ (xs ys : List Int) (c : Int), 0 ≤ c → c ≤ 1 → isD xs → isD ys → ys.length ≤ xs.length →
    (lv 4294967296 (subL c xs ys) : Int) = lv 4294967296 xs - lv 4294967296 ys - c + subC c xs ys * ((4294967296 ^ xs.length : Nat) : Int)
  | [], ys, c, h0, h1, hx, hy, hl => by
    have : ys = [] := List.eq_nil_of_length_eq_zero (by simpa using hl)
    subst this
    simp [subL, subC, lv]
    omega
  | x :: xs, ys, c, h0, h1, hx, hy, hl => by
    have ih := subL_val xs ys.tail (if x - c - ys.headD 0 < 0 then 1 else 0) (by split <;> omega) (by split <;> omega) hx.tail hy.tail (by simp at hl ⊢; omega)
    have hxx := hx x (by simp)
    have hyy := hy.head
    rw [lv_head ys]
    show ((((x - c - ys.headD 0) % 4294967296).toNat + 4294967296 * lv 4294967296 (subL (if x - c - ys.headD 0 < 0 then 1 else 0) xs ys.tail) : Nat) : Int) = ((x.toNat + 4294967296 * lv 4294967296 xs : Nat) : Int) - _ - c + subC (if x - c - ys.headD 0 < 0 then 1 else 0) xs ys.tail * ((4294967296 ^ (xs.length + 1) : Nat) : Int)
    have hp : subC (if x - c - ys.headD 0 < 0 then 1 else 0) xs ys.tail * ((4294967296 ^ (xs.length + 1) : Nat) : Int) = 4294967296 * (subC (if x - c - ys.headD 0 < 0 then 1 else 0) xs ys.tail * ((4294967296 ^ xs.length : Nat) : Int)) := by
      rw [Nat.pow_succ, Int.natCast_mul, Int.mul_comm (((4294967296 ^ xs.length : Nat)) : Int), ← Int.mul_assoc, ← Int.mul_assoc, Int.mul_comm (subC _ _ _)]
      rfl
    rw [hp]
    generalize subC (if x - c - ys.headD 0 < 0 then 1 else 0) xs ys.tail * ((4294967296 ^ xs.length : Nat) : Int) = T at ih ⊢
    generalize lv 4294967296 (subL (if x - c - ys.headD 0 < 0 then 1 else 0) xs ys.tail) = R at ih ⊢
    generalize ys.headD 0 = y at *
    split at ih <;> omega
theorem subL_ok {xs ys : List Int} (hx : isD xs) (hy : isD ys) (hl : ys.length ≤ xs.length) (h : lv 4294967296 ys ≤ lv 4294967296 xs) : lv 4294967296 (subL 0 xs ys) = lv 4294967296 xs - lv 4294967296 ys := by
  have h1 := subL_val xs ys 0 (by omega) (by omega) hx hy hl
  have h2 := subC_01 xs ys 0 (by omega) (by omega)
  have h3 : lv 4294967296 (subL 0 xs ys) < 4294967296 ^ xs.length := by
    rw [← subL_len xs ys 0]
    exact lv_lt fun x hx => by have := subL_dig xs ys 0 x hx; omega
  have h4 : subC 0 xs ys = 0 := by
    rcases (show subC 0 xs ys = 0 ∨ subC 0 xs ys = 1 by omega) with h | h
    · exact h
    · rw [h, Int.one_mul] at h1; omega
  rw [h4, Int.zero_mul] at h1
  omega
theorem getD_app (pre : List Int) (x : Int) (xs : List Int) : (pre ++ x :: xs).getD pre.length 0 = x := by simp [List.getD_eq_getElem?_getD]
theorem set_app (pre : List Int) (x v : Int) (xs : List Int) : (pre ++ x :: xs).set pre.length v = pre ++ v :: xs := by simp
theorem drop_head (ys : List Int) (i : Nat) : (ys.drop i).headD 0 = ys.getD i 0 := by
  simp [List.getD_eq_getElem?_getD, List.headD_eq_head?_getD]
theorem sub_digit {x c y : Int} (hx : 0 ≤ x ∧ x < 4294967296) (hc : 0 ≤ c ∧ c ≤ 1) (hy : 0 ≤ y ∧ y < 4294967296) :
    IntKind.u32.wrap (IntKind.u64.wrap (IntKind.u64.wrap (IntKind.u64.wrap x - c) - IntKind.u64.wrap y)) = (x - c - y) % 4294967296 ∧
    (IntKind.u64.wrap (IntKind.u64.wrap (IntKind.u64.wrap x - c) - IntKind.u64.wrap y)).fdiv ((2 : Int) ^ min (Int.toNat (63 : Int)) IntKind.u64.bits) = if x - c - y < 0 then 1 else 0 := by
  have e : (2 : Int) ^ min (Int.toNat (63 : Int)) IntKind.u64.bits = 9223372036854775808 := by decide
  rw [e, Int.fdiv_eq_ediv_of_nonneg _ (by omega)]
  simp only [IntKind.wrap_u32', IntKind.wrap_u64]
  constructor
  · omega
  · split <;> omega
theorem sub_digit0 {x c : Int} (hx : 0 ≤ x ∧ x < 4294967296) (hc : 0 ≤ c ∧ c ≤ 1) :
    IntKind.u32.wrap (IntKind.u64.wrap (IntKind.u64.wrap x - c)) = (x - c - 0) % 4294967296 ∧
    (IntKind.u64.wrap (IntKind.u64.wrap x - c)).fdiv ((2 : Int) ^ min (Int.toNat (63 : Int)) IntKind.u64.bits) = if x - c - 0 < 0 then 1 else 0 := by
  have e : (2 : Int) ^ min (Int.toNat (63 : Int)) IntKind.u64.bits = 9223372036854775808 := by decide
  rw [e, Int.fdiv_eq_ediv_of_nonneg _ (by omega)]
  simp only [IntKind.wrap_u32', IntKind.wrap_u64]
  constructor
  · omega
  · split <;> omega
def st127 (n : Nat) (ys : List Int) (xs : List Int) (c : Int) (i : Nat) : LS := ⟨[.sl 0 1 0 n, .lst 1 (.ints .u32 ys), .i .u64 c, .sl 0 1 0 n, .i .i64 n, .i .i64 i], [some ⟨1, .ints .u32 xs⟩]⟩
theorem step127 (pre xs ys : List Int) (x c : Int) (n : Nat) (hn : n = (pre ++ x :: xs).length) (hs : n ≤ 1073741824) (hx : 0 ≤ x ∧ x < 4294967296) (hy : isD ys) (hc : 0 ≤ c ∧ c ≤ 1) :
    (evRound Tryd.prog [] [] pol127 Tryd.f127.ntmps 1 [0, 1, 4, 8, 9, 10] b127 (st127 n ys (pre ++ x :: xs) c pre.length)).run =
      some (.out .normal (st127 n ys ((pre ++ [(x - c - (ys.drop pre.length).headD 0) % 4294967296]) ++ xs) (if x - c - (ys.drop pre.length).headD 0 < 0 then 1 else 0) (pre ++ [(x - c - (ys.drop pre.length).headD 0) % 4294967296]).length)) := by
  have hlen : (pre ++ x :: xs).length = pre.length + 1 + xs.length := by simp; omega
  unfold st127
  rw [r127]
  have e0 : 0 + ((pre.length : Nat) : Int).toNat = pre.length := by rw [Int.toNat_natCast]; omega
  have e1 : ((pre.length : Nat) : Int) + 1 = (((pre ++ [(x - c - (ys.drop pre.length).headD 0) % 4294967296]).length : Nat) : Int) := by simp
  rw [e0, getD_app]
  rw [Tr.run_t (decide_eq_true (by omega)), Tr.run_t (by simp only [Bool.and_eq_true, decide_eq_true_eq]; omega), Tr.run_t (by rw [Nat.ble_eq]; omega)]
  by_cases h : pre.length < ys.length
  · have hd := sub_digit (y := (ys.drop pre.length).headD 0) hx hc (isD.head (fun z hz => hy z (List.mem_of_mem_drop hz)))
    rw [drop_head] at hd
    rw [Tr.run_t (decide_eq_true (by omega))]
    repeat rw [Tr.run_t (by simp only [Bool.and_eq_true, decide_eq_true_eq, Nat.ble_eq]; omega)]
    rw [Tr.run_ok, Int.toNat_natCast, hd.1, hd.2, set_app, e1, drop_head]
    simp
  · have hd := sub_digit0 hx hc
    have h0 : (ys.drop pre.length).headD 0 = 0 := by rw [List.drop_eq_nil_of_le (by omega)]; rfl
    rw [Tr.run_f (decide_eq_false (by omega))]
    repeat rw [Tr.run_t (by simp only [Bool.and_eq_true, decide_eq_true_eq, Nat.ble_eq]; omega)]
    rw [Tr.run_ok, hd.1, hd.2, set_app, e1, h0]
    simp
include hG in
theorem goes127 (ys : List Int) (n : Nat) (hs : n ≤ 1073741824) (hy : isD ys) : ∀ (xs pre : List Int) (c : Int), n = (pre ++ xs).length → isD xs → 0 ≤ c ∧ c ≤ 1 →
    Goes (Rnd Tryd.prog G Tryd.f127.ntmps 1 [0, 1, 4, 8, 9, 10] b127) (st127 n ys (pre ++ xs) c pre.length) (.exit 0) (st127 n ys (pre ++ subL c xs (ys.drop pre.length)) (subC c xs (ys.drop pre.length)) n)
  | [], pre, c, hn, _, _ => by
    refine .last _ _ _ (round_ok hG OrcOK.nil mix (L := []) (pol := pol127) (O := []) (LpsOK.none (by kernel_rfl)) (Nat.le_refl _) ?_) (by simp)
    simp only [List.append_nil] at hn
    unfold st127
    rw [r127, Tr.run_f (decide_eq_false (by omega)), Tr.run_ok, hn]
    rfl
  | x :: xs, pre, c, hn, hx, hc => by
    refine .more _ _ _ _ (round_ok hG OrcOK.nil mix (L := []) (pol := pol127) (O := []) (LpsOK.none (by kernel_rfl)) (Nat.le_refl _) (step127 pre xs ys x c n hn hs (hx x (by simp)) hy hc)) ?_
    have ih := goes127 ys n hs hy xs (pre ++ [(x - c - (ys.drop pre.length).headD 0) % 4294967296]) (if x - c - (ys.drop pre.length).headD 0 < 0 then 1 else 0) (by rw [hn]; simp) (fun z hz => hx z (by simp [hz])) (by split <;> omega)
    have ed : ys.drop (pre ++ [(x - c - (ys.drop pre.length).headD 0) % 4294967296]).length = (ys.drop pre.length).tail := by
      rw [List.length_append, List.tail_drop]; rfl
    rw [ed] at ih
    have e2 : pre ++ subL c (x :: xs) (ys.drop pre.length) = (pre ++ [(x - c - (ys.drop pre.length).headD 0) % 4294967296]) ++ subL (if x - c - (ys.drop pre.length).headD 0 < 0 then 1 else 0) xs (ys.drop pre.length).tail := by
      simp [subL]
    rw [e2]
    exact ih
def allD (xs : List Int) : Bool := xs.all (fun x => decide (0 ≤ x) && decide (x < 4294967296))
theorem allD_iff {xs : List Int} : allD xs = true ↔ isD xs := by simp [allD, isD]
def l127 : LSpec := fun ls K => match ls with
  | ⟨[.sl 0 1 0 n, .lst 1 (.ints .u32 ys), .i .u64 c, .sl 0 1 0 n', .i .i64 len, .i .i64 i], [some ⟨1, .ints .u32 xs⟩]⟩ => .br (decide (c = 0) && decide (i = 0) && decide (n' = n) && decide (len = n) && decide (n = xs.length) && decide (n ≤ 1073741824) && allD xs && allD ys)
      (K (.exit 0) (st127 n ys (subL 0 xs ys) (subC 0 xs ys) n)) (.no 1)
  | _ => .no 1
theorem e127 (n : Nat) (xs ys : List Int) : evF Tryd.prog [] [(2, l127)] pol127 Tryd.f127 [.sl 0 1 0 n, .lst 1 (.ints .u32 ys)] [⟨1, .ints .u32 xs⟩] retK =
  Tr.br
    (decide ((0 : Int) = (0 : Int)) && decide ((0 : Int) = (0 : Int)) && decide (n = n) &&
              decide ((↑n : Int) = (↑n : Int)) &&
            decide (n = xs.length) &&
          decide (n ≤ (1073741824 : Nat)) &&
        allD xs &&
      allD ys)
    (Tr.ok (Res.ret (PV.tup []) [{ e := 1, c := Cont.ints IntKind.u32 (subL (0 : Int) xs ys) }]))
    (Tr.no (1)) := by kernel_rfl
def s127 : Spec := fun args hs K => match args, hs with
  | [.sl 0 1 0 n, .lst 1 (.ints .u32 ys)], [⟨1, .ints .u32 xs⟩] => .br (decide (n = xs.length) && decide (n ≤ 1073741824) && allD xs && allD ys) (K (.tup []) [⟨1, .ints .u32 (subL 0 xs ys)⟩]) (.no 1)
  | _, _ => .no 1
include hG in
theorem ok127 : SpecOK Tryd.prog G 127 s127 := by
  refine spec_of hG OrcOK.nil mix enter127 (L := [(2, l127)]) (pol := pol127) fun args hs K x h => ?_
  unfold s127 at h
  split at h
  case h_2 => cases h
  rename_i n ys xs
  obtain ⟨hc, hr⟩ := Tr.of_br h
  refine ⟨lps1 (b := b127) (live := [0, 1, 4, 8, 9, 10]) (sp := l127) (m := 1) (by kernel_rfl) (by kernel_rfl) (by kernel_rfl) ?_, _, _, _, ?_, .refl _, hr⟩
  · intro ls K x hm h
    unfold l127 at h
    split at h
    case h_2 => cases h
    obtain ⟨hc, hr⟩ := Tr.of_br h
    simp only [Bool.and_eq_true, decide_eq_true_eq, allD_iff] at hc
    obtain ⟨⟨⟨⟨⟨⟨⟨rfl, rfl⟩, rfl⟩, rfl⟩, hn⟩, hs⟩, hx⟩, hy⟩ := hc
    exact ⟨_, _, goes_ok (goes127 hG _ _ hs hy _ [] 0 hn hx (by omega)), hr⟩
  · rw [e127, Tr.run_t (by simpa using hc)]; rfl

/-! nat.Sub -/
theorem enter111 : Enters Tryd.prog 111 Tryd.f111 (bodyC Tryd.f111) := ⟨Tryd.func111, by kernel_rfl, rfl⟩
def pol111 : Pol := { own := [13], wr := [(127, [0])] }
def O111 : Orc := [(82, s82), (117, s117), (118, s118), (127, s127)]
theorem e111 (a b : ByteArray) : evF Tryd.prog O111 [] pol111 Tryd.f111 [.s a, .s b] [] retK =
  Tr.br (decide (ncmp (bv a.1.toList) (bv b.1.toList) < (0 : Int)))
    (Tr.ok (Res.ret (PV.tup [PV.s { data := #[] }, PV.i IntKind.i64 (1 : Int)]) []))
    (Tr.br (a.size.ble (1073741824 : Nat))
      (Tr.br (b.size.ble (1073741824 : Nat))
        (Tr.br
          (((0 : Nat) + (dg (4294967296 : Nat) (bv b.1.toList)).length).ble
            (dg (4294967296 : Nat) (bv b.1.toList)).length)
          (Tr.br
            (decide ((dg (4294967296 : Nat) (bv a.1.toList)).length = (dg (4294967296 : Nat) (bv a.1.toList)).length) &&
                  decide ((dg (4294967296 : Nat) (bv a.1.toList)).length ≤ (1073741824 : Nat)) &&
                allD (dg (4294967296 : Nat) (bv a.1.toList)) &&
              allD
                (List.take (dg (4294967296 : Nat) (bv b.1.toList)).length
                  (List.drop (0 : Nat) (dg (4294967296 : Nat) (bv b.1.toList)))))
            (Tr.br
              (((0 : Nat) + (dg (4294967296 : Nat) (bv a.1.toList)).length).ble
                (subL (0 : Int) (dg (4294967296 : Nat) (bv a.1.toList))
                    (List.take (dg (4294967296 : Nat) (bv b.1.toList)).length
                      (List.drop (0 : Nat) (dg (4294967296 : Nat) (bv b.1.toList))))).length)
              (Tr.br
                ((List.take (dg (4294967296 : Nat) (bv a.1.toList)).length
                          (List.drop (0 : Nat)
                            (subL (0 : Int) (dg (4294967296 : Nat) (bv a.1.toList))
                              (List.take (dg (4294967296 : Nat) (bv b.1.toList)).length
                                (List.drop (0 : Nat) (dg (4294967296 : Nat) (bv b.1.toList))))))).length.ble
                    (268435456 : Nat) &&
                  (List.take (dg (4294967296 : Nat) (bv a.1.toList)).length
                        (List.drop (0 : Nat)
                          (subL (0 : Int) (dg (4294967296 : Nat) (bv a.1.toList))
                            (List.take (dg (4294967296 : Nat) (bv b.1.toList)).length
                              (List.drop (0 : Nat) (dg (4294967296 : Nat) (bv b.1.toList))))))).all
                    fun (x : Int) => decide ((0 : Int) ≤ x) && decide (x < (4294967296 : Int)))
                (Tr.ok
                  (Res.ret
                    (PV.tup
                      [PV.s
                          (nb
                            (lv (4294967296 : Nat)
                              (List.take (dg (4294967296 : Nat) (bv a.1.toList)).length
                                (List.drop (0 : Nat)
                                  (subL (0 : Int) (dg (4294967296 : Nat) (bv a.1.toList))
                                    (List.take (dg (4294967296 : Nat) (bv b.1.toList)).length
                                      (List.drop (0 : Nat) (dg (4294967296 : Nat) (bv b.1.toList))))))))),
                        PV.i IntKind.i64 (0 : Int)])
                    []))
                (Tr.no (1)))
              (Tr.no (6003)))
            (Tr.no (1)))
          (Tr.no (4003)))
        (Tr.no (1)))
      (Tr.no (1))) := by kernel_rfl
def s111 : Spec := fun args hs K => match args, hs with
  | [.s a, .s b], [] => .br (decide (a.size ≤ 1048576) && decide (b.size ≤ 1048576))
      (.br (decide (bv b.data.toList ≤ bv a.data.toList)) (K (.tup [.s (nb (bv a.data.toList - bv b.data.toList)), .i .i64 0]) []) (K (.tup [.s (nb 0), .i .i64 1]) [])) (.no 1)
  | _, _ => .no 1
theorem dg_isD (n : Nat) : isD (dg 4294967296 n) := dg_mem (by omega) n
theorem dg_len_size (a : ByteArray) : (dg 4294967296 (bv a.data.toList)).length ≤ a.size := by
  refine dg_length_le (by omega) ?_
  have h := bv_lt a.data.toList
  rw [ba_len] at h
  exact Nat.lt_of_lt_of_le h (Nat.pow_le_pow_left (by omega) _)
theorem dg_len_mono {n m : Nat} (h : n ≤ m) : (dg 4294967296 n).length ≤ (dg 4294967296 m).length :=
  dg_length_le (by omega) (Nat.lt_of_le_of_lt h (dg_lt (by omega) m))
theorem ncmp_lt0 {n m : Nat} : ncmp n m < 0 ↔ n < m := by
  unfold ncmp
  split
  · simp; assumption
  · split <;> simp <;> omega
include hG in
theorem orc111 : OrcOK Tryd.prog G O111 := .cons (ok82 hG) (.cons (ok117 hG) (.cons (ok118 hG) (.cons (ok127 hG) .nil)))
include hG in
theorem ok111 : SpecOK Tryd.prog G 111 s111 := by
  refine spec_of hG (orc111 hG) mix enter111 (L := []) (pol := pol111) fun args hs K x h => ?_
  unfold s111 at h
  split at h
  case h_2 => cases h
  rename_i a b
  obtain ⟨hc, hr⟩ := Tr.of_br h
  simp only [Bool.and_eq_true, decide_eq_true_eq] at hc
  refine ⟨?_, ?_⟩
  · intro c hc live sp _ h2; cases h2
  rw [e111]
  by_cases hle : bv b.data.toList ≤ bv a.data.toList
  · rw [Tr.run_t (decide_eq_true hle)] at hr
    refine ⟨_, _, _, ?_, .refl _, hr⟩
    have l1 := dg_len_size a
    have l2 := dg_len_size b
    have l3 := dg_len_mono hle
    have l4 := subL_len (dg 4294967296 (bv a.data.toList)) (dg 4294967296 (bv b.data.toList)) 0
    have t1 : List.take (dg 4294967296 (bv a.data.toList)).length (subL 0 (dg 4294967296 (bv a.data.toList)) (dg 4294967296 (bv b.data.toList))) = subL 0 (dg 4294967296 (bv a.data.toList)) (dg 4294967296 (bv b.data.toList)) :=
      List.take_of_length_le (by omega)
    have v := subL_ok (dg_isD (bv a.data.toList)) (dg_isD (bv b.data.toList)) l3 (by rw [lv_dg (by omega), lv_dg (by omega)]; exact hle)
    rw [lv_dg (by omega), lv_dg (by omega)] at v
    have d1 := allD_iff.2 (dg_isD (bv a.data.toList))
    have d2 := allD_iff.2 (dg_isD (bv b.data.toList))
    have d3 := allD_iff.2 (subL_dig (dg 4294967296 (bv a.data.toList)) (dg 4294967296 (bv b.data.toList)) 0)
    unfold allD at d3
    simp only [List.drop_zero, List.take_length, t1, d1, d2, d3, v, Bool.and_true, decide_true, Bool.true_and]
    rw [Tr.run_f (decide_eq_false (by rw [ncmp_lt0]; omega))]
    repeat rw [Tr.run_t (by simp only [Bool.and_eq_true, decide_eq_true_eq, Nat.ble_eq]; omega)]
    rw [Tr.run_ok]
  · rw [Tr.run_f (decide_eq_false hle)] at hr
    refine ⟨_, _, _, ?_, .refl _, hr⟩
    rw [Tr.run_t (decide_eq_true (ncmp_lt0.2 (by omega)))]
    rfl
end Go.Proofs.YtejfdhcigkgbmaaDoor.PE
namespace Go.Proofs.YtejfdhcigkgbmaaDoor.PE
open Go
set_option maxRecDepth 100000
variable {G : World → (Nat → Prop) → Prop} (hG : GOk G)

/-! rat.zero, rat.Good, rat.fit, rat.made, rat.signed -/
theorem enter110 : Enters Tryd.prog 110 Tryd.f110 (bodyC Tryd.f110) := ⟨Tryd.func110, by kernel_rfl, rfl⟩
noncomputable def s110 : Spec := evF Tryd.prog [] [] {} Tryd.f110
include hG in
theorem ok110 : SpecOK Tryd.prog G 110 s110 := spec_ev hG .nil mix enter110 (fun _ => LpsOK.none (by kernel_rfl))
theorem enter109 : Enters Tryd.prog 109 Tryd.f109 (bodyC Tryd.f109) := ⟨Tryd.func109, by kernel_rfl, rfl⟩
theorem e109 (x : Rat) (n : Nat) : evF Tryd.prog [(112, s112)] [] {} Tryd.f109 [.q x n] [] retK =
  Tr.br (decide (rden x = { data := #[] })) (Tr.ok (Res.ret (PV.bl false) []))
    (Tr.br (decide ((0 : Int) ≤ (0 : Int)) && decide ((0 : Int) < (↑(rden x).size : Int)))
      (Tr.br
        (decide
          ((↑((natBytesL x.den x.den []).toArray.toList.getD (Int.toNat (0 : Int)) (0 : UInt8)).toNat : Int) = (0 : Int)))
        (Tr.ok (Res.ret (PV.bl false) []))
        (Tr.br (decide (rnum x = { data := #[] }))
          (Tr.br (rneg x) (Tr.ok (Res.ret (PV.bl false) []))
            (Tr.br (!decide (rden x = { data := #[(1 : UInt8)] })) (Tr.ok (Res.ret (PV.bl false) []))
              (Tr.br (!decide (rnum x = { data := #[] }))
                (Tr.br (decide ((0 : Int) ≤ (0 : Int)) && decide ((0 : Int) < (↑(rnum x).size : Int)))
                  (Tr.br
                    (decide
                      ((↑((natBytesL x.num.natAbs x.num.natAbs []).toArray.toList.getD (Int.toNat (0 : Int))
                                (0 : UInt8)).toNat :
                          Int) =
                        (0 : Int)))
                    (Tr.ok (Res.ret (PV.bl false) []))
                    (Tr.br (decide (rden x = { data := #[(1 : UInt8)] })) (Tr.ok (Res.ret (PV.bl true) []))
                      (Tr.br
                        (decide
                            (bv (natBytesL x.num.natAbs x.num.natAbs []).toArray.toList < (18446744073709551616 : Nat)) &&
                          decide (bv (natBytesL x.den x.den []).toArray.toList < (18446744073709551616 : Nat)))
                        (Tr.ok
                          (Res.ret
                            (PV.b
                              (decide
                                (nb
                                    ((bv (natBytesL x.num.natAbs x.num.natAbs []).toArray.toList).gcd
                                      (bv (natBytesL x.den x.den []).toArray.toList)) =
                                  { data := #[(1 : UInt8)] })))
                            []))
                        (Tr.no (1)))))
                  (Tr.no (2004)))
                (Tr.br (decide (rden x = { data := #[(1 : UInt8)] })) (Tr.ok (Res.ret (PV.bl true) []))
                  (Tr.br
                    (decide (bv (natBytesL x.num.natAbs x.num.natAbs []).toArray.toList < (18446744073709551616 : Nat)) &&
                      decide (bv (natBytesL x.den x.den []).toArray.toList < (18446744073709551616 : Nat)))
                    (Tr.ok
                      (Res.ret
                        (PV.b
                          (decide
                            (nb
                                ((bv (natBytesL x.num.natAbs x.num.natAbs []).toArray.toList).gcd
                                  (bv (natBytesL x.den x.den []).toArray.toList)) =
                              { data := #[(1 : UInt8)] })))
                        []))
                    (Tr.no (1)))))))
          (Tr.br (!decide (rnum x = { data := #[] }))
            (Tr.br (decide ((0 : Int) ≤ (0 : Int)) && decide ((0 : Int) < (↑(rnum x).size : Int)))
              (Tr.br
                (decide
                  ((↑((natBytesL x.num.natAbs x.num.natAbs []).toArray.toList.getD (Int.toNat (0 : Int))
                            (0 : UInt8)).toNat :
                      Int) =
                    (0 : Int)))
                (Tr.ok (Res.ret (PV.bl false) []))
                (Tr.br (decide (rden x = { data := #[(1 : UInt8)] })) (Tr.ok (Res.ret (PV.bl true) []))
                  (Tr.br
                    (decide (bv (natBytesL x.num.natAbs x.num.natAbs []).toArray.toList < (18446744073709551616 : Nat)) &&
                      decide (bv (natBytesL x.den x.den []).toArray.toList < (18446744073709551616 : Nat)))
                    (Tr.ok
                      (Res.ret
                        (PV.b
                          (decide
                            (nb
                                ((bv (natBytesL x.num.natAbs x.num.natAbs []).toArray.toList).gcd
                                  (bv (natBytesL x.den x.den []).toArray.toList)) =
                              { data := #[(1 : UInt8)] })))
                        []))
                    (Tr.no (1)))))
              (Tr.no (2004)))
            (Tr.br (decide (rden x = { data := #[(1 : UInt8)] })) (Tr.ok (Res.ret (PV.bl true) []))
              (Tr.br
                (decide (bv (natBytesL x.num.natAbs x.num.natAbs []).toArray.toList < (18446744073709551616 : Nat)) &&
                  decide (bv (natBytesL x.den x.den []).toArray.toList < (18446744073709551616 : Nat)))
                (Tr.ok
                  (Res.ret
                    (PV.b
                      (decide
                        (nb
                            ((bv (natBytesL x.num.natAbs x.num.natAbs []).toArray.toList).gcd
                              (bv (natBytesL x.den x.den []).toArray.toList)) =
                          { data := #[(1 : UInt8)] })))
                    []))
                (Tr.no (1)))))))
      (Tr.no (2028))) := by kernel_rfl
theorem vle_b (x : Bool) : VLe (.b x) (.bl x) := by
  refine ⟨rfl, fun w S μ => ⟨fun cs h => by cases h; exact .bl _ _, fun v h => ?_⟩⟩
  cases h with
  | cell _ _ _ hv h => exact .cell _ _ _ rfl (by cases h; exact .bl _ _)
  | agg _ _ cs hv h => simp [isAgg] at hv
theorem rle_b {x y : Bool} (h : x = y) : RLe (.b x) (.bl y) := by
  subst h; exact ⟨fun _ => vle_b x, fun _ => .refl _⟩
def s109 : Spec := fun args hs K => match args, hs with
  | [.q x _], [] => .br (decide (x.num.natAbs < 18446744073709551616) && decide (x.den < 18446744073709551616)) (K (.bl true) []) (.no 1)
  | _, _ => .no 1
theorem nb_head' {n : Nat} (h : n ≠ 0) : ¬ (((natBytesL n n []).toArray.toList.getD (Int.toNat (0 : Int)) (0 : UInt8)).toNat : Int) = 0 := nb_head h
theorem rat_zero_den {x : Rat} (h : x.num.natAbs = 0) : x.den = 1 := by
  have := x.reduced
  rw [h] at this
  simpa using this
theorem rnum_empty (x : Rat) : rnum x = ⟨#[]⟩ ↔ x.num.natAbs = 0 := nb_eq_empty
theorem rden_one (x : Rat) : rden x = ⟨#[1]⟩ ↔ x.den = 1 := nb_eq_one
theorem rden_empty (x : Rat) : ¬ rden x = ⟨#[]⟩ := fun h => x.den_nz (nb_eq_empty.1 h)
theorem rneg_zero {x : Rat} (h : x.num.natAbs = 0) : rneg x = false := decide_eq_false (by omega)
include hG in
theorem ok109 : SpecOK Tryd.prog G 109 s109 := by
  refine spec_of hG (.cons (ok112 hG) .nil) mix enter109 (L := []) (pol := {}) fun args hs K x h => ?_
  unfold s109 at h
  split at h
  case h_2 => cases h
  rename_i x n
  obtain ⟨hc, hr⟩ := Tr.of_br h
  refine ⟨LpsOK.none (by kernel_rfl), ?_⟩
  have hd := x.den_nz
  have hg := x.reduced
  unfold Nat.Coprime at hg
  have hcc := hc
  simp only [Bool.and_eq_true, decide_eq_true_eq] at hcc
  have p1 := nb_size_pos hd
  rw [e109]
  rw [Tr.run_f (decide_eq_false (rden_empty x)), Tr.run_t (by rw [rden_eq]; simp only [Bool.and_eq_true, decide_eq_true_eq]; omega), Tr.run_f (decide_eq_false (nb_head' hd))]
  simp only [bv_nb', bv_nb2]
  by_cases h0 : x.num.natAbs = 0
  · rw [Tr.run_t (decide_eq_true ((rnum_empty x).2 h0)), Tr.run_f (rneg_zero h0), Tr.run_f (by rw [decide_eq_true ((rden_one x).2 (rat_zero_den h0))]; rfl),
      Tr.run_f (by rw [decide_eq_true ((rnum_empty x).2 h0)]; rfl), Tr.run_t (decide_eq_true ((rden_one x).2 (rat_zero_den h0)))]
    exact ⟨_, _, _, rfl, .refl _, hr⟩
  · have p2 := nb_size_pos h0
    rw [Tr.run_f (decide_eq_false (fun h => h0 ((rnum_empty x).1 h))), Tr.run_t (by rw [decide_eq_false (fun h => h0 ((rnum_empty x).1 h))]; rfl), Tr.run_t (by rw [rnum_eq]; simp only [Bool.and_eq_true, decide_eq_true_eq]; omega), Tr.run_f (decide_eq_false (nb_head' h0))]
    by_cases h1 : x.den = 1
    · rw [Tr.run_t (decide_eq_true ((rden_one x).2 h1))]
      exact ⟨_, _, _, rfl, .refl _, hr⟩
    · rw [Tr.run_f (decide_eq_false (fun h => h1 ((rden_one x).1 h))), Tr.run_t hc, Tr.run_ok, hg]
      exact ⟨_, _, _, rfl, rle_b (decide_eq_true nb_onev), hr⟩
theorem enter74 : Enters Tryd.prog 74 Tryd.f74 (bodyC Tryd.f74) := ⟨Tryd.func74, by kernel_rfl, rfl⟩
theorem e74 (x : Rat) (n : Nat) : evF Tryd.prog [(109, s109), (110, s110)] [] {} Tryd.f74 [.q x n] [] retK =
  Tr.br (decide (x.num.natAbs < (18446744073709551616 : Nat)) && decide (x.den < (18446744073709551616 : Nat)))
    (Tr.ok (Res.ret (PV.q x n) [])) (Tr.no (1)) := by kernel_rfl
def s74 : Spec := fun args hs K => match args, hs with
  | [.q x n], [] => .br (decide (x.num.natAbs < 18446744073709551616) && decide (x.den < 18446744073709551616)) (K (.q x n) []) (.no 1)
  | _, _ => .no 1
include hG in
theorem ok74 : SpecOK Tryd.prog G 74 s74 := by
  refine spec_of hG (.cons (ok109 hG) (.cons (ok110 hG) .nil)) mix enter74 (L := []) (pol := {}) fun args hs K x h => ?_
  unfold s74 at h
  split at h
  case h_2 => cases h
  rename_i x n
  obtain ⟨hc, hr⟩ := Tr.of_br h
  refine ⟨LpsOK.none (by kernel_rfl), _, _, _, ?_, .refl _, hr⟩
  rw [e74, Tr.run_t hc]
  rfl
theorem enter76 : Enters Tryd.prog 76 Tryd.f76 (bodyC Tryd.f76) := ⟨Tryd.func76, by kernel_rfl, rfl⟩
theorem e76 (neg : Bool) (a d : ByteArray) : evF Tryd.prog [(110, s110), (112, s112), (113, s113)] [] {} Tryd.f76 [.b neg, .s a, .s d] [] retK =
  Tr.br (decide (a = { data := #[] }))
    (Tr.ok (Res.ret (PV.agg [PV.bl false, PV.s { data := #[] }, PV.s { data := #[(1 : UInt8)] }]) []))
    (Tr.br (!decide (d = { data := #[(1 : UInt8)] }))
      (Tr.br
        (decide (bv a.1.toList < (18446744073709551616 : Nat)) && decide (bv d.1.toList < (18446744073709551616 : Nat)))
        (Tr.br (!decide (nb ((bv a.1.toList).gcd (bv d.1.toList)) = { data := #[(1 : UInt8)] }))
          (Tr.br
            (decide (bv a.1.toList < (18446744073709551616 : Nat)) &&
                decide
                  (bv
                      (natBytesL ((bv a.1.toList).gcd (bv d.1.toList)) ((bv a.1.toList).gcd (bv d.1.toList))
                            []).toArray.toList <
                    (18446744073709551616 : Nat)) &&
              decide
                ((0 : Nat) <
                  bv
                    (natBytesL ((bv a.1.toList).gcd (bv d.1.toList)) ((bv a.1.toList).gcd (bv d.1.toList))
                          []).toArray.toList))
            (Tr.br
              (decide (bv d.1.toList < (18446744073709551616 : Nat)) &&
                  decide
                    (bv
                        (natBytesL ((bv a.1.toList).gcd (bv d.1.toList)) ((bv a.1.toList).gcd (bv d.1.toList))
                              []).toArray.toList <
                      (18446744073709551616 : Nat)) &&
                decide
                  ((0 : Nat) <
                    bv
                      (natBytesL ((bv a.1.toList).gcd (bv d.1.toList)) ((bv a.1.toList).gcd (bv d.1.toList))
                            []).toArray.toList))
              (Tr.ok
                (Res.ret
                  (PV.agg
                    [PV.b neg,
                      PV.s
                        (nb
                          (bv a.1.toList /
                            bv
                              (natBytesL ((bv a.1.toList).gcd (bv d.1.toList)) ((bv a.1.toList).gcd (bv d.1.toList))
                                    []).toArray.toList)),
                      PV.s
                        (nb
                          (bv d.1.toList /
                            bv
                              (natBytesL ((bv a.1.toList).gcd (bv d.1.toList)) ((bv a.1.toList).gcd (bv d.1.toList))
                                    []).toArray.toList))])
                  []))
              (Tr.no (1)))
            (Tr.no (1)))
          (Tr.ok (Res.ret (PV.agg [PV.b neg, PV.s a, PV.s d]) [])))
        (Tr.no (1)))
      (Tr.ok (Res.ret (PV.agg [PV.b neg, PV.s a, PV.s d]) []))) := by kernel_rfl
theorem e76l (neg : Bool) (a d : ByteArray) : evF Tryd.prog [(110, s110), (112, s112), (113, s113)] [] {} Tryd.f76 [.bl neg, .s a, .s d] [] retK =
  Tr.br (decide (a = { data := #[] }))
    (Tr.ok (Res.ret (PV.agg [PV.bl false, PV.s { data := #[] }, PV.s { data := #[(1 : UInt8)] }]) []))
    (Tr.br (!decide (d = { data := #[(1 : UInt8)] }))
      (Tr.br
        (decide (bv a.1.toList < (18446744073709551616 : Nat)) && decide (bv d.1.toList < (18446744073709551616 : Nat)))
        (Tr.br (!decide (nb ((bv a.1.toList).gcd (bv d.1.toList)) = { data := #[(1 : UInt8)] }))
          (Tr.br
            (decide (bv a.1.toList < (18446744073709551616 : Nat)) &&
                decide
                  (bv
                      (natBytesL ((bv a.1.toList).gcd (bv d.1.toList)) ((bv a.1.toList).gcd (bv d.1.toList))
                            []).toArray.toList <
                    (18446744073709551616 : Nat)) &&
              decide
                ((0 : Nat) <
                  bv
                    (natBytesL ((bv a.1.toList).gcd (bv d.1.toList)) ((bv a.1.toList).gcd (bv d.1.toList))
                          []).toArray.toList))
            (Tr.br
              (decide (bv d.1.toList < (18446744073709551616 : Nat)) &&
                  decide
                    (bv
                        (natBytesL ((bv a.1.toList).gcd (bv d.1.toList)) ((bv a.1.toList).gcd (bv d.1.toList))
                              []).toArray.toList <
                      (18446744073709551616 : Nat)) &&
                decide
                  ((0 : Nat) <
                    bv
                      (natBytesL ((bv a.1.toList).gcd (bv d.1.toList)) ((bv a.1.toList).gcd (bv d.1.toList))
                            []).toArray.toList))
              (Tr.ok
                (Res.ret
                  (PV.agg
                    [PV.bl neg,
                      PV.s
                        (nb
                          (bv a.1.toList /
                            bv
                              (natBytesL ((bv a.1.toList).gcd (bv d.1.toList)) ((bv a.1.toList).gcd (bv d.1.toList))
                                    []).toArray.toList)),
                      PV.s
                        (nb
                          (bv d.1.toList /
                            bv
                              (natBytesL ((bv a.1.toList).gcd (bv d.1.toList)) ((bv a.1.toList).gcd (bv d.1.toList))
                                    []).toArray.toList))])
                  []))
              (Tr.no (1)))
            (Tr.no (1)))
          (Tr.ok (Res.ret (PV.agg [PV.bl neg, PV.s a, PV.s d]) [])))
        (Tr.no (1)))
      (Tr.ok (Res.ret (PV.agg [PV.bl neg, PV.s a, PV.s d]) []))) := by kernel_rfl
def s76 : Spec := fun args hs K => match args, hs with
  | [nv, .s a, .s d], [] => match bof nv with
    | some neg => .br (decide (a = nb (bv a.data.toList)) && decide (d = nb (bv d.data.toList)) && decide (bv a.data.toList < 18446744073709551616) && decide (bv d.data.toList < 18446744073709551616) && decide (0 < bv d.data.toList))
      (K (.q (mkz neg (bv a.data.toList) (bv d.data.toList)) 64) []) (.no 1)
    | none => .no 1
  | _, _ => .no 1
theorem bof_cases {nv : PV} {neg : Bool} (h : bof nv = some neg) : nv = .b neg ∨ nv = .bl neg := by
  cases nv <;> simp [bof] at h <;> subst h <;> simp
theorem mkz_sz {neg : Bool} {n d : Nat} (hd : d ≠ 0) (h1 : n < 18446744073709551616) (h2 : d < 18446744073709551616) : sz (mkz neg n d) ≤ 64 := by
  refine sz_le ?_ ?_ (by omega)
  · rw [mkz_natAbs hd]; exact Nat.lt_of_le_of_lt (Nat.div_le_self _ _) h1
  · rw [mkz_den hd]; exact Nat.lt_of_le_of_lt (Nat.div_le_self _ _) h2
theorem made_zero {nv : PV} {neg : Bool} (h : bof nv = some false) (d : Nat) : RLe (.agg [nv, .s ⟨#[]⟩, .s ⟨#[1]⟩]) (.q (mkz neg 0 d) 64) := by
  rw [mkz_zero]
  exact rle_q (x := 0) h (by decide)
theorem made_some {nv : PV} {neg : Bool} (h : bof nv = some neg) {n d : Nat} (hn : n ≠ 0) (hd : d ≠ 0) (h1 : n < 18446744073709551616) (h2 : d < 18446744073709551616) {a b : ByteArray} (ha : a = nb (n / n.gcd d)) (hb : b = nb (d / n.gcd d)) :
    RLe (.agg [nv, .s a, .s b]) (.q (mkz neg n d) 64) := by
  have e1 : a = rnum (mkz neg n d) := by rw [ha, rnum_eq, mkz_natAbs hd]
  have e2 : b = rden (mkz neg n d) := by rw [hb, rden_eq, mkz_den hd]
  rw [e1, e2]
  exact rle_q (by rw [mkz_rneg hd hn]; exact h) (mkz_sz hd h1 h2)
include hG in
theorem orc76 : OrcOK Tryd.prog G [(110, s110), (112, s112), (113, s113)] := .cons (ok110 hG) (.cons (ok112 hG) (.cons (ok113 hG) .nil))
include hG in
theorem ok76 : SpecOK Tryd.prog G 76 s76 := by
  refine spec_of hG (orc76 hG) mix enter76 (L := []) (pol := {}) fun args hs K x h => ?_
  unfold s76 at h
  split at h
  case h_2 => cases h
  rename_i nv a d
  split at h
  case h_2 => cases h
  rename_i neg hnv
  obtain ⟨hc, hr⟩ := Tr.of_br h
  refine ⟨LpsOK.none (by kernel_rfl), ?_⟩
  simp only [Bool.and_eq_true, decide_eq_true_eq] at hc
  obtain ⟨⟨⟨⟨ha, hd⟩, h1⟩, h2⟩, h3⟩ := hc
  generalize bv a.data.toList = n at *
  generalize bv d.data.toList = m at *
  subst ha; subst hd
  have key : ∃ r, (evF Tryd.prog [(110, s110), (112, s112), (113, s113)] [] {} Tryd.f76 [nv, .s (nb n), .s (nb m)] [] retK).run = some (.ret r []) ∧ RLe r (.q (mkz neg n m) 64) := by
    have hgp : 0 < n.gcd m := Nat.gcd_pos_of_pos_right _ h3
    have hgl : n.gcd m ≤ m := Nat.le_of_dvd h3 (Nat.gcd_dvd_right _ _)
    rcases bof_cases hnv with rfl | rfl
    · rw [e76]
      simp only [bv_nb, bv_nb', bv_nb2]
      by_cases h0 : n = 0
      · subst h0
        rw [Tr.run_t (by rfl)]
        exact ⟨_, rfl, made_zero rfl _⟩
      · rw [Tr.run_f (decide_eq_false (fun h => h0 (nb_eq_empty.1 h)))]
        by_cases hm : m = 1
        · subst hm
          rw [Tr.run_f (by rw [decide_eq_true nb_onev]; rfl)]
          exact ⟨_, rfl, made_some rfl h0 (by omega) h1 h2 (by simp) (by simp)⟩
        · rw [Tr.run_t (by rw [decide_eq_false (fun h => hm (nb_eq_one.1 h))]; rfl), Tr.run_t (by simp only [Bool.and_eq_true, decide_eq_true_eq]; omega)]
          by_cases hg : n.gcd m = 1
          · rw [Tr.run_f (by rw [hg, decide_eq_true nb_onev]; rfl)]
            exact ⟨_, rfl, made_some rfl h0 (by omega) h1 h2 (by rw [hg, Nat.div_one]) (by rw [hg, Nat.div_one])⟩
          · rw [Tr.run_t (by rw [decide_eq_false (fun h => hg (nb_eq_one.1 h))]; rfl)]
            repeat rw [Tr.run_t (by simp only [Bool.and_eq_true, decide_eq_true_eq]; omega)]
            exact ⟨_, rfl, made_some rfl h0 (by omega) h1 h2 rfl rfl⟩
    · rw [e76l]
      simp only [bv_nb, bv_nb', bv_nb2]
      by_cases h0 : n = 0
      · subst h0
        rw [Tr.run_t (by rfl)]
        exact ⟨_, rfl, made_zero rfl _⟩
      · rw [Tr.run_f (decide_eq_false (fun h => h0 (nb_eq_empty.1 h)))]
        by_cases hm : m = 1
        · subst hm
          rw [Tr.run_f (by rw [decide_eq_true nb_onev]; rfl)]
          exact ⟨_, rfl, made_some rfl h0 (by omega) h1 h2 (by simp) (by simp)⟩
        · rw [Tr.run_t (by rw [decide_eq_false (fun h => hm (nb_eq_one.1 h))]; rfl), Tr.run_t (by simp only [Bool.and_eq_true, decide_eq_true_eq]; omega)]
          by_cases hg : n.gcd m = 1
          · rw [Tr.run_f (by rw [hg, decide_eq_true nb_onev]; rfl)]
            exact ⟨_, rfl, made_some rfl h0 (by omega) h1 h2 (by rw [hg, Nat.div_one]) (by rw [hg, Nat.div_one])⟩
          · rw [Tr.run_t (by rw [decide_eq_false (fun h => hg (nb_eq_one.1 h))]; rfl)]
            repeat rw [Tr.run_t (by simp only [Bool.and_eq_true, decide_eq_true_eq]; omega)]
            exact ⟨_, rfl, made_some rfl h0 (by omega) h1 h2 rfl rfl⟩
  obtain ⟨r, k1, k2⟩ := key
  exact ⟨_, _, _, k1, k2, hr⟩
theorem enter75 : Enters Tryd.prog 75 Tryd.f75 (bodyC Tryd.f75) := ⟨Tryd.func75, by kernel_rfl, rfl⟩
theorem e75 (neg minus : Bool) (a b : ByteArray) : evF Tryd.prog [(108, s108), (111, s111)] [] {} Tryd.f75 [.b neg, .s a, .b minus, .s b] [] retK =
  Tr.br (neg == minus)
    (Tr.br (decide (bv a.1.toList < (72057594037927936 : Nat)) && decide (bv b.1.toList < (72057594037927936 : Nat)))
      (Tr.ok (Res.ret (PV.tup [PV.b neg, PV.s (nb (bv a.1.toList + bv b.1.toList))]) [])) (Tr.no (1)))
    (Tr.br (decide (a.size ≤ (1048576 : Nat)) && decide (b.size ≤ (1048576 : Nat)))
      (Tr.br (decide (bv b.1.toList ≤ bv a.1.toList))
        (Tr.br (decide ((0 : Int) = (0 : Int)))
          (Tr.ok (Res.ret (PV.tup [PV.b neg, PV.s (nb (bv a.1.toList - bv b.1.toList))]) []))
          (Tr.br (decide (b.size ≤ (1048576 : Nat)) && decide (a.size ≤ (1048576 : Nat)))
            (Tr.br (decide (bv a.1.toList ≤ bv b.1.toList))
              (Tr.ok (Res.ret (PV.tup [PV.b minus, PV.s (nb (bv b.1.toList - bv a.1.toList))]) []))
              (Tr.ok (Res.ret (PV.tup [PV.b minus, PV.s (nb (0 : Nat))]) [])))
            (Tr.no (1))))
        (Tr.br (decide ((1 : Int) = (0 : Int))) (Tr.ok (Res.ret (PV.tup [PV.b neg, PV.s (nb (0 : Nat))]) []))
          (Tr.br (decide (b.size ≤ (1048576 : Nat)) && decide (a.size ≤ (1048576 : Nat)))
            (Tr.br (decide (bv a.1.toList ≤ bv b.1.toList))
              (Tr.ok (Res.ret (PV.tup [PV.b minus, PV.s (nb (bv b.1.toList - bv a.1.toList))]) []))
              (Tr.ok (Res.ret (PV.tup [PV.b minus, PV.s (nb (0 : Nat))]) [])))
            (Tr.no (1)))))
      (Tr.no (1))) := by kernel_rfl
def s75 : Spec := fun args hs K => match args, hs with
  | [.b neg, .s a, .b minus, .s b], [] => .br (decide (a.size ≤ 8) && decide (b.size ≤ 8) && (!(neg == minus) || (decide (bv a.data.toList < 72057594037927936) && decide (bv b.data.toList < 72057594037927936))))
      (K (.tup [.b (sgn2 neg (bv a.data.toList) minus (bv b.data.toList)).1, .s (nb (sgn2 neg (bv a.data.toList) minus (bv b.data.toList)).2)]) []) (.no 1)
  | _, _ => .no 1
include hG in
theorem ok75 : SpecOK Tryd.prog G 75 s75 := by
  refine spec_of hG (.cons (ok108 hG) (.cons (ok111 hG) .nil)) mix enter75 (L := []) (pol := {}) fun args hs K x h => ?_
  unfold s75 at h
  split at h
  case h_2 => cases h
  rename_i neg a minus b
  obtain ⟨hc, hr⟩ := Tr.of_br h
  refine ⟨LpsOK.none (by kernel_rfl), _, _, _, ?_, .refl _, hr⟩
  rw [e75]
  simp only [Bool.and_eq_true, decide_eq_true_eq, Bool.or_eq_true] at hc
  unfold sgn2
  cases hn : neg == minus
  · rw [Tr.run_f rfl, Tr.run_t (by simp only [Bool.and_eq_true, decide_eq_true_eq]; omega)]
    by_cases hle : bv b.data.toList ≤ bv a.data.toList
    · rw [Tr.run_t (decide_eq_true hle), Tr.run_t (by rfl), Tr.run_ok, if_pos hle]
    · rw [Tr.run_f (decide_eq_false hle), Tr.run_f (by rfl), Tr.run_t (by simp only [Bool.and_eq_true, decide_eq_true_eq]; omega), Tr.run_t (decide_eq_true (by omega)), Tr.run_ok, if_neg hle]
  · rw [hn] at hc
    have h2 := hc.2.resolve_left (by simp)
    rw [Tr.run_t rfl, Tr.run_t (by simp only [Bool.and_eq_true, decide_eq_true_eq]; omega), Tr.run_ok]
end Go.Proofs.YtejfdhcigkgbmaaDoor.PE
namespace Go.Proofs.YtejfdhcigkgbmaaDoor.PE
open Go
set_option maxRecDepth 100000
variable {G : World → (Nat → Prop) → Prop} (hG : GOk G)

def s32 (x : Rat) : Bool := decide (x.num.natAbs < 4294967296) && decide (x.den < 4294967296)
theorem s32_iff {x : Rat} : s32 x = true ↔ x.num.natAbs < 4294967296 ∧ x.den < 4294967296 := by simp [s32]
theorem s32_64 {x : Rat} (h : s32 x = true) : (decide (x.num.natAbs < 18446744073709551616) && decide (x.den < 18446744073709551616)) = true := by
  have := s32_iff.1 h
  simp only [Bool.and_eq_true, decide_eq_true_eq]; omega
theorem sz4 {n : Nat} (h : n < 4294967296) : (nb n).size ≤ 4 := nb_size_le (k := 4) (by omega)
theorem mul32 {n m : Nat} (h : n < 4294967296) (h' : m < 4294967296) : n * m < 18446744073709551616 := by
  have := Nat.mul_le_mul (show n ≤ 4294967295 by omega) (show m ≤ 4294967295 by omega)
  omega
theorem sgn2_le (neg : Bool) (a : Nat) (minus : Bool) (b : Nat) : (sgn2 neg a minus b).2 ≤ a + b := by
  unfold sgn2
  split
  · exact Nat.le_refl _
  · split
    · show a - b ≤ _; omega
    · show b - a ≤ _; omega
theorem enter21 : Enters Tryd.prog 21 Tryd.f21 (bodyC Tryd.f21) := ⟨Tryd.func21, by kernel_rfl, rfl⟩
theorem e21 (x y : Rat) (n m : Nat) : evF Tryd.prog [(74, s74), (75, s75), (76, s76), (77, s77)] [] {} Tryd.f21 [.q x n, .q y m] [] retK =
  Tr.br (decide (x.num.natAbs < (18446744073709551616 : Nat)) && decide (x.den < (18446744073709551616 : Nat)))
    (Tr.br (decide (y.num.natAbs < (18446744073709551616 : Nat)) && decide (y.den < (18446744073709551616 : Nat)))
      (Tr.br (decide (rden x = rden y))
        (Tr.br
          (decide ((rnum x).size ≤ (8 : Nat)) && decide ((rnum y).size ≤ (8 : Nat)) &&
            (!rneg x == rneg y ||
              decide (bv (natBytesL x.num.natAbs x.num.natAbs []).toArray.toList < (72057594037927936 : Nat)) &&
                decide (bv (natBytesL y.num.natAbs y.num.natAbs []).toArray.toList < (72057594037927936 : Nat))))
          (Tr.br
            (decide
                      (nb
                          (sgn2 (rneg x) (bv (natBytesL x.num.natAbs x.num.natAbs []).toArray.toList) (rneg y)
                              (bv (natBytesL y.num.natAbs y.num.natAbs []).toArray.toList)).2 =
                        nb
                          (bv
                            (natBytesL
                                  (sgn2 (rneg x) (bv (natBytesL x.num.natAbs x.num.natAbs []).toArray.toList) (rneg y)
                                      (bv (natBytesL y.num.natAbs y.num.natAbs []).toArray.toList)).2
                                  (sgn2 (rneg x) (bv (natBytesL x.num.natAbs x.num.natAbs []).toArray.toList) (rneg y)
                                      (bv (natBytesL y.num.natAbs y.num.natAbs []).toArray.toList)).2
                                  []).toArray.toList)) &&
                    decide (rden x = nb (bv (natBytesL x.den x.den []).toArray.toList)) &&
                  decide
                    (bv
                        (natBytesL
                              (sgn2 (rneg x) (bv (natBytesL x.num.natAbs x.num.natAbs []).toArray.toList) (rneg y)
                                  (bv (natBytesL y.num.natAbs y.num.natAbs []).toArray.toList)).2
                              (sgn2 (rneg x) (bv (natBytesL x.num.natAbs x.num.natAbs []).toArray.toList) (rneg y)
                                  (bv (natBytesL y.num.natAbs y.num.natAbs []).toArray.toList)).2
                              []).toArray.toList <
                      (18446744073709551616 : Nat)) &&
                decide (bv (natBytesL x.den x.den []).toArray.toList < (18446744073709551616 : Nat)) &&
              decide ((0 : Nat) < bv (natBytesL x.den x.den []).toArray.toList))
            (Tr.ok
              (Res.ret
                (PV.q
                  (mkz
                    (sgn2 (rneg x) (bv (natBytesL x.num.natAbs x.num.natAbs []).toArray.toList) (rneg y)
                        (bv (natBytesL y.num.natAbs y.num.natAbs []).toArray.toList)).1
                    (bv
                      (natBytesL
                            (sgn2 (rneg x) (bv (natBytesL x.num.natAbs x.num.natAbs []).toArray.toList) (rneg y)
                                (bv (natBytesL y.num.natAbs y.num.natAbs []).toArray.toList)).2
                            (sgn2 (rneg x) (bv (natBytesL x.num.natAbs x.num.natAbs []).toArray.toList) (rneg y)
                                (bv (natBytesL y.num.natAbs y.num.natAbs []).toArray.toList)).2
                            []).toArray.toList)
                    (bv (natBytesL x.den x.den []).toArray.toList))
                  (64))
                []))
            (Tr.no (1)))
          (Tr.no (1)))
        (Tr.br
          (decide
            ((nb (bv (natBytesL x.num.natAbs x.num.natAbs []).toArray.toList)).size +
                (nb (bv (natBytesL y.den y.den []).toArray.toList)).size ≤
              (8 : Nat)))
          (Tr.br
            (decide
              ((nb (bv (natBytesL y.num.natAbs y.num.natAbs []).toArray.toList)).size +
                  (nb (bv (natBytesL x.den x.den []).toArray.toList)).size ≤
                (8 : Nat)))
            (Tr.br
              (decide
                    ((nb
                          (bv (natBytesL x.num.natAbs x.num.natAbs []).toArray.toList *
                            bv (natBytesL y.den y.den []).toArray.toList)).size ≤
                      (8 : Nat)) &&
                  decide
                    ((nb
                          (bv (natBytesL y.num.natAbs y.num.natAbs []).toArray.toList *
                            bv (natBytesL x.den x.den []).toArray.toList)).size ≤
                      (8 : Nat)) &&
                (!rneg x == rneg y ||
                  decide
                      (bv
                          (natBytesL
                                (bv (natBytesL x.num.natAbs x.num.natAbs []).toArray.toList *
                                  bv (natBytesL y.den y.den []).toArray.toList)
                                (bv (natBytesL x.num.natAbs x.num.natAbs []).toArray.toList *
                                  bv (natBytesL y.den y.den []).toArray.toList)
                                []).toArray.toList <
                        (72057594037927936 : Nat)) &&
                    decide
                      (bv
                          (natBytesL
                                (bv (natBytesL y.num.natAbs y.num.natAbs []).toArray.toList *
                                  bv (natBytesL x.den x.den []).toArray.toList)
                                (bv (natBytesL y.num.natAbs y.num.natAbs []).toArray.toList *
                                  bv (natBytesL x.den x.den []).toArray.toList)
                                []).toArray.toList <
                        (72057594037927936 : Nat))))
              (Tr.br
                (decide
                  ((nb (bv (natBytesL x.den x.den []).toArray.toList)).size +
                      (nb (bv (natBytesL y.den y.den []).toArray.toList)).size ≤
                    (8 : Nat)))
                (Tr.br
                  (decide
                            (nb
                                (sgn2 (rneg x)
                                    (bv
                                      (natBytesL
                                            (bv (natBytesL x.num.natAbs x.num.natAbs []).toArray.toList *
                                              bv (natBytesL y.den y.den []).toArray.toList)
                                            (bv (natBytesL x.num.natAbs x.num.natAbs []).toArray.toList *
                                              bv (natBytesL y.den y.den []).toArray.toList)
                                            []).toArray.toList)
                                    (rneg y)
                                    (bv
                                      (natBytesL
                                            (bv (natBytesL y.num.natAbs y.num.natAbs []).toArray.toList *
                                              bv (natBytesL x.den x.den []).toArray.toList)
                                            (bv (natBytesL y.num.natAbs y.num.natAbs []).toArray.toList *
                                              bv (natBytesL x.den x.den []).toArray.toList)
                                            []).toArray.toList)).2 =
                              nb
                                (bv
                                  (natBytesL
                                        (sgn2 (rneg x)
                                            (bv
                                              (natBytesL
                                                    (bv (natBytesL x.num.natAbs x.num.natAbs []).toArray.toList *
                                                      bv (natBytesL y.den y.den []).toArray.toList)
                                                    (bv (natBytesL x.num.natAbs x.num.natAbs []).toArray.toList *
                                                      bv (natBytesL y.den y.den []).toArray.toList)
                                                    []).toArray.toList)
                                            (rneg y)
                                            (bv
                                              (natBytesL
                                                    (bv (natBytesL y.num.natAbs y.num.natAbs []).toArray.toList *
                                                      bv (natBytesL x.den x.den []).toArray.toList)
                                                    (bv (natBytesL y.num.natAbs y.num.natAbs []).toArray.toList *
                                                      bv (natBytesL x.den x.den []).toArray.toList)
                                                    []).toArray.toList)).2
                                        (sgn2 (rneg x)
                                            (bv
                                              (natBytesL
                                                    (bv (natBytesL x.num.natAbs x.num.natAbs []).toArray.toList *
                                                      bv (natBytesL y.den y.den []).toArray.toList)
                                                    (bv (natBytesL x.num.natAbs x.num.natAbs []).toArray.toList *
                                                      bv (natBytesL y.den y.den []).toArray.toList)
                                                    []).toArray.toList)
                                            (rneg y)
                                            (bv
                                              (natBytesL
                                                    (bv (natBytesL y.num.natAbs y.num.natAbs []).toArray.toList *
                                                      bv (natBytesL x.den x.den []).toArray.toList)
                                                    (bv (natBytesL y.num.natAbs y.num.natAbs []).toArray.toList *
                                                      bv (natBytesL x.den x.den []).toArray.toList)
                                                    []).toArray.toList)).2
                                        []).toArray.toList)) &&
                          decide
                            (nb
                                (bv (natBytesL x.den x.den []).toArray.toList *
                                  bv (natBytesL y.den y.den []).toArray.toList) =
                              nb
                                (bv
                                  (natBytesL
                                        (bv (natBytesL x.den x.den []).toArray.toList *
                                          bv (natBytesL y.den y.den []).toArray.toList)
                                        (bv (natBytesL x.den x.den []).toArray.toList *
                                          bv (natBytesL y.den y.den []).toArray.toList)
                                        []).toArray.toList)) &&
                        decide
                          (bv
                              (natBytesL
                                    (sgn2 (rneg x)
                                        (bv
                                          (natBytesL
                                                (bv (natBytesL x.num.natAbs x.num.natAbs []).toArray.toList *
                                                  bv (natBytesL y.den y.den []).toArray.toList)
                                                (bv (natBytesL x.num.natAbs x.num.natAbs []).toArray.toList *
                                                  bv (natBytesL y.den y.den []).toArray.toList)
                                                []).toArray.toList)
                                        (rneg y)
                                        (bv
                                          (natBytesL
                                                (bv (natBytesL y.num.natAbs y.num.natAbs []).toArray.toList *
                                                  bv (natBytesL x.den x.den []).toArray.toList)
                                                (bv (natBytesL y.num.natAbs y.num.natAbs []).toArray.toList *
                                                  bv (natBytesL x.den x.den []).toArray.toList)
                                                []).toArray.toList)).2
                                    (sgn2 (rneg x)
                                        (bv
                                          (natBytesL
                                                (bv (natBytesL x.num.natAbs x.num.natAbs []).toArray.toList *
                                                  bv (natBytesL y.den y.den []).toArray.toList)
                                                (bv (natBytesL x.num.natAbs x.num.natAbs []).toArray.toList *
                                                  bv (natBytesL y.den y.den []).toArray.toList)
                                                []).toArray.toList)
                                        (rneg y)
                                        (bv
                                          (natBytesL
                                                (bv (natBytesL y.num.natAbs y.num.natAbs []).toArray.toList *
                                                  bv (natBytesL x.den x.den []).toArray.toList)
                                                (bv (natBytesL y.num.natAbs y.num.natAbs []).toArray.toList *
                                                  bv (natBytesL x.den x.den []).toArray.toList)
                                                []).toArray.toList)).2
                                    []).toArray.toList <
                            (18446744073709551616 : Nat)) &&
                      decide
                        (bv
                            (natBytesL
                                  (bv (natBytesL x.den x.den []).toArray.toList *
                                    bv (natBytesL y.den y.den []).toArray.toList)
                                  (bv (natBytesL x.den x.den []).toArray.toList *
                                    bv (natBytesL y.den y.den []).toArray.toList)
                                  []).toArray.toList <
                          (18446744073709551616 : Nat)) &&
                    decide
                      ((0 : Nat) <
                        bv
                          (natBytesL
                                (bv (natBytesL x.den x.den []).toArray.toList *
                                  bv (natBytesL y.den y.den []).toArray.toList)
                                (bv (natBytesL x.den x.den []).toArray.toList *
                                  bv (natBytesL y.den y.den []).toArray.toList)
                                []).toArray.toList))
                  (Tr.ok
                    (Res.ret
                      (PV.q
                        (mkz
                          (sgn2 (rneg x)
                              (bv
                                (natBytesL
                                      (bv (natBytesL x.num.natAbs x.num.natAbs []).toArray.toList *
                                        bv (natBytesL y.den y.den []).toArray.toList)
                                      (bv (natBytesL x.num.natAbs x.num.natAbs []).toArray.toList *
                                        bv (natBytesL y.den y.den []).toArray.toList)
                                      []).toArray.toList)
                              (rneg y)
                              (bv
                                (natBytesL
                                      (bv (natBytesL y.num.natAbs y.num.natAbs []).toArray.toList *
                                        bv (natBytesL x.den x.den []).toArray.toList)
                                      (bv (natBytesL y.num.natAbs y.num.natAbs []).toArray.toList *
                                        bv (natBytesL x.den x.den []).toArray.toList)
                                      []).toArray.toList)).1
                          (bv
                            (natBytesL
                                  (sgn2 (rneg x)
                                      (bv
                                        (natBytesL
                                              (bv (natBytesL x.num.natAbs x.num.natAbs []).toArray.toList *
                                                bv (natBytesL y.den y.den []).toArray.toList)
                                              (bv (natBytesL x.num.natAbs x.num.natAbs []).toArray.toList *
                                                bv (natBytesL y.den y.den []).toArray.toList)
                                              []).toArray.toList)
                                      (rneg y)
                                      (bv
                                        (natBytesL
                                              (bv (natBytesL y.num.natAbs y.num.natAbs []).toArray.toList *
                                                bv (natBytesL x.den x.den []).toArray.toList)
                                              (bv (natBytesL y.num.natAbs y.num.natAbs []).toArray.toList *
                                                bv (natBytesL x.den x.den []).toArray.toList)
                                              []).toArray.toList)).2
                                  (sgn2 (rneg x)
                                      (bv
                                        (natBytesL
                                              (bv (natBytesL x.num.natAbs x.num.natAbs []).toArray.toList *
                                                bv (natBytesL y.den y.den []).toArray.toList)
                                              (bv (natBytesL x.num.natAbs x.num.natAbs []).toArray.toList *
                                                bv (natBytesL y.den y.den []).toArray.toList)
                                              []).toArray.toList)
                                      (rneg y)
                                      (bv
                                        (natBytesL
                                              (bv (natBytesL y.num.natAbs y.num.natAbs []).toArray.toList *
                                                bv (natBytesL x.den x.den []).toArray.toList)
                                              (bv (natBytesL y.num.natAbs y.num.natAbs []).toArray.toList *
                                                bv (natBytesL x.den x.den []).toArray.toList)
                                              []).toArray.toList)).2
                                  []).toArray.toList)
                          (bv
                            (natBytesL
                                  (bv (natBytesL x.den x.den []).toArray.toList *
                                    bv (natBytesL y.den y.den []).toArray.toList)
                                  (bv (natBytesL x.den x.den []).toArray.toList *
                                    bv (natBytesL y.den y.den []).toArray.toList)
                                  []).toArray.toList))
                        (64))
                      []))
                  (Tr.no (1)))
                (Tr.no (1)))
              (Tr.no (1)))
            (Tr.no (1)))
          (Tr.no (1))))
      (Tr.no (1)))
    (Tr.no (1)) := by kernel_rfl
def s21 : Spec := fun args hs K => match args, hs with
  | [.q x _, .q y _], [] => .br (s32 x && s32 y && decide (x.num.natAbs * y.den < 72057594037927936) && decide (y.num.natAbs * x.den < 72057594037927936)) (K (.q (x + y) 64) []) (.no 1)
  | _, _ => .no 1
include hG in
theorem orc21 : OrcOK Tryd.prog G [(74, s74), (75, s75), (76, s76), (77, s77)] := .cons (ok74 hG) (.cons (ok75 hG) (.cons (ok76 hG) (.cons (ok77 hG) .nil)))
include hG in
theorem ok21 : SpecOK Tryd.prog G 21 s21 := by
  refine spec_of hG (orc21 hG) mix enter21 (L := []) (pol := {}) fun args hs K x h => ?_
  unfold s21 at h
  split at h
  case h_2 => cases h
  rename_i x n y m
  obtain ⟨hc, hr⟩ := Tr.of_br h
  refine ⟨LpsOK.none (by kernel_rfl), _, _, _, ?_, .refl _, hr⟩
  simp only [Bool.and_eq_true, decide_eq_true_eq] at hc
  obtain ⟨⟨⟨hx, hy⟩, hp⟩, hq⟩ := hc
  obtain ⟨x1, x2⟩ := s32_iff.1 hx
  obtain ⟨y1, y2⟩ := s32_iff.1 hy
  have dx := x.den_pos
  have dy := y.den_pos
  have a1 := sz4 x1
  have a2 := sz4 x2
  have a3 := sz4 y1
  have a4 := sz4 y2
  rw [e21, Tr.run_t (s32_64 hx), Tr.run_t (s32_64 hy)]
  simp only [bv_nb', bv_nb2, decide_true, Bool.true_and]
  by_cases hd : x.den = y.den
  · have hb := sgn2_le (rneg x) x.num.natAbs (rneg y) y.num.natAbs
    have r1 : (rnum x).size ≤ 4 := a1
    have r2 : (rnum y).size ≤ 4 := a3
    rw [Tr.run_t (decide_eq_true (show rden x = rden y by rw [rden_eq, rden_eq, hd])), Tr.run_t (by
        simp only [Bool.and_eq_true, Bool.or_eq_true, decide_eq_true_eq]; exact ⟨⟨by omega, by omega⟩, Or.inr ⟨by omega, by omega⟩⟩),
      Tr.run_t (by simp only [Bool.and_eq_true, decide_eq_true_eq]; exact ⟨⟨⟨rfl, by omega⟩, by omega⟩, by omega⟩), Tr.run_ok, ← rat_add_same x y hd]
  · have b1 := nb_size_le (k := 7) (show x.num.natAbs * y.den < 256 ^ 7 by omega)
    have b2 := nb_size_le (k := 7) (show y.num.natAbs * x.den < 256 ^ 7 by omega)
    have b3 := sgn2_le (rneg x) (x.num.natAbs * y.den) (rneg y) (y.num.natAbs * x.den)
    have b4 := mul32 x2 y2
    have b5 := Nat.mul_pos dx dy
    rw [Tr.run_f (decide_eq_false (show ¬ rden x = rden y from fun h => hd (nb_inj h))), Tr.run_t (decide_eq_true (by omega)), Tr.run_t (decide_eq_true (by omega)), Tr.run_t (by
        simp only [Bool.and_eq_true, Bool.or_eq_true, decide_eq_true_eq]; exact ⟨⟨by omega, by omega⟩, Or.inr ⟨by omega, by omega⟩⟩),
      Tr.run_t (decide_eq_true (by omega)), Tr.run_t (by simp only [Bool.and_eq_true, decide_eq_true_eq]; exact ⟨⟨by omega, by omega⟩, by omega⟩), Tr.run_ok, ← rat_add_mkz x y]
theorem enter43 : Enters Tryd.prog 43 Tryd.f43 (bodyC Tryd.f43) := ⟨Tryd.func43, by kernel_rfl, rfl⟩
theorem e43 (x y : Rat) (n m : Nat) : evF Tryd.prog [(74, s74), (76, s76), (77, s77)] [] {} Tryd.f43 [.q x n, .q y m] [] retK =
  Tr.br (decide (x.num.natAbs < (18446744073709551616 : Nat)) && decide (x.den < (18446744073709551616 : Nat)))
    (Tr.br (decide (y.num.natAbs < (18446744073709551616 : Nat)) && decide (y.den < (18446744073709551616 : Nat)))
      (Tr.br
        (decide
          ((nb (bv (natBytesL x.num.natAbs x.num.natAbs []).toArray.toList)).size +
              (nb (bv (natBytesL y.num.natAbs y.num.natAbs []).toArray.toList)).size ≤
            (8 : Nat)))
        (Tr.br
          (decide
            ((nb (bv (natBytesL x.den x.den []).toArray.toList)).size +
                (nb (bv (natBytesL y.den y.den []).toArray.toList)).size ≤
              (8 : Nat)))
          (Tr.br
            (decide
                      (nb
                          (bv (natBytesL x.num.natAbs x.num.natAbs []).toArray.toList *
                            bv (natBytesL y.num.natAbs y.num.natAbs []).toArray.toList) =
                        nb
                          (bv
                            (natBytesL
                                  (bv (natBytesL x.num.natAbs x.num.natAbs []).toArray.toList *
                                    bv (natBytesL y.num.natAbs y.num.natAbs []).toArray.toList)
                                  (bv (natBytesL x.num.natAbs x.num.natAbs []).toArray.toList *
                                    bv (natBytesL y.num.natAbs y.num.natAbs []).toArray.toList)
                                  []).toArray.toList)) &&
                    decide
                      (nb (bv (natBytesL x.den x.den []).toArray.toList * bv (natBytesL y.den y.den []).toArray.toList) =
                        nb
                          (bv
                            (natBytesL
                                  (bv (natBytesL x.den x.den []).toArray.toList *
                                    bv (natBytesL y.den y.den []).toArray.toList)
                                  (bv (natBytesL x.den x.den []).toArray.toList *
                                    bv (natBytesL y.den y.den []).toArray.toList)
                                  []).toArray.toList)) &&
                  decide
                    (bv
                        (natBytesL
                              (bv (natBytesL x.num.natAbs x.num.natAbs []).toArray.toList *
                                bv (natBytesL y.num.natAbs y.num.natAbs []).toArray.toList)
                              (bv (natBytesL x.num.natAbs x.num.natAbs []).toArray.toList *
                                bv (natBytesL y.num.natAbs y.num.natAbs []).toArray.toList)
                              []).toArray.toList <
                      (18446744073709551616 : Nat)) &&
                decide
                  (bv
                      (natBytesL
                            (bv (natBytesL x.den x.den []).toArray.toList * bv (natBytesL y.den y.den []).toArray.toList)
                            (bv (natBytesL x.den x.den []).toArray.toList * bv (natBytesL y.den y.den []).toArray.toList)
                            []).toArray.toList <
                    (18446744073709551616 : Nat)) &&
              decide
                ((0 : Nat) <
                  bv
                    (natBytesL
                          (bv (natBytesL x.den x.den []).toArray.toList * bv (natBytesL y.den y.den []).toArray.toList)
                          (bv (natBytesL x.den x.den []).toArray.toList * bv (natBytesL y.den y.den []).toArray.toList)
                          []).toArray.toList))
            (Tr.ok
              (Res.ret
                (PV.q
                  (mkz (!rneg x == rneg y)
                    (bv
                      (natBytesL
                            (bv (natBytesL x.num.natAbs x.num.natAbs []).toArray.toList *
                              bv (natBytesL y.num.natAbs y.num.natAbs []).toArray.toList)
                            (bv (natBytesL x.num.natAbs x.num.natAbs []).toArray.toList *
                              bv (natBytesL y.num.natAbs y.num.natAbs []).toArray.toList)
                            []).toArray.toList)
                    (bv
                      (natBytesL
                            (bv (natBytesL x.den x.den []).toArray.toList * bv (natBytesL y.den y.den []).toArray.toList)
                            (bv (natBytesL x.den x.den []).toArray.toList * bv (natBytesL y.den y.den []).toArray.toList)
                            []).toArray.toList))
                  (64))
                []))
            (Tr.no (1)))
          (Tr.no (1)))
        (Tr.no (1)))
      (Tr.no (1)))
    (Tr.no (1)) := by kernel_rfl
def s43 : Spec := fun args hs K => match args, hs with
  | [.q x _, .q y _], [] => .br (s32 x && s32 y) (K (.q (x * y) 64) []) (.no 1)
  | _, _ => .no 1
include hG in
theorem orc43 : OrcOK Tryd.prog G [(74, s74), (76, s76), (77, s77)] := .cons (ok74 hG) (.cons (ok76 hG) (.cons (ok77 hG) .nil))
include hG in
theorem ok43 : SpecOK Tryd.prog G 43 s43 := by
  refine spec_of hG (orc43 hG) mix enter43 (L := []) (pol := {}) fun args hs K x h => ?_
  unfold s43 at h
  split at h
  case h_2 => cases h
  rename_i x n y m
  obtain ⟨hc, hr⟩ := Tr.of_br h
  refine ⟨LpsOK.none (by kernel_rfl), _, _, _, ?_, .refl _, hr⟩
  simp only [Bool.and_eq_true] at hc
  obtain ⟨hx, hy⟩ := hc
  obtain ⟨x1, x2⟩ := s32_iff.1 hx
  obtain ⟨y1, y2⟩ := s32_iff.1 hy
  have dx := x.den_pos
  have dy := y.den_pos
  have a1 := sz4 x1
  have a2 := sz4 x2
  have a3 := sz4 y1
  have a4 := sz4 y2
  have b1 := mul32 x1 y1
  have b4 := mul32 x2 y2
  have b5 := Nat.mul_pos dx dy
  rw [e43, Tr.run_t (s32_64 hx), Tr.run_t (s32_64 hy)]
  simp only [bv_nb', bv_nb2, decide_true, Bool.true_and]
  rw [Tr.run_t (decide_eq_true (by omega)), Tr.run_t (decide_eq_true (by omega)), Tr.run_t (by simp only [Bool.and_eq_true, decide_eq_true_eq]; exact ⟨⟨by omega, by omega⟩, by omega⟩), Tr.run_ok, rat_mul_mkz x y]
  rfl
end Go.Proofs.YtejfdhcigkgbmaaDoor.PE
namespace Go.Proofs.YtejfdhcigkgbmaaDoor.PE
open Go
set_option maxRecDepth 100000
variable {G : World → (Nat → Prop) → Prop} (hG : GOk G)
theorem enter72 : Enters Tryd.prog 72 Tryd.f72 (bodyC Tryd.f72) := ⟨Tryd.func72, by kernel_rfl, rfl⟩
theorem e72 (x y : Rat) (n m : Nat) : evF Tryd.prog [(74, s74), (76, s76), (77, s77)] [] {} Tryd.f72 [.q x n, .q y m] [] retK =
  Tr.br (decide (x.num.natAbs < (18446744073709551616 : Nat)) && decide (x.den < (18446744073709551616 : Nat)))
    (Tr.br (decide (y.num.natAbs < (18446744073709551616 : Nat)) && decide (y.den < (18446744073709551616 : Nat)))
      (Tr.br (decide (rnum y = { data := #[] }))
        (Tr.ok
          (Res.ret
            (PV.tup [PV.agg [PV.bl false, PV.s { data := #[] }, PV.s { data := #[] }], PV.i IntKind.i64 (12 : Int)]) []))
        (Tr.br
          (decide
            ((nb (bv (natBytesL x.num.natAbs x.num.natAbs []).toArray.toList)).size +
                (nb (bv (natBytesL y.den y.den []).toArray.toList)).size ≤
              (8 : Nat)))
          (Tr.br
            (decide
              ((nb (bv (natBytesL x.den x.den []).toArray.toList)).size +
                  (nb (bv (natBytesL y.num.natAbs y.num.natAbs []).toArray.toList)).size ≤
                (8 : Nat)))
            (Tr.br
              (decide
                        (nb
                            (bv (natBytesL x.num.natAbs x.num.natAbs []).toArray.toList *
                              bv (natBytesL y.den y.den []).toArray.toList) =
                          nb
                            (bv
                              (natBytesL
                                    (bv (natBytesL x.num.natAbs x.num.natAbs []).toArray.toList *
                                      bv (natBytesL y.den y.den []).toArray.toList)
                                    (bv (natBytesL x.num.natAbs x.num.natAbs []).toArray.toList *
                                      bv (natBytesL y.den y.den []).toArray.toList)
                                    []).toArray.toList)) &&
                      decide
                        (nb
                            (bv (natBytesL x.den x.den []).toArray.toList *
                              bv (natBytesL y.num.natAbs y.num.natAbs []).toArray.toList) =
                          nb
                            (bv
                              (natBytesL
                                    (bv (natBytesL x.den x.den []).toArray.toList *
                                      bv (natBytesL y.num.natAbs y.num.natAbs []).toArray.toList)
                                    (bv (natBytesL x.den x.den []).toArray.toList *
                                      bv (natBytesL y.num.natAbs y.num.natAbs []).toArray.toList)
                                    []).toArray.toList)) &&
                    decide
                      (bv
                          (natBytesL
                                (bv (natBytesL x.num.natAbs x.num.natAbs []).toArray.toList *
                                  bv (natBytesL y.den y.den []).toArray.toList)
                                (bv (natBytesL x.num.natAbs x.num.natAbs []).toArray.toList *
                                  bv (natBytesL y.den y.den []).toArray.toList)
                                []).toArray.toList <
                        (18446744073709551616 : Nat)) &&
                  decide
                    (bv
                        (natBytesL
                              (bv (natBytesL x.den x.den []).toArray.toList *
                                bv (natBytesL y.num.natAbs y.num.natAbs []).toArray.toList)
                              (bv (natBytesL x.den x.den []).toArray.toList *
                                bv (natBytesL y.num.natAbs y.num.natAbs []).toArray.toList)
                              []).toArray.toList <
                      (18446744073709551616 : Nat)) &&
                decide
                  ((0 : Nat) <
                    bv
                      (natBytesL
                            (bv (natBytesL x.den x.den []).toArray.toList *
                              bv (natBytesL y.num.natAbs y.num.natAbs []).toArray.toList)
                            (bv (natBytesL x.den x.den []).toArray.toList *
                              bv (natBytesL y.num.natAbs y.num.natAbs []).toArray.toList)
                            []).toArray.toList))
              (Tr.ok
                (Res.ret
                  (PV.tup
                    [PV.q
                        (mkz (!rneg x == rneg y)
                          (bv
                            (natBytesL
                                  (bv (natBytesL x.num.natAbs x.num.natAbs []).toArray.toList *
                                    bv (natBytesL y.den y.den []).toArray.toList)
                                  (bv (natBytesL x.num.natAbs x.num.natAbs []).toArray.toList *
                                    bv (natBytesL y.den y.den []).toArray.toList)
                                  []).toArray.toList)
                          (bv
                            (natBytesL
                                  (bv (natBytesL x.den x.den []).toArray.toList *
                                    bv (natBytesL y.num.natAbs y.num.natAbs []).toArray.toList)
                                  (bv (natBytesL x.den x.den []).toArray.toList *
                                    bv (natBytesL y.num.natAbs y.num.natAbs []).toArray.toList)
                                  []).toArray.toList))
                        (64),
                      PV.i IntKind.i64 (0 : Int)])
                  []))
              (Tr.no (1)))
            (Tr.no (1)))
          (Tr.no (1))))
      (Tr.no (1)))
    (Tr.no (1)) := by kernel_rfl
theorem rneg_inv (y : Rat) : rneg y⁻¹ = rneg y := by
  unfold rneg
  rw [Rat.num_inv]
  have hd := y.den_pos
  by_cases h : y.num < 0
  · rw [decide_eq_true h, Int.sign_eq_neg_one_of_neg h]; exact decide_eq_true (by omega)
  · rw [decide_eq_false h]
    apply decide_eq_false
    rcases (show y.num = 0 ∨ 0 < y.num by omega) with h0 | h0
    · rw [h0]; simp
    · rw [Int.sign_eq_one_of_pos h0]; omega
theorem rat_div_mkz (x y : Rat) (hy : y.num.natAbs ≠ 0) : x / y = mkz (rneg x != rneg y) (x.num.natAbs * y.den) (x.den * y.num.natAbs) := by
  rw [Rat.div_def, rat_mul_mkz, rneg_inv, Rat.num_inv, Rat.den_inv, if_neg (by omega), Int.natAbs_mul, Int.natAbs_natCast]
  have : y.num.sign.natAbs = 1 := by rw [Int.natAbs_sign_of_ne_zero (by omega)]
  rw [this, Nat.one_mul]
def s72 : Spec := fun args hs K => match args, hs with
  | [.q x _, .q y _], [] => .br (s32 x && s32 y && decide (y.num.natAbs ≠ 0)) (K (.tup [.q (x / y) 64, .i .i64 0]) []) (.no 1)
  | _, _ => .no 1
include hG in
theorem ok72 : SpecOK Tryd.prog G 72 s72 := by
  refine spec_of hG (orc43 hG) mix enter72 (L := []) (pol := {}) fun args hs K x h => ?_
  unfold s72 at h
  split at h
  case h_2 => cases h
  rename_i x n y m
  obtain ⟨hc, hr⟩ := Tr.of_br h
  refine ⟨LpsOK.none (by kernel_rfl), _, _, _, ?_, .refl _, hr⟩
  simp only [Bool.and_eq_true, decide_eq_true_eq] at hc
  obtain ⟨⟨hx, hy⟩, hz⟩ := hc
  obtain ⟨x1, x2⟩ := s32_iff.1 hx
  obtain ⟨y1, y2⟩ := s32_iff.1 hy
  have dx := x.den_pos
  have a1 := sz4 x1
  have a2 := sz4 x2
  have a3 := sz4 y1
  have a4 := sz4 y2
  have b1 := mul32 x1 y2
  have b4 := mul32 x2 y1
  have b5 := Nat.mul_pos dx (show 0 < y.num.natAbs by omega)
  rw [e72, Tr.run_t (s32_64 hx), Tr.run_t (s32_64 hy)]
  simp only [bv_nb', bv_nb2, decide_true, Bool.true_and]
  rw [Tr.run_f (decide_eq_false (fun h => hz ((rnum_empty y).1 h))), Tr.run_t (decide_eq_true (by omega)), Tr.run_t (decide_eq_true (by omega)), Tr.run_t (by simp only [Bool.and_eq_true, decide_eq_true_eq]; exact ⟨⟨by omega, by omega⟩, by omega⟩), Tr.run_ok, rat_div_mkz x y hz]
  rfl
theorem enter83 : Enters Tryd.prog 83 Tryd.f83 (bodyC Tryd.f83) := ⟨Tryd.func83, by kernel_rfl, rfl⟩
theorem e83 (x : Rat) (n : Nat) : evF Tryd.prog [(74, s74)] [] {} Tryd.f83 [.q x n] [] retK =
  Tr.br (decide (x.num.natAbs < (18446744073709551616 : Nat)) && decide (x.den < (18446744073709551616 : Nat)))
    (Tr.br (!rneg x) (Tr.ok (Res.ret (PV.agg [PV.b !decide (rnum x = { data := #[] }), PV.s (rnum x), PV.s (rden x)]) []))
      (Tr.ok (Res.ret (PV.agg [PV.bl false, PV.s (rnum x), PV.s (rden x)]) [])))
    (Tr.no (1)) := by kernel_rfl
def s64 (x : Rat) : Bool := decide (x.num.natAbs < 18446744073709551616) && decide (x.den < 18446744073709551616)
theorem s64_sz {x : Rat} (h : s64 x = true) : sz x ≤ 64 := by
  simp only [s64, Bool.and_eq_true, decide_eq_true_eq] at h
  exact sz_le (by omega) (by omega) (by omega)
theorem neg_natAbs (x : Rat) : (-x).num.natAbs = x.num.natAbs := by rw [Rat.neg_num, Int.natAbs_neg]
theorem neg_den (x : Rat) : (-x).den = x.den := rfl
theorem s64_neg (x : Rat) : s64 (-x) = s64 x := by unfold s64; rw [neg_natAbs, neg_den]
theorem s32_neg (x : Rat) : s32 (-x) = s32 x := by unfold s32; rw [neg_natAbs, neg_den]
def s83 : Spec := fun args hs K => match args, hs with
  | [.q x _], [] => .br (s64 x) (K (.q (-x) 64) []) (.no 1)
  | _, _ => .no 1
theorem rnum_neg (x : Rat) : rnum (-x) = rnum x := by rw [rnum_eq, rnum_eq, neg_natAbs]
theorem rden_neg (x : Rat) : rden (-x) = rden x := rfl
include hG in
theorem orc74 : OrcOK Tryd.prog G [(74, s74)] := .cons (ok74 hG) .nil
include hG in
theorem ok83 : SpecOK Tryd.prog G 83 s83 := by
  refine spec_of hG (orc74 hG) mix enter83 (L := []) (pol := {}) fun args hs K x h => ?_
  unfold s83 at h
  split at h
  case h_2 => cases h
  rename_i x n
  obtain ⟨hc, hr⟩ := Tr.of_br h
  refine ⟨LpsOK.none (by kernel_rfl), ?_⟩
  have hz : sz (-x) ≤ 64 := s64_sz (by rw [s64_neg]; exact hc)
  rw [e83, Tr.run_t (show (decide (x.num.natAbs < 18446744073709551616) && decide (x.den < 18446744073709551616)) = true from hc), ← rnum_neg, ← rden_neg]
  by_cases h : rneg x = true
  · rw [Tr.run_f (by rw [h]; rfl)]
    refine ⟨_, _, _, rfl, rle_q ?_ hz, hr⟩
    have : x.num < 0 := of_decide_eq_true h
    show some false = some (decide (-x.num < 0))
    rw [decide_eq_false (by omega)]
  · rw [Tr.run_t (by rw [Bool.not_eq_true] at h; rw [h]; rfl)]
    refine ⟨_, _, _, rfl, rle_q ?_ hz, hr⟩
    have h0 : ¬ x.num < 0 := fun h' => h (decide_eq_true h')
    show some (!decide (rnum (-x) = ⟨#[]⟩)) = some (decide (-x.num < 0))
    congr 1
    by_cases h1 : x.num = 0
    · rw [decide_eq_true ((rnum_empty _).2 (by rw [neg_natAbs]; omega)), decide_eq_false (by omega)]; rfl
    · rw [decide_eq_false (fun h => by have := (rnum_empty _).1 h; rw [neg_natAbs] at this; omega), decide_eq_true (by omega)]; rfl
theorem enter28 : Enters Tryd.prog 28 Tryd.f28 (bodyC Tryd.f28) := ⟨Tryd.func28, by kernel_rfl, rfl⟩
theorem e28 (x : Rat) (n : Nat) : evF Tryd.prog [(74, s74)] [] {} Tryd.f28 [.q x n] [] retK =
  Tr.br (decide (x.num.natAbs < (18446744073709551616 : Nat)) && decide (x.den < (18446744073709551616 : Nat)))
    (Tr.ok (Res.ret (PV.agg [PV.bl false, PV.s (rnum x), PV.s (rden x)]) [])) (Tr.no (1)) := by kernel_rfl
/-- The absolute value. -/
def rabs (x : Rat) : Rat := if x < 0 then -x else x
theorem rabs_num (x : Rat) : rabs x = mkz false x.num.natAbs x.den := by
  unfold rabs mkz
  have hx : x.num < 0 ↔ x < 0 := by
    rw [← Rat.not_le, ← Rat.num_nonneg]; omega
  by_cases h : x < 0
  · rw [if_pos h]
    have := hx.2 h
    rw [← Rat.mkRat_self (-x)]
    show mkRat (-x.num) x.den = mkRat (x.num.natAbs : Int) x.den
    rw [show ((x.num.natAbs : Nat) : Int) = -x.num by omega]
  · rw [if_neg h]
    have : ¬ x.num < 0 := fun h' => h (hx.1 h')
    show x = mkRat (x.num.natAbs : Int) x.den
    rw [show ((x.num.natAbs : Nat) : Int) = x.num by omega, Rat.mkRat_self]
theorem rabs_natAbs (x : Rat) : (rabs x).num.natAbs = x.num.natAbs := by
  unfold rabs; split
  · exact neg_natAbs x
  · rfl
theorem rabs_den (x : Rat) : (rabs x).den = x.den := by unfold rabs; split <;> rfl
theorem s64_abs (x : Rat) : s64 (rabs x) = s64 x := by unfold s64; rw [rabs_natAbs, rabs_den]
theorem s32_abs (x : Rat) : s32 (rabs x) = s32 x := by unfold s32; rw [rabs_natAbs, rabs_den]
theorem rneg_iff {x : Rat} : rneg x = true ↔ x < 0 := by
  unfold rneg
  rw [decide_eq_true_eq, ← Rat.not_le, ← Rat.num_nonneg]; omega
theorem rabs_nonneg (x : Rat) : rneg (rabs x) = false := by
  rw [Bool.eq_false_iff, Ne, rneg_iff]
  unfold rabs
  split <;> grind
def s28 : Spec := fun args hs K => match args, hs with
  | [.q x _], [] => .br (s64 x) (K (.q (rabs x) 64) []) (.no 1)
  | _, _ => .no 1
include hG in
theorem ok28 : SpecOK Tryd.prog G 28 s28 := by
  refine spec_of hG (orc74 hG) mix enter28 (L := []) (pol := {}) fun args hs K x h => ?_
  unfold s28 at h
  split at h
  case h_2 => cases h
  rename_i x n
  obtain ⟨hc, hr⟩ := Tr.of_br h
  refine ⟨LpsOK.none (by kernel_rfl), ?_⟩
  have hz : sz (rabs x) ≤ 64 := s64_sz (by rw [s64_abs]; exact hc)
  have e1 : rnum x = rnum (rabs x) := by rw [rnum_eq, rnum_eq, rabs_natAbs]
  have e2 : rden x = rden (rabs x) := by rw [rden_eq, rden_eq, rabs_den]
  rw [e28, Tr.run_t (show (decide (x.num.natAbs < 18446744073709551616) && decide (x.den < 18446744073709551616)) = true from hc), e1, e2]
  exact ⟨_, _, _, rfl, rle_q (by rw [rabs_nonneg]; rfl) hz, hr⟩
theorem enter26 : Enters Tryd.prog 26 Tryd.f26 (bodyC Tryd.f26) := ⟨Tryd.func26, by kernel_rfl, rfl⟩
theorem e26 (x : Rat) (n : Nat) : evF Tryd.prog [(74, s74)] [] {} Tryd.f26 [.q x n] [] retK =
  Tr.br (decide (x.num.natAbs < (18446744073709551616 : Nat)) && decide (x.den < (18446744073709551616 : Nat)))
    (Tr.br (decide (rnum x = { data := #[] })) (Tr.ok (Res.ret (PV.i IntKind.i64 (0 : Int)) []))
      (Tr.br (rneg x) (Tr.ok (Res.ret (PV.i IntKind.i64 (-1 : Int)) []))
        (Tr.ok (Res.ret (PV.i IntKind.i64 (1 : Int)) []))))
    (Tr.no (1)) := by kernel_rfl
def s26 : Spec := fun args hs K => match args, hs with
  | [.q x _], [] => .br (s64 x) (K (.i .i64 (rcmp x 0)) []) (.no 1)
  | _, _ => .no 1
include hG in
theorem ok26 : SpecOK Tryd.prog G 26 s26 := by
  refine spec_of hG (orc74 hG) mix enter26 (L := []) (pol := {}) fun args hs K x h => ?_
  unfold s26 at h
  split at h
  case h_2 => cases h
  rename_i x n
  obtain ⟨hc, hr⟩ := Tr.of_br h
  refine ⟨LpsOK.none (by kernel_rfl), _, _, _, ?_, .refl _, hr⟩
  rw [e26, Tr.run_t (show (decide (x.num.natAbs < 18446744073709551616) && decide (x.den < 18446744073709551616)) = true from hc)]
  unfold rcmp
  by_cases h0 : x.num.natAbs = 0
  · have : x = 0 := Rat.num_eq_zero.1 (by omega)
    rw [Tr.run_t (decide_eq_true ((rnum_empty x).2 h0)), Tr.run_ok]
    subst this
    rfl
  · rw [Tr.run_f (decide_eq_false (fun h => h0 ((rnum_empty x).1 h)))]
    by_cases h1 : x < 0
    · rw [Tr.run_t (rneg_iff.2 h1), if_pos h1]; rfl
    · have h2 : 0 < x := by
        have hne : x ≠ 0 := fun h => h0 (by rw [h]; rfl)
        grind
      rw [Tr.run_f (by rw [Bool.eq_false_iff, Ne, rneg_iff]; exact h1), if_neg h1, if_pos h2]; rfl
theorem enter27 : Enters Tryd.prog 27 Tryd.f27 (bodyC Tryd.f27) := ⟨Tryd.func27, by kernel_rfl, rfl⟩
theorem e27 (x y : Rat) (n m : Nat) : evF Tryd.prog [(74, s74), (77, s77), (82, s82)] [] {} Tryd.f27 [.q x n, .q y m] [] retK =
  Tr.br (decide (x.num.natAbs < (18446744073709551616 : Nat)) && decide (x.den < (18446744073709551616 : Nat)))
    (Tr.br (decide (y.num.natAbs < (18446744073709551616 : Nat)) && decide (y.den < (18446744073709551616 : Nat)))
      (Tr.br (!rneg x == rneg y)
        (Tr.br (rneg x) (Tr.ok (Res.ret (PV.i IntKind.i64 (-1 : Int)) []))
          (Tr.ok (Res.ret (PV.i IntKind.i64 (1 : Int)) [])))
        (Tr.br
          (decide
            ((nb (bv (natBytesL x.num.natAbs x.num.natAbs []).toArray.toList)).size +
                (nb (bv (natBytesL y.den y.den []).toArray.toList)).size ≤
              (8 : Nat)))
          (Tr.br
            (decide
              ((nb (bv (natBytesL y.num.natAbs y.num.natAbs []).toArray.toList)).size +
                  (nb (bv (natBytesL x.den x.den []).toArray.toList)).size ≤
                (8 : Nat)))
            (Tr.br (rneg x)
              (Tr.br
                (decide
                    ((-9223372036854775808 : Int) ≤
                      (0 : Int) -
                        ncmp
                          (bv
                            (natBytesL
                                  (bv (natBytesL x.num.natAbs x.num.natAbs []).toArray.toList *
                                    bv (natBytesL y.den y.den []).toArray.toList)
                                  (bv (natBytesL x.num.natAbs x.num.natAbs []).toArray.toList *
                                    bv (natBytesL y.den y.den []).toArray.toList)
                                  []).toArray.toList)
                          (bv
                            (natBytesL
                                  (bv (natBytesL y.num.natAbs y.num.natAbs []).toArray.toList *
                                    bv (natBytesL x.den x.den []).toArray.toList)
                                  (bv (natBytesL y.num.natAbs y.num.natAbs []).toArray.toList *
                                    bv (natBytesL x.den x.den []).toArray.toList)
                                  []).toArray.toList)) &&
                  decide
                    ((0 : Int) -
                        ncmp
                          (bv
                            (natBytesL
                                  (bv (natBytesL x.num.natAbs x.num.natAbs []).toArray.toList *
                                    bv (natBytesL y.den y.den []).toArray.toList)
                                  (bv (natBytesL x.num.natAbs x.num.natAbs []).toArray.toList *
                                    bv (natBytesL y.den y.den []).toArray.toList)
                                  []).toArray.toList)
                          (bv
                            (natBytesL
                                  (bv (natBytesL y.num.natAbs y.num.natAbs []).toArray.toList *
                                    bv (natBytesL x.den x.den []).toArray.toList)
                                  (bv (natBytesL y.num.natAbs y.num.natAbs []).toArray.toList *
                                    bv (natBytesL x.den x.den []).toArray.toList)
                                  []).toArray.toList) ≤
                      (9223372036854775807 : Int)))
                (Tr.ok
                  (Res.ret
                    (PV.i IntKind.i64
                      ((0 : Int) -
                        ncmp
                          (bv
                            (natBytesL
                                  (bv (natBytesL x.num.natAbs x.num.natAbs []).toArray.toList *
                                    bv (natBytesL y.den y.den []).toArray.toList)
                                  (bv (natBytesL x.num.natAbs x.num.natAbs []).toArray.toList *
                                    bv (natBytesL y.den y.den []).toArray.toList)
                                  []).toArray.toList)
                          (bv
                            (natBytesL
                                  (bv (natBytesL y.num.natAbs y.num.natAbs []).toArray.toList *
                                    bv (natBytesL x.den x.den []).toArray.toList)
                                  (bv (natBytesL y.num.natAbs y.num.natAbs []).toArray.toList *
                                    bv (natBytesL x.den x.den []).toArray.toList)
                                  []).toArray.toList)))
                    []))
                (Tr.no (9002)))
              (Tr.ok
                (Res.ret
                  (PV.i IntKind.i64
                    (ncmp
                      (bv
                        (natBytesL
                              (bv (natBytesL x.num.natAbs x.num.natAbs []).toArray.toList *
                                bv (natBytesL y.den y.den []).toArray.toList)
                              (bv (natBytesL x.num.natAbs x.num.natAbs []).toArray.toList *
                                bv (natBytesL y.den y.den []).toArray.toList)
                              []).toArray.toList)
                      (bv
                        (natBytesL
                              (bv (natBytesL y.num.natAbs y.num.natAbs []).toArray.toList *
                                bv (natBytesL x.den x.den []).toArray.toList)
                              (bv (natBytesL y.num.natAbs y.num.natAbs []).toArray.toList *
                                bv (natBytesL x.den x.den []).toArray.toList)
                              []).toArray.toList)))
                  [])))
            (Tr.no (1)))
          (Tr.no (1))))
      (Tr.no (1)))
    (Tr.no (1)) := by kernel_rfl
theorem sg_mul (b : Bool) (n m : Nat) : sg b n * (m : Int) = sg b (n * m) := by cases b <;> simp [sg, Int.neg_mul]
theorem rcmp_sg (x y : Rat) : rcmp x y = if sg (rneg x) (x.num.natAbs * y.den) < sg (rneg y) (y.num.natAbs * x.den) then -1 else if sg (rneg y) (y.num.natAbs * x.den) < sg (rneg x) (x.num.natAbs * y.den) then 1 else 0 := by
  rw [rcmp_cross, ← sg_mul, ← sg_mul, sg_num, sg_num]
def s27 : Spec := fun args hs K => match args, hs with
  | [.q x _, .q y _], [] => .br (s32 x && s32 y) (K (.i .i64 (rcmp x y)) []) (.no 1)
  | _, _ => .no 1
theorem neg_ncmp (P Q : Nat) : 0 - ncmp P Q = if -(P : Int) < -(Q : Int) then -1 else if -(Q : Int) < -(P : Int) then 1 else 0 := by
  unfold ncmp
  rcases Nat.lt_trichotomy P Q with h | h | h
  · rw [if_pos h, if_neg (by omega), if_pos (by omega)]; rfl
  · rw [if_neg (by omega), if_neg (by omega), if_neg (by omega), if_neg (by omega)]; rfl
  · rw [if_neg (by omega), if_pos h, if_pos (by omega)]; rfl
theorem ncmp_range (n m : Nat) : -1 ≤ ncmp n m ∧ ncmp n m ≤ 1 := by
  unfold ncmp; split
  · omega
  · split <;> omega
include hG in
theorem orc27 : OrcOK Tryd.prog G [(74, s74), (77, s77), (82, s82)] := .cons (ok74 hG) (.cons (ok77 hG) (.cons (ok82 hG) .nil))
include hG in
theorem ok27 : SpecOK Tryd.prog G 27 s27 := by
  refine spec_of hG (orc27 hG) mix enter27 (L := []) (pol := {}) fun args hs K x h => ?_
  unfold s27 at h
  split at h
  case h_2 => cases h
  rename_i x n y m
  obtain ⟨hc, hr⟩ := Tr.of_br h
  refine ⟨LpsOK.none (by kernel_rfl), _, _, _, ?_, .refl _, hr⟩
  simp only [Bool.and_eq_true] at hc
  obtain ⟨hx, hy⟩ := hc
  obtain ⟨x1, x2⟩ := s32_iff.1 hx
  obtain ⟨y1, y2⟩ := s32_iff.1 hy
  have a1 := sz4 x1
  have a2 := sz4 x2
  have a3 := sz4 y1
  have a4 := sz4 y2
  have p1 := x.den_pos
  have p2 := y.den_pos
  rw [e27, Tr.run_t (s32_64 hx), Tr.run_t (s32_64 hy), rcmp_sg]
  simp only [bv_nb', bv_nb2]
  have nz : ∀ z : Rat, rneg z = true → 0 < z.num.natAbs := by
    intro z hz
    have : z.num < 0 := of_decide_eq_true hz
    omega
  cases hnx : rneg x <;> cases hny : rneg y
  · rw [Tr.run_f (by rfl), Tr.run_t (decide_eq_true (by omega)), Tr.run_t (decide_eq_true (by omega)), Tr.run_f rfl, Tr.run_ok]
    unfold ncmp
    simp only [sg]
    simp only [Int.ofNat_lt]
  · have h1 := Nat.mul_pos (nz y hny) p1
    rw [Tr.run_t (by rfl), Tr.run_f rfl, Tr.run_ok, if_neg (by simp only [sg]; omega), if_pos (by simp only [sg]; omega)]
  · have h1 := Nat.mul_pos (nz x hnx) p2
    rw [Tr.run_t (by rfl), Tr.run_t rfl, Tr.run_ok, if_pos (by simp only [sg]; omega)]
  · have hn := ncmp_range (x.num.natAbs * y.den) (y.num.natAbs * x.den)
    rw [Tr.run_f (by rfl), Tr.run_t (decide_eq_true (by omega)), Tr.run_t (decide_eq_true (by omega)), Tr.run_t rfl, Tr.run_t (by simp only [Bool.and_eq_true, decide_eq_true_eq]; omega), Tr.run_ok]
    rw [neg_ncmp]
    rfl
theorem enter71 : Enters Tryd.prog 71 Tryd.f71 (bodyC Tryd.f71) := ⟨Tryd.func71, by kernel_rfl, rfl⟩
theorem e71 (n : Int) : evF Tryd.prog [(76, s76), (107, s107), (108, s108)] [] {} Tryd.f71 [.i .i64 n] [] retK =
  Tr.br (decide ((0 : Int) ≤ n))
    (Tr.br (decide (n ≤ (9223372036854775807 : Int)))
      (Tr.br
        (decide (nb n.toNat = nb (bv (natBytesL n.toNat n.toNat []).toArray.toList)) &&
                decide ({ data := #[(1 : UInt8)] } = nb (bv #[(1 : UInt8)].toList)) &&
              decide (bv (natBytesL n.toNat n.toNat []).toArray.toList < (18446744073709551616 : Nat)) &&
            decide (bv #[(1 : UInt8)].toList < (18446744073709551616 : Nat)) &&
          decide ((0 : Nat) < bv #[(1 : UInt8)].toList))
        (Tr.ok
          (Res.ret
            (PV.q (mkz false (bv (natBytesL n.toNat n.toNat []).toArray.toList) (bv #[(1 : UInt8)].toList)) (64))
            []))
        (Tr.no (1)))
      (Tr.no (1)))
    (Tr.br (decide ((-9223372036854775808 : Int) ≤ n + (1 : Int)) && decide (n + (1 : Int) ≤ (9223372036854775807 : Int)))
      (Tr.br
        (decide ((-9223372036854775808 : Int) ≤ (0 : Int) - (n + (1 : Int))) &&
          decide ((0 : Int) - (n + (1 : Int)) ≤ (9223372036854775807 : Int)))
        (Tr.br (decide ((0 : Int) - (n + (1 : Int)) ≤ (9223372036854775807 : Int)))
          (Tr.br
            (decide
                (bv
                    (natBytesL ((0 : Int) - (n + (1 : Int))).toNat ((0 : Int) - (n + (1 : Int))).toNat
                          []).toArray.toList <
                  (72057594037927936 : Nat)) &&
              decide (bv #[(1 : UInt8)].toList < (72057594037927936 : Nat)))
            (Tr.br
              (decide
                        (nb
                            (bv
                                (natBytesL ((0 : Int) - (n + (1 : Int))).toNat ((0 : Int) - (n + (1 : Int))).toNat
                                      []).toArray.toList +
                              bv #[(1 : UInt8)].toList) =
                          nb
                            (bv
                              (natBytesL
                                    (bv
                                        (natBytesL ((0 : Int) - (n + (1 : Int))).toNat ((0 : Int) - (n + (1 : Int))).toNat
                                              []).toArray.toList +
                                      bv #[(1 : UInt8)].toList)
                                    (bv
                                        (natBytesL ((0 : Int) - (n + (1 : Int))).toNat ((0 : Int) - (n + (1 : Int))).toNat
                                              []).toArray.toList +
                                      bv #[(1 : UInt8)].toList)
                                    []).toArray.toList)) &&
                      decide ({ data := #[(1 : UInt8)] } = nb (bv #[(1 : UInt8)].toList)) &&
                    decide
                      (bv
                          (natBytesL
                                (bv
                                    (natBytesL ((0 : Int) - (n + (1 : Int))).toNat ((0 : Int) - (n + (1 : Int))).toNat
                                          []).toArray.toList +
                                  bv #[(1 : UInt8)].toList)
                                (bv
                                    (natBytesL ((0 : Int) - (n + (1 : Int))).toNat ((0 : Int) - (n + (1 : Int))).toNat
                                          []).toArray.toList +
                                  bv #[(1 : UInt8)].toList)
                                []).toArray.toList <
                        (18446744073709551616 : Nat)) &&
                  decide (bv #[(1 : UInt8)].toList < (18446744073709551616 : Nat)) &&
                decide ((0 : Nat) < bv #[(1 : UInt8)].toList))
              (Tr.ok
                (Res.ret
                  (PV.q
                    (mkz true
                      (bv
                        (natBytesL
                              (bv
                                  (natBytesL ((0 : Int) - (n + (1 : Int))).toNat ((0 : Int) - (n + (1 : Int))).toNat
                                        []).toArray.toList +
                                bv #[(1 : UInt8)].toList)
                              (bv
                                  (natBytesL ((0 : Int) - (n + (1 : Int))).toNat ((0 : Int) - (n + (1 : Int))).toNat
                                        []).toArray.toList +
                                bv #[(1 : UInt8)].toList)
                              []).toArray.toList)
                      (bv #[(1 : UInt8)].toList))
                    (64))
                  []))
              (Tr.no (1)))
            (Tr.no (1)))
          (Tr.no (1)))
        (Tr.no (4005)))
      (Tr.no (4006))) := by kernel_rfl
def s71 : Spec := fun args hs K => match args, hs with
  | [.i .i64 n], [] => .br (decide (-72057594037927936 < n) && decide (n ≤ 9223372036854775807)) (K (.q (n : Rat) 64) []) (.no 1)
  | _, _ => .no 1
theorem mkz_int (neg : Bool) (n : Nat) : mkz neg n 1 = ((sg neg n : Int) : Rat) := by
  unfold mkz
  rw [Rat.mkRat_eq_div]
  show ((sg neg n : Int) : Rat) / ((1 : Nat) : Rat) = _
  have : ((1 : Nat) : Rat) = 1 := rfl
  rw [this]
  grind
theorem one_bv2 : bv [(1 : UInt8)] = 1 := (bv_one 1).trans (by decide)
theorem one_bv : bv #[(1 : UInt8)].toList = 1 := (bv_one 1).trans (by decide)
include hG in
theorem ok71 : SpecOK Tryd.prog G 71 s71 := by
  refine spec_of hG (.cons (ok76 hG) (.cons (ok107 hG) (.cons (ok108 hG) .nil))) mix enter71 (L := []) (pol := {}) fun args hs K x h => ?_
  unfold s71 at h
  split at h
  case h_2 => cases h
  rename_i n
  obtain ⟨hc, hr⟩ := Tr.of_br h
  refine ⟨LpsOK.none (by kernel_rfl), _, _, _, ?_, .refl _, hr⟩
  simp only [Bool.and_eq_true, decide_eq_true_eq] at hc
  have hone : ({ data := #[(1 : UInt8)] } : ByteArray) = nb 1 := nb_onev.symm
  rw [e71]
  simp only [bv_nb', bv_nb2, one_bv, one_bv2, hone, decide_true, Bool.true_and]
  by_cases h0 : 0 ≤ n
  · rw [Tr.run_t (decide_eq_true h0)]
    repeat rw [Tr.run_t (by simp only [Bool.and_eq_true, decide_eq_true_eq]; omega)]
    rw [Tr.run_ok, mkz_int]
    show some (Res.ret (.q (((n.toNat : Nat) : Int) : Rat) 64) []) = _
    rw [Int.toNat_of_nonneg h0]
  · rw [Tr.run_f (decide_eq_false h0)]
    repeat rw [Tr.run_t (by simp only [Bool.and_eq_true, decide_eq_true_eq]; omega)]
    rw [Tr.run_ok, mkz_int]
    show some (Res.ret (.q ((-(((0 - (n + 1)).toNat + 1 : Nat) : Int) : Int) : Rat) 64) []) = _
    rw [show -(((0 - (n + 1)).toNat + 1 : Nat) : Int) = n by omega]
end Go.Proofs.YtejfdhcigkgbmaaDoor.PE
/-! Profiles: the plain law. -/
namespace Go.Proofs.YtejfdhcigkgbmaaDoor.PE
namespace Prof

def mn (s t : Rat) : Rat := if s ≤ t then s else t
theorem mn_mono {s t t' : Rat} (h : t ≤ t') : mn s t ≤ mn s t' := by unfold mn; split <;> split <;> grind
theorem mn_lip {s t t' d : Rat} (h : t' ≤ t + d) (hd : 0 ≤ d) : mn s t' ≤ mn s t + d := by unfold mn; split <;> split <;> grind
theorem mn_le_left {s t : Rat} : mn s t ≤ s := by unfold mn; split <;> grind
theorem mn_le_right {s t : Rat} : mn s t ≤ t := by unfold mn; split <;> grind
theorem mn_nonneg {s t : Rat} (hs : 0 ≤ s) (ht : 0 ≤ t) : 0 ≤ mn s t := by unfold mn; split <;> assumption
theorem mn_pos {s t : Rat} (hs : 0 < s) (ht : 0 < t) : 0 < mn s t := by unfold mn; split <;> assumption
def ix (n k : Nat) : Nat := min k (n + 1 - k)
def cap (s a : Rat) (n k : Nat) : Rat := mn s (a * (ix n k : Nat))
def cov (s a : Rat) (n : Nat) : Nat → Rat
  | 0 => 0
  | k + 1 => cov s a n k + cap s a n (k + 1)

theorem mul_nat_mono {a : Rat} (ha : 0 ≤ a) {i j : Nat} (h : i ≤ j) : a * (i : Nat) ≤ a * (j : Nat) :=
  Rat.mul_le_mul_of_nonneg_left (Rat.natCast_le_natCast.2 h) ha
variable {s a : Rat} {n : Nat}
theorem cap_nonneg (hs : 0 ≤ s) (ha : 0 ≤ a) (k : Nat) : 0 ≤ cap s a n k := mn_nonneg hs (Rat.mul_nonneg ha Rat.natCast_nonneg)
theorem cap_pos (hs : 0 < s) (ha : 0 < a) {k : Nat} (h1 : 1 ≤ k) (h2 : k ≤ n) : 0 < cap s a n k :=
  mn_pos hs (Rat.mul_pos ha (Rat.natCast_pos.2 (by unfold ix; omega)))
theorem cap_le_s (k : Nat) : cap s a n k ≤ s := mn_le_left
theorem cap_sym {k : Nat} (h2 : k ≤ n) : cap s a n (n + 1 - k) = cap s a n k := by
  unfold cap ix
  rw [show min (n + 1 - k) (n + 1 - (n + 1 - k)) = min k (n + 1 - k) by omega]
theorem cap_up (ha : 0 ≤ a) (k : Nat) : cap s a n (k + 1) ≤ cap s a n k + a := by
  refine mn_lip ?_ ha
  have h : ix n (k + 1) ≤ ix n k + 1 := by unfold ix; omega
  have h1 := mul_nat_mono ha h
  have h2 : a * ((ix n k + 1 : Nat) : Rat) = a * (ix n k : Nat) + a := by
    rw [Rat.natCast_add, Rat.mul_add]; congr 1; exact Rat.mul_one a
  rwa [h2] at h1
theorem cap_down (ha : 0 ≤ a) (k : Nat) : cap s a n k ≤ cap s a n (k + 1) + a := by
  refine mn_lip ?_ ha
  have h : ix n k ≤ ix n (k + 1) + 1 := by unfold ix; omega
  have h1 := mul_nat_mono ha h
  have h2 : a * ((ix n (k + 1) + 1 : Nat) : Rat) = a * (ix n (k + 1) : Nat) + a := by
    rw [Rat.natCast_add, Rat.mul_add]; congr 1; exact Rat.mul_one a
  rwa [h2] at h1
theorem cap_zero (hs : 0 ≤ s) : cap s a n 0 = 0 := by
  unfold cap ix mn
  simp
  exact fun h => Rat.le_antisymm h hs
theorem cap_end (hs : 0 ≤ s) : cap s a n (n + 1) = 0 := by
  unfold cap ix mn
  simp
  exact fun h => Rat.le_antisymm h hs
theorem cap_mono (ha : 0 ≤ a) (k : Nat) : cap s a n k ≤ cap s a (n + 1) k := mn_mono (mul_nat_mono ha (by unfold ix; omega))
theorem cov_nonneg (hs : 0 ≤ s) (ha : 0 ≤ a) : ∀ k, 0 ≤ cov s a n k
  | 0 => Rat.le_refl
  | k + 1 => Rat.add_nonneg (cov_nonneg hs ha k) (cap_nonneg hs ha _)
theorem cov_mono (ha : 0 ≤ a) : ∀ k, cov s a n k ≤ cov s a (n + 1) k
  | 0 => Rat.le_refl
  | k + 1 => by
    have h1 := cov_mono ha k
    have h2 := cap_mono (s := s) (n := n) ha (k + 1)
    show cov s a n k + cap s a n (k + 1) ≤ cov s a (n + 1) k + cap s a (n + 1) (k + 1)
    grind
def cover (s a : Rat) (n : Nat) : Rat := cov s a n n
theorem cover_succ (hs : 0 ≤ s) (ha : 0 ≤ a) : cover s a n ≤ cover s a (n + 1) := by
  have h1 := cov_mono (s := s) (n := n) ha n
  have h2 := cap_nonneg (n := n + 1) hs ha (n + 1)
  show cov s a n n ≤ cov s a (n + 1) n + cap s a (n + 1) (n + 1)
  grind
theorem cover_mono (hs : 0 ≤ s) (ha : 0 ≤ a) : ∀ (d n : Nat), cover s a n ≤ cover s a (n + d)
  | 0, _ => Rat.le_refl
  | d + 1, n => Rat.le_trans (cover_mono hs ha d n) (cover_succ hs ha)
theorem cover_pos (hs : 0 < s) (ha : 0 < a) (hn : 1 ≤ n) : 0 < cover s a n := by
  obtain ⟨m, rfl⟩ : ∃ m, n = m + 1 := ⟨n - 1, by omega⟩
  have h1 := cov_nonneg (n := m + 1) (Rat.le_of_lt hs) (Rat.le_of_lt ha) m
  have h2 := cap_pos (n := m + 1) (k := m + 1) hs ha (by omega) (by omega)
  show 0 < cov s a (m + 1) m + cap s a (m + 1) (m + 1)
  grind

/-- The change at the k-th tick, from 1 on; nothing before, and nothing behind. -/
def val (c s a : Rat) (n k : Nat) : Rat := c * cap s a n k
section
variable {c : Rat} (hc0 : 0 ≤ c) (hc1 : c ≤ 1) (hs : 0 ≤ s) (ha : 0 ≤ a)
include hc0 hs ha in
theorem val_nonneg (k : Nat) : 0 ≤ val c s a n k := Rat.mul_nonneg hc0 (cap_nonneg hs ha k)
include hc0 hc1 hs ha in
theorem val_le (k : Nat) : val c s a n k ≤ s := by
  have h1 := Rat.mul_le_mul_of_nonneg_right hc1 (cap_nonneg (n := n) hs ha k)
  have h2 := cap_le_s (s := s) (a := a) (n := n) k
  unfold val
  grind
include hc0 hc1 ha in
theorem val_up (k : Nat) : val c s a n (k + 1) - val c s a n k ≤ a := by
  have h1 := Rat.mul_le_mul_of_nonneg_left (cap_up (s := s) (n := n) ha k) hc0
  have h2 := Rat.mul_le_mul_of_nonneg_right hc1 ha
  unfold val
  rw [Rat.mul_add] at h1
  grind
include hc0 hc1 ha in
theorem val_down (k : Nat) : val c s a n k - val c s a n (k + 1) ≤ a := by
  have h1 := Rat.mul_le_mul_of_nonneg_left (cap_down (s := s) (n := n) ha k) hc0
  have h2 := Rat.mul_le_mul_of_nonneg_right hc1 ha
  unfold val
  rw [Rat.mul_add] at h1
  grind
end
theorem val_sum (c s a : Rat) (n k : Nat) : c * cov s a n (k + 1) = c * cov s a n k + val c s a n (k + 1) := by
  show c * (cov s a n k + cap s a n (k + 1)) = _
  rw [Rat.mul_add]; rfl
theorem val_sym {c : Rat} {k : Nat} (h : k ≤ n) : val c s a n (n + 1 - k) = val c s a n k := by unfold val; rw [cap_sym h]

/-! ### In parts of 24 -/
/-- Numbers of a profile: x quarters, p sixths, r eighths. -/
def m24 (p r n k : Nat) : Nat := min (4 * p) (3 * r * ix n k)
def c24 (p r n : Nat) : Nat → Nat
  | 0 => 0
  | k + 1 => c24 p r n k + m24 p r n (k + 1)
theorem mk_lt {a b d : Nat} (hd : d ≠ 0) : mkRat a d ≤ mkRat b d ↔ a ≤ b := by
  rw [Rat.mkRat_eq_div, Rat.mkRat_eq_div]
  have h0 : (0 : Rat) < (d : Rat) := Rat.natCast_pos.2 (by omega)
  have h1 : (0 : Rat) < (d : Rat)⁻¹ := Rat.inv_pos.2 h0
  rw [Rat.div_def, Rat.div_def]
  constructor
  · intro h
    have := Rat.le_of_mul_le_mul_right h h1
    have h2 := Rat.intCast_le_intCast.1 this
    omega
  · intro h
    exact Rat.mul_le_mul_of_nonneg_right (Rat.intCast_le_intCast.2 (by omega)) (Rat.le_of_lt h1)
theorem mk_scale {a d e : Nat} (he : e ≠ 0) : mkRat ((a * e : Nat) : Int) (d * e) = mkRat a d := by
  rw [Int.natCast_mul, Rat.mkRat_mul_right he]
theorem cap24 (p r n k : Nat) : cap (mkRat p 6) (mkRat r 8) n k = mkRat (m24 p r n k) 24 := by
  have e1 : mkRat p 6 = mkRat ((4 * p : Nat) : Int) 24 := by
    rw [← mk_scale (a := p) (d := 6) (e := 4) (by omega), Nat.mul_comm p 4]
  have e2 : mkRat r 8 * (ix n k : Nat) = mkRat ((3 * r * ix n k : Nat) : Int) 24 := by
    have h : ((ix n k : Nat) : Rat) = mkRat (ix n k : Nat) 1 := by
      exact (Rat.mkRat_self ((ix n k : Nat) : Rat)).symm
    rw [h, Rat.mkRat_mul_mkRat, ← Int.natCast_mul, Nat.mul_one, ← mk_scale (a := r * ix n k) (d := 8) (e := 3) (by omega)]
    congr 2
    grind
  unfold cap mn
  rw [e2, e1]
  unfold m24
  by_cases h : 4 * p ≤ 3 * r * ix n k
  · rw [if_pos ((mk_lt (by omega)).2 h), Nat.min_eq_left h]
  · rw [if_neg (fun h' => h ((mk_lt (by omega)).1 h')), Nat.min_eq_right (by omega)]
theorem mk_add (a b d : Nat) (hd : d ≠ 0) : mkRat a d + mkRat b d = mkRat ((a + b : Nat) : Int) d := by
  rw [Rat.mkRat_add_mkRat _ _ hd hd, ← Int.add_mul, Rat.mkRat_mul_right hd, Int.natCast_add]
theorem cov24 (p r n : Nat) : ∀ k, cov (mkRat p 6) (mkRat r 8) n k = mkRat (c24 p r n k) 24
  | 0 => by simp [cov, c24]
  | k + 1 => by
    show cov _ _ n k + cap _ _ n (k + 1) = _
    rw [cov24 p r n k, cap24, mk_add _ _ _ (by omega)]; rfl
theorem m24_le (p r n k : Nat) : m24 p r n k ≤ 4 * p := Nat.min_le_left _ _
theorem c24_le (p r n : Nat) : ∀ k, c24 p r n k ≤ 4 * p * k
  | 0 => by simp [c24]
  | k + 1 => by
    have h1 := c24_le p r n k
    have h2 := m24_le p r n (k + 1)
    show c24 p r n k + m24 p r n (k + 1) ≤ 4 * p * (k + 1)
    rw [Nat.mul_add]
    omega
theorem c24_mono (p r n : Nat) : ∀ d k, c24 p r n k ≤ c24 p r n (k + d)
  | 0, _ => Nat.le_refl _
  | d + 1, k => Nat.le_trans (c24_mono p r n d k) (Nat.le_add_right _ _)
end Prof
end Go.Proofs.YtejfdhcigkgbmaaDoor.PE
